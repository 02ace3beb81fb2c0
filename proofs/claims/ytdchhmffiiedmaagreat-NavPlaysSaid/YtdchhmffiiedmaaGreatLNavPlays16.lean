/- A navigator answers, whatever the inertial sensor and the aids tell, what the document says: the law returns true for every input, and leaves its arguments as they were. -/
import Derived.Test.YtdchhmffiiedmaaGreatLNavPlays
import Derived.Test.YtdchhmffiiedmaaGreatLNavPlays4
import Derived.Test.YtdchhmffiiedmaaGreatLNavPlays12
import Derived.Test.YtdchhmffiiedmaaGreatLNavPlays15
import Derived.Test.YtdchhmffiiedmaaGreatRows
set_option linter.unusedVariables false
set_option linter.unusedSimpArgs false
set_option maxRecDepth 100000
set_option maxHeartbeats 64000000
open Go.IntKind (wrap)
namespace Go.Xv
open Go.RowKit
def zTH(w:World)(pa:Option Addr)(acts:List (Nat->Value)):Prop:=∀(i:Nat) (f:Nat->Value),acts[i]? =some f->∃b q,pa=some (.q b q)/\∀k,k<63->w.cell? (.q b (q+i*63+k))=some (f k)
def zOG(f:Nat->Value):Prop:=∃dn sr tk r y,zVW f dn sr tk r y/\r.ok/\y.I/\zr tk
theorem zVm(f:Nat->Value)(k:Nat)(v:Value)(h:(zei f).toList[k]? =some v):k<63/\v=f k:=by
 have hk:k<63:=by
  have:=(List.getElem?_eq_some_iff.1 h).1;simpa [zei]using this
 have:=zwB f k hk;rw [<-Array.getElem?_toList,h]at this;exact⟨hk,by simpa using this⟩
theorem zXa{g:V3}{d:Int}{ads:List AD}{rp:Option Addr}{cap:Nat}{w:World}(hn:ads.length<=1000)(hA:zdn w rp ads)(hok:zkM d ads):
 Calls PP 5 #[.agg #[.i g.x,.i g.y,.i g.z,.i d,.slice rp ads.length cap]] w fun e w'=>Below w.heap.size w w'/\zX3 w w' g d ads e:=
 (zEu g d ads rp cap w hn hA).mono fun e w' h=>⟨h.1,(h.2.resolve_right fun q=>q.1 hok).2⟩
theorem zXb{g:V3}{d:Int}{ads:List AD}{rp:Option Addr}{cap:Nat}{w:World}(hn:ads.length<=1000)(hA:zdn w rp ads)(hok: ¬zkM d ads):
 Calls PP 5 #[.agg #[.i g.x,.i g.y,.i g.z,.i d,.slice rp ads.length cap]] w fun e w'=>Below w.heap.size w w'/\e= .returned (.tuple #[.pointer none,.i 2]):=
 (zEu g d ads rp cap w hn hA).mono fun e w' h=>⟨h.1,(h.2.resolve_left fun q=>hok q.1).2⟩
theorem zVn{g:V3}{d:Int}{ads:List AD}{rp:Option Addr}{cap:Nat}{w:World}(hA:zdn w rp ads)(hp:(rp=none/\cap=0)\/∃ab,rp=some (.q ab 0))(hc:ads.length<=cap)(hok:zkM d ads):
 Calls PP 7 #[.agg #[.i g.x,.i g.y,.i g.z,.i d,.slice rp ads.length cap]] w fun e w'=>Below w.heap.size w w'/\∃rb rp' cap',e= .returned (.tuple #[ptB rb,.i 0])/\zaz w' rb rp' cap' ⟨zpV g d,ads.map AD.tk⟩/\w.heap.size<=rb/\∀ab,rp'=some (.q ab 0)->w.heap.size<=ab:=
 (zyx g d ads rp cap w hA hp hc).mono fun e w' h=>⟨h.1,(h.2.resolve_right fun q=>q.1 hok).2⟩
theorem zVo{g:V3}{d:Int}{ads:List AD}{rp:Option Addr}{cap:Nat}{w:World}(hA:zdn w rp ads)(hp:(rp=none/\cap=0)\/∃ab,rp=some (.q ab 0))(hc:ads.length<=cap)(hok: ¬zkM d ads):
 Calls PP 7 #[.agg #[.i g.x,.i g.y,.i g.z,.i d,.slice rp ads.length cap]] w fun e w'=>Below w.heap.size w w'/\e= .returned (.tuple #[.pointer none,.i 2]):=
 (zyx g d ads rp cap w hA hp hc).mono fun e w' h=>⟨h.1,(h.2.resolve_left fun q=>hok q.1).2⟩
theorem zBy{B:Nat}{D:Nat->Prop}{w w4 wr:World}(h:Below B w w4)(hs:B<=w4.heap.size)(hK:jj D w4 wr)(hD:∀k,D k->B<=k):Below B w wr:=
 ⟨hK.os.trans h.os,hK.tape.trans h.tape,hK.output.trans h.output,Nat.le_trans h.size hK.size,fun k hk=>(hK.block k (Nat.lt_of_lt_of_le hk hs) fun hd=>by have:=hD k hd;omega).trans (h.block k hk)⟩
theorem zVp(w:World):Sem.run PP (binOp BinOp.eql 29 (Value.pointer none) (Value.pointer none)) w= .ok (.bool true) w:=kfz
theorem zVq(w:World):Sem.run PP (binOp BinOp.eql 34 (Value.pointer none) (Value.pointer none)) w= .ok (.bool true) w:=kfz
theorem zMh(g:V3)(hg:g.I)(d:Int)(hd:zr d)(L:List AD)(hL:∀a∈L,a.I)(p:Option Addr)(cap:Nat)(hp:p=none->cap=0)(hc:L.length<=cap)(acts:List (Nat->Value))(hac:∀f∈acts,zOG f)(pa:Option Addr)(ca:Nat)(tick:Int)(hti:zr tick)(w:World)(hA:Src w p L)(hR:zTH w pa acts):
 Calls PP 3 #[.agg #[.i g.x,.i g.y,.i g.z,.i d,.slice p L.length cap],.slice pa acts.length ca,.i tick] w fun e w'=>e= .returned (.bool true)/\Below w.heap.size w w':=by
 go_enter Proofs.Tryz.func3,Proofs.Tryz.ntmps3
 have hA0:Below w.heap.size w (w.alloc (.cells #[.i g.x,.i g.y,.i g.z,.i d,.slice p L.length cap] 27)):=(Below.refl _ w).alloc (Nat.le_refl _) _;have h0:(w.alloc (.cells #[.i g.x,.i g.y,.i g.z,.i d,.slice p L.length cap] 27)).heap[w.heap.size]? =some (.cells #[.i g.x,.i g.y,.i g.z,.i d,.slice p L.length cap] 27 (0,0)):=heap_alloc_new w _;have hfe:=zRv g d L p cap _ (ztJ hA hA0 (Nat.le_refl _)) hp hc;have hpl:=fun W (h:Below w.heap.size w W)=>zMg g d L p cap W (ztJ hA h (Nat.le_refl _)) hc
 have hads:∀a∈L.take 12,a.I:=fun a h=>hL a (List.mem_of_mem_take h)
 have h12:(L.take 12).length<=1000:=by rw [List.length_take];omega
 obtain⟨ads,hae⟩:∃x,L.take 12=x:=⟨_,rfl⟩;simp only [hae]at hfe hpl hads h12;clear hae;have hwk:=fun W=>zLl W
 by_cases hok:zkM d ads
 ·go_wp2_with(first
   |(go_at_call 6
     refine hfe.mono ?_;clear hfe;rintro e w1 ⟨hB1,rf,cf,rfl,hAf⟩;have h1:=(hB1.block _ jq).trans h0
     replace hB1:=hA0.trans (hB1.mono hA0.size))
   |(go_at_call 5
     refine(zXa h12 hAf hok).mono ?_;rintro e w2 ⟨hB2,nb,mb,l,rfl,hNR,hmn,hsr,hnb,hmb,hlb⟩;have h3:=(hB2.block _ (zy h1)).trans h1;have hs1:=hB1.size;replace hB2:=hB1.trans (hB2.mono hs1);have c30:=zi 0 h3 rfl;have c31:=zi 1 h3 rfl;have c32:=zi 2 h3 rfl;have c33:=zi 3 h3 rfl
     have c34:=zi 4 h3 rfl)
   |(go_at_call 8
     refine(hpl _ hB2).mono ?_
     rintro e w3 ⟨hB3,rq,cq,rfl,hAq,hpq,hcq⟩)
   |(go_at_call 7
     refine(zVn hAq hpq hcq hok).mono ?_
     rintro e w4 ⟨hB4,rb,rp,cr,rfl,hRR,hrb,hra⟩))
  have hB34:Below w2.heap.size w2 w4:=hB3.trans (hB4.mono hB3.size);have hBw:Below w.heap.size w w4:=hB2.trans (hB34.mono hB2.size);have hs3:=hB3.size;have hs2:=hB2.size;have hnl:=hNR.nav.lt;have hml:=(zy hNR.map);have hll:∀q∈l,q.2<w2.heap.size:=fun q hq=>by
   obtain⟨i,hi⟩:=List.getElem?_of_mem hq;obtain⟨t,_,_,h3⟩:=hNR.trk.blk i q.1 q.2 hi;exact(zy h3)
  have hSep:Sep nb mb l rb rp:=⟨hmn,zc,zc,fun q hq=>by have:=hll q hq;omega,fun ab h=>⟨by have:=hra ab h;omega,fun q hq=>by have:=hll q hq;have:=hra ab h;omega⟩,hsr⟩
  have hbt:∀k,zeI nb l rb k->w.heap.size<=k:=fun k hk=>by
   rcases hk with(rfl|hk)|rfl
   ·omega
   ·obtain⟨q,hq,rfl⟩:=List.mem_map.1 hk
    have:=hlb q hq;omega
   ·omega
  have hT4:Two w4 nb mb l rb rp cr ⟨zpV g d,ads.map AD.tk⟩:=⟨zfJ hmn hNR hB34,hRR⟩;have hI4:=zTw hg hd hads hok;clear hpl hA hAf hAq hpq hcq hB3 hB4 hB34 hNR hRR hB2 hB1 h0 h1 h3 hA0 hads h12 hok hnb hmb hlb hra hrb hll hnl hml hs3 hs2 hs1 hsr hmn c30 c31 c32 c33 c34;obtain⟨q4,hq4⟩:∃x,(⟨zpV g d,ads.map AD.tk⟩:PS)=x:=⟨_,rfl⟩;rw [hq4]at hT4 hI4;clear hq4;obtain⟨dA,huA,hdA⟩:∃x,PP.underlying 52=some x/\x.isRow=true:=zaZ kfz;go_loopw [11] (fun v wr=>∃(j:Nat) (q:PS),j<=acts.length/\j<=40/\v= .i j/\Inv q/\Two wr nb mb l rb rp cr q/\jj (zeI nb l rb) w4 wr) (fun v _=>40-(intOf v).toNat)
  case atStart=>exact⟨0,q4,zc,zc,rfl,hI4,hT4,jj.of (Below.refl _ _)⟩
  case round=>
   clear hT4 hI4;obtain⟨j,q,hj1,hj2,rfl,hI,hT,hK⟩:=hrel;have hB:=zBy hBw hBw.size hK hbt;by_cases hlt:j<acts.length
   ·by_cases h40:j<40
    ·obtain⟨f,hf⟩:∃f,acts[j]? =some f:=⟨_,List.getElem?_eq_getElem hlt⟩
     obtain⟨dn,sr,tk,r,y,hAo,hro,hyo,htk⟩:=hac f (List.mem_of_getElem? hf);obtain⟨b,o,rfl,hcl⟩:=hR j f hf;have hrow:∀W,Below w.heap.size w W->∀k,k<63->W.cell? (.q b (o+j*63+k))=some (f k):=fun W hW k hk=>(hW.cell (p:=(.q b _)) (World.block_lt_of_cell? w _ (hcl k hk))).trans (hcl k hk)
     have hrg:wr.rangeAt b (o+j*63) (zei f).toList:=fun k v hk=>by
      obtain⟨h1,rfl⟩:=zVm f k v hk;exact hrow wr hB k h1
     clear hcl;have hiA:(PP.info? 52).map (·.size)=some (zei f).toList.length:=kfz;have hta:(zei f).toList.toArray=zei f:=by simp
     go_wp2_with(first
      |(refine wpList_load_mid rfl 52 (.tmp 52) rfl b (o+j*63) rfl (zei f).toList dA hrg huA hdA hiA ?_;rw [hta])
      |(go_at_call 9
        refine(zTC nb mb l rb rp cr hSep q hI f dn sr tk r y hAo hro hyo _ hT).mono ?_;rintro e wa ⟨rfl,q1,hI1,hT1,hK1⟩;have hBa:=zBy hB hB.size hK1 hbt;have ct:=hrow wa hBa 2 zc;rw [hAo.h2]at ct
        clear hrow)
      |(go_at_call 10
        refine(zyw nb mb l rb rp cr hSep q1 hI1 tk htk _ hT1).mono ?_;rintro e wb ⟨rfl,hT2,hK2⟩;have hI2:=zBu hI1
        clear hT1 hI1)
      |(go_at_call 10
        refine(zyw nb mb l rb rp cr hSep _ hI2 tick hti _ hT2).mono ?_;rintro e wc ⟨rfl,hT3,hK3⟩
        have hI3:=zBu hI2))
     exact⟨⟨j+1,_,zc,zc,jq,hI3,hT3,((hK.trans hK1).trans hK2).trans hK3⟩,by simp [intOf];omega⟩
    ·go_wp2_with(go_at_call 11;refine(hwk _).mono ?_;clear hwk;rintro e w9 ⟨rfl,hB9⟩)
     go_ret;exact⟨rfl,hB.trans (hB9.mono hB.size)⟩
   ·go_wp2_with(go_at_call 11;refine(hwk _).mono ?_;clear hwk;rintro e w9 ⟨rfl,hB9⟩)
    go_ret;exact⟨rfl,hB.trans (hB9.mono hB.size)⟩
 ·have hpn:=zwp
  have hpr:=zVp;have hpx:=zVq
  go_wp2_with(first
   |(go_at_call 6
     refine hfe.mono ?_;clear hfe;rintro e w1 ⟨hB1,rf,cf,rfl,hAf⟩;have h1:=(hB1.block _ jq).trans h0
     replace hB1:=hA0.trans (hB1.mono hA0.size))
   |(go_at_call 5
     refine(zXb h12 hAf hok).mono ?_;rintro e w2 ⟨hB2,rfl⟩;have h3:=(hB2.block _ (zy h1)).trans h1;have hs1:=hB1.size;replace hB2:=hB1.trans (hB2.mono hs1);have c30:=zi 0 h3 rfl;have c31:=zi 1 h3 rfl;have c32:=zi 2 h3 rfl;have c33:=zi 3 h3 rfl
     have c34:=zi 4 h3 rfl)
   |(go_at_call 8
     refine(hpl _ hB2).mono ?_
     rintro e w3 ⟨hB3,rq,cq,rfl,hAq,hpq,hcq⟩)
   |(go_at_call 7
     refine(zVo hAq hpq hcq hok).mono ?_
     rintro e w4 ⟨hB4,rfl⟩))
  have hBw:Below w.heap.size w w4:=(hB2.trans (hB3.mono hB2.size)).trans (hB4.mono (Nat.le_trans hB2.size hB3.size));go_loopw [11] (fun v wr=>v= .i 0/\Below w.heap.size w wr) (fun _ _=>0)
  case atStart=>exact⟨rfl,hBw⟩
  case round=>
   clear hBw;obtain⟨rfl,hB⟩:=hrel;by_cases hlt:0<acts.length
   ·go_wp2_with(go_at_call 11;refine(hwk _).mono ?_;clear hwk;rintro e w9 ⟨rfl,hB9⟩)
    go_ret;exact⟨rfl,hB.trans (hB9.mono hB.size)⟩
   ·go_wp2_with(go_at_call 11;refine(hwk _).mono ?_;clear hwk;rintro e w9 ⟨rfl,hB9⟩)
    go_ret;exact⟨rfl,hB.trans (hB9.mono hB.size)⟩
end Go.Xv
namespace Go.Xv
open Go.RowKit Go.WideShapes Go.ChangeShapes
section
variable{H:Type}{enc:TypeId×Value->H}{P:Program}{W:World}{base:Nat}{held:Bool}
theorem zPx{t e:TypeId}{ks:List (Option IntKind)}{fuel:Nat}{cs0:List Value}{d:DataW H×List MemPlace}(ht:P.underlying t=some (.slice e))(he:shK P 20 e=some ks)(hc:Nat.beq (P.cellsOf e) ks.length=true)(h0:0<ks.length)
 (hf:DataW.trod enc P W base (fun _=>true) held fuel t cs0=some d):
 ∃(vs:List Value) (m len cap:Nat) (p:Option Addr),cs0=[.slice p len cap]/\len<=m/\m<=maxLen/\vs.length=m*ks.length/\ziF (List.replicate m ks).flatten vs/\
  ∀ρ:Rho,Rel (fun b=>b<W.heap.size) W ρ (.fs (vs.map .v) 0 len ks.length) (.slice p len cap):=by
 have hc:=Nat.eq_of_beq_eq_true hc;rcases DataW.trod_slice ht hf with⟨hcs,_⟩|⟨x,len,cap,elems,rest,n,_,hcs,_,hb,hl,hm,hlen,hel,hsp,_⟩
 ·refine⟨[],0,0,0,none,hcs,jq,by simp [maxLen],jq,trivial,fun ρ=> ?_⟩
  exact Rel.fs ρ [] 0 0 _ 0 0 0 none (fun _=>undef) zc zc jq jq jq
 ·have each:∀i,i<cap->∃cs,W.cells? base (x.add (i*ks.length)) ks.length=some cs/\ziF ks cs:=by
   intro i hi;have hex:∃y,(W.cells? base (x.add (i*P.cellsOf e)) (P.cellsOf e)).bind (DataW.trod enc P W base (fun _=>true) held n e)=some y:=by
    by_cases h:i<len
    ·rw [hel i h]
     exact⟨_,List.getElem?_eq_getElem zc⟩
    ·obtain⟨h1,h2⟩:=hsp rfl
     have:=h2 (i-len) zc;rw [show len+(i-len)=i from zc]at this;rw [this];exact⟨_,List.getElem?_eq_getElem zc⟩
   obtain⟨y,hy⟩:=hex;rw [Option.bind_eq_some_iff,hc]at hy;obtain⟨cs,h1,h2⟩:=hy;exact⟨cs,h1,zpW 20 e ks n cs y he h2⟩
  have hcell:∀j,j<cap*ks.length->∃v,W.cell? (x.add j)=some v:=by
   intro j hj;have hi:j/ks.length<cap:=Nat.div_lt_of_lt_mul (by rw [Nat.mul_comm];exact hj);obtain⟨cs,h1,h2⟩:=each _ hi;have h3:=(World.cells?_some h1).2.2 (j%ks.length) (Nat.mod_lt _ h0);rw [List.getElem?_eq_getElem (by rw [(World.cells?_some h1).2.1];exact Nat.mod_lt _ h0)]at h3;rw [zBi,show j/ks.length*ks.length+j%ks.length=j by rw [Nat.mul_comm];exact Nat.div_add_mod ..]at h3;exact⟨_,h3⟩
  refine⟨(List.range (cap*ks.length)).map fun j=>(W.cell? (x.add j)).getD undef,cap,len,cap,some x,hcs,hl,hm,jq,?_,fun ρ=> ?_⟩
  ·refine zHE rfl cap _ jq fun i hi=> ?_
   obtain⟨cs,h1,h2⟩:=each i hi;have e1:(((List.range (cap*ks.length)).map fun j=>(W.cell? (x.add j)).getD undef).drop (i*ks.length)).take ks.length=cs:=by
    have hl1:=(World.cells?_some h1).2.1;have hle:i*ks.length+ks.length<=cap*ks.length:=by rw [<-Nat.succ_mul];exact Nat.mul_le_mul_right _ hi
    apply List.ext_getElem
    ·simp [hl1];omega
    ·intro q hq1 hq2
     have h3:=(World.cells?_some h1).2.2 q zc;rw [zBi,List.getElem?_eq_getElem hq2]at h3;simp [List.getElem_take,List.getElem_drop,h3]
   rw [e1];exact h2
  ·obtain⟨b,off,spot⟩:=x
   have hspot:0<cap->spot=none:=by
    intro h;obtain⟨v,hv⟩:=hcell 0 (Nat.mul_pos h h0);simpa [Addr.add]using World.cell?_spot hv
   have hget:∀(i:Nat) (y:VV),(((List.range (cap*ks.length)).map fun j=>(W.cell? (Addr.add ⟨b,off,spot⟩ j)).getD undef).map VV.v)[i]? =some y->i<cap*ks.length/\y= .v ((W.cell? (Addr.add ⟨b,off,spot⟩ i)).getD undef):=by
    intro i y hy;rw [List.getElem?_map,List.getElem?_map]at hy;by_cases hi:i<cap*ks.length
    ·rw [List.getElem?_range hi]at hy
     cases hy;exact⟨hi,rfl⟩
    ·rw [List.getElem?_eq_none (by simp;omega)]at hy
     cases hy
   have hadd:∀i,i<cap*ks.length->Addr.add ⟨b,off,spot⟩ i=⟨b,off+i,none⟩:=by
    intro i hi;have hs:=hspot (Nat.pos_of_ne_zero (by intro h;subst h;simp at hi));subst hs;by_cases h:i=0
    ·subst h;simp [Addr.add]
    ·simp [Addr.add,h]
   have hone:∀i,i<cap*ks.length->((W.cell? (Addr.add ⟨b,off,spot⟩ i)).getD undef).oneCell'=true:=by
    intro i hi;have hi':i/ks.length<cap:=Nat.div_lt_of_lt_mul (by rw [Nat.mul_comm];exact hi);obtain⟨cs,h1,h2⟩:=each _ hi';have hlt:i%ks.length<cs.length:=by rw [(World.cells?_some h1).2.1];exact Nat.mod_lt _ h0
    have h3:=(World.cells?_some h1).2.2 (i%ks.length) (Nat.mod_lt _ h0);rw [List.getElem?_eq_getElem hlt]at h3;rw [zBi,show i/ks.length*ks.length+i%ks.length=i by rw [Nat.mul_comm];exact Nat.div_add_mod ..]at h3;rw [h3];exact zBj h2 _ (List.getElem_mem hlt)
   refine Rel.fs ρ _ 0 len ks.length b off cap (some ⟨b,off,spot⟩) (fun i=>(W.cell? (Addr.add ⟨b,off,spot⟩ i)).getD undef) hl (fun h=>by rw [hspot h];rfl) ?_ ?_ ?_
   ·intro i y hy
    obtain⟨hi,_⟩:=hget i y hy;obtain⟨v,hv⟩:=hcell i hi;rw [hadd i hi]at hv;exact World.block_lt_of_cell? W _ hv
   ·intro i y hy
    obtain⟨hi,_⟩:=hget i y hy;refine⟨?_,hone i hi⟩;obtain⟨v,hv⟩:=hcell i hi;rw [<-hadd i hi,hv];rfl
   ·intro i y hy
    exact(hget i y hy).2
end

abbrev zRw:List (Option IntKind):=[some .i64,some .i64,some .i64,some .i64,some .i32,some .i32,some .i32,some .i32,some .i32,some .i32,some .i64,some .u32,some .i32,some .u32,some .u32,some .u8,some .i64,some .i64,some .i64,some .u8,some .u8,some .u8,some .u8,some .u8,some .u8,some .u8,some .u8,some .u8,some .u8,some .u8,some .u8,some .u8,some .u8,some .u8,some .u8,some .u8,some .u8,some .u8,some .u8,some .u8,some .u8,some .u8,some .u8,some .u8,some .u8,some .u8,some .u8,some .u8,some .u8,some .u8,some .u8,some .u64,some .u8,some .u32,some .i64,some .u32,some .u8,some .u8,some .u16,some .u64,some .i64,some .i64,some .i64]
theorem zbY:∀{ks:List (Option IntKind)} {l:List Value} {k:Nat} {kd:IntKind},ziF ks l->ks[k]? =some (some kd)->∃n,l[k]? =some (.int kd n)/\(Lit.int kd n).wf=true
 |[],_,_,_,_,h=>by simp at h
 |none::r,l,k,kd,hf,h=>by
  obtain⟨b,q,rfl,hq⟩:=zxy hf;cases k with
  |zero=>simp at h
  |succ k=>exact zbY (k:=k) hq h
 |some x::r,l,k,kd,hf,h=>by
  obtain⟨n,q,rfl,hw,hq⟩:=zg4 hf;cases k with
  |zero=>
   simp only [List.getElem?_cons_zero,Option.some.injEq]at h;subst h;exact⟨n,rfl,hw⟩
  |succ k=>exact zbY (k:=k) hq h
theorem zvp:∀{a b:List (Option IntKind)} {l:List Value},ziF (a++b) l->ziF a (l.take a.length)/\ziF b (l.drop a.length)
 |[],_,_,h=>⟨trivial,h⟩
 |none::a,b,l,h=>by
  obtain⟨x,q,rfl,hq⟩:=zxy h;obtain⟨h1,h2⟩:=zvp hq;exact⟨h1,h2⟩
 |some k::a,b,l,h=>by
  obtain⟨x,q,rfl,hw,hq⟩:=zg4 h;obtain⟨h1,h2⟩:=zvp hq;exact⟨⟨rfl,hw,h1⟩,h2⟩
theorem zTI{ks:List (Option IntKind)}:∀{m:Nat} {vs:List Value} {i:Nat},ziF (List.replicate m ks).flatten vs->i<m->ziF ks ((vs.drop (i*ks.length)).take ks.length)
 |0,_,_,_,h=>absurd h zc
 |m+1,vs,i,hf,h=>by
  rw [List.replicate_succ,List.flatten_cons]at hf;obtain⟨h1,h2⟩:=zvp hf;cases i with
  |zero=>simpa using h1
  |succ i=>
   have:=zTI (i:=i) h2 zc;rw [List.drop_drop]at this;rw [show(i+1)*ks.length=ks.length+i*ks.length by rw [Nat.add_mul,Nat.one_mul,Nat.add_comm]];exact this
theorem zVr{g:Nat->Value}{l:List Value}(hf:ziF zRw l)(hg:∀k,k<63->l[k]? =some (g k)):zOG g:=by
 obtain⟨dn,e0,w0⟩:=zbY (k:=0) (kd:=.i64) hf rfl;obtain⟨sr,e1,w1⟩:=zbY (k:=1) (kd:=.i64) hf rfl;obtain⟨tk,e2,w2⟩:=zbY (k:=2) (kd:=.i64) hf rfl;obtain⟨r0,e3,w3⟩:=zbY (k:=3) (kd:=.i64) hf rfl;obtain⟨r1,e4,w4⟩:=zbY (k:=4) (kd:=.i32) hf rfl;obtain⟨r2,e5,w5⟩:=zbY (k:=5) (kd:=.i32) hf rfl;obtain⟨r3,e6,w6⟩:=zbY (k:=6) (kd:=.i32) hf rfl;obtain⟨r4,e7,w7⟩:=zbY (k:=7) (kd:=.i32) hf rfl;obtain⟨r5,e8,w8⟩:=zbY (k:=8) (kd:=.i32) hf rfl;obtain⟨r6,e9,w9⟩:=zbY (k:=9) (kd:=.i32) hf rfl;obtain⟨r7,e10,w10⟩:=zbY (k:=10) (kd:=.i64) hf rfl;obtain⟨r8,e11,w11⟩:=zbY (k:=11) (kd:=.u32) hf rfl;obtain⟨r9,e12,w12⟩:=zbY (k:=12) (kd:=.i32) hf rfl
 obtain⟨r13,e16,w16⟩:=zbY (k:=16) (kd:=.i64) hf rfl;obtain⟨r14,e17,w17⟩:=zbY (k:=17) (kd:=.i64) hf rfl;obtain⟨r15,e18,w18⟩:=zbY (k:=18) (kd:=.i64) hf rfl;obtain⟨y0,e60,w60⟩:=zbY (k:=60) (kd:=.i64) hf rfl;obtain⟨y1,e61,w61⟩:=zbY (k:=61) (kd:=.i64) hf rfl;obtain⟨y2,e62,w62⟩:=zbY (k:=62) (kd:=.i64) hf rfl;rw [hg 0 zc,Option.some.injEq]at e0;rw [hg 1 zc,Option.some.injEq]at e1;rw [hg 2 zc,Option.some.injEq]at e2;rw [hg 3 zc,Option.some.injEq]at e3;rw [hg 4 zc,Option.some.injEq]at e4;rw [hg 5 zc,Option.some.injEq]at e5;rw [hg 6 zc,Option.some.injEq]at e6;rw [hg 7 zc,Option.some.injEq]at e7;rw [hg 8 zc,Option.some.injEq]at e8
 rw [hg 9 zc,Option.some.injEq]at e9;rw [hg 10 zc,Option.some.injEq]at e10;rw [hg 11 zc,Option.some.injEq]at e11;rw [hg 12 zc,Option.some.injEq]at e12;rw [hg 16 zc,Option.some.injEq]at e16;rw [hg 17 zc,Option.some.injEq]at e17;rw [hg 18 zc,Option.some.injEq]at e18;rw [hg 60 zc,Option.some.injEq]at e60;rw [hg 61 zc,Option.some.injEq]at e61;rw [hg 62 zc,Option.some.injEq]at e62
 exact⟨dn,sr,tk,⟨r0,⟨r1,r2,r3⟩,⟨r4,r5,r6⟩,r7,r8,r9,⟨r13,r14,r15⟩⟩,⟨y0,y1,y2⟩,⟨e0,e1,e2,⟨⟨e3,e4,e5,e6,e7,e8,e9⟩,e10,e11,e12,e16,e17,e18⟩,e60,e61,e62⟩,
  ⟨⟨zvk w4,zvk w5,zvk w6⟩,⟨zvk w7,zvk w8,zvk w9⟩,zin w10,zWP w11,zvk w12,⟨zin w16,zin w17,zin w18⟩⟩,⟨zin w60,zin w61,zin w62⟩,zin w2⟩
def zvq(vs:List Value)(len:Nat):List (Nat->Value):=(List.range len).map fun i k=>vs.getD (i*63+k) undef
theorem zMi(vs:List Value)(len:Nat):(zvq vs len).length=len:=by simp [zvq]
theorem zPy{vs:List Value}{len i:Nat}{f:Nat->Value}(h:(zvq vs len)[i]? =some f):i<len/\f=fun k=>vs.getD (i*63+k) undef:=by
 have hi:i<len:=by
  have:=(List.getElem?_eq_some_iff.1 h).1;rwa [zMi]at this
 unfold zvq at h;rw [List.getElem?_map,List.getElem?_range hi]at h;cases h;exact⟨hi,rfl⟩
theorem zTJ{vs:List Value}{m len:Nat}(hm:len<=m)(hl:vs.length=m*63)(hf:ziF (List.replicate m zRw).flatten vs):∀f∈zvq vs len,zOG f:=fun f hfm=>by
 obtain⟨i,hi⟩:=List.getElem?_of_mem hfm;obtain⟨h1,rfl⟩:=zPy hi;refine zVr (zTI (ks:=zRw) hf (i:=i) zc) fun k hk=> ?_
 show((vs.drop (i*63)).take 63)[k]? =_;rw [List.getElem?_take,if_pos hk,List.getElem?_drop,List.getD_eq_getElem?_getD,List.getElem?_eq_getElem zc];rfl
theorem zTK{W:World}{St:Nat->Prop}{vs:List Value}{m len cap:Nat}{p:Option Addr}(hm:len<=m)(hl:vs.length=m*63)(h:Rel St W zmr (.fs (vs.map .v) 0 len 63) (.slice p len cap)):zTH W p (zvq vs len):=by
 obtain⟨b,q,c,a,xs,h1,h2,h3,h4,h5,e⟩:=h.fs_inv;cases e;intro i f hi;obtain⟨hil,rfl⟩:=zPy hi;refine⟨b,q,h2 zc,fun k hk=> ?_⟩;have hlt:i*63+k<vs.length:=by rw [hl];omega
 have hg:(vs.map VV.v)[i*63+k]? =some (.v (vs.getD (i*63+k) undef)):=by
  rw [List.getElem?_map,List.getD_eq_getElem?_getD,List.getElem?_eq_getElem hlt];rfl
 have e:=h5 _ _ hg;simp only [VV.v.injEq]at e;show W.cell? _=some (vs.getD (i*63+k) undef);rw [e,Nat.add_assoc];exact(h4 _ _ hg).1
def zBz(zs:List Int)(len:Nat):List AD:=(List.range len).map fun i=>⟨zs.getD (i*7) 0,zs.getD (i*7+1) 0,zs.getD (i*7+2) 0,zs.getD (i*7+3) 0,zs.getD (i*7+4) 0,zs.getD (i*7+5) 0,zs.getD (i*7+6) 0⟩
theorem zH8(zs:List Int)(len:Nat):(zBz zs len).length=len:=by simp [zBz]
theorem zTL{zs:List Int}{len i:Nat}{a:AD}(h:(zBz zs len)[i]? =some a):i<len/\a=⟨zs.getD (i*7) 0,zs.getD (i*7+1) 0,zs.getD (i*7+2) 0,zs.getD (i*7+3) 0,zs.getD (i*7+4) 0,zs.getD (i*7+5) 0,zs.getD (i*7+6) 0⟩:=by
 have hi:i<len:=by
  have:=(List.getElem?_eq_some_iff.1 h).1;rwa [zH8]at this
 unfold zBz at h;rw [List.getElem?_map,List.getElem?_range hi]at h;cases h;exact⟨hi,rfl⟩
theorem zX5{zs:List Int}{len:Nat}(hw:∀n∈zs,(Lit.int .i64 n).wf=true):∀a∈zBz zs len,a.I:=fun a ha=>by
 obtain⟨i,hi⟩:=List.getElem?_of_mem ha;obtain⟨_,rfl⟩:=zTL hi;have hz:∀k,zr (zs.getD k 0):=fun k=>by
  rw [List.getD_eq_getElem?_getD];cases hk:zs[k]? with
  |none=>show zr 0;unfold zr;omega
  |some n=>exact zin (hw n (List.mem_of_getElem? hk))
 exact⟨hz _,hz _⟩
theorem zVs{W:World}{St:Nat->Prop}{zs:List Int}{len cap:Nat}{p:Option Addr}(hl:len*7<=zs.length)(h:Rel St W zmr (.fs (zs.map fun n=>.v (.i n)) 0 len 7) (.slice p len cap)):Src W p (zBz zs len)/\(p=none->cap=0)/\len<=cap:=by
 obtain⟨b,q,c,a,xs,h1,h2,h3,h4,h5,e⟩:=h.fs_inv;cases e;refine⟨fun i x hi=> ?_,fun hp=> ?_,h1⟩
 ·obtain⟨hil,rfl⟩:=zTL hi
  have key:∀k,k<7->W.cell? (.q b (q+i*7+k))=some (.i (zs.getD (i*7+k) 0)):=fun k hk=>by
   have hlt:i*7+k<zs.length:=zc;have hg:(zs.map fun n=>VV.v (.i n))[i*7+k]? =some (.v (.i (zs.getD (i*7+k) 0))):=by
    rw [List.getElem?_map,List.getD_eq_getElem?_getD,List.getElem?_eq_getElem hlt];rfl
   have e:=h5 _ _ hg;simp only [VV.v.injEq]at e;rw [e,Nat.add_assoc];exact(h4 _ _ hg).1
  exact⟨b,q,h2 zc,key 0 zc,key 1 zc,key 2 zc,key 3 zc,key 4 zc,key 5 zc,key 6 zc⟩
 ·rcases Nat.eq_zero_or_pos cap with h0|h0
  ·exact h0
  ·rw [h2 h0]at hp
   cases hp
section
variable{H:Type}{enc:TypeId×Value->H}{P:Program}{W:World}{base:Nat}{held:Bool}
def zwD(P:Program)(t:TypeId):Bool:=match P.underlying t with
 |some (.struct fs)=>match fs[0]?,fs[1]?,fs[2]? with
  |some f0,some f1,some f2=>Nat.beq f0.offset 0&&Nat.beq f1.offset 3&&Nat.beq f2.offset 4&&Nat.beq (P.cellsOf t) 5&&
   (match shK P 20 f0.type with|some [some .i64,some .i64,some .i64]=>true|_=>false)&&Nat.beq (P.cellsOf f0.type) 3&&
   (match shK P 20 f1.type with|some [some .i64]=>true|_=>false)&&Nat.beq (P.cellsOf f1.type) 1&&
   (match P.underlying f2.type with|some (.slice e)=>(match shK P 20 e with|some [some .i64,some .i64,some .i64,some .i64,some .i64,some .i64,some .i64]=>true|_=>false)&&Nat.beq (P.cellsOf e) 7|_=>false)&&Nat.beq (P.cellsOf f2.type) 1
  |_,_,_=>false
 |_=>false
theorem zXc{t:TypeId}{fuel:Nat}{cs0:List Value}{d:DataW H×List MemPlace}(hz:zwD P t=true)(hf:DataW.trod enc P W base (fun _=>true) held fuel t cs0=some d):
 ∃(g0 g1 g2 dr:Int) (zs:List Int) (len cap:Nat) (p:Option Addr),cs0=[.i g0,.i g1,.i g2,.i dr,.slice p len cap]/\zr g0/\zr g1/\zr g2/\zr dr/\len*7<=zs.length/\(∀n∈zs,(Lit.int .i64 n).wf=true)/\
  ∀ρ:Rho,Rel (fun b=>b<W.heap.size) W ρ (.fs (zs.map fun n=>.v (.i n)) 0 len 7) (.slice p len cap):=by
 unfold zwD at hz;split at hz
 ·rename_i fs hu
  split at hz
  ·rename_i f0 f1 f2 g0 g1 g2
   simp only [Bool.and_eq_true]at hz;obtain⟨⟨⟨⟨⟨⟨⟨⟨⟨o0,o1⟩,o2⟩,ct⟩,b0⟩,c0⟩,b1⟩,c1⟩,b2⟩,c2⟩:=hz;have o0:=Nat.eq_of_beq_eq_true o0;have o1:=Nat.eq_of_beq_eq_true o1;have o2:=Nat.eq_of_beq_eq_true o2;have ct:=Nat.eq_of_beq_eq_true ct;have c0:=Nat.eq_of_beq_eq_true c0;have c1:=Nat.eq_of_beq_eq_true c1;have c2:=Nat.eq_of_beq_eq_true c2;obtain⟨xs,m,_,_,hl,hn,hel⟩:=DataW.trod_struct hu hf;have hlt:∀(i:Nat) (f:Field),fs[i]? =some f->∃y,DataW.trod enc P W base (fun _=>true) held m f.type ((cs0.drop f.offset).take (P.cellsOf f.type))=some y:=fun i f hi=>by
    have h1:i<fs.size:=(zy hi);exact⟨_,(hel i f hi).trans (List.getElem?_eq_getElem zc)⟩
   obtain⟨y0,t0⟩:=hlt 0 f0 g0;obtain⟨y1,t1⟩:=hlt 1 f1 g1;obtain⟨y2,t2⟩:=hlt 2 f2 g2;rw [ct]at hl;match cs0,hl with
   |[v0,v1,v2,v3,v4],_=>
   rw [o0,c0]at t0;rw [o1,c1]at t1;rw [o2,c2]at t2;simp only [List.drop_succ_cons,List.drop_zero,List.take_succ_cons,List.take_zero]at t0 t1 t2;split at b0
   ·rename_i s0
    split at b1
    ·rename_i s1
     obtain⟨a0,q0,e0,w0,k0⟩:=zg4 (zpW 20 f0.type _ m _ _ s0 t0);obtain⟨a1,q1,rfl,w1,k1⟩:=zg4 k0;obtain⟨a2,q2,rfl,w2,k2⟩:=zg4 k1;obtain rfl:=zLm k2;obtain⟨a3,q3,e3,w3,k3⟩:=zg4 (zpW 20 f1.type _ m _ _ s1 t1);obtain rfl:=zLm k3;simp only [List.cons.injEq,and_true]at e0 e3;obtain⟨rfl,rfl,rfl⟩:=e0;subst e3;split at b2
     ·rename_i e hu2
      simp only [Bool.and_eq_true]at b2;obtain⟨b2,ce⟩:=b2;split at b2
      ·rename_i hs
       obtain⟨vs,mm,len,cap,p,e1,h1,h2,h3,h4,h5⟩:=zPx (ks:=[some .i64,some .i64,some .i64,some .i64,some .i64,some .i64,some .i64]) hu2 hs ce dcz t2;rw [show([some IntKind.i64,some IntKind.i64,some IntKind.i64,some IntKind.i64,some IntKind.i64,some IntKind.i64,some IntKind.i64]:List (Option IntKind))=List.replicate 7 (some IntKind.i64)from rfl,List.flatten_replicate_replicate]at h4;obtain⟨zs,rfl,hzl,hw⟩:=zEr _ vs h4;simp only [List.cons.injEq,and_true]at e1;subst e1;refine⟨a0,a1,a2,a3,zs,len,cap,p,rfl,zin w0,zin w1,zin w2,zin w3,by rw [hzl];exact Nat.mul_le_mul_right _ h1,hw,fun ρ=> ?_⟩;have hr:=h5 ρ;rw [List.map_map]at hr
       exact hr
      ·cases b2
     ·cases b2
    ·cases b1
   ·cases b0
  ·cases hz
 ·cases hz
theorem zTM{r:Reach}{b0:Nat}{t:TypeId}{v:Value}{d:DataW H}{ps:List MemPlace}(hz:zwD P t=true)(hval:Value.okWide P W r b0 t v)(hd:DataW.Trod enc P W base (fun _=>true) held t v d ps):
 ∃(g0 g1 g2 dr:Int) (zs:List Int) (len cap:Nat) (p:Option Addr),v= .agg #[.i g0,.i g1,.i g2,.i dr,.slice p len cap]/\zr g0/\zr g1/\zr g2/\zr dr/\len*7<=zs.length/\(∀n∈zs,(Lit.int .i64 n).wf=true)/\
  ∀ρ:Rho,Rel (fun b=>b<W.heap.size) W ρ (.fs (zs.map fun n=>.v (.i n)) 0 len 7) (.slice p len cap):=by
 have hv:∃cs,v= .agg cs:=by
  have hz':=hz;unfold zwD at hz';unfold Value.okWide at hval;split at hz'
  ·rename_i fs hu
   rw [hu]at hval;obtain⟨cs,h,_⟩:=hval;exact⟨cs,h⟩
  ·cases hz'
 obtain⟨⟨l⟩,rfl⟩:=hv;obtain⟨fuel,hf⟩:=hd;obtain⟨g0,g1,g2,dr,zs,len,cap,p,h1,h2,h3,h4,h5,h6,h7,h8⟩:=zXc hz hf;have h1:l=_:=h1;subst h1;exact⟨g0,g1,g2,dr,zs,len,cap,p,rfl,h2,h3,h4,h5,h6,h7,h8⟩
theorem zRx{r:Reach}{b0:Nat}{t e:TypeId}{v:Value}{d:DataW H}{ps:List MemPlace}(ht:P.underlying t=some (.slice e))(he:shK P 20 e=some zRw)(hc:Nat.beq (P.cellsOf e) 63=true)(hval:Value.okWide P W r b0 t v)(hd:DataW.Trod enc P W base (fun _=>true) held t v d ps):
 ∃(vs:List Value) (m len cap:Nat) (p:Option Addr),v= .slice p len cap/\len<=m/\vs.length=m*63/\ziF (List.replicate m zRw).flatten vs/\∀ρ:Rho,Rel (fun b=>b<W.heap.size) W ρ (.fs (vs.map .v) 0 len 63) (.slice p len cap):=by
 obtain⟨va,vl,vc,rfl⟩:=okWide_slice ht hval;obtain⟨fuel,hf⟩:=hd;obtain⟨vs,m,len,cap,p,e1,h1,_,h3,h4,h5⟩:=zPx (ks:=zRw) ht he hc dcz hf;have e1:[Value.slice va vl vc]=_:=e1;simp only [List.cons.injEq,Value.slice.injEq,and_true]at e1;obtain⟨rfl,rfl,rfl⟩:=e1;exact⟨vs,m,_,_,_,rfl,h1,h3,h4,h5⟩
end
end Go.Xv
namespace Go.Proofs.YtdchhmffiiedmaaGreat.base
open Go.ChangeShapes Go.WideShapes Go.ChangeAt Go.RowKit Go.Xv
def rest:List Char:=([97,116,32,112,101,108,111,114,117,115,47,112,101,108,111,114,117,115,108,97,119,50,57,46,78,97,118,80,108,97,121,115,32,112,101,108,111,114,117,115,47,112,101,108,111,114,117,115,108,97,119,50,57,46,78,97,118,86,111,105,100].map Char.ofNat)
def sum:List Char:=([100,100,51,57,98,100,48,56,53,97,100,51,57,53,49,50,57,57,51,56,55,49,49,50,99,101,50,50,102,50,57,50,53,100,53,55,56,98,50,101,55,99,55,50,51,102,56,55,98,51,52,57,52,53,54,52,56,57,56,56,51,101,99,55].map Char.ofNat)
def signs:List Char:=([104,97,114,110,101,115,115].map Char.ofNat)++(Char.ofNat 32::(sum++(Char.ofNat 32::(([99,117,116].map Char.ofNat)++(Char.ofNat 32::rest)))))
theorem io:Tryz.prog.initOrder.toList=signs:=
 (congrArg String.toList (show Tryz.prog.initOrder=String.ofList signs by kernel_rfl)).trans String.toList_ofList
theorem first:wordsSigns signs=([104,97,114,110,101,115,115].map Char.ofNat)::sum::zBh::wordsSigns rest:=by kernel_rfl
theorem sumOK:isSumSigns sum=true:=by kernel_rfl
theorem behind:behindMainWord (wordsSigns Tryz.prog.initOrder.toList)=zBh::wordsSigns rest:=zRb io first sumOK
theorem enter_:Tryz.prog.mayEnter=true:=zS9 behind (by kernel_rfl) (by kernel_rfl) (by kernel_rfl)
theorem own:ownKnob Tryz.prog.godebug=none:=by kernel_rfl
theorem laidOut:laidOutB Tryz.prog=true:=by kernel_rfl
end Go.Proofs.YtdchhmffiiedmaaGreat.base
namespace Go.Proofs.YtdchhmffiiedmaaGreat.navPlays
open Go.ChangeShapes Go.WideShapes Go.ChangeAt Go.RowKit Go.Xv Go.Proofs.YtdchhmffiiedmaaGreat.base
theorem lifted(os:Os)(started:os.Started)(H:Type)(enc:TypeId×Value->H):
 ReturnsInHanded {} Tryz.checked os 3 .any (Rows.navPlaysSpec.pre6 enc Tryz.prog Tryz.f3 Rows.navPlaysRow.domain false) (Rows.navPlaysSpec.post enc Tryz.prog Tryz.f3 false true false false):=by
 refine returnsInHanded_of_change (C:=Tryz.checked) own started (by kernel_rfl) Tryz.func3
  (ChangeSpec.witness6 (enc:=enc) (C:=Tryz.checked) false ⟨#[],#[.agg #[.i 0,.i 0,.i 0,.i 0,.slice none 0 0],.slice none 0 0,.i 0],[]⟩ 8 (by kernel_rfl) (by kernel_rfl) (by kernel_rfl) (by kernel_rfl)) ?_
 intro W base args ds gs before hval0 hW hcnd _;have hval:∀(j:Nat) t v,Tryz.f3.params[j]? =some t->args[j]? =some v->Value.okWide Tryz.prog W .any base t v:=hval0;have hW':=hW;obtain⟨p,q,hA0,hV,rfl,hfz,hnd⟩:=hW;have hA:DataW.TrodAll enc Tryz.prog W 0 (fun _=>true) true Tryz.f3.params.toList args.toList ds p:=hA0;rw [Tryz.params3]at hA hval;obtain⟨v0,vs0,d0,ds0,p0,q0,hargs,rfl,rfl,h0,r0⟩:=trodAll_cons hA;obtain⟨v1,vs1,d1,ds1,p1,q1,rfl,rfl,rfl,h1,r1⟩:=trodAll_cons r0;obtain⟨v2,vs2,d2,ds2,p2,q2,rfl,rfl,rfl,h2,r2⟩:=trodAll_cons r1;obtain⟨rfl,rfl,rfl⟩:=trodAll_nil r2;obtain rfl:args=#[v0,v1,v2]:=by cases args;simp_all
 obtain⟨g0,g1,g2,dr,zs,len,cap,pp,rfl,i0,i1,i2,i3,hzl,hzw,hzr⟩:=zTM (by kernel_rfl) (hval 0 27 v0 rfl rfl) h0;obtain⟨vs,m,la,ca,pa,rfl,hlm,hvl,hvf,hvr⟩:=zRx (e:=52) (by kernel_rfl) (by kernel_rfl) (by kernel_rfl) (hval 1 28 v1 rfl rfl) h1;obtain⟨tk,rfl,wtk⟩:=zS4 (k:=.i64) (by kernel_rfl) (hval 2 3 v2 rfl rfl) h2;obtain⟨hsrc,hpn,hlc⟩:=zVs hzl (hzr zmr);have hc:=zMh ⟨g0,g1,g2⟩ ⟨i0,i1,i2⟩ dr i3 (zBz zs len) (zX5 hzw) pp cap hpn (by rw [zH8];exact hlc) (zvq vs la) (zTJ hlm hvl hvf) pa ca tk (zin wtk) W hsrc (zTK hlm hvl (hvr zmr));rw [zH8,zMi]at hc;exact ztO laidOut (bt:=4) (by kernel_rfl) (by kernel_rfl) (by kernel_rfl) (by kernel_rfl) rfl hW' hc
theorem over:Rows.navPlaysRow.holds Tryz.pinned (OpenSpec.ofChange Rows.navPlaysSpec):=
 OpenClaim.holds_of_wide 3 Tryz.f3 rfl rfl rfl rfl rfl rfl rfl ⟨rfl,rfl,rfl,rfl,rfl⟩ rfl rfl rfl rfl rfl (by kernel_rfl) Tryz.func3 (zRc (P:=Tryz.prog) behind enter_ rfl rfl ⟨rfl,rfl⟩ (by kernel_rfl))
  (of_decide_eq_true (by kernel_rfl)) (by unfold Func.isWrapper;first|(rw [if_pos (by decide+kernel)];kernel_rfl)|(rw [if_neg (by decide+kernel)];exact⟨rfl,rfl⟩))
  (fun os started H enc _=>lifted os started H enc)
theorem proved:Rows.NavPlaysSaid:=over
#print axioms proved
end Go.Proofs.YtdchhmffiiedmaaGreat.navPlays
