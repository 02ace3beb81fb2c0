/- A navigator answers, whatever the inertial sensor and the aids tell, what the document says: the law returns true for every input, and leaves its arguments as they were. -/
import Derived.Test.YtdchhmffiiedmaaGreatLNavPlays
import Derived.Test.YtdchhmffiiedmaaGreatLNavPlays6
import Derived.Test.YtdchhmffiiedmaaGreatLNavPlays8
import Derived.Test.YtdchhmffiiedmaaGreatLNavPlays9
set_option linter.unusedVariables false
set_option linter.unusedSimpArgs false
set_option maxRecDepth 100000
set_option maxHeartbeats 64000000
open Go.IntKind (wrap)
namespace Go.Xv
open Go.RowKit
structure Sep (nb mb:Nat) (l:List (Int×Nat)) (rb:Nat) (rp:Option Addr):Prop where
 m:mb≠nb
 rn:rb≠nb
 rm:rb≠mb
 rl:∀q∈l,q.2≠rb
 a:∀ab,rp=some (.q ab 0)->ab≠nb/\∀q∈l,q.2≠ab
 srt:Srt l
def zeI(nb:Nat)(l:List (Int×Nat))(rb k:Nat):Prop:=Own nb l k\/k=rb
structure Two (w:World) (nb mb:Nat) (l:List (Int×Nat)) (rb:Nat) (rp:Option Addr) (cap:Nat) (p:PS):Prop where
 nav:zcO w nb mb l p
 ref:zaz w rb rp cap p
theorem zMa{w w':World}{nb mb rb cap:Nat}{l:List (Int×Nat)}{rp:Option Addr}{p:PS}(hS:Sep nb mb l rb rp)(h:zaz w rb rp cap p)(hK:jj (Own nb l) w w'):zaz w' rb rp cap p:=by
 have hn:∀ab,ab≠nb->(∀q∈l,q.2≠ab)-> ¬Own nb l ab:=fun ab h1 h2 h3=>by
  rcases h3 with h3|h3
  ·exact h1 h3
  ·obtain⟨q,hq,e⟩:=List.mem_map.1 h3
   exact h2 q hq e
 refine⟨(hK.block rb h.lt (hn rb hS.rn hS.rl)).trans h.blk,fun i t hi=> ?_⟩;obtain⟨ab,h0,h1,c0,c1,c2,c3,c4,c5,c6⟩:=h.row i t hi;have hna:=hn ab (hS.a ab h0).1 (hS.a ab h0).2;have hk:∀{k:Nat} {v:Value},w.cell? (.q ab k)=some v->w'.cell? (.q ab k)=some v:=fun{k v} hh=>(World.cell?_of_block (a:=(.q ab k)) (hK.block ab (World.block_lt_of_cell? w _ hh) hna)).trans hh
 exact⟨ab,h0,h1,hk c0,hk c1,hk c2,hk c3,hk c4,hk c5,hk c6⟩
theorem zPu{w w':World}{nb mb rb:Nat}{l:List (Int×Nat)}{rp:Option Addr}{p:PS}(hS:Sep nb mb l rb rp)(h:zcO w nb mb l p)(hC:Chg rb w w'):zcO w' nb mb l p:=
 ⟨(hC.block nb h.nav.lt (Ne.symm hS.rn)).trans h.nav,(hC.block mb (zy h.map) (Ne.symm hS.rm)).trans h.map,h.trk.len,fun i s b hi=>by
   obtain⟨t,h1,h2,h3⟩:=h.trk.blk i s b hi
   exact⟨t,h1,h2,(hC.block b (zy h3) (hS.rl _ (List.mem_of_getElem? hi))).trans h3⟩,h.trk.nodup,h.trk.ne⟩
theorem zfJ{w w':World}{nb mb:Nat}{l:List (Int×Nat)}{p:PS}(hm:mb≠nb)(h:zcO w nb mb l p)(hB:Below w.heap.size w w'):zcO w' nb mb l p:=h.chg hm (h.nav.below hB) (Chg.of hB)
theorem zEz{w w':World}{nb mb rb cap:Nat}{l:List (Int×Nat)}{rp:Option Addr}{p:PS}(hm:mb≠nb)(h:Two w nb mb l rb rp cap p)(hB:Below w.heap.size w w'):Two w' nb mb l rb rp cap p:=⟨zfJ hm h.nav hB,h.ref.below hB⟩
theorem ztc{w w':World}{nb rb:Nat}{l:List (Int×Nat)}(h:jj (Own nb l) w w'):jj (zeI nb l rb) w w':=⟨h.os,h.tape,h.output,h.size,fun k hk hn=>h.block k hk fun ho=>hn (.inl ho)⟩
theorem zzK{w w':World}{nb:Nat}{l:List (Int×Nat)}(h:Chg nb w w'):jj (Own nb l) w w':=jj.chg h (.inl rfl)
theorem ztd{w w':World}{nb rb:Nat}{l:List (Int×Nat)}(h:Chg rb w w'):jj (zeI nb l rb) w w':=jj.chg h (.inr rfl)
theorem zMb(p:PS)(sr:Int):(zyu p sr).1=cC p.ts sr/\(zyu p sr).2=cL p.ts sr:=by
 unfold zyu cC cL;split<;>(rename_i h;rw [h];exact⟨rfl,rfl⟩)
theorem zVV(a b c:Int)(w:World):(Op.equalIn 10000 24 (.agg #[.i a,.i b,.i c]) (.agg #[.i a,.i b,.i c])).run PP w= .ok true w:=by
 have:=zzT (P:=PP) (t:=24) (ks:=[some .i64,some .i64,some .i64]) (xs:=#[.i a,.i b,.i c]) (ys:=#[.i a,.i b,.i c]) kfz (by simp [zcv]) (by simp [zcv]) kfz w;simpa [eqL,eqV]using this
theorem zyw(nb mb:Nat)(l:List (Int×Nat))(rb:Nat)(rp:Option Addr)(cap:Nat)(hS:Sep nb mb l rb rp)(p:PS)(hI:Inv p)(tk:Int)(hk:zr tk)(w:World)(hT:Two w nb mb l rb rp cap p):
 Calls PP 10 #[ptB nb,ptB rb,.i tk] w fun e w'=>e= .returned (.bool true)/\Two w' nb mb l rb rp cap (zct p).2/\jj (zeI nb l rb) w w':=by
 go_enter Proofs.Tryz.func10,Proofs.Tryz.ntmps10
 have hJ:=zBu hI;have ho:=zRl nb mb l p hS.m hI.s hI.t hS.srt w hT.nav;have hro:=fun W (h:zaz W rb rp cap p)=>zOE rb rp cap p hI.len hI.s hI.t hI.srt W h
 obtain⟨q,hq⟩:∃q,(zct p).2=q:=⟨_,rfl⟩;obtain⟨o,hoo⟩:∃o,(zct p).1=o:=⟨_,rfl⟩;have hqs:q.s.v0=p.s.v0/\q.s.v1=p.s.v1/\q.s.v2=p.s.v2:=by rw [<-hq];exact⟨rfl,rfl,rfl⟩
 rw [hq]at hJ ho hro⊢;rw [hoo]at ho hro;have hTr:=hT.ref;clear hq hoo hqs;obtain⟨s,hs⟩:∃s,p.s=s:=⟨_,rfl⟩;rw [hs]at ho hro;clear hs hT
 go_wp2_with(first
  |(go_at_call 16
    refine ho.mono ?_;clear ho;rintro e w1 ⟨rfl,hN1,hC1⟩
    have hR1:=zMa hS hTr (zzK hC1))
  |(go_at_call 31
    refine(hro _ hR1).mono ?_;clear hro;rintro e w2 ⟨rfl,hR2,hC2⟩;have hT2:Two w2 nb mb l rb rp cap q:=⟨zPu hS hN1 hC2,hR2⟩
    have hK2:jj (zeI nb l rb) w w2:=(ztc (zzK hC1)).trans (ztd hC2)))
 have h7:((w2.alloc (.cells (oC s o) 69)).alloc (.cells (oC s o) 97)).heap[w2.heap.size]? =some (.cells (oC s o) 69 (0,0)):=(heap_alloc_old _ _ jq).trans (heap_alloc_new w2 _);have h8:((w2.alloc (.cells (oC s o) 69)).alloc (.cells (oC s o) 97)).heap[w2.heap.size+1]? =some (.cells (oC s o) 97 (0,0)):=by simpa using heap_alloc_new (w2.alloc (.cells (oC s o) 69)) (.cells (oC s o) 97)
 have hB3:Below w2.heap.size w2 ((w2.alloc (.cells (oC s o) 69)).alloc (.cells (oC s o) 97)):=((Below.refl _ w2).alloc (Nat.le_refl _) _).alloc jq _;have hT3:=zEz hS.m hT2 hB3;have hK3:=hK2.trans (jj.of hB3);clear hB3 hK2 hT2 hTr;generalize(w2.alloc (.cells (oC s o) 69)).alloc (.cells (oC s o) 97)=w3 at*
 have h8':w3.heap[w2.heap.size+1]? =some (.cells (oC s o) 97 (0,0)):=h8;generalize w2.heap.size+1=x8 at*
 generalize w2.heap.size=x7 at*
 have hd:Below w3.heap.size w3 w3.drew:=⟨rfl,rfl,rfl,Nat.le_refl _,fun _ _=>rfl⟩;have l7:=(zy h7);have l8:=(zy h8');have hS3:∀W:World,Below w3.heap.size w3 W->W.cell? (.q x7 0)=some (.i o.p.x)/\W.cell? (.q x7 1)=some (.i o.p.y)/\W.cell? (.q x7 2)=some (.i o.p.z)/\W.cell? (.q x7 3)=some (.i s.v0)/\W.cell? (.q x7 4)=some (.i s.v1)/\W.cell? (.q x7 5)=some (.i s.v2)/\W.cell? (.q x7 6)=some (.int .u32 o.hd)/\W.cell? (.q x7 7)=some (.i o.sp)/\W.cell? (.q x8 0)=some (.i o.p.x)/\W.cell? (.q x8 1)=some (.i o.p.y)/\W.cell? (.q x8 2)=some (.i o.p.z)/\W.cell? (.q x8 3)=some (.i s.v0)/\W.cell? (.q x8 4)=some (.i s.v1)/\W.cell? (.q x8 5)=some (.i s.v2)/\W.cell? (.q x8 6)=some (.int .u32 o.hd)/\W.cell? (.q x8 7)=some (.i o.sp)/\W.cell? (.q rb 64)=some (.bool q.s.cut):=fun W h=>⟨(h.cell (p:=(.q x7 _)) l7).trans (za h7),(h.cell (p:=(.q x7 _)) l7).trans (za h7),(h.cell (p:=(.q x7 _)) l7).trans (za h7),(h.cell (p:=(.q x7 _)) l7).trans (za h7),(h.cell (p:=(.q x7 _)) l7).trans (za h7),(h.cell (p:=(.q x7 _)) l7).trans (za h7),(h.cell (p:=(.q x7 _)) l7).trans (za h7),(h.cell (p:=(.q x7 _)) l7).trans (za h7),(h.cell (p:=(.q x8 _)) l8).trans (za h8'),(h.cell (p:=(.q x8 _)) l8).trans (za h8'),(h.cell (p:=(.q x8 _)) l8).trans (za h8'),(h.cell (p:=(.q x8 _)) l8).trans (za h8'),(h.cell (p:=(.q x8 _)) l8).trans (za h8'),(h.cell (p:=(.q x8 _)) l8).trans (za h8'),(h.cell (p:=(.q x8 _)) l8).trans (za h8'),(h.cell (p:=(.q x8 _)) l8).trans (za h8'),za (hT3.ref.below h).blk⟩
 have hmo:=fun W (h:Below w3.heap.size w3 W)=>zOn nb mb l q hS.m hJ.t hJ.st1 tk hk W (zfJ hS.m hT3.nav h)
 have hrm:=fun W (h:Below w3.heap.size w3 W)=>zL6 rb rp cap q hJ.len hJ.t hJ.srt hJ.st1 tk hk W (hT3.ref.below h)
 have hbo:=fun W (h:Below w3.heap.size w3 W)=>zLO nb mb l q hS.m hJ.t hS.srt hJ.st1 hJ.dr tk hk W (zfJ hS.m hT3.nav h)
 have hrb:=fun W (h:Below w3.heap.size w3 W)=>zH6 rb rp cap q hJ.len hJ.t hJ.st1 hJ.dr tk hk W (hT3.ref.below h)
 have hcu:=fun W (h:Below w3.heap.size w3 W)=>zQ6 nb mb q.s W (zfJ hS.m hT3.nav h).nav
 have hev:=zVV;clear h8;go_region_held3(fun w'=>w'.cell? (.q x7 0)=some (.i o.p.x)/\w'.cell? (.q x7 1)=some (.i o.p.y)/\w'.cell? (.q x7 2)=some (.i o.p.z)/\w'.cell? (.q x7 3)=some (.i s.v0)/\w'.cell? (.q x7 4)=some (.i s.v1)/\w'.cell? (.q x7 5)=some (.i s.v2)/\w'.cell? (.q x7 6)=some (.int .u32 o.hd)/\w'.cell? (.q x7 7)=some (.i o.sp)/\w'.cell? (.q x8 0)=some (.i o.p.x)/\w'.cell? (.q x8 1)=some (.i o.p.y)/\w'.cell? (.q x8 2)=some (.i o.p.z)/\w'.cell? (.q x8 3)=some (.i s.v0)/\w'.cell? (.q x8 4)=some (.i s.v1)/\w'.cell? (.q x8 5)=some (.i s.v2)/\w'.cell? (.q x8 6)=some (.int .u32 o.hd)/\w'.cell? (.q x8 7)=some (.i o.sp)/\w'.cell? (.q rb 64)=some (.bool q.s.cut)) (first|(with_reducible exact hS3 _ hd)|(with_reducible exact hS3 _ ha)|(with_reducible exact hS3 _ hb)|(with_reducible exact hS3 _ hc)|(with_reducible exact hS3 _ he))
  (first
    |(go_at_call 17
      refine(hmo _ hd).mono ?_;rintro e wa ⟨rfl,ha0⟩
      have ha:=hd.trans (ha0.mono hd.size))
    |(go_at_call 32
      refine(hrm _ ha).mono ?_;rintro e wb ⟨rfl,hb0⟩
      have hb:=ha.trans (hb0.mono ha.size))
    |(go_at_call 19
      refine(hbo _ hb).mono ?_;rintro e wc ⟨rfl,hc0⟩
      have hc:=hb.trans (hc0.mono hb.size))
    |(go_at_call 33
      refine(hrb _ hc).mono ?_;rintro e we ⟨rfl,he0⟩
      have he:=hc.trans (he0.mono hc.size))
    |(go_at_call 20
      refine(hcu _ he).mono ?_;rintro e w' ⟨rfl,hw⟩
      obtain rfl:=hw.symm))
 go_wp2;go_loopw [9] (fun v wr=>∃j:Nat,j<=8/\v= .i j/\Below w3.heap.size w3 wr) (fun v _=>8-(intOf v).toNat)
 case atStart=>exact⟨0,zc,rfl,he⟩
 case round=>
  obtain⟨j,hj,rfl,hB⟩:=hrel;clear hmo hrm hbo hrb hcu hd hS3;by_cases hlt:j<8
  ·have hn8i:(j:Int)<8:=zc
   have hco:=fun W (h:Below w3.heap.size w3 W)=>zOi nb mb l q j W (zfJ hS.m hT3.nav h) hS.m
   rw [(zMb q j).1,(zMb q j).2]at hco;go_wp2_with(go_at_call 21;refine(hco _ hB).mono ?_;rintro e wf ⟨rfl,hf0⟩;have hf:=hB.trans (hf0.mono hB.size))
   have h10:(wf.alloc (.cells #[.i (cC q.ts j).x,.i (cC q.ts j).y,.i (cC q.ts j).z,.i (cL q.ts j)] 75)).heap[wf.heap.size]? =some (.cells #[.i (cC q.ts j).x,.i (cC q.ts j).y,.i (cC q.ts j).z,.i (cL q.ts j)] 75 (0,0)):=heap_alloc_new wf _;have hg:Below w3.heap.size w3 (wf.alloc (.cells #[.i (cC q.ts j).x,.i (cC q.ts j).y,.i (cC q.ts j).z,.i (cL q.ts j)] 75)):=hf.alloc hf.size _;clear hf hf0 hB hco;generalize wf.alloc (.cells #[.i (cC q.ts j).x,.i (cC q.ts j).y,.i (cC q.ts j).z,.i (cL q.ts j)] 75)=wg at*
   generalize wf.heap.size=x10 at*
   have l10:=(zy h10);have hdg:Below wg.heap.size wg wg.drew:=⟨rfl,rfl,rfl,Nat.le_refl _,fun _ _=>rfl⟩;have hRb:∀W:World,Below wg.heap.size wg W->zaz W rb rp cap q:=fun W h=>hT3.ref.below (hg.trans (h.mono hg.size))
   have hSj:∀W:World,Below wg.heap.size wg W->W.cell? (.q x10 0)=some (.i (cC q.ts j).x)/\W.cell? (.q x10 1)=some (.i (cC q.ts j).y)/\W.cell? (.q x10 2)=some (.i (cC q.ts j).z)/\W.cell? (.q x10 3)=some (.i (cL q.ts j))/\W.cell? (.q rb (21+j*4))=some (.i (cC q.ts j).x)/\W.cell? (.q rb (21+j*4+1))=some (.i (cC q.ts j).y)/\W.cell? (.q rb (21+j*4+2))=some (.i (cC q.ts j).z)/\W.cell? (.q rb (21+j*4+3))=some (.i (cL q.ts j)):=fun W h=>⟨(h.cell (p:=(.q x10 _)) l10).trans (za h10),(h.cell (p:=(.q x10 _)) l10).trans (za h10),(h.cell (p:=(.q x10 _)) l10).trans (za h10),(h.cell (p:=(.q x10 _)) l10).trans (za h10),(hRb W h).cX j hlt,(hRb W h).cY j hlt,(hRb W h).cZ j hlt,(hRb W h).cL j hlt⟩
   have hag:=fun W (h:Below wg.heap.size wg W)=>zRg nb mb l q hJ.t hJ.st1 j tk hk W (zfJ hS.m hT3.nav (hg.trans (h.mono hg.size)))
   have hra:=fun W (h:Below wg.heap.size wg W)=>zOy rb rp cap q hJ.len hJ.t hJ.st1 j tk hk W (hRb W h)
   go_region_held3(fun w'=>w'.cell? (.q x10 0)=some (.i (cC q.ts j).x)/\w'.cell? (.q x10 1)=some (.i (cC q.ts j).y)/\w'.cell? (.q x10 2)=some (.i (cC q.ts j).z)/\w'.cell? (.q x10 3)=some (.i (cL q.ts j))/\w'.cell? (.q rb (21+j*4))=some (.i (cC q.ts j).x)/\w'.cell? (.q rb (21+j*4+1))=some (.i (cC q.ts j).y)/\w'.cell? (.q rb (21+j*4+2))=some (.i (cC q.ts j).z)/\w'.cell? (.q rb (21+j*4+3))=some (.i (cL q.ts j))) (first|(with_reducible exact hSj _ hdg)|(with_reducible exact hSj _ hx))
    (first
      |(go_at_call 18
        refine(hag _ hdg).mono ?_;rintro e w' ⟨rfl,hw⟩
        obtain rfl:=hw.symm)
      |(go_at_call 34
        refine(hra _ hdg).mono ?_;rintro e wx ⟨rfl,hx0⟩
        have hx:=hdg.trans (hx0.mono hdg.size)))
   go_wp2;exact⟨⟨j+1,zc,jq,hg.trans (hx.mono hg.size)⟩,by simp [intOf];omega⟩
  ·obtain rfl:j=8:=zc
   go_wp2;go_ret;exact⟨rfl,zEz hS.m hT3 hB,hK3.trans (jj.of hB)⟩
end Go.Xv
