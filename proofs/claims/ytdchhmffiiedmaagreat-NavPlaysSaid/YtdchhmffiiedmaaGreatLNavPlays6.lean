/- A navigator answers, whatever the inertial sensor and the aids tell, what the document says: the law returns true for every input, and leaves its arguments as they were. -/
import Derived.Test.YtdchhmffiiedmaaGreatLNavPlays
import Derived.Test.YtdchhmffiiedmaaGreatLNavPlays5
set_option linter.unusedVariables false
set_option linter.unusedSimpArgs false
set_option maxRecDepth 100000
set_option maxHeartbeats 64000000
open Go.IntKind (wrap)
namespace Go.Xv
open Go.RowKit
def zwy(ts:List TK):Prop:=ts.Pairwise fun a b=>a.src<b.src
theorem zH1{ts:List TK}(h:zwy ts){j:Nat}{t:TK}(hj:ts[j]? =some t):zbH ts t.src=some t:=by
 refine zBs hj rfl fun i u hi hu=> ?_
 obtain⟨h1,h2⟩:=List.getElem?_eq_some_iff.1 hj;obtain⟨g1,g2⟩:=List.getElem?_eq_some_iff.1 hu;have:=(List.pairwise_iff_getElem.1 h) i j g1 h1 hi;rw [g2,h2]at this;omega
theorem zYx{ts:List TK}(h:zwy ts){j:Nat}{t:TK}(hj:ts[j]? =some t):cP ts t.src=t.pulled/\cL ts t.src=t.last/\cC ts t.src=t.c:=by
 have:=zH1 h hj;unfold cP cL cC;rw [this];exact⟨rfl,rfl,rfl⟩
theorem zL6(rb:Nat)(rp:Option Addr)(cap:Nat)(p:PS)(hl:p.ts.length<=8)(hp:∀t∈p.ts,t.ok)(hsr:zwy p.ts)(hst:p.s.start= -1\/(0<=p.s.start/\p.s.start<=1099511627776))(tk:Int)(hk:zr tk)(w:World)(hR:zaz w rb rp cap p):
 Calls PP 32 #[ptB rb,.i tk] w fun e w'=>e= .returned (.i (zLJ p tk))/\Below w.heap.size w w':=by
 obtain⟨v,hv⟩:∃v,v=zLJ p tk:=⟨_,rfl⟩;rw [<-hv];unfold zLJ at hv;go_enter Proofs.Tryz.func32,Proofs.Tryz.ntmps32
 by_cases h0:p.s.start= -1
 ·rw [if_pos h0]at hv
  subst hv;have c61:w.cell? ⟨rb,61,none⟩=some (.i (-1)):=h0▸za hR.blk;go_wp2;go_ret;exact⟨rfl,Below.refl _ _⟩
 ·rw [if_neg h0]at hv
  have hs1:=hst.resolve_left h0;have hs2: ¬p.s.start<0:=zc;have c61:w.cell? ⟨rb,61,none⟩=some (.i p.s.start):=za hR.blk;have hmx:=zoq tk p.s.start;have hmb:0<=max tk p.s.start/\max tk p.s.start<=9223372036854775807:=by unfold zr at hk;omega
  go_wp2;clear hmx;obtain⟨mt,hmt⟩:∃x,x=max tk p.s.start:=⟨_,rfl⟩;rw [<-hmt]at hmb⊢;have hal0:∀t,ziy p.s tk t=(t.pulled&&decide (mt-t.last<=t.hor)):=fun t=>by rw [hmt];rfl
  clear hmt;go_loopw [5] (fun v wr=>∃j:Nat,j<=p.ts.length/\v= .i j/\Below w.heap.size w wr/\∀(i:Nat) (t:TK),i<j->p.ts[i]? =some t->ziy p.s tk t=false) (fun v _=>p.ts.length-(intOf v).toNat)
  case atStart=>exact⟨0,zc,rfl,Below.refl _ _,fun i t h=>absurd h zc⟩
  case round=>
   obtain⟨j,hj,rfl,hB,hal⟩:=hrel;have hR1:=hR.below hB;have c4:wr.cell? ⟨rb,4,none⟩=some (.slice rp p.ts.length cap):=za hR1.blk;by_cases hlt:j<p.ts.length
   ·obtain⟨t,htj⟩:∃t,p.ts[j]? =some t:=⟨_,List.getElem?_eq_getElem hlt⟩
    obtain⟨ab,rfl,hab,e0,e1,e2,e3,e4,e5,e6⟩:=hR1.row j t htj;have htm:t∈p.ts:=List.mem_of_getElem? htj;have hto:=hp t htm;have hlast:0<=t.last/\t.last<=1099511627776:=hto.corr.1;obtain⟨n,hsn⟩:∃n:Nat,t.src=n:=⟨t.src.toNat,by have:=hto.src;omega⟩;have hn8:n<8:=by have:=hto.src;omega
    have hn8i:(n:Int)<8:=zc;obtain⟨hcp,hcl,_⟩:=zYx hsr htj;rw [hsn]at e0 hcp hcl;have hA:Below wr.heap.size wr (wr.alloc (.cells #[.i (n:Int),.i t.kd,.i t.wt,.i t.gain,.i t.step,.i t.limit,.i t.hor] 96)):=(Below.refl _ _).alloc (Nat.le_refl _) _;have hR2:=hR1.below hA;have h6:(wr.alloc (.cells #[.i (n:Int),.i t.kd,.i t.wt,.i t.gain,.i t.step,.i t.limit,.i t.hor] 96)).heap[wr.heap.size]? =some (.cells #[.i (n:Int),.i t.kd,.i t.wt,.i t.gain,.i t.step,.i t.limit,.i t.hor] 96 (0,0)):=heap_alloc_new wr _;have hp1:=hR2.pC n hn8;have hl1:=hR2.cL n hn8;rw [hcp]at hp1;rw [hcl]at hl1;have hBA:=hB.trans (hA.mono hB.size)
    have ha:=hal0 t;have hwr:wrap .i64 (mt-t.last)=mt-t.last:=zH (by unfold zr;omega);have hnext:ziy p.s tk t=false->∀(i:Nat) (u:TK),i<j+1->p.ts[i]? =some u->ziy p.s tk u=false:=fun hf i u hi hu=>by
     rcases Nat.lt_or_ge i j with h|h
     ·exact hal i u h hu
     ·obtain rfl:i=j:=zc
      rw [htj]at hu;cases hu;exact hf
    have hany:ziy p.s tk t=true->p.ts.any (ziy p.s tk)=true:=fun h=>List.any_eq_true.2 ⟨t,htm,h⟩
    clear hal hal0 htj hcp hcl hsn hR1 hR2 hA hB;go_wp2;generalize wr.alloc (.cells #[.i (n:Int),.i t.kd,.i t.wt,.i t.gain,.i t.step,.i t.limit,.i t.hor] 96)=w6 at*
    generalize wr.heap.size=x6 at*
    have d0:w6.drew.cell? ⟨x6,0,none⟩=some (.i (n:Int)):=za h6;have d6:w6.drew.cell? ⟨x6,6,none⟩=some (.i t.hor):=za h6;have dp:w6.drew.cell? ⟨rb,53+n,none⟩=some (.bool t.pulled):=hp1;have dl:w6.drew.cell? ⟨rb,21+n*4+3,none⟩=some (.i t.last):=hl1;have hBd:Below w.heap.size w w6.drew:=⟨hBA.os,hBA.tape,hBA.output,hBA.size,hBA.block⟩;cases hpu:t.pulled with
    |false=>
     rw [hpu]at dp;have hx:=hnext (by rw [ha,hpu];rfl);clear ha hnext hany hv;refine wp_region_held_drew (S:=fun w'=>w'.cell? ⟨x6,0,none⟩=some (.i (n:Int))/\w'.cell? ⟨rb,53+n,none⟩=some (.bool false)/\w'.cell? ⟨rb,21+n*4+3,none⟩=some (.i t.last)/\w'.cell? ⟨x6,6,none⟩=some (.i t.hor)) kfz ⟨d0,dp,dl,d6⟩ (fun hHeld=> ?_);refine zag (i:=0) (oi:=⟨some 36,.move (.tmp 0),34,"ref.go:222",#[],none⟩) ?_;try simp only [Act.put,sLz]
     refine zag (i:=1) (oi:=⟨some 37,.fieldAddr 96 (.tmp 6) 0,0,"ref.go:222",#[],none⟩) ?_;try simp only [Act.put,sLz]
     refine zag (i:=2) (oi:=⟨some 38,.load 3 (.tmp 37),3,"ref.go:222",#[⟨1,.data⟩],none⟩) ?_;try simp only [Act.put,sLz]
     refine zag (i:=3) (oi:=⟨some 39,.nilCheck (.tmp 36),0,"ref.go:222",#[⟨0,.data⟩],none⟩) ?_;try simp only [Act.put,sLz]
     refine zag (i:=4) (oi:=⟨some 40,.fieldAddr 93 (.tmp 39) 5,0,"ref.go:222",#[⟨3,.data⟩],none⟩) ?_;try simp only [Act.put,sLz]
     refine zag (i:=5) (oi:=⟨some 41,.indexAddr 91 (.tmp 40) (.tmp 38),0,"ref.go:222",#[⟨4,.data⟩,⟨2,.data⟩],none⟩) ?_;try simp only [Act.put,sLz]
     refine zag (i:=6) (oi:=⟨some 42,.load 4 (.tmp 41),4,"ref.go:222",#[⟨5,.data⟩],none⟩) ?_;try simp only [Act.put,sLz]
     refine zag (i:=7) (oi:=⟨some 43,.move (.tmp 42),4,"ref.go:222",#[⟨6,.data⟩],none⟩) ?_;try simp only [Act.put,sLz]
     refine zaG (i:=8) (oi:=⟨some 44,.move (.tmp 1),3,"ref.go:222",#[⟨7,.guard⟩],some (7,true)⟩) ?_;try simp only [Act.put,sLz]
     refine zaG (i:=9) (oi:=⟨some 45,.move (.tmp 0),34,"ref.go:222",#[⟨7,.guard⟩],some (7,true)⟩) ?_;try simp only [Act.put,sLz]
     refine zaG (i:=10) (oi:=⟨some 46,.fieldAddr 96 (.tmp 6) 0,0,"ref.go:222",#[⟨7,.guard⟩],some (7,true)⟩) ?_;try simp only [Act.put,sLz]
     refine zaG (i:=11) (oi:=⟨some 47,.load 3 (.tmp 46),3,"ref.go:222",#[⟨10,.data⟩,⟨7,.guard⟩],some (7,true)⟩) ?_;try simp only [Act.put,sLz]
     refine zaG (i:=12) (oi:=⟨some 48,.nilCheck (.tmp 45),0,"ref.go:222",#[⟨9,.data⟩,⟨7,.guard⟩],some (7,true)⟩) ?_;try simp only [Act.put,sLz]
     refine zaG (i:=13) (oi:=⟨some 49,.fieldAddr 93 (.tmp 48) 4,0,"ref.go:222",#[⟨12,.data⟩,⟨7,.guard⟩],some (7,true)⟩) ?_;try simp only [Act.put,sLz]
     refine zaG (i:=14) (oi:=⟨some 50,.indexAddr 90 (.tmp 49) (.tmp 47),0,"ref.go:222",#[⟨13,.data⟩,⟨11,.data⟩,⟨7,.guard⟩],some (7,true)⟩) ?_;try simp only [Act.put,sLz]
     refine zaG (i:=15) (oi:=⟨some 51,.fieldAddr 89 (.tmp 50) 1,0,"ref.go:222",#[⟨14,.data⟩,⟨7,.guard⟩],some (7,true)⟩) ?_;try simp only [Act.put,sLz]
     refine zaG (i:=16) (oi:=⟨some 52,.load 3 (.tmp 51),3,"ref.go:222",#[⟨15,.data⟩,⟨7,.guard⟩],some (7,true)⟩) ?_;try simp only [Act.put,sLz]
     refine zaG (i:=17) (oi:=⟨some 53,.binOp .sub 3 (.tmp 44) (.tmp 52) 3,3,"ref.go:222",#[⟨8,.data⟩,⟨16,.data⟩,⟨7,.guard⟩],some (7,true)⟩) ?_;try simp only [Act.put,sLz]
     refine zaG (i:=18) (oi:=⟨some 54,.fieldAddr 96 (.tmp 6) 3,0,"ref.go:222",#[⟨7,.guard⟩],some (7,true)⟩) ?_;try simp only [Act.put,sLz]
     refine zaG (i:=19) (oi:=⟨some 55,.fieldAddr 94 (.tmp 54) 3,0,"ref.go:222",#[⟨18,.data⟩,⟨7,.guard⟩],some (7,true)⟩) ?_;try simp only [Act.put,sLz]
     refine zaG (i:=20) (oi:=⟨some 56,.load 3 (.tmp 55),3,"ref.go:222",#[⟨19,.data⟩,⟨7,.guard⟩],some (7,true)⟩) ?_;try simp only [Act.put,sLz]
     refine zaG (i:=21) (oi:=⟨some 57,.binOp .leq 3 (.tmp 53) (.tmp 56) 3,4,"ref.go:222",#[⟨17,.data⟩,⟨20,.data⟩,⟨7,.guard⟩],some (7,true)⟩) ?_;try simp only [Act.put,sLz]
     refine zag (i:=22) (oi:=⟨some 58,.pick (.tmp 43) (.tmp 57) (.const (.bool false)),4,"ref.go:222",#[⟨7,.data⟩,⟨21,.data⟩],none⟩) ?_;try simp only [Act.put,sLz]
     refine wpAnyH_done kfz ?_ _;go_wp2;exact⟨⟨j+1,zc,jq,hBd,hx⟩,by simp [intOf];omega⟩
    |true=>
     rw [hpu]at dp;by_cases hlh:mt-t.last<=t.hor
     ·have h2:=hany (by rw [ha,hpu];simpa using hlh)
      rw [if_pos h2]at hv;subst hv;have e2:Value.bool (decide (mt-t.last<=t.hor))= .bool true:=by rw [decide_eq_true hlh]
      clear ha hnext hany hlh;go_region_held3(fun w'=>w'.cell? ⟨x6,0,none⟩=some (.i (n:Int))/\w'.cell? ⟨rb,53+n,none⟩=some (.bool true)/\w'.cell? ⟨rb,21+n*4+3,none⟩=some (.i t.last)/\w'.cell? ⟨x6,6,none⟩=some (.i t.hor)) (first|(with_reducible exact⟨d0,dp,dl,d6⟩)) (fail)
      go_wp2;go_ret;exact⟨rfl,hBd⟩
     ·have hx:=hnext (by rw [ha,hpu];simpa using hlh)
      have e2:Value.bool (decide (mt-t.last<=t.hor))= .bool false:=by rw [decide_eq_false hlh]
      clear ha hnext hany hlh hv;go_region_held3(fun w'=>w'.cell? ⟨x6,0,none⟩=some (.i (n:Int))/\w'.cell? ⟨rb,53+n,none⟩=some (.bool true)/\w'.cell? ⟨rb,21+n*4+3,none⟩=some (.i t.last)/\w'.cell? ⟨x6,6,none⟩=some (.i t.hor)) (first|(with_reducible exact⟨d0,dp,dl,d6⟩)) (fail)
      go_wp2;exact⟨⟨j+1,zc,jq,hBd,hx⟩,by simp [intOf];omega⟩
   ·have h2: ¬p.ts.any (ziy p.s tk)=true:=by
     intro h;obtain⟨t,h1,h2⟩:=List.any_eq_true.1 h;obtain⟨i,hi⟩:=List.getElem?_of_mem h1;rw [hal i t (by have:=(List.getElem?_eq_some_iff.1 hi).1;omega) hi]at h2;cases h2
    rw [if_neg h2]at hv;subst hv;clear hal hal0 h2;go_wp2;go_ret;exact⟨rfl,hB⟩
structure Inv (p:PS):Prop where
 s:p.s.ok
 t:∀t∈p.ts,t.ok
 la:∀t∈p.ts,t.last<=p.s.now
 st:p.s.start= -1\/(0<=p.s.start/\p.s.start<=p.s.now/\0<=p.s.last/\p.s.last<=p.s.now)
 nw:0<=p.s.now/\p.s.now<=1099511627776
 dr:0<=p.s.drift/\p.s.drift<=9223372036854775807
 len:p.ts.length<=8
 srt:zwy p.ts
theorem Inv.st1{p:PS}(h:Inv p):p.s.start= -1\/(0<=p.s.start/\p.s.start<=1099511627776):=by have:=h.st;have:=h.nw;omega
theorem Inv.st2{p:PS}(h:Inv p):p.s.start= -1\/(0<=p.s.start/\0<=p.s.last/\p.s.last<=p.s.now):=by have:=h.st;omega
theorem Inv.st3{p:PS}(h:Inv p):p.s.start= -1\/(0<=p.s.last/\p.s.last<=p.s.now):=by have:=h.st;omega
theorem Inv.st4{p:PS}(h:Inv p):p.s.start= -1\/0<=p.s.start:=by have:=h.st;omega
theorem zX4{s:NS}(hs:s.ok)(t:Int)(r:V3):0<=(jd s t r).n/\(jd s t r).n<=15:=by
 have:=hs.n;unfold jd zaF;split
 ·show(0:Int)<=0/\(0:Int)<=15
  omega
 ·show 0<=s.a.n+1/\s.a.n+1<=15
  omega
theorem zTp{s:NS}(h:s.ok)(t:Int)(r x:V3):(zEn s t r x).ok:=
 ⟨h.g0,h.g1,h.g2,(zfH _ _).x,(zfH _ _).y,(zfH _ _).z,(zfH _ _).x,(zfH _ _).y,(zfH _ _).z,zNV h t r,zX4 h t r⟩
theorem zTq{p:PS}(h:Inv p)(b:Bool):Inv ⟨p.s.k b,p.ts⟩:=
 ⟨⟨h.s.g0,h.s.g1,h.s.g2,h.s.v0,h.s.v1,h.s.v2,h.s.p0,h.s.p1,h.s.p2,h.s.m,h.s.n⟩,h.t,h.la,h.st,h.nw,h.dr,h.len,h.srt⟩
theorem zTr{p:PS}(h:Inv p)(tk kd:Int)(r x:V3):Inv ⟨zpi p.s tk kd r x,p.ts⟩:=by
 unfold zpi;split
 ·rename_i hc
  have hla:∀t∈p.ts,t.last<=tk:=fun t ht=>Int.le_trans (h.la t ht) hc.2.1
  have hn0:=h.nw;have hst:=h.st;split
  ·exact⟨⟨h.s.g0,h.s.g1,h.s.g2,h.s.v0,h.s.v1,h.s.v2,h.s.p0,h.s.p1,h.s.p2,h.s.m,h.s.n⟩,h.t,hla,.inr ⟨by show 0<=tk;omega,Int.le_refl _,by show 0<=tk;omega,Int.le_refl _⟩,⟨by show 0<=tk;omega,hc.2.2⟩,h.dr,h.len,h.srt⟩
  ·rename_i h0
   have h1:=hst.resolve_left h0;have hk:=zTp (s:={p.s with now:=tk}) ⟨h.s.g0,h.s.g1,h.s.g2,h.s.v0,h.s.v1,h.s.v2,h.s.p0,h.s.p1,h.s.p2,h.s.m,h.s.n⟩ (min (tk-p.s.last) 65535) r x;exact⟨⟨hk.g0,hk.g1,hk.g2,hk.v0,hk.v1,hk.v2,hk.p0,hk.p1,hk.p2,hk.m,hk.n⟩,h.t,hla,.inr ⟨h1.1,by show p.s.start<=tk;omega,by show 0<=tk;omega,Int.le_refl _⟩,⟨by show 0<=tk;omega,hc.2.2⟩,h.dr,h.len,h.srt⟩
 ·exact h
theorem zTs{p:PS}(h:Inv p)(sr:Int)(r:Rd):Inv (zaJ p sr r).2.2.2:=by
 unfold zaJ;split
 ·exact h
 ·split
  ·split
   ·exact h
   ·exact zTq h _
  ·exact h
theorem zWZ(a b:Int):zr (zee a b):=by unfold zee zr;omega
theorem zW0(s:NS)(t:TK)(r:Rd):(zds s t r).I:=by
 have z:zr 0:=by unfold zr;omega
 unfold zds;split
 ·exact⟨jk _,z,z⟩
 ·split
  ·exact⟨zWZ _ _,z,z⟩
  ·split
   ·exact⟨jk _,z,z⟩
   ·split
    ·exact⟨jk _,jk _,jk _⟩
    ·exact⟨z,z,z⟩
theorem zW1(p:PS)(sr:Int)(r:Rd):(zaJ p sr r).1.I:=by
 have z:zr 0:=by unfold zr;omega
 unfold zaJ;split
 ·exact⟨z,z,z⟩
 ·split
  ·split
   ·exact⟨z,z,z⟩
   ·exact zW0 _ _ _
  ·exact⟨z,z,z⟩
theorem zBu{p:PS}(h:Inv p):Inv (zct p).2:=zTq h _
theorem zBv:∀{f:TK->TK} {ts:List TK} {k:Int} {u:TK},u∈zk9 f ts k->u∈ts\/∃t∈ts,u=f t
 |_,[],_,_,h=>by cases h
 |f,t::r,k,u,h=>by
  unfold zk9 at h;split at h
  ·rcases List.mem_cons.1 h with rfl|h
   ·exact .inr ⟨t,List.mem_cons_self ..,rfl⟩
   ·exact .inl (List.mem_cons_of_mem _ h)
  ·rcases List.mem_cons.1 h with rfl|h
   ·exact .inl (List.mem_cons_self ..)
   ·rcases zBv h with h|⟨t',h1,h2⟩
    ·exact .inl (List.mem_cons_of_mem _ h)
    ·exact .inr ⟨t',List.mem_cons_of_mem _ h1,h2⟩
theorem zBw{f:TK->TK}(hf:∀t,(f t).src=t.src):∀(ts:List TK) (k:Int),(zk9 f ts k).map (·.src)=ts.map (·.src)
 |[],_=>rfl
 |t::r,k=>by
  unfold zk9;split
  ·simp [hf]
  ·simp [zBw hf r k]
theorem zL7{ts ts':List TK}(h:ts'.map (·.src)=ts.map (·.src))(hs:zwy ts):zwy ts':=by
 unfold zwy at*
 have h1:(ts.map (·.src)).Pairwise (· <·):=List.pairwise_map.2 hs;rw [<-h]at h1;exact List.pairwise_map.1 h1
theorem zH2{g s l c off:Int}(hl:0<=l): -l<=ji g s l c off/\ji g s l c off<=l:=by
 unfold ji zoX;omega
theorem zOz{n k a c l:Int}(h1: -l<=a/\a<=l)(h2: -l<=c/\c<=l): -l<=axV n k a c/\axV n k a c<=l:=by
 unfold axV;split
 ·exact h1
 ·exact h2
theorem zTt{s h la t l c:Int}(hs:0<=s)(hl:0<=l)(hc: -l<=c/\c<=l): -l<=fdV s h la t c/\fdV s h la t c<=l:=by
 unfold fdV zd1;split
 ·omega
 ·split<;>omega
theorem zTu{t:TK}(h:t.ok)(o:V3){tk:Int}(h0:0<=tk/\tk<=1099511627776):(zs8 t o tk).ok:=by
 obtain⟨_,c0,c1,c2⟩:=h.corr;have hl:0<=t.limit:=h.rule.2.2.2.1;exact⟨h.src,h.kd,h.wt,h.rule,h.st,h.lim,h0,zOz (zH2 hl) c0,zOz (zH2 hl) c1,zOz (zH2 hl) c2⟩
theorem zTv{t:TK}(h:t.ok)(tk:Int):(znl tk t).ok:=by
 obtain⟨cl,c0,c1,c2⟩:=h.corr;have hl:0<=t.limit:=h.rule.2.2.2.1;have hs:0<=t.step:=h.rule.2.2.1;exact⟨h.src,h.kd,h.wt,h.rule,h.st,h.lim,cl,zTt hs hl c0,zTt hs hl c1,zTt hs hl c2⟩
theorem zEx{p:PS}(h:Inv p)(sr:Int)(o:V3)(tk:Int):Inv (zkJ p sr o tk).2:=by
 unfold zkJ;split
 ·exact h
 ·split
  ·rename_i hc
   split
   ·exact h
   ·rename_i h0
    have h1:=h.st.resolve_left h0;have hn0:=h.nw;refine⟨⟨h.s.g0,h.s.g1,h.s.g2,h.s.v0,h.s.v1,h.s.v2,h.s.p0,h.s.p1,h.s.p2,h.s.m,h.s.n⟩,fun u hu=> ?_,fun u hu=> ?_,.inr ⟨h1.1,by show p.s.start<=tk;omega,h1.2.2.1,by show p.s.last<=tk;omega⟩,⟨by show 0<=tk;omega,hc.2⟩,h.dr,?_,zL7 (zBw (f:=(zs8 · o tk)) (fun _=>rfl) p.ts sr) h.srt⟩
    ·rcases zBv hu with h2|⟨t,h2,rfl⟩
     ·exact h.t u h2
     ·exact zTu (h.t t h2) o zc
    ·rcases zBv hu with h2|⟨t,h2,rfl⟩
     ·exact Int.le_trans (h.la u h2) hc.1
     ·exact Int.le_refl _
    ·have:=congrArg List.length (zBw (f:=(zs8 · o tk)) (fun _=>rfl) p.ts sr)
     simp only [List.length_map]at this;show(zk9 _ p.ts sr).length<=8;rw [this];exact h.len
  ·exact h
theorem zRs{p:PS}(h:Inv p)(tk:Int):Inv (zor p tk).2:=by
 unfold zor;split
 ·rename_i hc
  have hn0:=h.nw;have hst:=h.st;refine⟨⟨h.s.g0,h.s.g1,h.s.g2,h.s.v0,h.s.v1,h.s.v2,h.s.p0,h.s.p1,h.s.p2,h.s.m,h.s.n⟩,fun u hu=> ?_,fun u hu=> ?_,?_,⟨by show 0<=tk;omega,hc.2⟩,h.dr,?_,zL7 (by rw [List.map_map];rfl) h.srt⟩
  ·obtain⟨t,ht,rfl⟩:=List.mem_map.1 hu
   exact zTv (h.t t ht) tk
  ·obtain⟨t,ht,rfl⟩:=List.mem_map.1 hu
   exact Int.le_trans (h.la t ht) hc.1
  ·show p.s.start= -1\/(0<=p.s.start/\p.s.start<=tk/\0<=p.s.last/\p.s.last<=tk)
   omega
  ·show(p.ts.map _).length<=8
   rw [List.length_map];exact h.len
 ·exact h
structure AD.I (a:AD):Prop where
 step:zr a.step
 limit:zr a.limit
theorem zEy:∀{s:Int} {l:List AD},zkL s l->(∀a∈l,znm a/\s<a.src)/\l.Pairwise (fun a b=>a.src<b.src)
 |_,[],_=>⟨fun _ h=>by simp at h,List.Pairwise.nil⟩
 |s,b::r,h=>by
  obtain⟨h1,h2⟩:=zEy h.2;refine⟨fun a ha=> ?_,List.pairwise_cons.2 ⟨fun a ha=>(h1 a ha).2,h2⟩⟩;rcases List.mem_cons.1 ha with rfl|ha
  ·exact h.1
  ·exact⟨(h1 a ha).1,Int.lt_trans h.1.2 (h1 a ha).2⟩
theorem zU2:MI zcH.m:=by
 have z:zr 0:=by unfold zr;omega
 have o:zr 4294967296:=by unfold zr;omega
 exact⟨o,z,z,z,o,z,z,z,o⟩
theorem z15:(0:Int)<=0/\(0:Int)<=15/\(0:Int)<=1099511627776:=dcz
theorem zTw{g:V3}{d:Int}{ads:List AD}(hg:g.I)(hd:zr d)(ha:∀a∈ads,a.I)(h:zkM d ads):Inv ⟨zpV g d,ads.map AD.tk⟩:=by
 obtain⟨h1,h2⟩:=zEy h.2.2;have z:zr 0:=by unfold zr;omega
 refine⟨⟨hg.x,hg.y,hg.z,z,z,z,z,z,z,zU2,⟨z15.1,z15.2.1⟩⟩,fun t ht=> ?_,fun t ht=> ?_,.inl rfl,⟨z15.1,z15.2.2⟩,⟨h.1,Int.le_of_lt_add_one hd.2⟩,by simpa using h.2.1,List.pairwise_map.2 h2⟩
 ·obtain⟨a,ha',rfl⟩:=List.mem_map.1 ht
  obtain⟨⟨q1,q2,q3,q4,q5,q6,q7⟩,_⟩:=h1 a ha';have hl:0<=a.limit:=q7.2.2.2.1;exact⟨⟨q1,q2⟩,⟨q3,q4⟩,⟨q5,q6⟩,q7,(ha a ha').step,(ha a ha').limit,⟨⟨z15.1,z15.2.2⟩,⟨by show-a.limit<=0;omega,by show 0<=a.limit;omega⟩,⟨by show-a.limit<=0;omega,by show 0<=a.limit;omega⟩,⟨by show-a.limit<=0;omega,by show 0<=a.limit;omega⟩⟩⟩
 ·obtain⟨a,_,rfl⟩:=List.mem_map.1 ht
  exact Int.le_refl _
abbrev zH3(s:NS)(C:Nat->V3)(L:Nat->Int)(P:Nat->Bool)(sl:Value):Array Value:=#[.i s.g0,.i s.g1,.i s.g2,.i s.drift,sl,.i s.a.m.a0,.i s.a.m.a1,.i s.a.m.a2,.i s.a.m.a3,.i s.a.m.a4,.i s.a.m.a5,.i s.a.m.a6,.i s.a.m.a7,.i s.a.m.a8,.i s.a.n,.i s.v0,.i s.v1,.i s.v2,.i s.p0,.i s.p1,.i s.p2,.i (C 0).x,.i (C 0).y,.i (C 0).z,.i (L 0),.i (C 1).x,.i (C 1).y,.i (C 1).z,.i (L 1),.i (C 2).x,.i (C 2).y,.i (C 2).z,.i (L 2),.i (C 3).x,.i (C 3).y,.i (C 3).z,.i (L 3),.i (C 4).x,.i (C 4).y,.i (C 4).z,.i (L 4),.i (C 5).x,.i (C 5).y,.i (C 5).z,.i (L 5),.i (C 6).x,.i (C 6).y,.i (C 6).z,.i (L 6),.i (C 7).x,.i (C 7).y,.i (C 7).z,.i (L 7),.bool (P 0),.bool (P 1),.bool (P 2),.bool (P 3),.bool (P 4),.bool (P 5),.bool (P 6),.bool (P 7),.i s.start,.i (zBr s),.i s.now,.bool s.cut]
theorem zOA(p:PS)(sl:Value):zOw p sl=zH3 p.s (fun n=>cC p.ts n) (fun n=>cL p.ts n) (fun n=>cP p.ts n) sl:=rfl
def upd{α:Type}(f:Nat->α)(n:Nat)(v:α):Nat->α:=fun m=>if m=n then v else f m
theorem zH4{W:World}{rb:Nat}{s:NS}{C:Nat->V3}{L:Nat->Int}{P:Nat->Bool}{sl:Value}(h:W.heap[rb]? =some (.cells (zH3 s C L P sl) 93 (0,0)))(v:V3)(la:Int):∀n:Nat,n<8->
 ((((W.setCell (.q rb (21+n*4)) (.i v.x)).setCell (.q rb (21+n*4+1)) (.i v.y)).setCell (.q rb (21+n*4+2)) (.i v.z)).setCell (.q rb (21+n*4+3)) (.i la)).heap[rb]? =some (.cells (zH3 s (upd C n v) (upd L n la) P sl) 93 (0,0))
 |0,_=>(zf (zf (zf (zf h)))).trans kfz
 |1,_=>(zf (zf (zf (zf h)))).trans kfz
 |2,_=>(zf (zf (zf (zf h)))).trans kfz
 |3,_=>(zf (zf (zf (zf h)))).trans kfz
 |4,_=>(zf (zf (zf (zf h)))).trans kfz
 |5,_=>(zf (zf (zf (zf h)))).trans kfz
 |6,_=>(zf (zf (zf (zf h)))).trans kfz
 |7,_=>(zf (zf (zf (zf h)))).trans kfz
theorem zPs{W:World}{rb:Nat}{s:NS}{C:Nat->V3}{L:Nat->Int}{P:Nat->Bool}{sl:Value}(h:W.heap[rb]? =some (.cells (zH3 s C L P sl) 93 (0,0)))(b:Bool):∀n:Nat,n<8->
 (W.setCell (.q rb (53+n)) (.bool b)).heap[rb]? =some (.cells (zH3 s C L (upd P n b) sl) 93 (0,0))
 |0,_=>(zf h).trans kfz
 |1,_=>(zf h).trans kfz
 |2,_=>(zf h).trans kfz
 |3,_=>(zf h).trans kfz
 |4,_=>(zf h).trans kfz
 |5,_=>(zf h).trans kfz
 |6,_=>(zf h).trans kfz
 |7,_=>(zf h).trans kfz
theorem zTx{W:World}{rb:Nat}{s:NS}{C:Nat->V3}{L:Nat->Int}{P:Nat->Bool}{sl:Value}(h:W.heap[rb]? =some (.cells (zH3 s C L P sl) 93 (0,0))):∀n:Nat,n<8->W.cell? (.q rb (53+n))=some (.bool (P n))
 |0,_=>za (o:=53) h
 |1,_=>za (o:=54) h
 |2,_=>za (o:=55) h
 |3,_=>za (o:=56) h
 |4,_=>za (o:=57) h
 |5,_=>za (o:=58) h
 |6,_=>za (o:=59) h
 |7,_=>za (o:=60) h
theorem ztG{f:TK->TK}:∀{ts:List TK} {k:Int} {t:TK},zbH ts k=some t->(∀u,(f u).src=u.src)->∀m,zbH (zk9 f ts k) m=if m=k then some (f t)else zbH ts m
 |[],_,_,h,_,_=>by cases h
 |a::r,k,t,h,hf,m=>by
  unfold zbH at h;unfold zk9;by_cases hk:k=a.src
  ·rw [if_pos hk]at h⊢
   cases h;unfold zbH;rw [hf];by_cases hm:m=k
   ·rw [if_pos (by rw [hm,hk]),if_pos hm]
   ·rw [if_neg (by rw [<-hk];exact hm),if_neg hm,if_neg (by rw [<-hk];exact hm)]
  ·rw [if_neg hk]at h⊢
   unfold zbH;by_cases hm:m=a.src
   ·rw [if_pos hm,if_neg (by rw [hm];exact fun e=>hk e.symm),if_pos hm]
   ·rw [if_neg hm,if_neg hm]
    exact ztG h hf m
theorem zOB{f:TK->TK}{ts:List TK}{n:Nat}{t:TK}(h:zbH ts n=some t)(hf:∀u,(f u).src=u.src):
 (fun m:Nat=>cC (zk9 f ts n) m)=upd (fun m:Nat=>cC ts m) n (f t).c/\(fun m:Nat=>cL (zk9 f ts n) m)=upd (fun m:Nat=>cL ts m) n (f t).last/\(fun m:Nat=>cP (zk9 f ts n) m)=upd (fun m:Nat=>cP ts m) n (f t).pulled:=by
 refine⟨funext fun m=> ?_,funext fun m=> ?_,funext fun m=> ?_⟩<;>unfold upd
 ·unfold cC
  rw [ztG h hf];by_cases e:m=n
  ·rw [if_pos (by rw [e]),if_pos e]
  ·rw [if_neg zc,if_neg e]
 ·unfold cL
  rw [ztG h hf];by_cases e:m=n
  ·rw [if_pos (by rw [e]),if_pos e]
  ·rw [if_neg zc,if_neg e]
 ·unfold cP
  rw [ztG h hf];by_cases e:m=n
  ·rw [if_pos (by rw [e]),if_pos e]
  ·rw [if_neg zc,if_neg e]
theorem zTy{α:Type}{f:Nat->α}{n:Nat}{v:α}(h:f n=v):upd f n v=f:=funext fun m=>by
 unfold upd;split
 ·rename_i e;rw [e,h]
 ·rfl
theorem zwz{f:TK->TK}:∀(ts:List TK) (k:Int),(zk9 f ts k).length=ts.length
 |[],_=>rfl
 |a::r,k=>by
  unfold zk9;split
  ·rfl
  ·simp [zwz r k]
theorem ztH{f:TK->TK}(hf:∀u:TK,(f u).src=u.src/\(f u).kd=u.kd/\(f u).wt=u.wt/\(f u).gain=u.gain/\(f u).step=u.step/\(f u).limit=u.limit/\(f u).hor=u.hor):∀(ts:List TK) (k:Int),zep ts (zk9 f ts k)
 |[],_=>zep.refl _
 |a::r,k=>by
  unfold zk9;by_cases hk:k=a.src
  ·rw [if_pos hk]
   refine⟨rfl,fun i t' hi=> ?_⟩;cases i with
   |zero=>cases hi;exact⟨a,rfl,hf a⟩
   |succ i=>exact⟨t',hi,rfl,rfl,rfl,rfl,rfl,rfl,rfl⟩
  ·rw [if_neg hk]
   obtain⟨h1,h2⟩:=ztH hf r k;refine⟨by simp [h1],fun i t' hi=> ?_⟩;cases i with
   |zero=>cases hi;exact⟨a,rfl,rfl,rfl,rfl,rfl,rfl,rfl,rfl⟩
   |succ i=>exact h2 i t' (by simpa using hi)
theorem zU3{t:TK}{o:V3}{tk now:Int}(hto:t.ok)(ho:o.I)(hlt:t.last<=now)(ht:now<=tk/\tk<=1099511627776)(w:World):
 Calls PP 74 #[.agg #[.i t.gain,.i t.step,.i t.limit,.i t.hor],.agg #[.i t.c.x,.i t.c.y,.i t.c.z,.i t.last],.agg #[.i o.x,.i o.y,.i o.z],.i (axN t.kd),.i tk] w fun e w'=>
  e= .returned (.tuple #[.agg #[.i (axV (axN t.kd) 0 (ji t.gain t.step t.limit t.c.x o.x) t.c.x),.i (axV (axN t.kd) 1 (ji t.gain t.step t.limit t.c.y o.y) t.c.y),.i (axV (axN t.kd) 2 (ji t.gain t.step t.limit t.c.z o.z) t.c.z),.i tk],.i 0])/\Below w.heap.size w w':=
 zHY hto.st hto.lim ho.x ho.y ho.z (g:=t.gain) (h:=t.hor) (c0:=t.c.x) (c1:=t.c.y) (c2:=t.c.z) (la:=t.last) (n:=axN t.kd) (t:=tk) ⟨hto.rule,hto.corr,⟨Int.le_trans hlt ht.1,ht.2⟩,zVS t.kd⟩ w
theorem zL8(rb:Nat)(rp:Option Addr)(cap:Nat)(p:PS)(hl:p.ts.length<=8)(hp:∀t∈p.ts,t.ok)(hla:∀t∈p.ts,t.last<=p.s.now)(hst:p.s.start= -1\/0<=p.s.start)(sr:Int)(o:V3)(ho:o.I)(tk:Int)(w:World)(hR:zaz w rb rp cap p):
 Calls PP 29 #[ptB rb,.i sr,.agg #[.i o.x,.i o.y,.i o.z],.i tk] w fun e w'=>e= .returned (.i (zkJ p sr o tk).1)/\zaz w' rb rp cap (zkJ p sr o tk).2/\Chg rb w w':=by
 obtain⟨v,hv⟩:∃v,v=zkJ p sr o tk:=⟨_,rfl⟩;rw [<-hv];unfold zkJ at hv;have hAo:Below w.heap.size w (w.alloc (.cells (v3z o) 24)):=(Below.refl _ w).alloc (Nat.le_refl _) _;have ha:=fun W (hB:Below w.heap.size w W)=>zeD rb rp cap p hl sr W (hR.below hB)
 have hox:(w.alloc (.cells (v3z o) 24)).heap[w.heap.size]? =some (.cells (v3z o) 24 (0,0)):=heap_alloc_new w _;go_enter Proofs.Tryz.func29,Proofs.Tryz.ntmps29
 cases hq:zbH p.ts sr with
 |none=>
  rw [hq]at ha hv;dsimp only at ha hv;subst hv;go_wp2_with(go_at_call 68;refine(ha _ hAo).mono ?_;clear ha;rintro e w1 ⟨rfl,hB1⟩)
  go_ret;have hB2:Below w.heap.size w w1:=hAo.trans (hB1.mono hAo.size);exact⟨rfl,hR.below (hB2.alloc hB2.size _),Chg.of (hB2.alloc hB2.size _)⟩
 |some t=>
  rw [hq]at ha hv;dsimp only at ha hv;have hto:=hp t (zcM hq);have hlt:=hla t (zcM hq);have hA2:∀w1,Below (w.alloc (.cells (v3z o) 24)).heap.size (w.alloc (.cells (v3z o) 24)) w1->Below w.heap.size w (w1.alloc (.cells (tkA t) 96)):=fun w1 hB=>by
   have hB2:Below w.heap.size w w1:=hAo.trans (hB.mono hAo.size);exact hB2.alloc hB2.size _
  by_cases h1:tk<p.s.now
  ·rw [if_neg zc]at hv
   subst hv;go_wp2_with(go_at_call 68;refine(ha _ hAo).mono ?_;clear ha;rintro e w1 ⟨rfl,hB1⟩;have c63:=zi 63 (hR.below (hA2 w1 hB1)).blk rfl)
   go_ret;exact⟨rfl,hR.below (hA2 w1 hB1),Chg.of (hA2 w1 hB1)⟩
  ·by_cases h2:1099511627776<tk
   ·rw [if_neg zc]at hv
    subst hv;go_wp2_with(go_at_call 68;refine(ha _ hAo).mono ?_;clear ha;rintro e w1 ⟨rfl,hB1⟩;have c63:=zi 63 (hR.below (hA2 w1 hB1)).blk rfl)
    go_ret;exact⟨rfl,hR.below (hA2 w1 hB1),Chg.of (hA2 w1 hB1)⟩
   ·rw [if_pos zc]at hv
    by_cases h0:p.s.start= -1
    ·rw [if_pos h0]at hv
     subst hv;go_wp2_with(go_at_call 68;refine(ha _ hAo).mono ?_;clear ha;rintro e w1 ⟨rfl,hB1⟩;have c63:=zi 63 (hR.below (hA2 w1 hB1)).blk rfl;have c61:(w1.alloc (.cells (tkA t) 96)).cell? (.q rb 61)=some (.i (-1)):=h0▸za (hR.below (hA2 w1 hB1)).blk)
     go_ret;exact⟨rfl,hR.below (hA2 w1 hB1),Chg.of (hA2 w1 hB1)⟩
    ·rw [if_neg h0]at hv
     have hs1:=hst.resolve_left h0;have hs2: ¬p.s.start<0:=zc;have hsrc:=zg5 hq;obtain⟨n,rfl⟩:∃n:Nat,sr=n:=⟨sr.toNat,by have:=hto.src;omega⟩;have hn8:n<8:=by have:=hto.src;omega
     have hn8i:(n:Int)<8:=zc;have hpl:=fun w=>zU3 hto ho hlt (show p.s.now<=tk/\tk<=1099511627776 from zc) w
     subst hv;by_cases hk5:t.kd=5
     ·have k5:(t.kd==5)=true:=by simpa using hk5
      have hax:axN t.kd=3:=by unfold axN;rw [if_pos hk5]
      rw [hax]at hpl;clear hk5 hsrc hs1;go_wp2_with(go_at_call 68;refine(ha _ hAo).mono ?_;clear ha;rintro e w1 ⟨rfl,hB1⟩;have hR2:=hR.below (hA2 w1 hB1);have h9:(w1.alloc (.cells (tkA t) 96)).heap[w1.heap.size]? =some (.cells (tkA t) 96 (0,0)):=heap_alloc_new w1 _;have c63:=zi 63 hR2.blk rfl;have c61:=zi 61 hR2.blk rfl;have k1:=zi 1 h9 rfl;have f63:=zC 63 hR2.blk)
      have hx1:(w1.alloc (.cells (tkA t) 96)).heap[w.heap.size]? =some (.cells (v3z o) 24 (0,0)):=(heap_alloc_old _ _ (by have:=hB1.size;simp at this;omega)).trans ((hB1.block _ jq).trans hox);have hCh:Chg rb w ((w1.alloc (.cells (tkA t) 96)).setCell (.q rb 63) (.i tk)):=(Chg.of (hA2 w1 hB1)).setCell 63 _;have hR3:zaz ((w1.alloc (.cells (tkA t) 96)).setCell (.q rb 63) (.i tk)) rb rp cap ⟨{p.s with now:=tk},p.ts⟩:=hR.chg hCh (zf hR2.blk) (zep.refl _);have hrl:=hR.lt;have hxs:w.heap.size<w1.heap.size:=by have:=hB1.size;simp at this;omega
      replace h9:((w1.alloc (.cells (tkA t) 96)).setCell (.q rb 63) (.i tk)).heap[w1.heap.size]? =some (.cells (tkA t) 96 (0,0)):=zt h9 zc;replace hx1:((w1.alloc (.cells (tkA t) 96)).setCell (.q rb 63) (.i tk)).heap[w.heap.size]? =some (.cells (v3z o) 24 (0,0)):=zt hx1 zc;clear hR2 c63 c61 k1 f63 hB1 hA2;generalize(w1.alloc (.cells (tkA t) 96)).setCell (.q rb 63) (.i tk)=w3 at*
      generalize w1.heap.size=x9 at*
      obtain⟨x0,hx0⟩:∃x,x=w.heap.size:=⟨_,rfl⟩;rw [<-hx0]at hx1 hxs hrl⊢;have hx0s:w.heap.size<=x0:=zc;clear hx0 hox hAo;have hcc:cC p.ts n=t.c/\cL p.ts n=t.last:=by unfold cC cL;rw [hq];exact⟨rfl,rfl⟩
      have hce:∀W:World,zaz W rb rp cap ⟨{p.s with now:=tk},p.ts⟩->W.cell? (.q rb (21+n*4))=some (.i t.c.x)/\W.cell? (.q rb (21+n*4+1))=some (.i t.c.y)/\W.cell? (.q rb (21+n*4+2))=some (.i t.c.z)/\W.cell? (.q rb (21+n*4+3))=some (.i t.last):=fun W h=>by
       have h1:=h.cX n hn8;have h2:=h.cY n hn8;have h3:=h.cZ n hn8;have h4:=h.cL n hn8;rw [hcc.1]at h1 h2 h3;rw [hcc.2]at h4;exact⟨h1,h2,h3,h4⟩
      obtain⟨e7,e8,e9,e10⟩:=hce w3 hR3;have hS:∀W:World,W.heap[x9]? =some (.cells (tkA t) 96 (0,0))->W.heap[x0]? =some (.cells (v3z o) 24 (0,0))->W.cell? (.q x9 3)=some (.i t.gain)/\W.cell? (.q x9 4)=some (.i t.step)/\W.cell? (.q x9 5)=some (.i t.limit)/\W.cell? (.q x9 6)=some (.i t.hor)/\W.cell? (.q x0 0)=some (.i o.x)/\W.cell? (.q x0 1)=some (.i o.y)/\W.cell? (.q x0 2)=some (.i o.z):=fun W h1 h2=>⟨za h1,za h1,za h1,za h1,za h2,za h2,za h2⟩
      have h9d:w3.drew.heap[x9]? =some (.cells (tkA t) 96 (0,0)):=h9;have hxd:w3.drew.heap[x0]? =some (.cells (v3z o) 24 (0,0)):=hx1;clear hs2;rw [show Op.load 89 (.tmp 53)=ldq 89 (.tmp 53)from rfl];go_region_held3(fun w'=>w'.cell? (.q x9 3)=some (.i t.gain)/\w'.cell? (.q x9 4)=some (.i t.step)/\w'.cell? (.q x9 5)=some (.i t.limit)/\w'.cell? (.q x9 6)=some (.i t.hor)/\w'.cell? (.q x0 0)=some (.i o.x)/\w'.cell? (.q x0 1)=some (.i o.y)/\w'.cell? (.q x0 2)=some (.i o.z)) (first|(with_reducible exact hS _ h9d hxd)|(with_reducible exact hS _ h9p hxp)|(with_reducible exact hS _ h9s hxs2))
       (first
         |(go_at_call 74
           refine(hpl _).mono ?_;rintro e wp ⟨rfl,hBp⟩;have h9p:wp.heap[x9]? =some (.cells (tkA t) 96 (0,0)):=(hBp.block _ (zy h9)).trans h9;have hxp:wp.heap[x0]? =some (.cells (v3z o) 24 (0,0)):=(hBp.block _ (zy hx1)).trans hx1;have hRp:zaz wp rb rp cap ⟨{p.s with now:=tk},p.ts⟩:=hR3.below ((⟨rfl,rfl,rfl,Nat.le_refl _,fun _ _=>rfl⟩:Below w3.heap.size w3 w3.drew).trans hBp);obtain⟨g7,g8,g9,g10⟩:=hce wp hRp;have r7:wp.frozen? (.q rb (21+n*4))=false:=zE hRp.blk (by simp;omega);have r8:wp.frozen? (.q rb (21+n*4+1))=false:=zE hRp.blk (by simp;omega);have r9:wp.frozen? (.q rb (21+n*4+2))=false:=zE hRp.blk (by simp;omega)
           have r10:wp.frozen? (.q rb (21+n*4+3))=false:=zE hRp.blk (by simp;omega);have h9s:((((wp.setCell (.q rb (21+n*4)) (.i (axV (3) 0 (ji t.gain t.step t.limit t.c.x o.x) t.c.x))).setCell (.q rb (21+n*4+1)) (.i (axV (3) 1 (ji t.gain t.step t.limit t.c.y o.y) t.c.y))).setCell (.q rb (21+n*4+2)) (.i (axV (3) 2 (ji t.gain t.step t.limit t.c.z o.z) t.c.z))).setCell (.q rb (21+n*4+3)) (.i (tk))).heap[x9]? =some (.cells (tkA t) 96 (0,0)):=zt (zt (zt (zt h9p zc) zc) zc) zc
           have hxs2:((((wp.setCell (.q rb (21+n*4)) (.i (axV (3) 0 (ji t.gain t.step t.limit t.c.x o.x) t.c.x))).setCell (.q rb (21+n*4+1)) (.i (axV (3) 1 (ji t.gain t.step t.limit t.c.y o.y) t.c.y))).setCell (.q rb (21+n*4+2)) (.i (axV (3) 2 (ji t.gain t.step t.limit t.c.z o.z) t.c.z))).setCell (.q rb (21+n*4+3)) (.i (tk))).heap[x0]? =some (.cells (v3z o) 24 (0,0)):=zt (zt (zt (zt hxp zc) zc) zc) zc))
      have hst4:((((wp.setCell (.q rb (21+n*4)) (.i (axV (3) 0 (ji t.gain t.step t.limit t.c.x o.x) t.c.x))).setCell (.q rb (21+n*4+1)) (.i (axV (3) 1 (ji t.gain t.step t.limit t.c.y o.y) t.c.y))).setCell (.q rb (21+n*4+2)) (.i (axV (3) 2 (ji t.gain t.step t.limit t.c.z o.z) t.c.z))).setCell (.q rb (21+n*4+3)) (.i (tk))).heap[rb]? =some (.cells (zH3 {p.s with now:=tk} (upd (fun m=>cC p.ts m) n (⟨axV 3 0 (ji t.gain t.step t.limit t.c.x o.x) t.c.x,axV 3 1 (ji t.gain t.step t.limit t.c.y o.y) t.c.y,axV 3 2 (ji t.gain t.step t.limit t.c.z o.z) t.c.z⟩:V3)) (upd (fun m=>cL p.ts m) n tk) (fun m=>cP p.ts m) (slR rp p cap)) 93 (0,0)):=zH4 (W:=wp) hRp.blk (⟨axV 3 0 (ji t.gain t.step t.limit t.c.x o.x) t.c.x,axV 3 1 (ji t.gain t.step t.limit t.c.y o.y) t.c.y,axV 3 2 (ji t.gain t.step t.limit t.c.z o.z) t.c.z⟩:V3) tk n hn8
      have hch4:Chg rb w ((((wp.setCell (.q rb (21+n*4)) (.i (axV (3) 0 (ji t.gain t.step t.limit t.c.x o.x) t.c.x))).setCell (.q rb (21+n*4+1)) (.i (axV (3) 1 (ji t.gain t.step t.limit t.c.y o.y) t.c.y))).setCell (.q rb (21+n*4+2)) (.i (axV (3) 2 (ji t.gain t.step t.limit t.c.z o.z) t.c.z))).setCell (.q rb (21+n*4+3)) (.i (tk))):=((((hCh.trans (Chg.drew (Chg.refl rb w3))).trans (Chg.of hBp)).setCell _ _).setCell _ _).setCell _ _|>.setCell _ _;generalize((((wp.setCell (.q rb (21+n*4)) (.i (axV (3) 0 (ji t.gain t.step t.limit t.c.x o.x) t.c.x))).setCell (.q rb (21+n*4+1)) (.i (axV (3) 1 (ji t.gain t.step t.limit t.c.y o.y) t.c.y))).setCell (.q rb (21+n*4+2)) (.i (axV (3) 2 (ji t.gain t.step t.limit t.c.z o.z) t.c.z))).setCell (.q rb (21+n*4+3)) (.i (tk)))=w4 at*
      have f53:w4.frozen? (.q rb (53+n))=false:=zE hst4 (by simp;omega);have k53:w4.cell? (.q rb (53+n))=some (.bool (cP p.ts n)):=zTx hst4 n hn8;go_wp2;go_ret;have hst5:=zPs hst4 true n hn8;have hch5:=hch4.setCell (53+n) (.bool true);refine⟨rfl,hR.chg hch5 ?_ (ztH (f:=(zs8 · o tk)) (fun u=>⟨rfl,rfl,rfl,rfl,rfl,rfl,rfl⟩) p.ts n),hch5⟩;obtain⟨u1,u2,u3⟩:=zOB (f:=(zs8 · o tk)) hq (fun u=>rfl);rw [hst5,zOA];dsimp only;rw [u1,u2,u3];simp only [zs8,hax,slR,zwz]
     ·have k5:(t.kd==5)=false:=by simpa using hk5
      have hax:axN t.kd=1:=by unfold axN;rw [if_neg hk5]
      rw [hax]at hpl;clear hk5 hsrc hs1;go_wp2_with(go_at_call 68;refine(ha _ hAo).mono ?_;clear ha;rintro e w1 ⟨rfl,hB1⟩;have hR2:=hR.below (hA2 w1 hB1);have h9:(w1.alloc (.cells (tkA t) 96)).heap[w1.heap.size]? =some (.cells (tkA t) 96 (0,0)):=heap_alloc_new w1 _;have c63:=zi 63 hR2.blk rfl;have c61:=zi 61 hR2.blk rfl;have k1:=zi 1 h9 rfl;have f63:=zC 63 hR2.blk)
      have hx1:(w1.alloc (.cells (tkA t) 96)).heap[w.heap.size]? =some (.cells (v3z o) 24 (0,0)):=(heap_alloc_old _ _ (by have:=hB1.size;simp at this;omega)).trans ((hB1.block _ jq).trans hox);have hCh:Chg rb w ((w1.alloc (.cells (tkA t) 96)).setCell (.q rb 63) (.i tk)):=(Chg.of (hA2 w1 hB1)).setCell 63 _;have hR3:zaz ((w1.alloc (.cells (tkA t) 96)).setCell (.q rb 63) (.i tk)) rb rp cap ⟨{p.s with now:=tk},p.ts⟩:=hR.chg hCh (zf hR2.blk) (zep.refl _);have hrl:=hR.lt;have hxs:w.heap.size<w1.heap.size:=by have:=hB1.size;simp at this;omega
      replace h9:((w1.alloc (.cells (tkA t) 96)).setCell (.q rb 63) (.i tk)).heap[w1.heap.size]? =some (.cells (tkA t) 96 (0,0)):=zt h9 zc;replace hx1:((w1.alloc (.cells (tkA t) 96)).setCell (.q rb 63) (.i tk)).heap[w.heap.size]? =some (.cells (v3z o) 24 (0,0)):=zt hx1 zc;clear hR2 c63 c61 k1 f63 hB1 hA2;generalize(w1.alloc (.cells (tkA t) 96)).setCell (.q rb 63) (.i tk)=w3 at*
      generalize w1.heap.size=x9 at*
      obtain⟨x0,hx0⟩:∃x,x=w.heap.size:=⟨_,rfl⟩;rw [<-hx0]at hx1 hxs hrl⊢;have hx0s:w.heap.size<=x0:=zc;clear hx0 hox hAo;have hcc:cC p.ts n=t.c/\cL p.ts n=t.last:=by unfold cC cL;rw [hq];exact⟨rfl,rfl⟩
      have hce:∀W:World,zaz W rb rp cap ⟨{p.s with now:=tk},p.ts⟩->W.cell? (.q rb (21+n*4))=some (.i t.c.x)/\W.cell? (.q rb (21+n*4+1))=some (.i t.c.y)/\W.cell? (.q rb (21+n*4+2))=some (.i t.c.z)/\W.cell? (.q rb (21+n*4+3))=some (.i t.last):=fun W h=>by
       have h1:=h.cX n hn8;have h2:=h.cY n hn8;have h3:=h.cZ n hn8;have h4:=h.cL n hn8;rw [hcc.1]at h1 h2 h3;rw [hcc.2]at h4;exact⟨h1,h2,h3,h4⟩
      obtain⟨e7,e8,e9,e10⟩:=hce w3 hR3;have hS:∀W:World,W.heap[x9]? =some (.cells (tkA t) 96 (0,0))->W.heap[x0]? =some (.cells (v3z o) 24 (0,0))->W.cell? (.q x9 3)=some (.i t.gain)/\W.cell? (.q x9 4)=some (.i t.step)/\W.cell? (.q x9 5)=some (.i t.limit)/\W.cell? (.q x9 6)=some (.i t.hor)/\W.cell? (.q x0 0)=some (.i o.x)/\W.cell? (.q x0 1)=some (.i o.y)/\W.cell? (.q x0 2)=some (.i o.z):=fun W h1 h2=>⟨za h1,za h1,za h1,za h1,za h2,za h2,za h2⟩
      have h9d:w3.drew.heap[x9]? =some (.cells (tkA t) 96 (0,0)):=h9;have hxd:w3.drew.heap[x0]? =some (.cells (v3z o) 24 (0,0)):=hx1;clear hs2;rw [show Op.load 89 (.tmp 53)=ldq 89 (.tmp 53)from rfl];go_region_held3(fun w'=>w'.cell? (.q x9 3)=some (.i t.gain)/\w'.cell? (.q x9 4)=some (.i t.step)/\w'.cell? (.q x9 5)=some (.i t.limit)/\w'.cell? (.q x9 6)=some (.i t.hor)/\w'.cell? (.q x0 0)=some (.i o.x)/\w'.cell? (.q x0 1)=some (.i o.y)/\w'.cell? (.q x0 2)=some (.i o.z)) (first|(with_reducible exact hS _ h9d hxd)|(with_reducible exact hS _ h9p hxp)|(with_reducible exact hS _ h9s hxs2))
       (first
         |(go_at_call 74
           refine(hpl _).mono ?_;rintro e wp ⟨rfl,hBp⟩;have h9p:wp.heap[x9]? =some (.cells (tkA t) 96 (0,0)):=(hBp.block _ (zy h9)).trans h9;have hxp:wp.heap[x0]? =some (.cells (v3z o) 24 (0,0)):=(hBp.block _ (zy hx1)).trans hx1;have hRp:zaz wp rb rp cap ⟨{p.s with now:=tk},p.ts⟩:=hR3.below ((⟨rfl,rfl,rfl,Nat.le_refl _,fun _ _=>rfl⟩:Below w3.heap.size w3 w3.drew).trans hBp);obtain⟨g7,g8,g9,g10⟩:=hce wp hRp;have r7:wp.frozen? (.q rb (21+n*4))=false:=zE hRp.blk (by simp;omega);have r8:wp.frozen? (.q rb (21+n*4+1))=false:=zE hRp.blk (by simp;omega);have r9:wp.frozen? (.q rb (21+n*4+2))=false:=zE hRp.blk (by simp;omega)
           have r10:wp.frozen? (.q rb (21+n*4+3))=false:=zE hRp.blk (by simp;omega);have h9s:((((wp.setCell (.q rb (21+n*4)) (.i (axV (1) 0 (ji t.gain t.step t.limit t.c.x o.x) t.c.x))).setCell (.q rb (21+n*4+1)) (.i (axV (1) 1 (ji t.gain t.step t.limit t.c.y o.y) t.c.y))).setCell (.q rb (21+n*4+2)) (.i (axV (1) 2 (ji t.gain t.step t.limit t.c.z o.z) t.c.z))).setCell (.q rb (21+n*4+3)) (.i (tk))).heap[x9]? =some (.cells (tkA t) 96 (0,0)):=zt (zt (zt (zt h9p zc) zc) zc) zc
           have hxs2:((((wp.setCell (.q rb (21+n*4)) (.i (axV (1) 0 (ji t.gain t.step t.limit t.c.x o.x) t.c.x))).setCell (.q rb (21+n*4+1)) (.i (axV (1) 1 (ji t.gain t.step t.limit t.c.y o.y) t.c.y))).setCell (.q rb (21+n*4+2)) (.i (axV (1) 2 (ji t.gain t.step t.limit t.c.z o.z) t.c.z))).setCell (.q rb (21+n*4+3)) (.i (tk))).heap[x0]? =some (.cells (v3z o) 24 (0,0)):=zt (zt (zt (zt hxp zc) zc) zc) zc))
      have hst4:((((wp.setCell (.q rb (21+n*4)) (.i (axV (1) 0 (ji t.gain t.step t.limit t.c.x o.x) t.c.x))).setCell (.q rb (21+n*4+1)) (.i (axV (1) 1 (ji t.gain t.step t.limit t.c.y o.y) t.c.y))).setCell (.q rb (21+n*4+2)) (.i (axV (1) 2 (ji t.gain t.step t.limit t.c.z o.z) t.c.z))).setCell (.q rb (21+n*4+3)) (.i (tk))).heap[rb]? =some (.cells (zH3 {p.s with now:=tk} (upd (fun m=>cC p.ts m) n (⟨axV 1 0 (ji t.gain t.step t.limit t.c.x o.x) t.c.x,axV 1 1 (ji t.gain t.step t.limit t.c.y o.y) t.c.y,axV 1 2 (ji t.gain t.step t.limit t.c.z o.z) t.c.z⟩:V3)) (upd (fun m=>cL p.ts m) n tk) (fun m=>cP p.ts m) (slR rp p cap)) 93 (0,0)):=zH4 (W:=wp) hRp.blk (⟨axV 1 0 (ji t.gain t.step t.limit t.c.x o.x) t.c.x,axV 1 1 (ji t.gain t.step t.limit t.c.y o.y) t.c.y,axV 1 2 (ji t.gain t.step t.limit t.c.z o.z) t.c.z⟩:V3) tk n hn8
      have hch4:Chg rb w ((((wp.setCell (.q rb (21+n*4)) (.i (axV (1) 0 (ji t.gain t.step t.limit t.c.x o.x) t.c.x))).setCell (.q rb (21+n*4+1)) (.i (axV (1) 1 (ji t.gain t.step t.limit t.c.y o.y) t.c.y))).setCell (.q rb (21+n*4+2)) (.i (axV (1) 2 (ji t.gain t.step t.limit t.c.z o.z) t.c.z))).setCell (.q rb (21+n*4+3)) (.i (tk))):=((((hCh.trans (Chg.drew (Chg.refl rb w3))).trans (Chg.of hBp)).setCell _ _).setCell _ _).setCell _ _|>.setCell _ _;generalize((((wp.setCell (.q rb (21+n*4)) (.i (axV (1) 0 (ji t.gain t.step t.limit t.c.x o.x) t.c.x))).setCell (.q rb (21+n*4+1)) (.i (axV (1) 1 (ji t.gain t.step t.limit t.c.y o.y) t.c.y))).setCell (.q rb (21+n*4+2)) (.i (axV (1) 2 (ji t.gain t.step t.limit t.c.z o.z) t.c.z))).setCell (.q rb (21+n*4+3)) (.i (tk)))=w4 at*
      have f53:w4.frozen? (.q rb (53+n))=false:=zE hst4 (by simp;omega);have k53:w4.cell? (.q rb (53+n))=some (.bool (cP p.ts n)):=zTx hst4 n hn8;go_wp2;go_ret;have hst5:=zPs hst4 true n hn8;have hch5:=hch4.setCell (53+n) (.bool true);refine⟨rfl,hR.chg hch5 ?_ (ztH (f:=(zs8 · o tk)) (fun u=>⟨rfl,rfl,rfl,rfl,rfl,rfl,rfl⟩) p.ts n),hch5⟩;obtain⟨u1,u2,u3⟩:=zOB (f:=(zs8 · o tk)) hq (fun u=>rfl);rw [hst5,zOA];dsimp only;rw [u1,u2,u3];simp only [zs8,hax,slR,zwz]
def tsJ(tk:Int)(ts:List TK)(j:Nat):List TK:=(ts.take j).map (znl tk)++ts.drop j
theorem zBx{f:TK->TK}:∀{l1 l2:List TK} {t:TK},(∀u∈l1,u.src≠t.src)->zk9 f (l1++t::l2) t.src=l1++f t::l2
 |[],l2,t,_=>by
  show zk9 f (t::l2) t.src=_;unfold zk9;rw [if_pos rfl];rfl
 |a::r,l2,t,h=>by
  show zk9 f (a::(r++t::l2)) t.src=_;unfold zk9;rw [if_neg (fun e=>h a (List.mem_cons_self ..) e.symm),zBx fun u hu=>h u (List.mem_cons_of_mem _ hu)];rfl
theorem zPt(tk:Int)(ts:List TK)(j:Nat):(tsJ tk ts j).map (·.src)=ts.map (·.src):=by
 unfold tsJ;rw [List.map_append,List.map_map,show((fun x:TK=>x.src)∘znl tk)=(fun x=>x.src)from rfl, <-List.map_append,List.take_append_drop]
theorem zU4{tk:Int}{ts:List TK}(h:zwy ts)(j:Nat):zwy (tsJ tk ts j):=by
 unfold zwy at*
 have:(ts.map (·.src)).Pairwise (fun a b=>a<b):=List.pairwise_map.2 h;rw [<-zPt tk ts j]at this;exact List.pairwise_map.1 this
theorem zH5(tk:Int)(ts:List TK)(j:Nat):(tsJ tk ts j).length=ts.length:=by
 have:=congrArg List.length (zPt tk ts j);simpa using this
theorem zW2{tk:Int}{ts:List TK}{j:Nat}{t:TK}(h:ts[j]? =some t):(tsJ tk ts j)[j]? =some t:=by
 obtain⟨h1,h2⟩:=List.getElem?_eq_some_iff.1 h;unfold tsJ;rw [List.getElem?_append_right (by simp;omega)];simp only [List.length_map,List.length_take];rw [show j-min j ts.length=0 from zc,List.getElem?_drop];exact h
theorem zTz{tk:Int}{ts:List TK}(hs:zwy ts){j:Nat}{t:TK}(h:ts[j]? =some t):zk9 (znl tk) (tsJ tk ts j) t.src=tsJ tk ts (j+1):=by
 obtain⟨h1,h2⟩:=List.getElem?_eq_some_iff.1 h;have hd:ts.drop j=t::ts.drop (j+1):=by rw [List.drop_eq_getElem_cons h1,h2]
 unfold tsJ;rw [hd,zBx,zbI h,List.map_append,List.append_assoc]
 ·rfl
 ·intro u hu
  obtain⟨v,hv,rfl⟩:=List.mem_map.1 hu;obtain⟨i,hi⟩:=List.getElem?_of_mem hv;rw [List.getElem?_take]at hi;split at hi
  ·rename_i hij
   obtain⟨g1,g2⟩:=List.getElem?_eq_some_iff.1 hi;have:=(List.pairwise_iff_getElem.1 hs) i j g1 h1 hij;rw [g2,h2]at this;show v.src≠t.src;omega
  ·cases hi
theorem zU5{t:TK}{tk:Int}(hto:t.ok)(ht:t.last<=tk/\tk<=1099511627776)(w:World):
 Calls PP 75 #[.agg #[.i t.gain,.i t.step,.i t.limit,.i t.hor],.agg #[.i t.c.x,.i t.c.y,.i t.c.z,.i t.last],.i tk] w fun e w'=>
  e= .returned (.tuple #[.agg #[.i (fdV t.step t.hor t.last tk t.c.x),.i (fdV t.step t.hor t.last tk t.c.y),.i (fdV t.step t.hor t.last tk t.c.z),.i t.last],.i 0])/\Below w.heap.size w w':=
 zHZ hto.st hto.lim (g:=t.gain) (h:=t.hor) (c0:=t.c.x) (c1:=t.c.y) (c2:=t.c.z) (la:=t.last) (t:=tk) ⟨hto.rule,hto.corr,ht⟩ w
theorem zL9(rb:Nat)(rp:Option Addr)(cap:Nat)(p:PS)(hl:p.ts.length<=8)(hp:∀t∈p.ts,t.ok)(hla:∀t∈p.ts,t.last<=p.s.now)(hsr:zwy p.ts)(tk:Int)(w:World)(hR:zaz w rb rp cap p):
 Calls PP 30 #[ptB rb,.i tk] w fun e w'=>e= .returned (.i (zor p tk).1)/\zaz w' rb rp cap (zor p tk).2/\Chg rb w w':=by
 obtain⟨v,hv⟩:∃v,v=zor p tk:=⟨_,rfl⟩;rw [<-hv];unfold zor at hv;have ha:=zEw rb rp cap p tk w hR;go_enter Proofs.Tryz.func30,Proofs.Tryz.ntmps30
 by_cases ht:p.s.now<=tk/\tk<=1099511627776
 ·rw [if_pos ht]at hv
  replace ha:=ha.mono (R':=fun e w'=>e= .returned (.bool true)/\zaz w' rb rp cap ⟨{p.s with now:=tk},p.ts⟩/\Chg rb w w') fun e w' h=>by
   rcases h with h|h
   ·exact absurd ht h.1
   ·exact h.2
  subst hv;go_wp2_with(go_at_call 60;refine ha.mono ?_;clear ha;rintro e w1 ⟨rfl,hR1,hC1⟩)
  go_loopw [5] (fun v wr=>∃j:Nat,j<=p.ts.length/\v= .i j/\zaz wr rb rp cap ⟨{p.s with now:=tk},tsJ tk p.ts j⟩/\Chg rb w wr) (fun v _=>p.ts.length-(intOf v).toNat)
  case atStart=>exact⟨0,zc,rfl,by simpa [tsJ]using hR1,hC1⟩
  case round=>
   clear hR1 hC1;obtain⟨j,hj,rfl,hR1,hC1⟩:=hrel;have hlen:=zH5 tk p.ts j;have c4:wr.cell? (.q rb 4)=some (.slice rp p.ts.length cap):=(za hR1.blk).trans (by simp [slR,hlen]);by_cases hlt:j<p.ts.length
   ·obtain⟨t,htj⟩:∃t,p.ts[j]? =some t:=⟨_,List.getElem?_eq_getElem hlt⟩
    have hJt:=zW2 (tk:=tk) htj;obtain⟨ab,rfl,hab,e0,e1,e2,e3,e4,e5,e6⟩:=hR1.row j t hJt;have htm:=List.mem_of_getElem? htj;have hto:=hp t htm;have hq:=zH1 (zU4 (tk:=tk) hsr j) hJt;have hsuc:=zTz (tk:=tk) hsr htj;obtain⟨n,hsn⟩:∃n:Nat,t.src=n:=⟨t.src.toNat,by have:=hto.src;omega⟩;have hn8:n<8:=by have:=hto.src;omega
    have hn8i:(n:Int)<8:=zc;rw [hsn]at e0 hq hsuc;have hfd:=fun w=>zU5 hto ⟨Int.le_trans (hla t htm) ht.1,ht.2⟩ w
    have hcc:cC (tsJ tk p.ts j) n=t.c/\cL (tsJ tk p.ts j) n=t.last:=by unfold cC cL;rw [hq];exact⟨rfl,rfl⟩
    have hce:∀W:World,zaz W rb (some (.q ab 0)) cap ⟨{p.s with now:=tk},tsJ tk p.ts j⟩->W.cell? (.q rb (21+n*4))=some (.i t.c.x)/\W.cell? (.q rb (21+n*4+1))=some (.i t.c.y)/\W.cell? (.q rb (21+n*4+2))=some (.i t.c.z)/\W.cell? (.q rb (21+n*4+3))=some (.i t.last):=fun W h=>by
     have h1:=h.cX n hn8;have h2:=h.cY n hn8;have h3:=h.cZ n hn8;have h4:=h.cL n hn8;dsimp only at h1 h2 h3 h4;rw [hcc.1]at h1 h2 h3;rw [hcc.2]at h4;exact⟨h1,h2,h3,h4⟩
    obtain⟨e7,e8,e9,e10⟩:=hce wr hR1;have hab2:∀{k:Nat} {v:Value},wr.cell? (.q ab k)=some v->∀W:World,Chg rb wr W->W.cell? (.q ab k)=some v:=fun{k v} h W hW=>(World.cell?_of_block (a:=(.q ab k)) (hW.block ab (World.block_lt_of_cell? wr _ h) hab)).trans h
    have hSf:∀W:World,Chg rb wr W->W.cell? (.q rb 4)=some (.slice (some (.q ab 0)) p.ts.length cap)->W.cell? (.q rb 4)=some (.slice (some (.q ab 0)) p.ts.length cap)/\W.cell? (.q ab (j*7+3))=some (.i t.gain)/\W.cell? (.q ab (j*7+4))=some (.i t.step)/\W.cell? (.q ab (j*7+5))=some (.i t.limit)/\W.cell? (.q ab (j*7+6))=some (.i t.hor):=fun W h h4=>⟨h4,hab2 e3 W h,hab2 e4 W h,hab2 e5 W h,hab2 e6 W h⟩
    have hs1:=hSf wr.drew (Chg.drew (Chg.refl rb wr)) c4;clear hsn htj hJt e1 e2 htm hlen;go_wp2;rw [show Op.load 89 (.tmp 46)=ldq 89 (.tmp 46)from rfl];go_region_held3(fun W=>W.cell? (.q rb 4)=some (.slice (some (.q ab 0)) p.ts.length cap)/\W.cell? (.q ab (j*7+3))=some (.i t.gain)/\W.cell? (.q ab (j*7+4))=some (.i t.step)/\W.cell? (.q ab (j*7+5))=some (.i t.limit)/\W.cell? (.q ab (j*7+6))=some (.i t.hor)) (first|(with_reducible exact hs1)|(with_reducible exact hsp)|(with_reducible exact hss))
     (first
       |(go_at_call 75
         refine(hfd _).mono ?_;rintro e wp ⟨rfl,hBp⟩;have hRp:=hR1.below ((⟨rfl,rfl,rfl,Nat.le_refl _,fun _ _=>rfl⟩:Below wr.heap.size wr wr.drew).trans hBp);have hCp:Chg rb wr wp:=(Chg.drew (Chg.refl rb wr)).trans (Chg.of hBp);have hsp:=hSf wp hCp ((za hRp.blk).trans (by simp [slR,zH5]));obtain⟨g7,g8,g9,g10⟩:=hce wp hRp;have r7:wp.frozen? (.q rb (21+n*4))=false:=zE hRp.blk (by simp;omega);have r8:wp.frozen? (.q rb (21+n*4+1))=false:=zE hRp.blk (by simp;omega);have r9:wp.frozen? (.q rb (21+n*4+2))=false:=zE hRp.blk (by simp;omega);have r10:wp.frozen? (.q rb (21+n*4+3))=false:=zE hRp.blk (by simp;omega);have hst4:((((wp.setCell (.q rb (21+n*4)) (.i (fdV t.step t.hor t.last tk t.c.x))).setCell (.q rb (21+n*4+1)) (.i (fdV t.step t.hor t.last tk t.c.y))).setCell (.q rb (21+n*4+2)) (.i (fdV t.step t.hor t.last tk t.c.z))).setCell (.q rb (21+n*4+3)) (.i (t.last))).heap[rb]? =some (.cells (zH3 {p.s with now:=tk} (upd (fun m=>cC (tsJ tk p.ts j) m) n (⟨fdV t.step t.hor t.last tk t.c.x,fdV t.step t.hor t.last tk t.c.y,fdV t.step t.hor t.last tk t.c.z⟩:V3)) (upd (fun m=>cL (tsJ tk p.ts j) m) n t.last) (fun m=>cP (tsJ tk p.ts j) m) (slR (some (.q ab 0)) ⟨{p.s with now:=tk},tsJ tk p.ts j⟩ cap)) 93 (0,0)):=zH4 (W:=wp) hRp.blk (⟨fdV t.step t.hor t.last tk t.c.x,fdV t.step t.hor t.last tk t.c.y,fdV t.step t.hor t.last tk t.c.z⟩:V3) t.last n hn8
         have hch4:Chg rb wr ((((wp.setCell (.q rb (21+n*4)) (.i (fdV t.step t.hor t.last tk t.c.x))).setCell (.q rb (21+n*4+1)) (.i (fdV t.step t.hor t.last tk t.c.y))).setCell (.q rb (21+n*4+2)) (.i (fdV t.step t.hor t.last tk t.c.z))).setCell (.q rb (21+n*4+3)) (.i (t.last))):=((((hCp.setCell _ _).setCell _ _).setCell _ _).setCell _ _)
         have hss:=hSf ((((wp.setCell (.q rb (21+n*4)) (.i (fdV t.step t.hor t.last tk t.c.x))).setCell (.q rb (21+n*4+1)) (.i (fdV t.step t.hor t.last tk t.c.y))).setCell (.q rb (21+n*4+2)) (.i (fdV t.step t.hor t.last tk t.c.z))).setCell (.q rb (21+n*4+3)) (.i (t.last))) hch4 ((za hst4).trans (by simp [slR,zH5]))))
    generalize((((wp.setCell (.q rb (21+n*4)) (.i (fdV t.step t.hor t.last tk t.c.x))).setCell (.q rb (21+n*4+1)) (.i (fdV t.step t.hor t.last tk t.c.y))).setCell (.q rb (21+n*4+2)) (.i (fdV t.step t.hor t.last tk t.c.z))).setCell (.q rb (21+n*4+3)) (.i (t.last)))=w4 at*
    go_wp2;refine⟨⟨j+1,zc,jq,?_,hC1.trans hch4⟩,by simp [intOf];omega⟩;obtain⟨u1,u2,u3⟩:=zOB (f:=znl tk) hq (fun u=>rfl);rw [<-hsuc];refine hR1.chg hch4 ?_ (ztH (f:=znl tk) (fun u=>⟨rfl,rfl,rfl,rfl,rfl,rfl,rfl⟩) _ n);rw [hst4,zOA];dsimp only;rw [u1,u2,u3];have hpu:upd (fun m:Nat=>cP (tsJ tk p.ts j) m) n (znl tk t).pulled=(fun m:Nat=>cP (tsJ tk p.ts j) m):=zTy (by show cP _ _=_;unfold cP;rw [hq];rfl)
    rw [hpu];simp only [znl,slR,zwz]
   ·obtain rfl:j=p.ts.length:=zc
    have hfin:tsJ tk p.ts p.ts.length=p.ts.map (znl tk):=by unfold tsJ;simp
    rw [hfin]at hR1;clear hfin hlen;go_wp2;go_ret;exact⟨rfl,hR1,hC1⟩
 ·rw [if_neg ht]at hv
  subst hv;replace ha:=ha.mono (R':=fun e w'=>e= .returned (.bool false)/\w'=w) fun e w' h=>by
   rcases h with h|h
   ·exact h.2
   ·exact absurd h.1 ht
  go_wp2_with(go_at_call 60;refine ha.mono ?_;clear ha;rintro e w' ⟨rfl,hw⟩;obtain rfl:=hw.symm)
  go_ret;exact⟨rfl,hR,Chg.refl _ _⟩
end Go.Xv
