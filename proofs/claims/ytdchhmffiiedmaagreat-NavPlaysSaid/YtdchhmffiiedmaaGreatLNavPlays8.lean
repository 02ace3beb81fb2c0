/- A navigator answers, whatever the inertial sensor and the aids tell, what the document says: the law returns true for every input, and leaves its arguments as they were. -/
import Derived.Test.YtdchhmffiiedmaaGreatLNavPlays
import Derived.Test.YtdchhmffiiedmaaGreatLNavPlays7
set_option linter.unusedVariables false
set_option linter.unusedSimpArgs false
set_option maxRecDepth 100000
set_option maxHeartbeats 64000000
open Go.IntKind (wrap)
namespace Go.Xv
open Go.RowKit
theorem zVc(rb:Nat)(rp:Option Addr)(cap:Nat)(p:PS)(hl:p.ts.length<=8)(hp:∀t∈p.ts,t.ok)(hs:p.s.ok)(hst:p.s.start= -1\/0<=p.s.start)(sr:Int)(r:Rd)(hr:r.ok)(f:Nat->Value)(hd:Rd2 f r)(w:World)(hR:zaz w rb rp cap p)(t:TK)(hq:zbH p.ts sr=some t)(hk:t.kd=5)(hkr:r.kd=5)(h0:p.s.start≠ -1):Calls PP 28 #[ptB rb,.i sr,.agg (rdA f)] w fun e w'=>e= .returned (.tuple #[.agg #[.i ((zds p.s t r).x),.i ((zds p.s t r).y),.i ((zds p.s t r).z)],.i (axN t.kd),.i (0)])/\zaz w' rb rp cap ⟨p.s.k (zjf p.s t r),p.ts⟩/\Chg rb w w':=by
 rw [show zds p.s t r=⟨je r.ps.x p.s.p0 t.c.x,je r.ps.y p.s.p1 t.c.y,je r.ps.z p.s.p2 t.c.z⟩ by unfold zds;rw [if_neg zc,if_neg zc,if_neg zc,if_pos hk],show zjf p.s t r=(zb5 r.ps.x p.s.p0 t.c.x||zb5 r.ps.y p.s.p1 t.c.y||zb5 r.ps.z p.s.p2 t.c.z) by unfold zjf;rw [if_neg zc,if_neg zc,if_neg zc,if_pos hk],show axN t.kd=3 by rw [hk];rfl]
 have hAx:Below w.heap.size w (w.alloc (.cells (rdA f) 50)):=(Below.refl _ w).alloc (Nat.le_refl _) _;have hA2:Below w.heap.size w ((w.alloc (.cells (rdA f) 50)).alloc (.cells z3z 24)):=hAx.alloc hAx.size _;have hx2:((w.alloc (.cells (rdA f) 50)).alloc (.cells z3z 24)).heap[w.heap.size]? =some (.cells (rdA f) 50 (0,0)):=(heap_alloc_old _ _ jq).trans (heap_alloc_new w _);have h62:((w.alloc (.cells (rdA f) 50)).alloc (.cells z3z 24)).heap[w.heap.size+1]? =some (.cells z3z 24 (0,0)):=heap_alloc2_new w _ _;have hrl:=hR.lt;have ha:=fun W (hB:Below w.heap.size w W)=>zeD rb rp cap p hl sr W (hR.below hB)
 rw [hq]at ha;dsimp only at ha;have hto:=hp t (zcM hq);have hc:=hto.cI;have hs2: ¬p.s.start<0:=by have:=hst.resolve_left h0;omega
 have hsrc:=zg5 hq;obtain⟨n,rfl⟩:∃n:Nat,sr=n:=⟨sr.toNat,by have:=hto.src;omega⟩;have hn8:n<8:=by have:=hto.src;omega
 have hn8i:(n:Int)<8:=zc;clear hsrc;have hcq:cC p.ts n=t.c:=by unfold cC;rw [hq]
 have hce:∀W:World,zaz W rb rp cap p->W.cell? (.q rb (21+n*4))=some (.i t.c.x)/\W.cell? (.q rb (21+n*4+1))=some (.i t.c.y)/\W.cell? (.q rb (21+n*4+2))=some (.i t.c.z):=fun W h=>by
  have h1:=h.cX n hn8;have h2:=h.cY n hn8;have h3:=h.cZ n hn8;rw [hcq]at h1 h2 h3;exact⟨h1,h2,h3⟩
 clear hcq;go_enter Proofs.Tryz.func28,Proofs.Tryz.ntmps28
 clear h0
 go_wp2_with(
  go_at_call 68;refine(ha _ hA2).mono ?_;clear ha;rintro e w1 ⟨rfl,hB1⟩;have hAz:Below ((w.alloc (.cells (rdA f) 50)).alloc (.cells z3z 24)).heap.size ((w.alloc (.cells (rdA f) 50)).alloc (.cells z3z 24)) (w1.alloc (.cells (tkA t) 96)):=hB1.alloc hB1.size _;have hB3:Below w.heap.size w (w1.alloc (.cells (tkA t) 96)):=hA2.trans (hAz.mono hA2.size);have hx3:(w1.alloc (.cells (tkA t) 96)).heap[w.heap.size]? =some (.cells (rdA f) 50 (0,0)):=(hAz.block _ (zy hx2)).trans hx2;have h63:(w1.alloc (.cells (tkA t) 96)).heap[w.heap.size+1]? =some (.cells z3z 24 (0,0)):=(hAz.block _ (zy h62)).trans h62;have h9:(w1.alloc (.cells (tkA t) 96)).heap[w1.heap.size]? =some (.cells (tkA t) 96 (0,0)):=heap_alloc_new w1 _
  have hR3:=hR.below hB3;have hcc:=hce _ hR3;have k0:(w1.alloc (.cells (tkA t) 96)).cell? (.q w.heap.size 0)=some (.i 5):=hkr▸(za hx3).trans ((za6 f 0 zc).trans (congrArg some hd.d.d0));have k1:(w1.alloc (.cells (tkA t) 96)).cell? (.q w1.heap.size 1)=some (.i 5):=hk▸za h9;have c61:=zi 61 hR3.blk rfl;have e7:=hcc.1;have e8:=hcc.2.1;have e9:=hcc.2.2;have k2:((w1.alloc (.cells (tkA t) 96)).alloc (.cells (v3z t.c) 24)).cell? (.q w1.heap.size 1)=some (.i 5):=hk▸(za ((heap_alloc_old (w1.alloc (.cells (tkA t) 96)) _ jq).trans h9))
  clear hk hkr)
 have hlw:=hB1.size;simp only [zgF]at hlw;have hB4:Below w.heap.size w ((w1.alloc (.cells (tkA t) 96)).alloc (.cells (v3z t.c) 24)):=hB3.alloc hB3.size _;have hx:((w1.alloc (.cells (tkA t) 96)).alloc (.cells (v3z t.c) 24)).heap[w.heap.size]? =some (.cells (rdA f) 50 (0,0)):=(heap_alloc_old (w1.alloc (.cells (tkA t) 96)) _ (zy hx3)).trans hx3;have h6:((w1.alloc (.cells (tkA t) 96)).alloc (.cells (v3z t.c) 24)).heap[w.heap.size+1]? =some (.cells z3z 24 (0,0)):=(heap_alloc_old (w1.alloc (.cells (tkA t) 96)) _ (zy h63)).trans h63;have hcb:((w1.alloc (.cells (tkA t) 96)).alloc (.cells (v3z t.c) 24)).heap[w1.heap.size+1]? =some (.cells (v3z t.c) 24 (0,0)):=by simpa using heap_alloc_new (w1.alloc (.cells (tkA t) 96)) (.cells (v3z t.c) 24)
 have hR5:=hR.below hB4;have hC5:Chg rb w ((w1.alloc (.cells (tkA t) 96)).alloc (.cells (v3z t.c) 24)):=Chg.of hB4;have hs1:w.heap.size+1<w1.heap.size:=zc;have hz5:((w1.alloc (.cells (tkA t) 96)).alloc (.cells (v3z t.c) 24)).heap.size=w1.heap.size+1+1:=by simp
 clear hlw hB4 hx3 h63 h9 hR3 hB3 hAz hB1 hx2 h62 hAx hA2 hcc k0 k1 c61 e7 e8 e9 k2 hce;generalize((w1.alloc (.cells (tkA t) 96)).alloc (.cells (v3z t.c) 24))=w5 at*
 generalize w1.heap.size=x9 at*
 obtain⟨x0,hx0⟩:∃x,w.heap.size=x:=⟨_,rfl⟩;rw [hx0]at hx h6 hs1 hrl⊢;have hx0s:w.heap.size<=x0:=zc;clear hx0;have hfr:∀W,Chg rb w5 W->W.heap[x0]? =some (.cells (rdA f) 50 (0,0))/\W.heap[x0+1]? =some (.cells z3z 24 (0,0))/\W.heap[x9+1]? =some (.cells (v3z t.c) 24 (0,0)):=fun W h=>⟨(h.block _ (zy hx) zc).trans hx,(h.block _ (zy h6) zc).trans h6,(h.block _ (zy hcb) zc).trans hcb⟩
 have hRd:zaz w5.drew rb rp cap p:=hR5.below ⟨rfl,rfl,rfl,Nat.le_refl _,fun _ _=>rfl⟩;have hCd:Chg rb w5 w5.drew:=Chg.drew (Chg.refl _ _);have h10:(w5.alloc (.cells z3z 24)).heap[x9+1+1]? =some (.cells z3z 24 (0,0)):=hz5▸heap_alloc_new w5 _;have hB6:Below w5.heap.size w5 (w5.alloc (.cells z3z 24)):=(Below.refl _ _).alloc (Nat.le_refl _) _;have hC6:=Chg.of (nb:=rb) hB6;have hR6:zaz (w5.alloc (.cells z3z 24)) rb rp cap ⟨p.s.k false,p.ts⟩:=by
  rw [show p.s.k false=p.s by simp [NS.k]];exact hR5.below hB6
 clear hB6 hRd hCd;generalize w5.alloc (.cells z3z 24)=w6 at*
 go_loopw [20] (fun v W=>∃j:Nat,j<=3/\v= .i j/\zaz W rb rp cap ⟨p.s.k (zix p t r j),p.ts⟩/\W.heap[x9+1+1]? =some (.cells (zs7 p t r j) 24 (0,0))/\Chg rb w5 W) (fun v _=>3-(intOf v).toNat)
 case atStart=>exact⟨0,zc,rfl,hR6,h10,hC6⟩
 case round=>
  clear hR6 h10 hC6;obtain⟨j,hj,rfl,hRq,h10,hCq⟩:=hrel;rcases j with _|_|_|_|j
  ·have hDr:Chg rb wr wr.drew:=Chg.drew (Chg.refl _ _)
   have hRw:zaz wr.drew rb rp cap ⟨p.s.k (zix p t r 0),p.ts⟩:=hRq.below ⟨rfl,rfl,rfl,Nat.le_refl _,fun _ _=>rfl⟩;have hS:∀(W:World),zaz W rb rp cap ⟨p.s.k (zix p t r 0),p.ts⟩->Chg rb w5 W->W.cell? (.q rb 18)=some (.i p.s.p0)/\W.cell? (.q x0 13)=some (.i r.ps.x)/\W.cell? (.q (x9+1) 0)=some (.i t.c.x):=fun W hn h=>⟨za hn.blk,(za (hfr W h).1).trans ((za6 f 13 zc).trans (congrArg some hd.px)),za (hfr W h).2.2⟩
   have hless:∀W,Calls PP 69 #[.i r.ps.x,.i p.s.p0,.i t.c.x] W fun e w'=>e= .returned (.tuple #[.i (je r.ps.x p.s.p0 t.c.x),.bool (zb5 r.ps.x p.s.p0 t.c.x)])/\Below W.heap.size W w':=fun W=>zkN hr.ps.x hs.p0 hc.x W
   go_wp2;go_region_held3(fun w'=>w'.cell? (.q rb 18)=some (.i p.s.p0)/\w'.cell? (.q x0 13)=some (.i r.ps.x)/\w'.cell? (.q (x9+1) 0)=some (.i t.c.x))
    (first|(with_reducible exact hS _ hRw (hCq.trans hDr))|(with_reducible exact hS _ hRa (hCq.trans hCa)))
    (first|(go_at_call 69;refine(hless _).mono ?_;rintro e wa ⟨rfl,hBa⟩;have hRa:=hRw.below hBa;have hCa:=hDr.trans (Chg.of hBa)))
   go_wp2_with(go_at_call 67;refine(zcP rb rp cap _ _ _ hRa).mono ?_;rintro e wb ⟨rfl,hRb,hCb⟩;have h10b:=((hCa.trans hCb).block _ (zy h10) zc).trans h10;have z9:=zi 0 h10b rfl;have y9:wb.frozen? (.q (x9+1+1) 0)=false:=zE h10b (by simp [zs7]))
   rw [NS.k_k,show(zix p t r 0||zb5 r.ps.x p.s.p0 t.c.x)=zix p t r 1 by simp [zix,Bool.or_assoc]]at hRb;have hCf:=hCq.trans (hCa.trans hCb);have hCs:Chg rb w5 (wb.setCell (.q (x9+1+1) 0) (.i (je r.ps.x p.s.p0 t.c.x))):=hCf.setNew zc;refine⟨⟨1,zc,jq,hR.chg (hC5.trans hCs) (zt hRb.blk zc) (zep.refl _),?_,hCs⟩,by simp [intOf]⟩;simpa [zs7]using zf (o:=0) (v:=.i (je r.ps.x p.s.p0 t.c.x)) h10b
  ·have hDr:Chg rb wr wr.drew:=Chg.drew (Chg.refl _ _)
   have hRw:zaz wr.drew rb rp cap ⟨p.s.k (zix p t r 1),p.ts⟩:=hRq.below ⟨rfl,rfl,rfl,Nat.le_refl _,fun _ _=>rfl⟩;have hS:∀(W:World),zaz W rb rp cap ⟨p.s.k (zix p t r 1),p.ts⟩->Chg rb w5 W->W.cell? (.q rb 19)=some (.i p.s.p1)/\W.cell? (.q x0 14)=some (.i r.ps.y)/\W.cell? (.q (x9+1) 1)=some (.i t.c.y):=fun W hn h=>⟨za hn.blk,(za (hfr W h).1).trans ((za6 f 14 zc).trans (congrArg some hd.py)),za (hfr W h).2.2⟩
   have hless:∀W,Calls PP 69 #[.i r.ps.y,.i p.s.p1,.i t.c.y] W fun e w'=>e= .returned (.tuple #[.i (je r.ps.y p.s.p1 t.c.y),.bool (zb5 r.ps.y p.s.p1 t.c.y)])/\Below W.heap.size W w':=fun W=>zkN hr.ps.y hs.p1 hc.y W
   go_wp2;go_region_held3(fun w'=>w'.cell? (.q rb 19)=some (.i p.s.p1)/\w'.cell? (.q x0 14)=some (.i r.ps.y)/\w'.cell? (.q (x9+1) 1)=some (.i t.c.y))
    (first|(with_reducible exact hS _ hRw (hCq.trans hDr))|(with_reducible exact hS _ hRa (hCq.trans hCa)))
    (first|(go_at_call 69;refine(hless _).mono ?_;rintro e wa ⟨rfl,hBa⟩;have hRa:=hRw.below hBa;have hCa:=hDr.trans (Chg.of hBa)))
   go_wp2_with(go_at_call 67;refine(zcP rb rp cap _ _ _ hRa).mono ?_;rintro e wb ⟨rfl,hRb,hCb⟩;have h10b:=((hCa.trans hCb).block _ (zy h10) zc).trans h10;have z9:=zi 1 h10b rfl;have y9:wb.frozen? (.q (x9+1+1) 1)=false:=zE h10b (by simp [zs7]))
   rw [NS.k_k,show(zix p t r 1||zb5 r.ps.y p.s.p1 t.c.y)=zix p t r 2 by simp [zix,Bool.or_assoc]]at hRb;have hCf:=hCq.trans (hCa.trans hCb);have hCs:Chg rb w5 (wb.setCell (.q (x9+1+1) 1) (.i (je r.ps.y p.s.p1 t.c.y))):=hCf.setNew zc;refine⟨⟨2,zc,jq,hR.chg (hC5.trans hCs) (zt hRb.blk zc) (zep.refl _),?_,hCs⟩,by simp [intOf]⟩;simpa [zs7]using zf (o:=1) (v:=.i (je r.ps.y p.s.p1 t.c.y)) h10b
  ·have hDr:Chg rb wr wr.drew:=Chg.drew (Chg.refl _ _)
   have hRw:zaz wr.drew rb rp cap ⟨p.s.k (zix p t r 2),p.ts⟩:=hRq.below ⟨rfl,rfl,rfl,Nat.le_refl _,fun _ _=>rfl⟩;have hS:∀(W:World),zaz W rb rp cap ⟨p.s.k (zix p t r 2),p.ts⟩->Chg rb w5 W->W.cell? (.q rb 20)=some (.i p.s.p2)/\W.cell? (.q x0 15)=some (.i r.ps.z)/\W.cell? (.q (x9+1) 2)=some (.i t.c.z):=fun W hn h=>⟨za hn.blk,(za (hfr W h).1).trans ((za6 f 15 zc).trans (congrArg some hd.pz)),za (hfr W h).2.2⟩
   have hless:∀W,Calls PP 69 #[.i r.ps.z,.i p.s.p2,.i t.c.z] W fun e w'=>e= .returned (.tuple #[.i (je r.ps.z p.s.p2 t.c.z),.bool (zb5 r.ps.z p.s.p2 t.c.z)])/\Below W.heap.size W w':=fun W=>zkN hr.ps.z hs.p2 hc.z W
   go_wp2;go_region_held3(fun w'=>w'.cell? (.q rb 20)=some (.i p.s.p2)/\w'.cell? (.q x0 15)=some (.i r.ps.z)/\w'.cell? (.q (x9+1) 2)=some (.i t.c.z))
    (first|(with_reducible exact hS _ hRw (hCq.trans hDr))|(with_reducible exact hS _ hRa (hCq.trans hCa)))
    (first|(go_at_call 69;refine(hless _).mono ?_;rintro e wa ⟨rfl,hBa⟩;have hRa:=hRw.below hBa;have hCa:=hDr.trans (Chg.of hBa)))
   go_wp2_with(go_at_call 67;refine(zcP rb rp cap _ _ _ hRa).mono ?_;rintro e wb ⟨rfl,hRb,hCb⟩;have h10b:=((hCa.trans hCb).block _ (zy h10) zc).trans h10;have z9:=zi 2 h10b rfl;have y9:wb.frozen? (.q (x9+1+1) 2)=false:=zE h10b (by simp [zs7]))
   rw [NS.k_k,show(zix p t r 2||zb5 r.ps.z p.s.p2 t.c.z)=zix p t r 3 by simp [zix,Bool.or_assoc]]at hRb;have hCf:=hCq.trans (hCa.trans hCb);have hCs:Chg rb w5 (wb.setCell (.q (x9+1+1) 2) (.i (je r.ps.z p.s.p2 t.c.z))):=hCf.setNew zc;refine⟨⟨3,zc,jq,hR.chg (hC5.trans hCs) (zt hRb.blk zc) (zep.refl _),?_,hCs⟩,by simp [intOf]⟩;simpa [zs7]using zf (o:=2) (v:=.i (je r.ps.z p.s.p2 t.c.z)) h10b
  ·have h6b:=(hfr wr hCq).2.1
   have q0:=zi 0 h6b rfl;have g0:=zC 0 h6b;have d0:=zi 0 h10 rfl;have q1:=zi 1 h6b rfl;have g1:=zC 1 h6b;have d1:=zi 1 h10 rfl;have q2:=zi 2 h6b rfl;have g2:=zC 2 h6b;have d2:=zi 2 h10 rfl;go_wp2;have h6u:=zbi (x0:=.i (je r.ps.x p.s.p0 t.c.x)) (x1:=.i (je r.ps.y p.s.p1 t.c.y)) (x2:=.i (je r.ps.z p.s.p2 t.c.z)) h6b;try simp only [Exit.inBlock,Exit.then]
   refine bodyPost_ret (zfI rfl _ _ (x0+1) 24 #[.i (je r.ps.x p.s.p0 t.c.x),.i (je r.ps.y p.s.p1 t.c.y),.i (je r.ps.z p.s.p2 t.c.z)] (0,0) rfl h6u (zaZ kfz) kfz) rfl ?_;have hCf:=(((hC5.trans hCq).setNew (x:=x0+1) (k:=0) (u:=.i (je r.ps.x p.s.p0 t.c.x)) zc).setNew (x:=x0+1) (k:=1) (u:=.i (je r.ps.y p.s.p1 t.c.y)) zc).setNew (x:=x0+1) (k:=2) (u:=.i (je r.ps.z p.s.p2 t.c.z)) zc;refine⟨rfl,hR.chg hCf ?_ (zep.refl _),hCf⟩;exact zt (zt (zt hRq.blk zc) zc) zc
  ·omega
theorem zOD(rb:Nat)(rp:Option Addr)(cap:Nat)(p:PS)(hl:p.ts.length<=8)(hp:∀t∈p.ts,t.ok)(hs:p.s.ok)(hst:p.s.start= -1\/0<=p.s.start)(sr:Int)(r:Rd)(hr:r.ok)(f:Nat->Value)(hd:Rd2 f r)(w:World)(hR:zaz w rb rp cap p):Calls PP 28 #[ptB rb,.i sr,.agg (rdA f)] w fun e w'=>e= .returned (.tuple #[.agg #[.i ((zaJ p sr r).1.x),.i ((zaJ p sr r).1.y),.i ((zaJ p sr r).1.z)],.i ((zaJ p sr r).2.1),.i ((zaJ p sr r).2.2.1)])/\zaz w' rb rp cap (zaJ p sr r).2.2.2/\Chg rb w w':=by
 cases hq:zbH p.ts sr with
 |none=>
  rw [show zaJ p sr r=(⟨0,0,0⟩,0,2,p) by unfold zaJ;rw [hq]]
  exact zU6 rb rp cap p hl hp hs hst sr r hr f hd w hR hq
 |some t=>
  by_cases hk:t.kd=r.kd
  ·by_cases h0:p.s.start= -1
   ·rw [show zaJ p sr r=(⟨0,0,0⟩,0,7,p) by unfold zaJ;rw [hq];dsimp only;rw [if_pos hk,if_pos h0]]
    exact zU8 rb rp cap p hl hp hs hst sr r hr f hd w hR t hq hk h0
   ·have hto:=hp t (zcM hq)
    rw [show zaJ p sr r=(zds p.s t r,axN t.kd,0,⟨p.s.k (zjf p.s t r),p.ts⟩) by unfold zaJ;rw [hq];dsimp only;rw [if_pos hk,if_neg h0]]
    have h4:t.kd=2\/t.kd=3\/t.kd=4\/t.kd=5:=by have:=hto.kd;omega
    rcases h4 with h|h|h|h
    ·exact zU9 rb rp cap p hl hp hs hst sr r hr f hd w hR t hq h zc h0
    ·exact zVb rb rp cap p hl hp hs hst sr r hr f hd w hR t hq h zc h0
    ·exact zVa rb rp cap p hl hp hs hst sr r hr f hd w hR t hq h zc h0
    ·exact zVc rb rp cap p hl hp hs hst sr r hr f hd w hR t hq h zc h0
  ·rw [show zaJ p sr r=(⟨0,0,0⟩,0,2,p) by unfold zaJ;rw [hq];dsimp only;rw [if_neg hk]]
   exact zU7 rb rp cap p hl hp hs hst sr r hr f hd w hR t hq hk
theorem zwA{B:Nat}{w W:World}{b:Nat}{x0 x1 x2 x3 x4 x5 x6 x7:Value}(h:Below B w W)(hb:B<=b):Below B w ((((((((W.setCell (.q b 0) x0).setCell (.q b 1) x1).setCell (.q b 2) x2).setCell (.q b 3) x3).setCell (.q b 4) x4).setCell (.q b 5) x5).setCell (.q b 6) x6).setCell (.q b 7) x7):=by
 repeat' (refine Below.setCell ?_ ?_ _)
 all_goals first|exact h|exact hb
theorem zRt{w:World}{r b:Nat}{o:Obj}{x0 x1 x2 x3 x4 x5 x6 x7:Value}(h:w.heap[r]? =some o)(hb:r≠b):((((((((w.setCell (.q b 0) x0).setCell (.q b 1) x1).setCell (.q b 2) x2).setCell (.q b 3) x3).setCell (.q b 4) x4).setCell (.q b 5) x5).setCell (.q b 6) x6).setCell (.q b 7) x7).heap[r]? =some o:=by
 repeat' (refine zt ?_ hb)
 exact h
theorem zOE(rb:Nat)(rp:Option Addr)(cap:Nat)(p:PS)(hl:p.ts.length<=8)(hs:p.s.ok)(hp:∀t∈p.ts,t.ok)(hsr:zwy p.ts)(w:World)(hR:zaz w rb rp cap p):
 Calls PP 31 #[ptB rb] w fun e w'=>e= .returned (.agg (oC p.s (zct p).1))/\zaz w' rb rp cap (zct p).2/\Chg rb w w':=by
 obtain⟨s,ts⟩:=p;replace hs:s.ok:=hs;replace hl:ts.length<=8:=hl;replace hp:∀t∈ts,t.ok:=hp;replace hsr:zwy ts:=hsr;go_enter Proofs.Tryz.func31,Proofs.Tryz.ntmps31
 have hA0:Below w.heap.size w (w.alloc (.cells #[.i 0,.i 0,.i 0,.i 0,.i 0,.i 0,.int .u32 0,.i 0] 97)):=(Below.refl _ w).alloc (Nat.le_refl _) _;have hx0:(w.alloc (.cells #[.i 0,.i 0,.i 0,.i 0,.i 0,.i 0,.int .u32 0,.i 0] 97)).heap[w.heap.size]? =some (.cells #[.i 0,.i 0,.i 0,.i 0,.i 0,.i 0,.int .u32 0,.i 0] 97 (0,0)):=heap_alloc_new w _;have hR0:=hR.below hA0;have hrl:=hR.lt;have hsp:=zww rb rp cap ⟨s,ts⟩ hs _ hR0;have hct:=fun B W (h:zaz W rb rp cap ⟨s,ts⟩)=>zcP rb rp cap ⟨s,ts⟩ B W h
 dsimp only at hsp
 go_wp2_with(first
  |(go_at_call 72;refine hsp.mono ?_;clear hsp;rintro e w1 ⟨rfl,hB1⟩)
  |(go_at_call 67;refine(hct _ _ (hR0.below hB1)).mono ?_;clear hct;rintro e w2 ⟨rfl,hR2,hC2⟩))
 have hB01:Below w.heap.size w w1:=hA0.trans (hB1.mono hA0.size);have hC02:Chg rb w w2:=(Chg.of hB01).trans hC2;have hx1:w1.heap[w.heap.size]? =some (.cells #[.i 0,.i 0,.i 0,.i 0,.i 0,.i 0,.int .u32 0,.i 0] 97 (0,0)):=(hB1.block _ (zy hx0)).trans hx0;have hx2:w2.heap[w.heap.size]? =some (.cells #[.i 0,.i 0,.i 0,.i 0,.i 0,.i 0,.int .u32 0,.i 0] 97 (0,0)):=(hC2.block _ (zy hx1) zc).trans hx1;obtain⟨x0,hx0e⟩:∃x,w.heap.size=x:=⟨_,rfl⟩;rw [hx0e]at hx2 hrl⊢;have hx0s:w.heap.size<=x0:=zc;clear hx0e hx0 hx1 hB01 hC2 hB1 hA0 hR0;replace hR2:zaz w2 rb rp cap ⟨s.k (oK ⟨s,ts⟩ 0),ts⟩:=by
  rw [show oK ⟨s,ts⟩ 0=zw (spZ s) by simp [zpY]];exact hR2
 have hS:∀w',Below w2.heap.size w2 w'->w'.cell? (.q rb 18)=some (.i s.p0)/\w'.cell? (.q rb 19)=some (.i s.p1)/\w'.cell? (.q rb 20)=some (.i s.p2)/\w'.cell? (.q rb 15)=some (.i s.v0)/\w'.cell? (.q rb 16)=some (.i s.v1)/\w'.cell? (.q rb 17)=some (.i s.v2)/\w'.cell? (.q rb 5)=some (.i s.a.m.a0)/\w'.cell? (.q rb 6)=some (.i s.a.m.a1)/\w'.cell? (.q rb 7)=some (.i s.a.m.a2)/\w'.cell? (.q rb 8)=some (.i s.a.m.a3)/\w'.cell? (.q rb 9)=some (.i s.a.m.a4)/\w'.cell? (.q rb 10)=some (.i s.a.m.a5)/\w'.cell? (.q rb 11)=some (.i s.a.m.a6)/\w'.cell? (.q rb 12)=some (.i s.a.m.a7)/\w'.cell? (.q rb 13)=some (.i s.a.m.a8)/\w'.cell? (.q rb 14)=some (.i s.a.n):=fun w' hB=>⟨(hB.cell (p:=(.q rb _)) hR2.lt).trans (za hR2.blk),(hB.cell (p:=(.q rb _)) hR2.lt).trans (za hR2.blk),(hB.cell (p:=(.q rb _)) hR2.lt).trans (za hR2.blk),(hB.cell (p:=(.q rb _)) hR2.lt).trans (za hR2.blk),(hB.cell (p:=(.q rb _)) hR2.lt).trans (za hR2.blk),(hB.cell (p:=(.q rb _)) hR2.lt).trans (za hR2.blk),(hB.cell (p:=(.q rb _)) hR2.lt).trans (za hR2.blk),(hB.cell (p:=(.q rb _)) hR2.lt).trans (za hR2.blk),(hB.cell (p:=(.q rb _)) hR2.lt).trans (za hR2.blk),(hB.cell (p:=(.q rb _)) hR2.lt).trans (za hR2.blk),(hB.cell (p:=(.q rb _)) hR2.lt).trans (za hR2.blk),(hB.cell (p:=(.q rb _)) hR2.lt).trans (za hR2.blk),(hB.cell (p:=(.q rb _)) hR2.lt).trans (za hR2.blk),(hB.cell (p:=(.q rb _)) hR2.lt).trans (za hR2.blk),(hB.cell (p:=(.q rb _)) hR2.lt).trans (za hR2.blk),(hB.cell (p:=(.q rb _)) hR2.lt).trans (za hR2.blk)⟩
 have hd:Below w2.heap.size w2 w2.drew:=⟨rfl,rfl,rfl,Nat.le_refl _,fun _ _=>rfl⟩;have hA:∀o,Below w2.heap.size w2 (w2.alloc o).drew:=fun o=>hd.alloc (Nat.le_refl _) o
 have hh:=fun W (hW:Below w2.heap.size w2 W)=>(ztb hs.m (a:=s.a) W).mono fun e w' (h:_/\_)=>(⟨h.1,hW.trans (h.2.mono hW.size),h.2⟩:_/\Below w2.heap.size w2 w'/\Below W.heap.size W w')
 go_cut [5] (fun v w'=>∃ob,v= .pointer (some (.q ob 0))/\w'.heap[ob]? =some (.cells #[.i s.p0,.i s.p1,.i s.p2,.i s.v0,.i s.v1,.i s.v2,.int .u32 (zcQ s.a.m.a3 s.a.m.a0),.i (zh (spZ s))] 97 (0,0))/\w2.heap.size<=ob/\Below w2.heap.size w2 w')
 case first=>
  go_region_held3(fun w'=>w'.cell? (.q rb 18)=some (.i s.p0)/\w'.cell? (.q rb 19)=some (.i s.p1)/\w'.cell? (.q rb 20)=some (.i s.p2)/\w'.cell? (.q rb 15)=some (.i s.v0)/\w'.cell? (.q rb 16)=some (.i s.v1)/\w'.cell? (.q rb 17)=some (.i s.v2)/\w'.cell? (.q rb 5)=some (.i s.a.m.a0)/\w'.cell? (.q rb 6)=some (.i s.a.m.a1)/\w'.cell? (.q rb 7)=some (.i s.a.m.a2)/\w'.cell? (.q rb 8)=some (.i s.a.m.a3)/\w'.cell? (.q rb 9)=some (.i s.a.m.a4)/\w'.cell? (.q rb 10)=some (.i s.a.m.a5)/\w'.cell? (.q rb 11)=some (.i s.a.m.a6)/\w'.cell? (.q rb 12)=some (.i s.a.m.a7)/\w'.cell? (.q rb 13)=some (.i s.a.m.a8)/\w'.cell? (.q rb 14)=some (.i s.a.n))
   (first|(with_reducible exact hS _ hd)|(with_reducible exact hS _ hBz')|(with_reducible exact hS _ (hA _))|(with_reducible exact hS _ (hBz'.alloc hBz'.size _))|(with_reducible exact hS _ (zwA hBz' (Nat.le_refl _))))
   (first
     |(go_at_call 70
       refine(hh _ (by with_reducible exact hd)).mono ?_
       rintro e wz ⟨rfl,hBz',hBz⟩)
     |(go_at_call 70
       refine(hh _ (by with_reducible exact hA _)).mono ?_;rintro e wz ⟨rfl,hBz',hBz⟩;have hz:wz.heap[w2.heap.size]? =some (.cells #[.i 0,.i 0,.i 0,.i 0,.i 0,.i 0,.int .u32 0,.i 0] 97 (0,0)):=(hBz.block _ jq).trans (heap_alloc_new w2 _);have z0:=zi 0 hz rfl;have y0:=zC 0 hz;have z1:=zi 1 hz rfl;have y1:=zC 1 hz;have z2:=zi 2 hz rfl;have y2:=zC 2 hz;have z3:=zi 3 hz rfl;have y3:=zC 3 hz;have z4:=zi 4 hz rfl;have y4:=zC 4 hz;have z5:=zi 5 hz rfl;have y5:=zC 5 hz;have z6:=zi 6 hz rfl;have y6:=zC 6 hz;have z7:=zi 7 hz rfl
       have y7:=zC 7 hz))
  ·go_wp2
   go_meet
   case rel=>exact⟨wz.heap.size,rfl,heap_alloc_new wz _,hBz'.size,hBz'.alloc hBz'.size _⟩
  ·go_wp2
   go_meet
   case rel=>exact⟨w2.heap.size,rfl,zfj hz,Nat.le_refl _,zwA hBz' (Nat.le_refl _)⟩
 case rest=>
  obtain⟨ob,rfl,hob,hobs,hB3⟩:=hcut;obtain⟨w3,hw3⟩:∃x,x=wc:=⟨_,rfl⟩;subst hw3;have hR3:=hR2.below hB3;have hC3:Chg rb w w3:=hC02.trans (Chg.of hB3);have hx3:w3.heap[x0]? =some (.cells #[.i 0,.i 0,.i 0,.i 0,.i 0,.i 0,.int .u32 0,.i 0] 97 (0,0)):=(hB3.block _ (zy hx2)).trans hx2;have hob0:w3.heap[ob]? =some (.cells (oC s (oS ⟨s,ts⟩ 0)) 97 (0,0)):=by
   rw [show oS ⟨s,ts⟩ 0=zBn s by simp [zDH]];exact hob
  have hrob:rb≠ob:=by have:=hR2.lt;omega
  have hxob:x0≠ob:=by have:=(zy hx2);omega
  have hobw:w.heap.size<=ob:=Nat.le_trans hC02.size hobs;clear hob hB3 hS hd hA hh hobs hx2 hC02 hR2;go_wp2;go_loopg [6] (ts.length) (fun k v wr=>∃j:Nat,j+k=ts.length/\v= .i j/\zaz wr rb rp cap ⟨s.k (oK ⟨s,ts⟩ j),ts⟩/\wr.heap[ob]? =some (.cells (oC s (oS ⟨s,ts⟩ j)) 97 (0,0))/\wr.heap[x0]? =some (.cells #[.i 0,.i 0,.i 0,.i 0,.i 0,.i 0,.int .u32 0,.i 0] 97 (0,0))/\Chg rb w wr)
  case atStart=>exact⟨0,zc,rfl,hR3,hob0,hx3,hC3⟩
  case round=>
   clear hR3 hob0 hx3 hC3;obtain⟨j,hj,rfl,hRr,hor,hxr,hCr⟩:=hrel;have c4:=zi 4 hRr.blk rfl;by_cases hlt:j<ts.length
   ·obtain⟨t,htj⟩:∃t,ts[j]? =some t:=⟨_,List.getElem?_eq_getElem hlt⟩
    obtain⟨ab,rfl,hab,e0,e1,e2,e3,e4,e5,e6⟩:=hRr.row j t htj;have hto:=hp t (List.mem_of_getElem? htj);have hci:=hto.cI;have hq:=zH1 hsr htj;obtain⟨n,hsn⟩:∃n:Nat,t.src=n:=⟨t.src.toNat,by have:=hto.src;omega⟩;have hn8:n<8:=by have:=hto.src;omega
    have hn8i:(n:Int)<8:=zc;rw [hsn]at e0 hq;have hcc:cC ts n=t.c:=by unfold cC;rw [hq]
    have hvs:=fun W=>zDO hci.x hci.y hci.z hto.wt.1 hto.wt.2 W
    have hwn:wrap .i64 (-t.wt)= -t.wt:=zH (by have:=hto.wt;unfold zr;omega);clear hsn hq;go_wp2;have hB4:Below wr.heap.size wr (wr.alloc (.cells #[.i n,.i t.kd,.i t.wt,.i t.gain,.i t.step,.i t.limit,.i t.hor] 96)):=(Below.refl _ _).alloc (Nat.le_refl _) _;have h7:(wr.alloc (.cells #[.i n,.i t.kd,.i t.wt,.i t.gain,.i t.step,.i t.limit,.i t.hor] 96)).heap[wr.heap.size]? =some (.cells #[.i n,.i t.kd,.i t.wt,.i t.gain,.i t.step,.i t.limit,.i t.hor] 96 (0,0)):=heap_alloc_new wr _;have hR4:=hRr.below hB4;have ho4:(wr.alloc (.cells #[.i n,.i t.kd,.i t.wt,.i t.gain,.i t.step,.i t.limit,.i t.hor] 96)).heap[ob]? =some (.cells (oC s (oS ⟨s,ts⟩ j)) 97 (0,0)):=(hB4.block _ (zy hor)).trans hor
    have hx4:(wr.alloc (.cells #[.i n,.i t.kd,.i t.wt,.i t.gain,.i t.step,.i t.limit,.i t.hor] 96)).heap[x0]? =some (.cells #[.i 0,.i 0,.i 0,.i 0,.i 0,.i 0,.int .u32 0,.i 0] 97 (0,0)):=(hB4.block _ (zy hxr)).trans hxr;have hC4:Chg rb w (wr.alloc (.cells #[.i n,.i t.kd,.i t.wt,.i t.gain,.i t.step,.i t.limit,.i t.hor] 96)):=hCr.trans (Chg.of hB4);have h7o:ob<wr.heap.size:=(zy hor);have h7r:rb<wr.heap.size:=hRr.lt;have h7w:w.heap.size<=wr.heap.size:=hCr.size;clear hB4 c4 e0 e1 e2 e3 e4 e5 e6 hRr hor hxr hCr hab;generalize wr.alloc (.cells #[.i n,.i t.kd,.i t.wt,.i t.gain,.i t.step,.i t.limit,.i t.hor] 96)=w4 at*
    generalize wr.heap.size=x7 at*
    have hS2:∀w',Below w4.heap.size w4 w'->w'.cell? (.q x7 0)=some (.i n)/\w'.cell? (.q x7 2)=some (.i t.wt)/\w'.cell? (.q rb (21+n*4))=some (.i t.c.x)/\w'.cell? (.q rb (21+n*4+1))=some (.i t.c.y)/\w'.cell? (.q rb (21+n*4+2))=some (.i t.c.z):=fun w' hB=>by
     have h1:=(hR4.below hB).cX n hn8;have h2:=(hR4.below hB).cY n hn8;have h3:=(hR4.below hB).cZ n hn8;dsimp only at h1 h2 h3;rw [hcc]at h1 h2 h3;have hb7:w'.heap[x7]? =_:=(hB.block _ (zy h7)).trans h7;exact⟨za hb7,za hb7,h1,h2,h3⟩
    have hd2:Below w4.heap.size w4 w4.drew:=⟨rfl,rfl,rfl,Nat.le_refl _,fun _ _=>rfl⟩;have hA2:∀o,Below w4.heap.size w4 (w4.alloc o).drew:=fun o=>hd2.alloc (Nat.le_refl _) o
    have hc2:=fun W (hW:Below w4.heap.size w4 W)=>(hvs W).mono fun e w' (h:_/\_)=>(⟨h.1,hW.trans (h.2.mono hW.size),h.2⟩:_/\Below w4.heap.size w4 w'/\Below W.heap.size W w')
    clear hcc;go_cut [8,9] (fun va vb w'=>∃l,va= .pointer (some (.q l 0))/\vb= .bool false/\w'.heap[l]? =some (.cells (v3z (shT t)) 24 (0,0))/\w4.heap.size<=l/\Below w4.heap.size w4 w')
    case first=>
     go_region_held3(fun w'=>w'.cell? (.q x7 0)=some (.i n)/\w'.cell? (.q x7 2)=some (.i t.wt)/\w'.cell? (.q rb (21+n*4))=some (.i t.c.x)/\w'.cell? (.q rb (21+n*4+1))=some (.i t.c.y)/\w'.cell? (.q rb (21+n*4+2))=some (.i t.c.z))
      (first|(with_reducible exact hS2 _ hd2)|(with_reducible exact hS2 _ hBz')|(with_reducible exact hS2 _ (hA2 _))|(with_reducible exact hS2 _ (hBz'.alloc hBz'.size _))|(with_reducible exact hS2 _ (zay hBz' (Nat.le_refl _))))
      (first
        |(go_at_call 76
          refine(hc2 _ (by with_reducible exact hd2)).mono ?_
          rintro e wz ⟨rfl,hBz',hBz⟩)
        |(go_at_call 76
          refine(hc2 _ (by with_reducible exact hA2 _)).mono ?_;rintro e wz ⟨rfl,hBz',hBz⟩;have hz:wz.heap[w4.heap.size]? =some (.cells z3z 24 (0,0)):=(hBz.block _ jq).trans (heap_alloc_new w4 _);have z0:=zi 0 hz rfl;have y0:=zC 0 hz;have z1:=zi 1 hz rfl;have y1:=zC 1 hz;have z2:=zi 2 hz rfl
          have y2:=zC 2 hz))
     ·go_wp2
      go_meet
      case rel=>exact⟨wz.heap.size,rfl,rfl,heap_alloc_new wz _,hBz'.size,hBz'.alloc hBz'.size _⟩
     ·go_wp2
      go_meet
      case rel=>exact⟨w4.heap.size,rfl,rfl,zbi hz,Nat.le_refl _,zay hBz' (Nat.le_refl _)⟩
    case rest=>
     obtain⟨cb,rfl,rfl,hcb,hcl,hBc⟩:=hcut;have hR5:=hR4.below hBc;have hrl4:rb<w4.heap.size:=hR4.lt;have ho5:wc.heap[ob]? =some (.cells (oC s (oS ⟨s,ts⟩ j)) 97 (0,0)):=(hBc.block _ (zy ho4)).trans ho4;have hx5:wc.heap[x0]? =some (.cells #[.i 0,.i 0,.i 0,.i 0,.i 0,.i 0,.int .u32 0,.i 0] 97 (0,0)):=(hBc.block _ (zy hx4)).trans hx4;have hC5:Chg rb w wc:=hC4.trans (Chg.of hBc);have k1:=zi 1 ((hBc.block _ (zy h7)).trans h7) rfl;have hocb:ob≠cb:=by have:=(zy ho4);omega
     have hoo:(oS ⟨s,ts⟩ j).ok:=zPm (zPn hs) fun u hu=>(hp u (List.mem_of_mem_take hu)).cI
     have hsh:=zVU (t:=t) hci;have e2:oK ⟨s,ts⟩ (j+1)=(oK ⟨s,ts⟩ j||zla (oS ⟨s,ts⟩ j) t):=by
      unfold oK;rw [zbI htj,zjg,Bool.or_assoc]
     have e1:oS ⟨s,ts⟩ (j+1)=zkK (oS ⟨s,ts⟩ j) t:=by
      unfold oS;rw [zbI htj,zpZ]
     clear hS2 hd2 hA2 hc2 hvs hwn htj h7 hx4 hC4 hR4 ho4;have d0:=zi 0 hcb rfl;have d1:=zi 1 hcb rfl;have d2:=zi 2 hcb rfl;have p0:=zi 0 ho5 rfl;have f0:=zC 0 ho5;have p1:=zi 1 ho5 rfl;have f1:=zC 1 ho5;have p2:=zi 2 ho5 rfl;have f2:=zC 2 ho5;have p6:=zi 6 ho5 rfl;have f6:=zC 6 ho5;have p7:=zi 7 ho5 rfl;have f7:=zC 7 ho5;have h4:t.kd=2\/t.kd=3\/t.kd=4\/t.kd=5:=by have:=hto.kd;omega
     rcases h4 with hk|hk|hk|hk
     ·rw [hk]at k1
      have eK:zla (oS ⟨s,ts⟩ j) t=(zw ((oS ⟨s,ts⟩ j).p.z+(shT t).x)):=by unfold zla;rw [if_pos hk]
      rw [eK]at e2;clear hsr;have had:=fun W=>zBp hoo.p.z hsh.x W
      go_wp2_with(first
       |(go_at_call 77
         refine(had _).mono ?_;rintro e wa ⟨rfl,hBa⟩;have hoa:wa.heap[ob]? =some (.cells (oC s (oS ⟨s,ts⟩ j)) 97 (0,0)):=(hBa.block _ (zy ho5)).trans ho5;have hxa:wa.heap[x0]? =some (.cells #[.i 0,.i 0,.i 0,.i 0,.i 0,.i 0,.int .u32 0,.i 0] 97 (0,0)):=(hBa.block _ (zy hx5)).trans hx5;have a2:=zi 2 hoa rfl
         have b2:=zC 2 hoa)
       |(go_at_call 67
         have hCs:Chg rb w (wa.setCell (.q ob 2) (.i (zh ((oS ⟨s,ts⟩ j).p.z+(shT t).x)))):=((hC5.trans (Chg.of hBa)).setNew (x:=ob) (k:=2) (u:=.i (zh ((oS ⟨s,ts⟩ j).p.z+(shT t).x))) hobw);have hRs:zaz (wa.setCell (.q ob 2) (.i (zh ((oS ⟨s,ts⟩ j).p.z+(shT t).x)))) rb (some (.q ab 0)) cap ⟨s.k (oK ⟨s,ts⟩ j),ts⟩:=hR.chg hCs (zt (hR5.below hBa).blk hrob) (zep.refl _);have hxW:(wa.setCell (.q ob 2) (.i (zh ((oS ⟨s,ts⟩ j).p.z+(shT t).x)))).heap[x0]? =some (.cells #[.i 0,.i 0,.i 0,.i 0,.i 0,.i 0,.int .u32 0,.i 0] 97 (0,0)):=(zt hxa hxob);have hoW:(wa.setCell (.q ob 2) (.i (zh ((oS ⟨s,ts⟩ j).p.z+(shT t).x)))).heap[ob]? =some (.cells (oC s (oS ⟨s,ts⟩ (j+1))) 97 (0,0)):=by
          rw [e1];refine(zf (o:=2) (v:=.i (zh ((oS ⟨s,ts⟩ j).p.z+(shT t).x))) hoa).trans ?_;unfold zkK;rw [if_pos hk];try rfl
         refine(zcP rb _ cap _ _ _ hRs).mono ?_
         rintro e wb ⟨rfl,hRb,hCb⟩))
      go_roundg(gk-1)
      case measure=>omega
      case rel=>
       refine⟨j+1,zc,jq,?_,?_,?_,hCs.trans hCb⟩
       ·rw [e2]
        rw [NS.k_k]at hRb;exact hRb
       ·exact(hCb.block _ (zy hoW) (Ne.symm hrob)).trans hoW
       ·exact(hCb.block _ (zy hxW) zc).trans hxW
     ·rw [hk]at k1
      have eK:zla (oS ⟨s,ts⟩ j) t=false:=by unfold zla;rw [if_neg zc,if_pos hk]
      rw [eK]at e2;clear hsr;have hwr:((oS ⟨s,ts⟩ j).hd+Int.tmod (wrap .u64 (shT t).x) 4294967296)%4294967296=((oS ⟨s,ts⟩ j).hd+(shT t).x)%4294967296:=by
       rw [zd2,Int.tmod_eq_emod_of_nonneg zc];omega
      go_wp2_with(first
       |(go_at_call 67
         have hCs:Chg rb w (wc.setCell (.q ob 6) (.int .u32 (((oS ⟨s,ts⟩ j).hd+(shT t).x)%4294967296))):=(hC5.setNew (x:=ob) (k:=6) (u:=.int .u32 (((oS ⟨s,ts⟩ j).hd+(shT t).x)%4294967296)) hobw);have hRs:zaz (wc.setCell (.q ob 6) (.int .u32 (((oS ⟨s,ts⟩ j).hd+(shT t).x)%4294967296))) rb (some (.q ab 0)) cap ⟨s.k (oK ⟨s,ts⟩ j),ts⟩:=hR.chg hCs (zt hR5.blk hrob) (zep.refl _);have hxW:(wc.setCell (.q ob 6) (.int .u32 (((oS ⟨s,ts⟩ j).hd+(shT t).x)%4294967296))).heap[x0]? =some (.cells #[.i 0,.i 0,.i 0,.i 0,.i 0,.i 0,.int .u32 0,.i 0] 97 (0,0)):=(zt hx5 hxob);have hoW:(wc.setCell (.q ob 6) (.int .u32 (((oS ⟨s,ts⟩ j).hd+(shT t).x)%4294967296))).heap[ob]? =some (.cells (oC s (oS ⟨s,ts⟩ (j+1))) 97 (0,0)):=by
          rw [e1];refine(zf (o:=6) (v:=.int .u32 (((oS ⟨s,ts⟩ j).hd+(shT t).x)%4294967296)) ho5).trans ?_;unfold zkK;rw [if_neg zc,if_pos hk];try rfl
         refine(zcP rb _ cap _ _ _ hRs).mono ?_
         rintro e wb ⟨rfl,hRb,hCb⟩))
      go_roundg(gk-1)
      case measure=>omega
      case rel=>
       refine⟨j+1,zc,jq,?_,?_,?_,hCs.trans hCb⟩
       ·rw [e2]
        rw [NS.k_k]at hRb;exact hRb
       ·exact(hCb.block _ (zy hoW) (Ne.symm hrob)).trans hoW
       ·exact(hCb.block _ (zy hxW) zc).trans hxW
     ·rw [hk]at k1
      have eK:zla (oS ⟨s,ts⟩ j) t=(zw ((oS ⟨s,ts⟩ j).sp+(shT t).x)):=by unfold zla;rw [if_neg zc,if_neg zc,if_pos hk]
      rw [eK]at e2;clear hsr;have had:=fun W=>zBp hoo.sp hsh.x W
      go_wp2_with(first
       |(go_at_call 77
         refine(had _).mono ?_;rintro e wa ⟨rfl,hBa⟩;have hoa:wa.heap[ob]? =some (.cells (oC s (oS ⟨s,ts⟩ j)) 97 (0,0)):=(hBa.block _ (zy ho5)).trans ho5;have hxa:wa.heap[x0]? =some (.cells #[.i 0,.i 0,.i 0,.i 0,.i 0,.i 0,.int .u32 0,.i 0] 97 (0,0)):=(hBa.block _ (zy hx5)).trans hx5;have a7:=zi 7 hoa rfl
         have b7:=zC 7 hoa)
       |(go_at_call 67
         have hCs:Chg rb w (wa.setCell (.q ob 7) (.i (zh ((oS ⟨s,ts⟩ j).sp+(shT t).x)))):=((hC5.trans (Chg.of hBa)).setNew (x:=ob) (k:=7) (u:=.i (zh ((oS ⟨s,ts⟩ j).sp+(shT t).x))) hobw);have hRs:zaz (wa.setCell (.q ob 7) (.i (zh ((oS ⟨s,ts⟩ j).sp+(shT t).x)))) rb (some (.q ab 0)) cap ⟨s.k (oK ⟨s,ts⟩ j),ts⟩:=hR.chg hCs (zt (hR5.below hBa).blk hrob) (zep.refl _);have hxW:(wa.setCell (.q ob 7) (.i (zh ((oS ⟨s,ts⟩ j).sp+(shT t).x)))).heap[x0]? =some (.cells #[.i 0,.i 0,.i 0,.i 0,.i 0,.i 0,.int .u32 0,.i 0] 97 (0,0)):=(zt hxa hxob);have hoW:(wa.setCell (.q ob 7) (.i (zh ((oS ⟨s,ts⟩ j).sp+(shT t).x)))).heap[ob]? =some (.cells (oC s (oS ⟨s,ts⟩ (j+1))) 97 (0,0)):=by
          rw [e1];refine(zf (o:=7) (v:=.i (zh ((oS ⟨s,ts⟩ j).sp+(shT t).x))) hoa).trans ?_;unfold zkK;rw [if_neg zc,if_neg zc,if_pos hk];try rfl
         refine(zcP rb _ cap _ _ _ hRs).mono ?_
         rintro e wb ⟨rfl,hRb,hCb⟩))
      go_roundg(gk-1)
      case measure=>omega
      case rel=>
       refine⟨j+1,zc,jq,?_,?_,?_,hCs.trans hCb⟩
       ·rw [e2]
        rw [NS.k_k]at hRb;exact hRb
       ·exact(hCb.block _ (zy hoW) (Ne.symm hrob)).trans hoW
       ·exact(hCb.block _ (zy hxW) zc).trans hxW
     ·rw [hk]at k1
      have eK:zla (oS ⟨s,ts⟩ j) t=(zeg (oS ⟨s,ts⟩ j).p (shT t)):=by unfold zla;rw [if_neg zc,if_neg zc,if_neg zc]
      rw [eK]at e2;clear hsr;have had:=fun W=>zta hoo.p.x hoo.p.y hoo.p.z hsh.x hsh.y hsh.z W
      go_wp2_with(first
       |(go_at_call 66
         refine(had _).mono ?_;rintro e wa ⟨rfl,hBa⟩;have hoa:wa.heap[ob]? =some (.cells (oC s (oS ⟨s,ts⟩ j)) 97 (0,0)):=(hBa.block _ (zy ho5)).trans ho5;have hxa:wa.heap[x0]? =some (.cells #[.i 0,.i 0,.i 0,.i 0,.i 0,.i 0,.int .u32 0,.i 0] 97 (0,0)):=(hBa.block _ (zy hx5)).trans hx5;have a0:=zi 0 hoa rfl;have b0:=zC 0 hoa;have a1:=zi 1 hoa rfl;have b1:=zC 1 hoa;have a2:=zi 2 hoa rfl
         have b2:=zC 2 hoa)
       |(go_at_call 67
         have hCs:Chg rb w (((wa.setCell (.q ob 0) (.i (zh ((oS ⟨s,ts⟩ j).p.x+(shT t).x)))).setCell (.q ob 1) (.i (zh ((oS ⟨s,ts⟩ j).p.y+(shT t).y)))).setCell (.q ob 2) (.i (zh ((oS ⟨s,ts⟩ j).p.z+(shT t).z)))):=((((hC5.trans (Chg.of hBa)).setNew (x:=ob) (k:=0) (u:=.i (zh ((oS ⟨s,ts⟩ j).p.x+(shT t).x))) hobw).setNew (x:=ob) (k:=1) (u:=.i (zh ((oS ⟨s,ts⟩ j).p.y+(shT t).y))) hobw).setNew (x:=ob) (k:=2) (u:=.i (zh ((oS ⟨s,ts⟩ j).p.z+(shT t).z))) hobw);have hRs:zaz (((wa.setCell (.q ob 0) (.i (zh ((oS ⟨s,ts⟩ j).p.x+(shT t).x)))).setCell (.q ob 1) (.i (zh ((oS ⟨s,ts⟩ j).p.y+(shT t).y)))).setCell (.q ob 2) (.i (zh ((oS ⟨s,ts⟩ j).p.z+(shT t).z)))) rb (some (.q ab 0)) cap ⟨s.k (oK ⟨s,ts⟩ j),ts⟩:=hR.chg hCs (zt (zt (zt (hR5.below hBa).blk hrob) hrob) hrob) (zep.refl _)
         have hxW:(((wa.setCell (.q ob 0) (.i (zh ((oS ⟨s,ts⟩ j).p.x+(shT t).x)))).setCell (.q ob 1) (.i (zh ((oS ⟨s,ts⟩ j).p.y+(shT t).y)))).setCell (.q ob 2) (.i (zh ((oS ⟨s,ts⟩ j).p.z+(shT t).z)))).heap[x0]? =some (.cells #[.i 0,.i 0,.i 0,.i 0,.i 0,.i 0,.int .u32 0,.i 0] 97 (0,0)):=(zt (zt (zt hxa hxob) hxob) hxob);have hoW:(((wa.setCell (.q ob 0) (.i (zh ((oS ⟨s,ts⟩ j).p.x+(shT t).x)))).setCell (.q ob 1) (.i (zh ((oS ⟨s,ts⟩ j).p.y+(shT t).y)))).setCell (.q ob 2) (.i (zh ((oS ⟨s,ts⟩ j).p.z+(shT t).z)))).heap[ob]? =some (.cells (oC s (oS ⟨s,ts⟩ (j+1))) 97 (0,0)):=by
          rw [e1];refine(zf (o:=2) (v:=.i (zh ((oS ⟨s,ts⟩ j).p.z+(shT t).z))) (zf (o:=1) (v:=.i (zh ((oS ⟨s,ts⟩ j).p.y+(shT t).y))) (zf (o:=0) (v:=.i (zh ((oS ⟨s,ts⟩ j).p.x+(shT t).x))) hoa))).trans ?_;unfold zkK;rw [if_neg zc,if_neg zc,if_neg zc];try rfl
         refine(zcP rb _ cap _ _ _ hRs).mono ?_
         rintro e wb ⟨rfl,hRb,hCb⟩))
      go_roundg(gk-1)
      case measure=>omega
      case rel=>
       refine⟨j+1,zc,jq,?_,?_,?_,hCs.trans hCb⟩
       ·rw [e2]
        rw [NS.k_k]at hRb;exact hRb
       ·exact(hCb.block _ (zy hoW) (Ne.symm hrob)).trans hoW
       ·exact(hCb.block _ (zy hxW) zc).trans hxW
   ·have hj8:j=ts.length:=zc
    have hgk:(j:Int)=ts.length:=zc;subst hj8;rw [show oS ⟨s,ts⟩ ts.length=(zct ⟨s,ts⟩).1 by unfold oS zct;rw [List.take_length]]at hor
    rw [show oK ⟨s,ts⟩ ts.length=(zw (spZ s)||zpY (zBn s) ts) by unfold oK;rw [List.take_length]]at hRr
    have c0:=zi 0 hor rfl;have z0:=zi 0 hxr rfl;have y0:=zC 0 hxr;have c1:=zi 1 hor rfl;have z1:=zi 1 hxr rfl;have y1:=zC 1 hxr;have c2:=zi 2 hor rfl;have z2:=zi 2 hxr rfl;have y2:=zC 2 hxr;have c3:=zi 3 hor rfl;have z3:=zi 3 hxr rfl;have y3:=zC 3 hxr;have c4:=zi 4 hor rfl;have z4:=zi 4 hxr rfl;have y4:=zC 4 hxr;have c5:=zi 5 hor rfl;have z5:=zi 5 hxr rfl;have y5:=zC 5 hxr;have c6:=zi 6 hor rfl;have z6:=zi 6 hxr rfl;have y6:=zC 6 hxr;have c7:=zi 7 hor rfl;have z7:=zi 7 hxr rfl;have y7:=zC 7 hxr;clear hgk;go_wp2;have hfin:((((((((wr.setCell (.q x0 0) (.i (zct ⟨s,ts⟩).1.p.x)).setCell (.q x0 1) (.i (zct ⟨s,ts⟩).1.p.y)).setCell (.q x0 2) (.i (zct ⟨s,ts⟩).1.p.z)).setCell (.q x0 3) (.i s.v0)).setCell (.q x0 4) (.i s.v1)).setCell (.q x0 5) (.i s.v2)).setCell (.q x0 6) (.int .u32 (zct ⟨s,ts⟩).1.hd)).setCell (.q x0 7) (.i (zct ⟨s,ts⟩).1.sp)).heap[x0]? =some (.cells (oC s (zct ⟨s,ts⟩).1) 97 (0,0)):=zfj hxr
    have hcf:Chg rb w ((((((((wr.setCell (.q x0 0) (.i (zct ⟨s,ts⟩).1.p.x)).setCell (.q x0 1) (.i (zct ⟨s,ts⟩).1.p.y)).setCell (.q x0 2) (.i (zct ⟨s,ts⟩).1.p.z)).setCell (.q x0 3) (.i s.v0)).setCell (.q x0 4) (.i s.v1)).setCell (.q x0 5) (.i s.v2)).setCell (.q x0 6) (.int .u32 (zct ⟨s,ts⟩).1.hd)).setCell (.q x0 7) (.i (zct ⟨s,ts⟩).1.sp)):=zgV hCr hx0s;have hrf:=hR.chg (p':=⟨s.k (zw (spZ s)||zpY (zBn s) ts),ts⟩) hcf (zRt hRr.blk zc) (zep.refl _);generalize((((((((wr.setCell (.q x0 0) (.i (zct ⟨s,ts⟩).1.p.x)).setCell (.q x0 1) (.i (zct ⟨s,ts⟩).1.p.y)).setCell (.q x0 2) (.i (zct ⟨s,ts⟩).1.p.z)).setCell (.q x0 3) (.i s.v0)).setCell (.q x0 4) (.i s.v1)).setCell (.q x0 5) (.i s.v2)).setCell (.q x0 6) (.int .u32 (zct ⟨s,ts⟩).1.hd)).setCell (.q x0 7) (.i (zct ⟨s,ts⟩).1.sp))=W at*
    try simp only [Exit.inBlock,Exit.then]
    refine bodyPost_ret (zim rfl _ _ x0 97 (oC s (zct ⟨s,ts⟩).1) (0,0) rfl hfin (zaZ kfz) kfz) rfl ?_;exact⟨rfl,hrf,hcf⟩
end Go.Xv
