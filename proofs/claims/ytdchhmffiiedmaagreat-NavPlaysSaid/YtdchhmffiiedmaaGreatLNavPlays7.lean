/- A navigator answers, whatever the inertial sensor and the aids tell, what the document says: the law returns true for every input, and leaves its arguments as they were. -/
import Derived.Test.YtdchhmffiiedmaaGreatLNavPlays
import Derived.Test.YtdchhmffiiedmaaGreatLNavPlays3
import Derived.Test.YtdchhmffiiedmaaGreatLNavPlays4
import Derived.Test.YtdchhmffiiedmaaGreatLNavPlays6
set_option linter.unusedVariables false
set_option linter.unusedSimpArgs false
set_option maxRecDepth 100000
set_option maxHeartbeats 64000000
open Go.IntKind (wrap)
namespace Go.Xv
open Go.RowKit
theorem zW3{W:World}{rb:Nat}{rp:Option Addr}{cap:Nat}{s:NS}{ts:List TK}(h:zaz W rb rp cap ⟨s,ts⟩)(A:Att)(v q:V3)(tk:Int)(hs0:s.start≠ -1):zaz (((((((((((((((((W.setCell (.q rb 5) (.i A.m.a0)).setCell (.q rb 6) (.i A.m.a1)).setCell (.q rb 7) (.i A.m.a2)).setCell (.q rb 8) (.i A.m.a3)).setCell (.q rb 9) (.i A.m.a4)).setCell (.q rb 10) (.i A.m.a5)).setCell (.q rb 11) (.i A.m.a6)).setCell (.q rb 12) (.i A.m.a7)).setCell (.q rb 13) (.i A.m.a8)).setCell (.q rb 14) (.i A.n)).setCell (.q rb 15) (.i v.x)).setCell (.q rb 16) (.i v.y)).setCell (.q rb 17) (.i v.z)).setCell (.q rb 18) (.i q.x)).setCell (.q rb 19) (.i q.y)).setCell (.q rb 20) (.i q.z)).setCell (.q rb 62) (.i tk)).drew rb rp cap ⟨⟨s.g0,s.g1,s.g2,v.x,v.y,v.z,q.x,q.y,q.z,s.drift,A,s.start,tk,s.now,s.cut⟩,ts⟩:=by
 refine h.chg (by
  have c0:=Chg.refl rb W
  repeat(first|(with_reducible exact c0)|(with_reducible refine Chg.drew ?_)|(with_reducible refine Chg.setCell ?_ _ _))) ?_ (zep.refl _)
 rw [zEo];have h0:=h.blk;have e:zBr ⟨s.g0,s.g1,s.g2,v.x,v.y,v.z,q.x,q.y,q.z,s.drift,A,s.start,tk,s.now,s.cut⟩=tk:=by unfold zBr;exact if_neg hs0
 replace h0:=zf (o:=5) (v:=.i A.m.a0) h0;simp only [sLz]at h0;replace h0:=zf (o:=6) (v:=.i A.m.a1) h0;simp only [sLz]at h0;replace h0:=zf (o:=7) (v:=.i A.m.a2) h0;simp only [sLz]at h0;replace h0:=zf (o:=8) (v:=.i A.m.a3) h0;simp only [sLz]at h0;replace h0:=zf (o:=9) (v:=.i A.m.a4) h0;simp only [sLz]at h0;replace h0:=zf (o:=10) (v:=.i A.m.a5) h0;simp only [sLz]at h0;replace h0:=zf (o:=11) (v:=.i A.m.a6) h0;simp only [sLz]at h0;replace h0:=zf (o:=12) (v:=.i A.m.a7) h0;simp only [sLz]at h0;replace h0:=zf (o:=13) (v:=.i A.m.a8) h0;simp only [sLz]at h0;replace h0:=zf (o:=14) (v:=.i A.n) h0;simp only [sLz]at h0
 replace h0:=zf (o:=15) (v:=.i v.x) h0;simp only [sLz]at h0;replace h0:=zf (o:=16) (v:=.i v.y) h0;simp only [sLz]at h0;replace h0:=zf (o:=17) (v:=.i v.z) h0;simp only [sLz]at h0;replace h0:=zf (o:=18) (v:=.i q.x) h0;simp only [sLz]at h0;replace h0:=zf (o:=19) (v:=.i q.y) h0;simp only [sLz]at h0;replace h0:=zf (o:=20) (v:=.i q.z) h0;simp only [sLz]at h0;replace h0:=zf (o:=62) (v:=.i tk) h0;simp only [sLz]at h0;rw [h0];unfold zOw;rw [e]
theorem zOC(rb:Nat)(rp:Option Addr)(cap:Nat)(p:PS)(hs:p.s.ok)(hf:p.s.start= -1\/(0<=p.s.start/\0<=p.s.last/\p.s.last<=p.s.now))(hn0:0<=p.s.now)(tk kd:Int)(r x:V3)(hr:r.W)(hx:x.W)(f:Nat->Value)(hd:zUT f kd r x)(w:World)(hR:zaz w rb rp cap p):
 Calls PP 27 #[ptB rb,.i tk,.agg (rdA f)] w fun e w'=>e= .returned (.i (zr4 p.s tk kd))/\zaz w' rb rp cap ⟨zpi p.s tk kd r x,p.ts⟩/\Chg rb w w':=by
 obtain⟨s0,ts⟩:=p;replace hs:s0.ok:=hs;replace hf:s0.start= -1\/(0<=s0.start/\0<=s0.last/\s0.last<=s0.now):=hf;replace hn0:0<=s0.now:=hn0;dsimp only;have hA0:Below w.heap.size w (w.alloc (.cells (rdA f) 50)):=(Below.refl _ w).alloc (Nat.le_refl _) _;have hR0:=hR.below hA0;have ha:=zEw rb rp cap ⟨s0,ts⟩ tk _ hR0;have k0:(w.alloc (.cells (rdA f) 50)).cell? (.q w.heap.size 0)=some (.i kd):=(za (heap_alloc_new w _)).trans ((za6 f 0 zc).trans (congrArg some hd.d0));go_enter Proofs.Tryz.func27,Proofs.Tryz.ntmps27
 by_cases hk:kd=1
 ·subst hk
  by_cases ht:s0.now<=tk/\tk<=1099511627776
  ·have hE:zr4 s0 tk 1=0:=by unfold zr4;rw [if_pos ⟨rfl,ht⟩]
   rw [hE];replace ha:=ha.mono (R':=fun e w'=>e= .returned (.bool true)/\zaz w' rb rp cap ⟨{s0 with now:=tk},ts⟩/\Chg rb (w.alloc (.cells (rdA f) 50)) w') fun e w' h=>by
    rcases h with h|h
    ·exact absurd ht h.1
    ·exact h.2
   have hnw:=hR.lt;obtain⟨s,hse⟩:∃s,s=({s0 with now:=tk}:NS):=⟨_,rfl⟩;have hs1:s.ok:=by rw [hse];exact⟨hs.g0,hs.g1,hs.g2,hs.v0,hs.v1,hs.v2,hs.p0,hs.p1,hs.p2,hs.m,hs.n⟩
   have hst:s.start=s0.start:=by rw [hse]
   have hla:s.last=s0.last:=by rw [hse]
   have hI:zpi s0 tk 1 r x=if s0.start= -1 then{s with start:=tk,last:=tk}else{zEn s (min (tk-s0.last) 65535) r x with last:=tk}:=by unfold zpi;rw [if_pos ⟨rfl,ht⟩,hse]
   rw [hI];rw [<-hse]at ha;clear hI hse;by_cases h0:s0.start= -1
   ·rw [if_pos h0]
    go_wp2_with(go_at_call 60;refine ha.mono ?_;clear ha;rintro e w1 ⟨rfl,hN1,hC1⟩
                have c61:=zi 61 hN1.blk rfl;have f61:=zC 61 hN1.blk;have c62:=zi 62 hN1.blk rfl;have f62:=zC 62 hN1.blk
                rw [hst,h0]at c61)
    go_ret;have hC2:Chg rb w1 ((w1.setCell (.q rb 61) (.i tk)).setCell (.q rb 62) (.i tk)):=((Chg.refl rb w1).setCell 61 _).setCell 62 _;have htk:tk≠ -1:=zc;refine⟨rfl,hN1.chg hC2 ?_ (zep.refl _),(Chg.of hA0).trans (hC1.trans hC2)⟩;rw [zf (zf hN1.blk)];simp only [sLz];unfold zOw zBr;dsimp only;rw [if_neg htk]
   ·rw [if_neg h0]
    have hf':=hf.resolve_left h0;have hs2: ¬s0.start<0:=zc;have hrl:zBr s=s0.last:=by unfold zBr;rw [hst,if_neg h0,hla]
    have hwt:wrap .i64 (tk-s0.last)=tk-s0.last:=by simp [wrap,IntKind.signed,IntKind.bits];omega
    have hmin:(if 65535<tk-s0.last then 65535 else tk-s0.last)=min (tk-s0.last) 65535:=zc;obtain⟨t,htd⟩:∃t,min (tk-s0.last) 65535=t:=⟨_,rfl⟩;have ht0:0<=t:=zc;have ht1:t<=65535:=zc;have hwt2:wrap .i64 (t*4294967296)=t*4294967296:=by simp [wrap,IntKind.signed,IntKind.bits];omega
    have hdiv:=fun w=>zOs (a:=t*4294967296) (b:=429496729600) (by unfold zr;omega) (by unfold zr;omega) w
    rw [show zld (t*4294967296) 429496729600=dtZ t from rfl]at hdiv;have hstep:=fun w=>zLX hs1.m (by have:=hs1.n;omega) (t:=t) hr.x hr.y hr.z w
    rw [show zaF s.a (yv r.x t) (yv r.y t) (yv r.z t)=jd s t r from rfl]at hstep;rw [htd]
    go_wp2_with(first
     |(go_at_call 60;refine ha.mono ?_;clear ha;rintro e wb ⟨rfl,hNb,hCb⟩
       have c61:=zi 61 hNb.blk rfl;have c62:=zi 62 hNb.blk rfl;rw [hst]at c61
       rw [hrl]at c62)
     |(go_at_call 61;refine(hdiv _).mono ?_;clear hdiv;rintro e w1 ⟨rfl,hB1⟩))
    obtain⟨w0,hw0⟩:∃b,w.heap.size=b:=⟨_,rfl⟩;have hrb0:rb<w0:=zc;have bxb:wb.heap[w0]? =some (.cells (rdA f) 50 (0,0)):=(hCb.block _ (by rw [<-hw0];simp) zc).trans (hw0▸heap_alloc_new w _);have hcwb:Chg rb w wb:=(Chg.of hA0).trans hCb;have h1:Below wb.heap.size wb w1:=hB1;have bx1:w1.heap[w0]? =some (.cells (rdA f) 50 (0,0)):=(hB1.block _ (zy bxb)).trans bxb;have hN1:=hNb.below h1;have hnw2:rb<wb.heap.size:=hNb.lt;have hs0':s.start≠ -1:=by rw [hst];exact h0
    have d1:=(za6 f 1 zc).trans (congrArg some hd.d1);have d2:=(za6 f 2 zc).trans (congrArg some hd.d2);have d3:=(za6 f 3 zc).trans (congrArg some hd.d3);have d4:=(za6 f 4 zc).trans (congrArg some hd.d4);have d5:=(za6 f 5 zc).trans (congrArg some hd.d5);have d6:=(za6 f 6 zc).trans (congrArg some hd.d6);have hs:=hs1;rw [hw0];generalize rdA f=rd at*
    clear hB1 hwt hwt2 hmin c61 c62 hst hla hrl hs1 hs2 hf hf' h0 ht hE htd k0 hR0 hR hNb hCb hA0 hd bxb;have hS2:∀w',Below w1.heap.size w1 w'->w'.cell? (.q rb 5)=some (.i s.a.m.a0)/\w'.cell? (.q rb 6)=some (.i s.a.m.a1)/\w'.cell? (.q rb 7)=some (.i s.a.m.a2)/\w'.cell? (.q rb 8)=some (.i s.a.m.a3)/\w'.cell? (.q rb 9)=some (.i s.a.m.a4)/\w'.cell? (.q rb 10)=some (.i s.a.m.a5)/\w'.cell? (.q rb 11)=some (.i s.a.m.a6)/\w'.cell? (.q rb 12)=some (.i s.a.m.a7)/\w'.cell? (.q rb 13)=some (.i s.a.m.a8)/\w'.cell? (.q rb 14)=some (.i s.a.n)/\w'.cell? (.q w0 1)=some (.int .i32 r.x)/\w'.cell? (.q w0 2)=some (.int .i32 r.y)/\w'.cell? (.q w0 3)=some (.int .i32 r.z):=fun w' hB=>⟨(hB.cell (p:=(.q rb _)) hN1.lt).trans (za hN1.blk),(hB.cell (p:=(.q rb _)) hN1.lt).trans (za hN1.blk),(hB.cell (p:=(.q rb _)) hN1.lt).trans (za hN1.blk),(hB.cell (p:=(.q rb _)) hN1.lt).trans (za hN1.blk),(hB.cell (p:=(.q rb _)) hN1.lt).trans (za hN1.blk),(hB.cell (p:=(.q rb _)) hN1.lt).trans (za hN1.blk),(hB.cell (p:=(.q rb _)) hN1.lt).trans (za hN1.blk),(hB.cell (p:=(.q rb _)) hN1.lt).trans (za hN1.blk),(hB.cell (p:=(.q rb _)) hN1.lt).trans (za hN1.blk),(hB.cell (p:=(.q rb _)) hN1.lt).trans (za hN1.blk),(hB.cell (p:=(.q w0 _)) (zy bx1)).trans ((za bx1).trans d1),(hB.cell (p:=(.q w0 _)) (zy bx1)).trans ((za bx1).trans d2),(hB.cell (p:=(.q w0 _)) (zy bx1)).trans ((za bx1).trans d3)⟩
    have hd2:Below w1.heap.size w1 w1.drew:=⟨rfl,rfl,rfl,Nat.le_refl _,fun _ _=>rfl⟩;have hA2:∀o,Below w1.heap.size w1 (w1.alloc o).drew:=fun o=>hd2.alloc (Nat.le_refl _) o
    have hc2:=fun W (hW:Below w1.heap.size w1 W)=>(hstep W).mono fun e w' (h:_/\_)=>(⟨h.1,hW.trans (h.2.mono hW.size),h.2⟩:_/\Below w1.heap.size w1 w'/\Below W.heap.size W w')
    go_cut [10,11] (fun va vb w'=>∃l,va= .pointer (some (.q l 0))/\vb= .bool (zri s.a.m (yv r.x t) (yv r.y t) (yv r.z t))/\w'.heap[l]? =some (.cells #[.i (jd s t r).m.a0,.i (jd s t r).m.a1,.i (jd s t r).m.a2,.i (jd s t r).m.a3,.i (jd s t r).m.a4,.i (jd s t r).m.a5,.i (jd s t r).m.a6,.i (jd s t r).m.a7,.i (jd s t r).m.a8,.i (jd s t r).n] 87 (0,0))/\w1.heap.size<=l/\Below w1.heap.size w1 w')
    case first=>
     go_region_held3(fun w'=>w'.cell? (.q rb 5)=some (.i s.a.m.a0)/\w'.cell? (.q rb 6)=some (.i s.a.m.a1)/\w'.cell? (.q rb 7)=some (.i s.a.m.a2)/\w'.cell? (.q rb 8)=some (.i s.a.m.a3)/\w'.cell? (.q rb 9)=some (.i s.a.m.a4)/\w'.cell? (.q rb 10)=some (.i s.a.m.a5)/\w'.cell? (.q rb 11)=some (.i s.a.m.a6)/\w'.cell? (.q rb 12)=some (.i s.a.m.a7)/\w'.cell? (.q rb 13)=some (.i s.a.m.a8)/\w'.cell? (.q rb 14)=some (.i s.a.n)/\w'.cell? (.q w0 1)=some (.int .i32 r.x)/\w'.cell? (.q w0 2)=some (.int .i32 r.y)/\w'.cell? (.q w0 3)=some (.int .i32 r.z))
      (first|(with_reducible exact hS2 _ hd2)|(with_reducible exact hS2 _ hBz')|(with_reducible exact hS2 _ (hA2 _))|(with_reducible exact hS2 _ (hBz'.alloc hBz'.size _))|(with_reducible exact hS2 _ (zjY hBz' (Nat.le_refl _))))
      (first
        |(go_at_call 62
          refine(hc2 _ (by with_reducible exact hd2)).mono ?_
          rintro e wz ⟨rfl,hBz',hBz⟩)
        |(go_at_call 62
          refine(hc2 _ (by with_reducible exact hA2 _)).mono ?_;rintro e wz ⟨rfl,hBz',hBz⟩;have hz:wz.heap[w1.heap.size]? =_:=(hBz.block _ jq).trans (heap_alloc_new w1 _);have z0:=zi 0 hz rfl;have y0:=zC 0 hz;have z1:=zi 1 hz rfl;have y1:=zC 1 hz;have z2:=zi 2 hz rfl;have y2:=zC 2 hz;have z3:=zi 3 hz rfl;have y3:=zC 3 hz;have z4:=zi 4 hz rfl;have y4:=zC 4 hz;have z5:=zi 5 hz rfl;have y5:=zC 5 hz;have z6:=zi 6 hz rfl;have y6:=zC 6 hz;have z7:=zi 7 hz rfl;have y7:=zC 7 hz;have z8:=zi 8 hz rfl;have y8:=zC 8 hz;have z9:=zi 9 hz rfl
          have y9:=zC 9 hz))
     ·go_wp2
      go_meet
      case rel=>exact⟨wz.heap.size,rfl,rfl,heap_alloc_new wz _,hBz'.size,hBz'.alloc hBz'.size _⟩
     ·go_wp2
      go_meet
      case rel=>exact⟨w1.heap.size,rfl,rfl,zys hz,Nat.le_refl _,zjY hBz' (Nat.le_refl _)⟩
    case rest=>
    obtain⟨la,rfl,rfl,bla2,hlla,hB2⟩:=hcut;obtain⟨w2,hw2⟩:∃x,x=wc:=⟨_,rfl⟩;subst hw2;have h2:Below wb.heap.size wb w2:=h1.trans (hB2.mono h1.size);have bx2:w2.heap[w0]? =some (.cells rd 50 (0,0)):=(hB2.block _ (zy bx1)).trans bx1;have hN2:=hN1.below hB2;clear hS2 hd2 hA2 hc2;have hA:MI (jd s t r).m:=zNV hs t r;have hlift:∀W,Calls PP 63 #[.agg #[.i (jd s t r).m.a0,.i (jd s t r).m.a1,.i (jd s t r).m.a2,.i (jd s t r).m.a3,.i (jd s t r).m.a4,.i (jd s t r).m.a5,.i (jd s t r).m.a6,.i (jd s t r).m.a7,.i (jd s t r).m.a8,.i (jd s t r).n],.agg #[.int .i32 x.x,.int .i32 x.y,.int .i32 x.z]] W fun e w'=>e= .returned (.tuple #[.agg #[.i (zbq (jd s t r) x).x,.i (zbq (jd s t r) x).y,.i (zbq (jd s t r) x).z],.bool (zwm (jd s t r) x)])/\Below W.heap.size W w':=fun W=>zLY hA hx.x hx.y hx.z W
    have cla0:=zi 0 bla2 rfl;have cla1:=zi 1 bla2 rfl;have cla2:=zi 2 bla2 rfl;have cla3:=zi 3 bla2 rfl;have cla4:=zi 4 bla2 rfl;have cla5:=zi 5 bla2 rfl;have cla6:=zi 6 bla2 rfl;have cla7:=zi 7 bla2 rfl;have cla8:=zi 8 bla2 rfl;have cla9:=zi 9 bla2 rfl;have cbox4:w2.cell? (.q w0 4)=some (.int .i32 x.x):=(za bx2).trans d4;have cbox5:w2.cell? (.q w0 5)=some (.int .i32 x.y):=(za bx2).trans d5;have cbox6:w2.cell? (.q w0 6)=some (.int .i32 x.z):=(za bx2).trans d6;go_wp2_with(go_at_call 63;refine(hlift _).mono ?_;clear hlift;rintro e wz ⟨rfl,hBz⟩)
    clear cla0 cla1 cla2 cla3 cla4 cla5 cla6 cla7 cla8 cla9;clear cbox4 cbox5 cbox6;have hB3:Below w2.heap.size w2 (wz.alloc (.cells (v3z (zbq (jd s t r) x)) 24)):=hBz.alloc hBz.size _;have blf3:(wz.alloc (.cells (v3z (zbq (jd s t r) x)) 24)).heap[wz.heap.size]? =some (.cells (v3z (zbq (jd s t r) x)) 24 (0,0)):=heap_alloc_new wz _;have hllf:=hBz.size;clear hBz;generalize wz.alloc (.cells (v3z (zbq (jd s t r) x)) 24)=w3 at*
    generalize wz.heap.size=lf at*
    have h3:Below wb.heap.size wb w3:=h2.trans (hB3.mono h2.size);have bx3:w3.heap[w0]? =some (.cells rd 50 (0,0)):=(hB3.block _ (zy bx2)).trans bx2;have hN3:=hN2.below hB3;have bla3:w3.heap[la]? =some (.cells #[.i (jd s t r).m.a0,.i (jd s t r).m.a1,.i (jd s t r).m.a2,.i (jd s t r).m.a3,.i (jd s t r).m.a4,.i (jd s t r).m.a5,.i (jd s t r).m.a6,.i (jd s t r).m.a7,.i (jd s t r).m.a8,.i (jd s t r).n] 87 (0,0)):=(hB3.block _ (zy bla2)).trans bla2;have hsub:∀W,Calls PP 64 #[.agg #[.i (zbq (jd s t r) x).x,.i (zbq (jd s t r) x).y,.i (zbq (jd s t r) x).z],.agg #[.i s.g0,.i s.g1,.i s.g2]] W fun e w'=>e= .returned (.tuple #[.agg #[.i (stQ s t r x).x,.i (stQ s t r x).y,.i (stQ s t r x).z],.bool (zs6 (zbq (jd s t r) x) s.g)])/\Below W.heap.size W w':=fun W=>zLZ (ztD _ _).x (ztD _ _).y (ztD _ _).z hs.g0 hs.g1 hs.g2 W
    have hS4:∀w',Below w3.heap.size w3 w'->w'.cell? (.q rb 0)=some (.i s.g0)/\w'.cell? (.q rb 1)=some (.i s.g1)/\w'.cell? (.q rb 2)=some (.i s.g2)/\w'.cell? (.q lf 0)=some (.i (zbq (jd s t r) x).x)/\w'.cell? (.q lf 1)=some (.i (zbq (jd s t r) x).y)/\w'.cell? (.q lf 2)=some (.i (zbq (jd s t r) x).z):=fun w' hB=>⟨(hB.cell (p:=(.q rb _)) hN3.lt).trans (za hN3.blk),(hB.cell (p:=(.q rb _)) hN3.lt).trans (za hN3.blk),(hB.cell (p:=(.q rb _)) hN3.lt).trans (za hN3.blk),(hB.cell (p:=(.q lf _)) (zy blf3)).trans (za blf3),(hB.cell (p:=(.q lf _)) (zy blf3)).trans (za blf3),(hB.cell (p:=(.q lf _)) (zy blf3)).trans (za blf3)⟩
    have hd4:Below w3.heap.size w3 w3.drew:=⟨rfl,rfl,rfl,Nat.le_refl _,fun _ _=>rfl⟩;have hA4:∀o,Below w3.heap.size w3 (w3.alloc o).drew:=fun o=>hd4.alloc (Nat.le_refl _) o
    have hc4:=fun W (hW:Below w3.heap.size w3 W)=>(hsub W).mono fun e w' (h:_/\_)=>(⟨h.1,hW.trans (h.2.mono hW.size),h.2⟩:_/\Below w3.heap.size w3 w'/\Below W.heap.size W w')
    go_cut [14,15] (fun va vb w'=>∃l,va= .pointer (some (.q l 0))/\vb= .bool (zs6 (zbq (jd s t r) x) s.g)/\w'.heap[l]? =some (.cells (v3z (stQ s t r x)) 24 (0,0))/\w3.heap.size<=l/\Below w3.heap.size w3 w')
    case first=>
     go_region_held3(fun w'=>w'.cell? (.q rb 0)=some (.i s.g0)/\w'.cell? (.q rb 1)=some (.i s.g1)/\w'.cell? (.q rb 2)=some (.i s.g2)/\w'.cell? (.q lf 0)=some (.i (zbq (jd s t r) x).x)/\w'.cell? (.q lf 1)=some (.i (zbq (jd s t r) x).y)/\w'.cell? (.q lf 2)=some (.i (zbq (jd s t r) x).z))
      (first|(with_reducible exact hS4 _ hd4)|(with_reducible exact hS4 _ hBz')|(with_reducible exact hS4 _ (hA4 _))|(with_reducible exact hS4 _ (hBz'.alloc hBz'.size _))|(with_reducible exact hS4 _ (zay hBz' (Nat.le_refl _))))
      (first
        |(go_at_call 64
          refine(hc4 _ (by with_reducible exact hd4)).mono ?_
          rintro e wz ⟨rfl,hBz',hBz⟩)
        |(go_at_call 64
          refine(hc4 _ (by with_reducible exact hA4 _)).mono ?_;rintro e wz ⟨rfl,hBz',hBz⟩;have hz:wz.heap[w3.heap.size]? =_:=(hBz.block _ jq).trans (heap_alloc_new w3 _);have z0:=zi 0 hz rfl;have y0:=zC 0 hz;have z1:=zi 1 hz rfl;have y1:=zC 1 hz;have z2:=zi 2 hz rfl
          have y2:=zC 2 hz))
     ·go_wp2
      go_meet
      case rel=>exact⟨wz.heap.size,rfl,rfl,heap_alloc_new wz _,hBz'.size,hBz'.alloc hBz'.size _⟩
     ·go_wp2
      go_meet
      case rel=>exact⟨w3.heap.size,rfl,rfl,zbi hz,Nat.le_refl _,zay hBz' (Nat.le_refl _)⟩
    case rest=>
    obtain⟨lq,rfl,rfl,blq4,hllq,hB4⟩:=hcut;obtain⟨w4,hw4⟩:∃x,x=wc:=⟨_,rfl⟩;subst hw4;have h4:Below wb.heap.size wb w4:=h3.trans (hB4.mono h3.size);have hN4:=hN3.below hB4;have bla4:w4.heap[la]? =some (.cells #[.i (jd s t r).m.a0,.i (jd s t r).m.a1,.i (jd s t r).m.a2,.i (jd s t r).m.a3,.i (jd s t r).m.a4,.i (jd s t r).m.a5,.i (jd s t r).m.a6,.i (jd s t r).m.a7,.i (jd s t r).m.a8,.i (jd s t r).n] 87 (0,0)):=(hB4.block _ (zy bla3)).trans bla3;clear hS4 hd4 hA4 hc4;have hsc1:∀W,Calls PP 65 #[.agg #[.i (stQ s t r x).x,.i (stQ s t r x).y,.i (stQ s t r x).z],.i (dtZ t)] W fun e w'=>e= .returned (.tuple #[.agg #[.i (stM s t r x).x,.i (stM s t r x).y,.i (stM s t r x).z],.bool (ziH (stQ s t r x) (dtZ t))])/\Below W.heap.size W w':=fun W=>zun (ztC _ _).x (ztC _ _).y (ztC _ _).z (zv8 _ _) W
    have clq0:=zi 0 blq4 rfl;have clq1:=zi 1 blq4 rfl;have clq2:=zi 2 blq4 rfl;go_wp2_with(go_at_call 65;refine(hsc1 _).mono ?_;clear hsc1;rintro e wz ⟨rfl,hBz⟩)
    clear clq0 clq1 clq2;have hB5:Below w4.heap.size w4 (wz.alloc (.cells (v3z (stM s t r x)) 24)):=hBz.alloc hBz.size _;have blm5:(wz.alloc (.cells (v3z (stM s t r x)) 24)).heap[wz.heap.size]? =some (.cells (v3z (stM s t r x)) 24 (0,0)):=heap_alloc_new wz _;have hllm:=hBz.size;clear hBz;generalize wz.alloc (.cells (v3z (stM s t r x)) 24)=w5 at*
    generalize wz.heap.size=lm at*
    have h5:Below wb.heap.size wb w5:=h4.trans (hB5.mono h4.size);have hN5:=hN4.below hB5;have bla5:w5.heap[la]? =some (.cells #[.i (jd s t r).m.a0,.i (jd s t r).m.a1,.i (jd s t r).m.a2,.i (jd s t r).m.a3,.i (jd s t r).m.a4,.i (jd s t r).m.a5,.i (jd s t r).m.a6,.i (jd s t r).m.a7,.i (jd s t r).m.a8,.i (jd s t r).n] 87 (0,0)):=(hB5.block _ (zy bla4)).trans bla4;have hadd1:∀W,Calls PP 66 #[.agg #[.i s.v0,.i s.v1,.i s.v2],.agg #[.i (stM s t r x).x,.i (stM s t r x).y,.i (stM s t r x).z]] W fun e w'=>e= .returned (.tuple #[.agg #[.i (stV s t r x).x,.i (stV s t r x).y,.i (stV s t r x).z],.bool (zeg s.v (stM s t r x))])/\Below W.heap.size W w':=fun W=>zta hs.v0 hs.v1 hs.v2 (zgA _ _).x (zgA _ _).y (zgA _ _).z W
    have hS6:∀w',Below w5.heap.size w5 w'->w'.cell? (.q rb 15)=some (.i s.v0)/\w'.cell? (.q rb 16)=some (.i s.v1)/\w'.cell? (.q rb 17)=some (.i s.v2)/\w'.cell? (.q lm 0)=some (.i (stM s t r x).x)/\w'.cell? (.q lm 1)=some (.i (stM s t r x).y)/\w'.cell? (.q lm 2)=some (.i (stM s t r x).z):=fun w' hB=>⟨(hB.cell (p:=(.q rb _)) hN5.lt).trans (za hN5.blk),(hB.cell (p:=(.q rb _)) hN5.lt).trans (za hN5.blk),(hB.cell (p:=(.q rb _)) hN5.lt).trans (za hN5.blk),(hB.cell (p:=(.q lm _)) (zy blm5)).trans (za blm5),(hB.cell (p:=(.q lm _)) (zy blm5)).trans (za blm5),(hB.cell (p:=(.q lm _)) (zy blm5)).trans (za blm5)⟩
    have hd6:Below w5.heap.size w5 w5.drew:=⟨rfl,rfl,rfl,Nat.le_refl _,fun _ _=>rfl⟩;have hA6:∀o,Below w5.heap.size w5 (w5.alloc o).drew:=fun o=>hd6.alloc (Nat.le_refl _) o
    have hc6:=fun W (hW:Below w5.heap.size w5 W)=>(hadd1 W).mono fun e w' (h:_/\_)=>(⟨h.1,hW.trans (h.2.mono hW.size),h.2⟩:_/\Below w5.heap.size w5 w'/\Below W.heap.size W w')
    go_cut [18,19] (fun va vb w'=>∃l,va= .pointer (some (.q l 0))/\vb= .bool (zeg s.v (stM s t r x))/\w'.heap[l]? =some (.cells (v3z (stV s t r x)) 24 (0,0))/\w5.heap.size<=l/\Below w5.heap.size w5 w')
    case first=>
     go_region_held3(fun w'=>w'.cell? (.q rb 15)=some (.i s.v0)/\w'.cell? (.q rb 16)=some (.i s.v1)/\w'.cell? (.q rb 17)=some (.i s.v2)/\w'.cell? (.q lm 0)=some (.i (stM s t r x).x)/\w'.cell? (.q lm 1)=some (.i (stM s t r x).y)/\w'.cell? (.q lm 2)=some (.i (stM s t r x).z))
      (first|(with_reducible exact hS6 _ hd6)|(with_reducible exact hS6 _ hBz')|(with_reducible exact hS6 _ (hA6 _))|(with_reducible exact hS6 _ (hBz'.alloc hBz'.size _))|(with_reducible exact hS6 _ (zay hBz' (Nat.le_refl _))))
      (first
        |(go_at_call 66
          refine(hc6 _ (by with_reducible exact hd6)).mono ?_
          rintro e wz ⟨rfl,hBz',hBz⟩)
        |(go_at_call 66
          refine(hc6 _ (by with_reducible exact hA6 _)).mono ?_;rintro e wz ⟨rfl,hBz',hBz⟩;have hz:wz.heap[w5.heap.size]? =_:=(hBz.block _ jq).trans (heap_alloc_new w5 _);have z0:=zi 0 hz rfl;have y0:=zC 0 hz;have z1:=zi 1 hz rfl;have y1:=zC 1 hz;have z2:=zi 2 hz rfl
          have y2:=zC 2 hz))
     ·go_wp2
      go_meet
      case rel=>exact⟨wz.heap.size,rfl,rfl,heap_alloc_new wz _,hBz'.size,hBz'.alloc hBz'.size _⟩
     ·go_wp2
      go_meet
      case rel=>exact⟨w5.heap.size,rfl,rfl,zbi hz,Nat.le_refl _,zay hBz' (Nat.le_refl _)⟩
    case rest=>
    obtain⟨lv,rfl,rfl,blv6,hllv,hB6⟩:=hcut;obtain⟨w6,hw6⟩:∃x,x=wc:=⟨_,rfl⟩;subst hw6;have h6:Below wb.heap.size wb w6:=h5.trans (hB6.mono h5.size);have hN6:=hN5.below hB6;have bla6:w6.heap[la]? =some (.cells #[.i (jd s t r).m.a0,.i (jd s t r).m.a1,.i (jd s t r).m.a2,.i (jd s t r).m.a3,.i (jd s t r).m.a4,.i (jd s t r).m.a5,.i (jd s t r).m.a6,.i (jd s t r).m.a7,.i (jd s t r).m.a8,.i (jd s t r).n] 87 (0,0)):=(hB6.block _ (zy bla5)).trans bla5;clear hS6 hd6 hA6 hc6;have hsc2:∀W,Calls PP 65 #[.agg #[.i (stV s t r x).x,.i (stV s t r x).y,.i (stV s t r x).z],.i (dtZ t)] W fun e w'=>e= .returned (.tuple #[.agg #[.i (stY s t r x).x,.i (stY s t r x).y,.i (stY s t r x).z],.bool (ziH (stV s t r x) (dtZ t))])/\Below W.heap.size W w':=fun W=>zun (zfH _ _).x (zfH _ _).y (zfH _ _).z (zv8 _ _) W
    have clv0:=zi 0 blv6 rfl;have clv1:=zi 1 blv6 rfl;have clv2:=zi 2 blv6 rfl;go_wp2_with(go_at_call 65;refine(hsc2 _).mono ?_;clear hsc2;rintro e wz ⟨rfl,hBz⟩)
    clear clv0 clv1 clv2;have hB7:Below w6.heap.size w6 (wz.alloc (.cells (v3z (stY s t r x)) 24)):=hBz.alloc hBz.size _;have bly7:(wz.alloc (.cells (v3z (stY s t r x)) 24)).heap[wz.heap.size]? =some (.cells (v3z (stY s t r x)) 24 (0,0)):=heap_alloc_new wz _;have hlly:=hBz.size;clear hBz;generalize wz.alloc (.cells (v3z (stY s t r x)) 24)=w7 at*
    generalize wz.heap.size=ly at*
    have h7:Below wb.heap.size wb w7:=h6.trans (hB7.mono h6.size);have hN7:=hN6.below hB7;have bla7:w7.heap[la]? =some (.cells #[.i (jd s t r).m.a0,.i (jd s t r).m.a1,.i (jd s t r).m.a2,.i (jd s t r).m.a3,.i (jd s t r).m.a4,.i (jd s t r).m.a5,.i (jd s t r).m.a6,.i (jd s t r).m.a7,.i (jd s t r).m.a8,.i (jd s t r).n] 87 (0,0)):=(hB7.block _ (zy bla6)).trans bla6;have blv7:w7.heap[lv]? =some (.cells (v3z (stV s t r x)) 24 (0,0)):=(hB7.block _ (zy blv6)).trans blv6;have hadd2:∀W,Calls PP 66 #[.agg #[.i s.p0,.i s.p1,.i s.p2],.agg #[.i (stY s t r x).x,.i (stY s t r x).y,.i (stY s t r x).z]] W fun e w'=>e= .returned (.tuple #[.agg #[.i (stP s t r x).x,.i (stP s t r x).y,.i (stP s t r x).z],.bool (zeg s.p (stY s t r x))])/\Below W.heap.size W w':=fun W=>zta hs.p0 hs.p1 hs.p2 (zgA _ _).x (zgA _ _).y (zgA _ _).z W
    have hS8:∀w',Below w7.heap.size w7 w'->w'.cell? (.q rb 18)=some (.i s.p0)/\w'.cell? (.q rb 19)=some (.i s.p1)/\w'.cell? (.q rb 20)=some (.i s.p2)/\w'.cell? (.q ly 0)=some (.i (stY s t r x).x)/\w'.cell? (.q ly 1)=some (.i (stY s t r x).y)/\w'.cell? (.q ly 2)=some (.i (stY s t r x).z):=fun w' hB=>⟨(hB.cell (p:=(.q rb _)) hN7.lt).trans (za hN7.blk),(hB.cell (p:=(.q rb _)) hN7.lt).trans (za hN7.blk),(hB.cell (p:=(.q rb _)) hN7.lt).trans (za hN7.blk),(hB.cell (p:=(.q ly _)) (zy bly7)).trans (za bly7),(hB.cell (p:=(.q ly _)) (zy bly7)).trans (za bly7),(hB.cell (p:=(.q ly _)) (zy bly7)).trans (za bly7)⟩
    have hd8:Below w7.heap.size w7 w7.drew:=⟨rfl,rfl,rfl,Nat.le_refl _,fun _ _=>rfl⟩;have hA8:∀o,Below w7.heap.size w7 (w7.alloc o).drew:=fun o=>hd8.alloc (Nat.le_refl _) o
    have hc8:=fun W (hW:Below w7.heap.size w7 W)=>(hadd2 W).mono fun e w' (h:_/\_)=>(⟨h.1,hW.trans (h.2.mono hW.size),h.2⟩:_/\Below w7.heap.size w7 w'/\Below W.heap.size W w')
    go_cut [22,23] (fun va vb w'=>∃l,va= .pointer (some (.q l 0))/\vb= .bool (zeg s.p (stY s t r x))/\w'.heap[l]? =some (.cells (v3z (stP s t r x)) 24 (0,0))/\w7.heap.size<=l/\Below w7.heap.size w7 w')
    case first=>
     go_region_held3(fun w'=>w'.cell? (.q rb 18)=some (.i s.p0)/\w'.cell? (.q rb 19)=some (.i s.p1)/\w'.cell? (.q rb 20)=some (.i s.p2)/\w'.cell? (.q ly 0)=some (.i (stY s t r x).x)/\w'.cell? (.q ly 1)=some (.i (stY s t r x).y)/\w'.cell? (.q ly 2)=some (.i (stY s t r x).z))
      (first|(with_reducible exact hS8 _ hd8)|(with_reducible exact hS8 _ hBz')|(with_reducible exact hS8 _ (hA8 _))|(with_reducible exact hS8 _ (hBz'.alloc hBz'.size _))|(with_reducible exact hS8 _ (zay hBz' (Nat.le_refl _))))
      (first
        |(go_at_call 66
          refine(hc8 _ (by with_reducible exact hd8)).mono ?_
          rintro e wz ⟨rfl,hBz',hBz⟩)
        |(go_at_call 66
          refine(hc8 _ (by with_reducible exact hA8 _)).mono ?_;rintro e wz ⟨rfl,hBz',hBz⟩;have hz:wz.heap[w7.heap.size]? =_:=(hBz.block _ jq).trans (heap_alloc_new w7 _);have z0:=zi 0 hz rfl;have y0:=zC 0 hz;have z1:=zi 1 hz rfl;have y1:=zC 1 hz;have z2:=zi 2 hz rfl
          have y2:=zC 2 hz))
     ·go_wp2
      go_meet
      case rel=>exact⟨wz.heap.size,rfl,rfl,heap_alloc_new wz _,hBz'.size,hBz'.alloc hBz'.size _⟩
     ·go_wp2
      go_meet
      case rel=>exact⟨w7.heap.size,rfl,rfl,zbi hz,Nat.le_refl _,zay hBz' (Nat.le_refl _)⟩
    case rest=>
    obtain⟨lp,rfl,rfl,blp8,hllp,hB8⟩:=hcut;obtain⟨w8,hw8⟩:∃x,x=wc:=⟨_,rfl⟩;subst hw8;have h8:Below wb.heap.size wb w8:=h7.trans (hB8.mono h7.size);have hN8:=hN7.below hB8;have bla8:w8.heap[la]? =some (.cells #[.i (jd s t r).m.a0,.i (jd s t r).m.a1,.i (jd s t r).m.a2,.i (jd s t r).m.a3,.i (jd s t r).m.a4,.i (jd s t r).m.a5,.i (jd s t r).m.a6,.i (jd s t r).m.a7,.i (jd s t r).m.a8,.i (jd s t r).n] 87 (0,0)):=(hB8.block _ (zy bla7)).trans bla7;have blv8:w8.heap[lv]? =some (.cells (v3z (stV s t r x)) 24 (0,0)):=(hB8.block _ (zy blv7)).trans blv7;clear hS8 hd8 hA8 hc8;have hKs:(zXY s t r x)=[zri s.a.m (yv r.x t) (yv r.y t) (yv r.z t),zwm (jd s t r) x,zs6 (zbq (jd s t r) x) s.g,ziH (stQ s t r x) (dtZ t),zeg s.v (stM s t r x),ziH (stV s t r x) (dtZ t),zeg s.p (stY s t r x)]:=rfl
    have hcu:=fun B W (h:zaz W rb rp cap ⟨s,ts⟩)=>zcP rb rp cap ⟨s,ts⟩ B W h
    go_step
    go_step
    go_cut [22] (fun v W=>v= .pointer (some (.q lp 0))/\zaz W rb rp cap ⟨s.k ([zri s.a.m (yv r.x t) (yv r.y t) (yv r.z t),zwm (jd s t r) x,zs6 (zbq (jd s t r) x) s.g,ziH (stQ s t r x) (dtZ t),zeg s.v (stM s t r x),ziH (stV s t r x) (dtZ t),zeg s.p (stY s t r x)].any id),ts⟩/\Chg rb w8 W)
    case first=>
     clear hKs;generalize zri s.a.m (yv r.x t) (yv r.y t) (yv r.z t)=k0 at*
     generalize zwm (jd s t r) x=k1 at*
     generalize zs6 (zbq (jd s t r) x) s.g=k2 at*
     generalize ziH (stQ s t r x) (dtZ t)=k3 at*
     generalize zeg s.v (stM s t r x)=k4 at*
     generalize ziH (stV s t r x) (dtZ t)=k5 at*
     generalize zeg s.p (stY s t r x)=k6 at*
     cases k0
     ·cases k1
      ·cases k2
       ·cases k3
        ·cases k4
         ·cases k5
          ·cases k6
           ·go_wp2_with(go_at_call 67;refine(hcu _ _ hN8).mono ?_;clear hcu;rintro e wz ⟨rfl,hNz,hCz⟩)
            go_meet
            case rel=>exact⟨rfl,hNz,hCz⟩
           ·go_wp2_with(go_at_call 67;refine(hcu _ _ hN8).mono ?_;clear hcu;rintro e wz ⟨rfl,hNz,hCz⟩)
            go_meet
            case rel=>exact⟨rfl,hNz,hCz⟩
          ·go_wp2_with(go_at_call 67;refine(hcu _ _ hN8).mono ?_;clear hcu;rintro e wz ⟨rfl,hNz,hCz⟩)
           go_meet
           case rel=>exact⟨rfl,hNz,hCz⟩
         ·go_wp2_with(go_at_call 67;refine(hcu _ _ hN8).mono ?_;clear hcu;rintro e wz ⟨rfl,hNz,hCz⟩)
          go_meet
          case rel=>exact⟨rfl,hNz,hCz⟩
        ·go_wp2_with(go_at_call 67;refine(hcu _ _ hN8).mono ?_;clear hcu;rintro e wz ⟨rfl,hNz,hCz⟩)
         go_meet
         case rel=>exact⟨rfl,hNz,hCz⟩
       ·go_wp2_with(go_at_call 67;refine(hcu _ _ hN8).mono ?_;clear hcu;rintro e wz ⟨rfl,hNz,hCz⟩)
        go_meet
        case rel=>exact⟨rfl,hNz,hCz⟩
      ·go_wp2_with(go_at_call 67;refine(hcu _ _ hN8).mono ?_;clear hcu;rintro e wz ⟨rfl,hNz,hCz⟩)
       go_meet
       case rel=>exact⟨rfl,hNz,hCz⟩
     ·go_wp2_with(go_at_call 67;refine(hcu _ _ hN8).mono ?_;clear hcu;rintro e wz ⟨rfl,hNz,hCz⟩)
      go_meet
      case rel=>exact⟨rfl,hNz,hCz⟩
    case rest=>
    obtain⟨rfl,hN9,hC⟩:=hcut;obtain⟨w9,hw9⟩:∃x,x=wc:=⟨_,rfl⟩;subst hw9;rw [<-hKs]at hN9;clear hcu hKs;have bla9:w9.heap[la]? =some (.cells #[.i (jd s t r).m.a0,.i (jd s t r).m.a1,.i (jd s t r).m.a2,.i (jd s t r).m.a3,.i (jd s t r).m.a4,.i (jd s t r).m.a5,.i (jd s t r).m.a6,.i (jd s t r).m.a7,.i (jd s t r).m.a8,.i (jd s t r).n] 87 (0,0)):=(hC.block _ (zy bla8) (by have:=h1.size;have:=h3.size;have:=h5.size;have:=h7.size;omega)).trans bla8;have blv9:w9.heap[lv]? =some (.cells (v3z (stV s t r x)) 24 (0,0)):=(hC.block _ (zy blv8) (by have:=h1.size;have:=h3.size;have:=h5.size;have:=h7.size;omega)).trans blv8
    have blp9:w9.heap[lp]? =some (.cells (v3z (stP s t r x)) 24 (0,0)):=(hC.block _ (zy blp8) (by have:=h1.size;have:=h3.size;have:=h5.size;have:=h7.size;omega)).trans blp8;have hS10:∀w',Chg rb w9 w'->w'.cell? (.q la 0)=some (.i (jd s t r).m.a0)/\w'.cell? (.q la 1)=some (.i (jd s t r).m.a1)/\w'.cell? (.q la 2)=some (.i (jd s t r).m.a2)/\w'.cell? (.q la 3)=some (.i (jd s t r).m.a3)/\w'.cell? (.q la 4)=some (.i (jd s t r).m.a4)/\w'.cell? (.q la 5)=some (.i (jd s t r).m.a5)/\w'.cell? (.q la 6)=some (.i (jd s t r).m.a6)/\w'.cell? (.q la 7)=some (.i (jd s t r).m.a7)/\w'.cell? (.q la 8)=some (.i (jd s t r).m.a8)/\w'.cell? (.q la 9)=some (.i (jd s t r).n)/\w'.cell? (.q lv 0)=some (.i (stV s t r x).x)/\w'.cell? (.q lv 1)=some (.i (stV s t r x).y)/\w'.cell? (.q lv 2)=some (.i (stV s t r x).z)/\w'.cell? (.q lp 0)=some (.i (stP s t r x).x)/\w'.cell? (.q lp 1)=some (.i (stP s t r x).y)/\w'.cell? (.q lp 2)=some (.i (stP s t r x).z):=fun w' hc=>⟨(World.cell?_of_block (w:=w9) (a:=(.q la _)) (hc.block la (zy bla9) (by have:=h1.size;have:=h3.size;have:=h5.size;have:=h7.size;omega))).trans (za bla9),(World.cell?_of_block (w:=w9) (a:=(.q la _)) (hc.block la (zy bla9) (by have:=h1.size;have:=h3.size;have:=h5.size;have:=h7.size;omega))).trans (za bla9),(World.cell?_of_block (w:=w9) (a:=(.q la _)) (hc.block la (zy bla9) (by have:=h1.size;have:=h3.size;have:=h5.size;have:=h7.size;omega))).trans (za bla9),(World.cell?_of_block (w:=w9) (a:=(.q la _)) (hc.block la (zy bla9) (by have:=h1.size;have:=h3.size;have:=h5.size;have:=h7.size;omega))).trans (za bla9),(World.cell?_of_block (w:=w9) (a:=(.q la _)) (hc.block la (zy bla9) (by have:=h1.size;have:=h3.size;have:=h5.size;have:=h7.size;omega))).trans (za bla9),(World.cell?_of_block (w:=w9) (a:=(.q la _)) (hc.block la (zy bla9) (by have:=h1.size;have:=h3.size;have:=h5.size;have:=h7.size;omega))).trans (za bla9),(World.cell?_of_block (w:=w9) (a:=(.q la _)) (hc.block la (zy bla9) (by have:=h1.size;have:=h3.size;have:=h5.size;have:=h7.size;omega))).trans (za bla9),(World.cell?_of_block (w:=w9) (a:=(.q la _)) (hc.block la (zy bla9) (by have:=h1.size;have:=h3.size;have:=h5.size;have:=h7.size;omega))).trans (za bla9),(World.cell?_of_block (w:=w9) (a:=(.q la _)) (hc.block la (zy bla9) (by have:=h1.size;have:=h3.size;have:=h5.size;have:=h7.size;omega))).trans (za bla9),(World.cell?_of_block (w:=w9) (a:=(.q la _)) (hc.block la (zy bla9) (by have:=h1.size;have:=h3.size;have:=h5.size;have:=h7.size;omega))).trans (za bla9),(World.cell?_of_block (w:=w9) (a:=(.q lv _)) (hc.block lv (zy blv9) (by have:=h1.size;have:=h3.size;have:=h5.size;have:=h7.size;omega))).trans (za blv9),(World.cell?_of_block (w:=w9) (a:=(.q lv _)) (hc.block lv (zy blv9) (by have:=h1.size;have:=h3.size;have:=h5.size;have:=h7.size;omega))).trans (za blv9),(World.cell?_of_block (w:=w9) (a:=(.q lv _)) (hc.block lv (zy blv9) (by have:=h1.size;have:=h3.size;have:=h5.size;have:=h7.size;omega))).trans (za blv9),(World.cell?_of_block (w:=w9) (a:=(.q lp _)) (hc.block lp (zy blp9) (by have:=h1.size;have:=h3.size;have:=h5.size;have:=h7.size;omega))).trans (za blp9),(World.cell?_of_block (w:=w9) (a:=(.q lp _)) (hc.block lp (zy blp9) (by have:=h1.size;have:=h3.size;have:=h5.size;have:=h7.size;omega))).trans (za blp9),(World.cell?_of_block (w:=w9) (a:=(.q lp _)) (hc.block lp (zy blp9) (by have:=h1.size;have:=h3.size;have:=h5.size;have:=h7.size;omega))).trans (za blp9)⟩
    have n5:=zi 5 hN9.blk rfl;have f5:=zC 5 hN9.blk;have n6:=zi 6 hN9.blk rfl;have f6:=zC 6 hN9.blk;have n7:=zi 7 hN9.blk rfl;have f7:=zC 7 hN9.blk;have n8:=zi 8 hN9.blk rfl;have f8:=zC 8 hN9.blk;have n9:=zi 9 hN9.blk rfl;have f9:=zC 9 hN9.blk;have n10:=zi 10 hN9.blk rfl;have f10:=zC 10 hN9.blk;have n11:=zi 11 hN9.blk rfl;have f11:=zC 11 hN9.blk;have n12:=zi 12 hN9.blk rfl;have f12:=zC 12 hN9.blk;have n13:=zi 13 hN9.blk rfl;have f13:=zC 13 hN9.blk;have n14:=zi 14 hN9.blk rfl;have f14:=zC 14 hN9.blk;have n15:=zi 15 hN9.blk rfl;have f15:=zC 15 hN9.blk;have n16:=zi 16 hN9.blk rfl;have f16:=zC 16 hN9.blk
    have n17:=zi 17 hN9.blk rfl;have f17:=zC 17 hN9.blk;have n18:=zi 18 hN9.blk rfl;have f18:=zC 18 hN9.blk;have n19:=zi 19 hN9.blk rfl;have f19:=zC 19 hN9.blk;have n20:=zi 20 hN9.blk rfl;have f20:=zC 20 hN9.blk;have n62:=zi 62 hN9.blk rfl;have f62:=zC 62 hN9.blk;have c9:=Chg.refl rb w9;go_wp2;go_region_held3(fun w'=>w'.cell? (.q la 0)=some (.i (jd s t r).m.a0)/\w'.cell? (.q la 1)=some (.i (jd s t r).m.a1)/\w'.cell? (.q la 2)=some (.i (jd s t r).m.a2)/\w'.cell? (.q la 3)=some (.i (jd s t r).m.a3)/\w'.cell? (.q la 4)=some (.i (jd s t r).m.a4)/\w'.cell? (.q la 5)=some (.i (jd s t r).m.a5)/\w'.cell? (.q la 6)=some (.i (jd s t r).m.a6)/\w'.cell? (.q la 7)=some (.i (jd s t r).m.a7)/\w'.cell? (.q la 8)=some (.i (jd s t r).m.a8)/\w'.cell? (.q la 9)=some (.i (jd s t r).n)/\w'.cell? (.q lv 0)=some (.i (stV s t r x).x)/\w'.cell? (.q lv 1)=some (.i (stV s t r x).y)/\w'.cell? (.q lv 2)=some (.i (stV s t r x).z)/\w'.cell? (.q lp 0)=some (.i (stP s t r x).x)/\w'.cell? (.q lp 1)=some (.i (stP s t r x).y)/\w'.cell? (.q lp 2)=some (.i (stP s t r x).z))
     (first|(with_reducible refine hS10 _ ?_;repeat(first|(with_reducible exact c9)|(with_reducible refine Chg.drew ?_)|(with_reducible refine Chg.setCell ?_ _ _))))
     (fail)
    go_wp2;go_ret;have hcw:Chg rb wb w9:=(Chg.of h8).trans hC;refine⟨rfl,?_,?_⟩
    ·exact zW3 hN9 (jd s t r) (stV s t r x) (stP s t r x) tk hs0'
    ·refine hcwb.trans ?_
     repeat(first|(with_reducible exact hcw)|(with_reducible refine Chg.drew ?_)|(with_reducible refine Chg.setCell ?_ _ _))
  ·have hI:zpi s0 tk 1 r x=s0:=by unfold zpi;rw [if_neg (fun h=>ht h.2)]
   have hE:zr4 s0 tk 1=2:=by unfold zr4;rw [if_neg (fun h=>ht h.2)]
   rw [hI,hE];replace ha:=ha.mono (R':=fun e w'=>e= .returned (.bool false)/\w'=_) fun e w' h=>by
    rcases h with h|h
    ·exact h.2
    ·exact absurd h.1 ht
   go_wp2_with(go_at_call 60;refine ha.mono ?_;clear ha;rintro e w' ⟨rfl,hw⟩;obtain rfl:=hw.symm)
   go_ret;exact⟨rfl,hR0,Chg.of hA0⟩
 ·have hI:zpi s0 tk kd r x=s0:=by unfold zpi;rw [if_neg (fun h=>hk h.1)]
  have hE:zr4 s0 tk kd=2:=by unfold zr4;rw [if_neg (fun h=>hk h.1)]
  rw [hI,hE];go_wp2;go_ret;exact⟨rfl,hR0,Chg.of hA0⟩
theorem zU6(rb:Nat)(rp:Option Addr)(cap:Nat)(p:PS)(hl:p.ts.length<=8)(hp:∀t∈p.ts,t.ok)(hs:p.s.ok)(hst:p.s.start= -1\/0<=p.s.start)(sr:Int)(r:Rd)(hr:r.ok)(f:Nat->Value)(hd:Rd2 f r)(w:World)(hR:zaz w rb rp cap p)(hq:zbH p.ts sr=none):Calls PP 28 #[ptB rb,.i sr,.agg (rdA f)] w fun e w'=>e= .returned (.tuple #[.agg #[.i (0),.i (0),.i (0)],.i (0),.i (2)])/\zaz w' rb rp cap p/\Chg rb w w':=by
 have hAx:Below w.heap.size w (w.alloc (.cells (rdA f) 50)):=(Below.refl _ w).alloc (Nat.le_refl _) _;have hA2:Below w.heap.size w ((w.alloc (.cells (rdA f) 50)).alloc (.cells z3z 24)):=hAx.alloc hAx.size _;have hx2:((w.alloc (.cells (rdA f) 50)).alloc (.cells z3z 24)).heap[w.heap.size]? =some (.cells (rdA f) 50 (0,0)):=(heap_alloc_old _ _ jq).trans (heap_alloc_new w _);have h62:((w.alloc (.cells (rdA f) 50)).alloc (.cells z3z 24)).heap[w.heap.size+1]? =some (.cells z3z 24 (0,0)):=heap_alloc2_new w _ _;have hrl:=hR.lt;have ha:=fun W (hB:Below w.heap.size w W)=>zeD rb rp cap p hl sr W (hR.below hB)
 rw [hq]at ha;dsimp only at ha;go_enter Proofs.Tryz.func28,Proofs.Tryz.ntmps28
 go_wp2_with(
  go_at_call 68;refine(ha _ hA2).mono ?_;clear ha;rintro e w1 ⟨rfl,hB1⟩;have hAz:Below ((w.alloc (.cells (rdA f) 50)).alloc (.cells z3z 24)).heap.size ((w.alloc (.cells (rdA f) 50)).alloc (.cells z3z 24)) (w1.alloc (.cells #[.i 0,.i 0,.i 0,.i 0,.i 0,.i 0,.i 0] 96)):=hB1.alloc hB1.size _;have hB3:Below w.heap.size w (w1.alloc (.cells #[.i 0,.i 0,.i 0,.i 0,.i 0,.i 0,.i 0] 96)):=hA2.trans (hAz.mono hA2.size);have hx3:(w1.alloc (.cells #[.i 0,.i 0,.i 0,.i 0,.i 0,.i 0,.i 0] 96)).heap[w.heap.size]? =some (.cells (rdA f) 50 (0,0)):=(hAz.block _ (zy hx2)).trans hx2;have h63:(w1.alloc (.cells #[.i 0,.i 0,.i 0,.i 0,.i 0,.i 0,.i 0] 96)).heap[w.heap.size+1]? =some (.cells z3z 24 (0,0)):=(hAz.block _ (zy h62)).trans h62
  have h9:(w1.alloc (.cells #[.i 0,.i 0,.i 0,.i 0,.i 0,.i 0,.i 0] 96)).heap[w1.heap.size]? =some (.cells #[.i 0,.i 0,.i 0,.i 0,.i 0,.i 0,.i 0] 96 (0,0)):=heap_alloc_new w1 _;have hR3:=hR.below hB3;have q0:=zi 0 h63 rfl;have g0:=zC 0 h63;have q1:=zi 1 h63 rfl;have g1:=zC 1 h63;have q2:=zi 2 h63 rfl
  have g2:=zC 2 h63)
 generalize w1.alloc (.cells #[.i 0,.i 0,.i 0,.i 0,.i 0,.i 0,.i 0] 96)=W at*
 have h6u:=zbi (x0:=.i 0) (x1:=.i 0) (x2:=.i 0) h63;try simp only [Exit.inBlock,Exit.then]
 refine bodyPost_ret (zfI rfl _ _ (w.heap.size+1) 24 #[.i 0,.i 0,.i 0] (0,0) rfl h6u (zaZ kfz) kfz) rfl ?_;have hB4:=zay (x0:=.i 0) (x1:=.i 0) (x2:=.i 0) (b:=w.heap.size+1) hB3 zc;exact⟨rfl,hR.below hB4,Chg.of hB4⟩
theorem zU7(rb:Nat)(rp:Option Addr)(cap:Nat)(p:PS)(hl:p.ts.length<=8)(hp:∀t∈p.ts,t.ok)(hs:p.s.ok)(hst:p.s.start= -1\/0<=p.s.start)(sr:Int)(r:Rd)(hr:r.ok)(f:Nat->Value)(hd:Rd2 f r)(w:World)(hR:zaz w rb rp cap p)(t:TK)(hq:zbH p.ts sr=some t)(hk:t.kd≠r.kd):Calls PP 28 #[ptB rb,.i sr,.agg (rdA f)] w fun e w'=>e= .returned (.tuple #[.agg #[.i (0),.i (0),.i (0)],.i (0),.i (2)])/\zaz w' rb rp cap p/\Chg rb w w':=by
 have hAx:Below w.heap.size w (w.alloc (.cells (rdA f) 50)):=(Below.refl _ w).alloc (Nat.le_refl _) _;have hA2:Below w.heap.size w ((w.alloc (.cells (rdA f) 50)).alloc (.cells z3z 24)):=hAx.alloc hAx.size _;have hx2:((w.alloc (.cells (rdA f) 50)).alloc (.cells z3z 24)).heap[w.heap.size]? =some (.cells (rdA f) 50 (0,0)):=(heap_alloc_old _ _ jq).trans (heap_alloc_new w _);have h62:((w.alloc (.cells (rdA f) 50)).alloc (.cells z3z 24)).heap[w.heap.size+1]? =some (.cells z3z 24 (0,0)):=heap_alloc2_new w _ _;have hrl:=hR.lt;have ha:=fun W (hB:Below w.heap.size w W)=>zeD rb rp cap p hl sr W (hR.below hB)
 rw [hq]at ha;dsimp only at ha;have hkb:(t.kd==r.kd)=false:=by simpa using hk
 clear hk;go_enter Proofs.Tryz.func28,Proofs.Tryz.ntmps28
 go_wp2_with(
  go_at_call 68;refine(ha _ hA2).mono ?_;clear ha;rintro e w1 ⟨rfl,hB1⟩;have hAz:Below ((w.alloc (.cells (rdA f) 50)).alloc (.cells z3z 24)).heap.size ((w.alloc (.cells (rdA f) 50)).alloc (.cells z3z 24)) (w1.alloc (.cells (tkA t) 96)):=hB1.alloc hB1.size _;have hB3:Below w.heap.size w (w1.alloc (.cells (tkA t) 96)):=hA2.trans (hAz.mono hA2.size);have hx3:(w1.alloc (.cells (tkA t) 96)).heap[w.heap.size]? =some (.cells (rdA f) 50 (0,0)):=(hAz.block _ (zy hx2)).trans hx2;have h63:(w1.alloc (.cells (tkA t) 96)).heap[w.heap.size+1]? =some (.cells z3z 24 (0,0)):=(hAz.block _ (zy h62)).trans h62;have h9:(w1.alloc (.cells (tkA t) 96)).heap[w1.heap.size]? =some (.cells (tkA t) 96 (0,0)):=heap_alloc_new w1 _
  have hR3:=hR.below hB3;have k0:(w1.alloc (.cells (tkA t) 96)).cell? (.q w.heap.size 0)=some (.i r.kd):=(za hx3).trans ((za6 f 0 zc).trans (congrArg some hd.d.d0));have k1:=zi 1 h9 rfl;have q0:=zi 0 h63 rfl;have g0:=zC 0 h63;have q1:=zi 1 h63 rfl;have g1:=zC 1 h63;have q2:=zi 2 h63 rfl
  have g2:=zC 2 h63)
 generalize w1.alloc (.cells (tkA t) 96)=W at*
 have h6u:=zbi (x0:=.i 0) (x1:=.i 0) (x2:=.i 0) h63;try simp only [Exit.inBlock,Exit.then]
 refine bodyPost_ret (zfI rfl _ _ (w.heap.size+1) 24 #[.i 0,.i 0,.i 0] (0,0) rfl h6u (zaZ kfz) kfz) rfl ?_;have hB4:=zay (x0:=.i 0) (x1:=.i 0) (x2:=.i 0) (b:=w.heap.size+1) hB3 zc;exact⟨rfl,hR.below hB4,Chg.of hB4⟩
theorem zU8(rb:Nat)(rp:Option Addr)(cap:Nat)(p:PS)(hl:p.ts.length<=8)(hp:∀t∈p.ts,t.ok)(hs:p.s.ok)(hst:p.s.start= -1\/0<=p.s.start)(sr:Int)(r:Rd)(hr:r.ok)(f:Nat->Value)(hd:Rd2 f r)(w:World)(hR:zaz w rb rp cap p)(t:TK)(hq:zbH p.ts sr=some t)(hk:t.kd=r.kd)(h0:p.s.start= -1):Calls PP 28 #[ptB rb,.i sr,.agg (rdA f)] w fun e w'=>e= .returned (.tuple #[.agg #[.i (0),.i (0),.i (0)],.i (0),.i (7)])/\zaz w' rb rp cap p/\Chg rb w w':=by
 have hAx:Below w.heap.size w (w.alloc (.cells (rdA f) 50)):=(Below.refl _ w).alloc (Nat.le_refl _) _;have hA2:Below w.heap.size w ((w.alloc (.cells (rdA f) 50)).alloc (.cells z3z 24)):=hAx.alloc hAx.size _;have hx2:((w.alloc (.cells (rdA f) 50)).alloc (.cells z3z 24)).heap[w.heap.size]? =some (.cells (rdA f) 50 (0,0)):=(heap_alloc_old _ _ jq).trans (heap_alloc_new w _);have h62:((w.alloc (.cells (rdA f) 50)).alloc (.cells z3z 24)).heap[w.heap.size+1]? =some (.cells z3z 24 (0,0)):=heap_alloc2_new w _ _;have hrl:=hR.lt;have ha:=fun W (hB:Below w.heap.size w W)=>zeD rb rp cap p hl sr W (hR.below hB)
 rw [hq]at ha;dsimp only at ha;have hkb:(t.kd==r.kd)=true:=by simpa using hk
 clear hk;go_enter Proofs.Tryz.func28,Proofs.Tryz.ntmps28
 go_wp2_with(
  go_at_call 68;refine(ha _ hA2).mono ?_;clear ha;rintro e w1 ⟨rfl,hB1⟩;have hAz:Below ((w.alloc (.cells (rdA f) 50)).alloc (.cells z3z 24)).heap.size ((w.alloc (.cells (rdA f) 50)).alloc (.cells z3z 24)) (w1.alloc (.cells (tkA t) 96)):=hB1.alloc hB1.size _;have hB3:Below w.heap.size w (w1.alloc (.cells (tkA t) 96)):=hA2.trans (hAz.mono hA2.size);have hx3:(w1.alloc (.cells (tkA t) 96)).heap[w.heap.size]? =some (.cells (rdA f) 50 (0,0)):=(hAz.block _ (zy hx2)).trans hx2;have h63:(w1.alloc (.cells (tkA t) 96)).heap[w.heap.size+1]? =some (.cells z3z 24 (0,0)):=(hAz.block _ (zy h62)).trans h62;have h9:(w1.alloc (.cells (tkA t) 96)).heap[w1.heap.size]? =some (.cells (tkA t) 96 (0,0)):=heap_alloc_new w1 _
  have hR3:=hR.below hB3;have k0:(w1.alloc (.cells (tkA t) 96)).cell? (.q w.heap.size 0)=some (.i r.kd):=(za hx3).trans ((za6 f 0 zc).trans (congrArg some hd.d.d0));have k1:=zi 1 h9 rfl;have c61:(w1.alloc (.cells (tkA t) 96)).cell? (.q rb 61)=some (.i (-1)):=h0▸za hR3.blk;have q0:=zi 0 h63 rfl;have g0:=zC 0 h63;have q1:=zi 1 h63 rfl;have g1:=zC 1 h63;have q2:=zi 2 h63 rfl
  have g2:=zC 2 h63)
 generalize w1.alloc (.cells (tkA t) 96)=W at*
 have h6u:=zbi (x0:=.i 0) (x1:=.i 0) (x2:=.i 0) h63;try simp only [Exit.inBlock,Exit.then]
 refine bodyPost_ret (zfI rfl _ _ (w.heap.size+1) 24 #[.i 0,.i 0,.i 0] (0,0) rfl h6u (zaZ kfz) kfz) rfl ?_;have hB4:=zay (x0:=.i 0) (x1:=.i 0) (x2:=.i 0) (b:=w.heap.size+1) hB3 zc;exact⟨rfl,hR.below hB4,Chg.of hB4⟩
theorem zgF(w:World)(o:Obj):(w.alloc o).heap.size=w.heap.size+1:=by simp
theorem zU9(rb:Nat)(rp:Option Addr)(cap:Nat)(p:PS)(hl:p.ts.length<=8)(hp:∀t∈p.ts,t.ok)(hs:p.s.ok)(hst:p.s.start= -1\/0<=p.s.start)(sr:Int)(r:Rd)(hr:r.ok)(f:Nat->Value)(hd:Rd2 f r)(w:World)(hR:zaz w rb rp cap p)(t:TK)(hq:zbH p.ts sr=some t)(hk:t.kd=2)(hkr:r.kd=2)(h0:p.s.start≠ -1):Calls PP 28 #[ptB rb,.i sr,.agg (rdA f)] w fun e w'=>e= .returned (.tuple #[.agg #[.i ((zds p.s t r).x),.i ((zds p.s t r).y),.i ((zds p.s t r).z)],.i (axN t.kd),.i (0)])/\zaz w' rb rp cap ⟨p.s.k (zjf p.s t r),p.ts⟩/\Chg rb w w':=by
 rw [show zds p.s t r=⟨je r.ht p.s.p2 t.c.x,0,0⟩ by unfold zds;rw [if_pos hk],show zjf p.s t r=(zb5 r.ht p.s.p2 t.c.x) by unfold zjf;rw [if_pos hk],show axN t.kd=1 by rw [hk];rfl]
 have hAx:Below w.heap.size w (w.alloc (.cells (rdA f) 50)):=(Below.refl _ w).alloc (Nat.le_refl _) _;have hA2:Below w.heap.size w ((w.alloc (.cells (rdA f) 50)).alloc (.cells z3z 24)):=hAx.alloc hAx.size _;have hx2:((w.alloc (.cells (rdA f) 50)).alloc (.cells z3z 24)).heap[w.heap.size]? =some (.cells (rdA f) 50 (0,0)):=(heap_alloc_old _ _ jq).trans (heap_alloc_new w _);have h62:((w.alloc (.cells (rdA f) 50)).alloc (.cells z3z 24)).heap[w.heap.size+1]? =some (.cells z3z 24 (0,0)):=heap_alloc2_new w _ _;have hrl:=hR.lt;have ha:=fun W (hB:Below w.heap.size w W)=>zeD rb rp cap p hl sr W (hR.below hB)
 rw [hq]at ha;dsimp only at ha;have hto:=hp t (zcM hq);have hc:=hto.cI;have hs2: ¬p.s.start<0:=by have:=hst.resolve_left h0;omega
 have hsrc:=zg5 hq;obtain⟨n,rfl⟩:∃n:Nat,sr=n:=⟨sr.toNat,by have:=hto.src;omega⟩;have hn8:n<8:=by have:=hto.src;omega
 have hn8i:(n:Int)<8:=zc;clear hsrc;have hcq:cC p.ts n=t.c:=by unfold cC;rw [hq]
 have hce:∀W:World,zaz W rb rp cap p->W.cell? (.q rb (21+n*4))=some (.i t.c.x)/\W.cell? (.q rb (21+n*4+1))=some (.i t.c.y)/\W.cell? (.q rb (21+n*4+2))=some (.i t.c.z):=fun W h=>by
  have h1:=h.cX n hn8;have h2:=h.cY n hn8;have h3:=h.cZ n hn8;rw [hcq]at h1 h2 h3;exact⟨h1,h2,h3⟩
 clear hcq;go_enter Proofs.Tryz.func28,Proofs.Tryz.ntmps28
 clear h0
 go_wp2_with(
  go_at_call 68;refine(ha _ hA2).mono ?_;clear ha;rintro e w1 ⟨rfl,hB1⟩;have hAz:Below ((w.alloc (.cells (rdA f) 50)).alloc (.cells z3z 24)).heap.size ((w.alloc (.cells (rdA f) 50)).alloc (.cells z3z 24)) (w1.alloc (.cells (tkA t) 96)):=hB1.alloc hB1.size _;have hB3:Below w.heap.size w (w1.alloc (.cells (tkA t) 96)):=hA2.trans (hAz.mono hA2.size);have hx3:(w1.alloc (.cells (tkA t) 96)).heap[w.heap.size]? =some (.cells (rdA f) 50 (0,0)):=(hAz.block _ (zy hx2)).trans hx2;have h63:(w1.alloc (.cells (tkA t) 96)).heap[w.heap.size+1]? =some (.cells z3z 24 (0,0)):=(hAz.block _ (zy h62)).trans h62;have h9:(w1.alloc (.cells (tkA t) 96)).heap[w1.heap.size]? =some (.cells (tkA t) 96 (0,0)):=heap_alloc_new w1 _
  have hR3:=hR.below hB3;have hcc:=hce _ hR3;have k0:(w1.alloc (.cells (tkA t) 96)).cell? (.q w.heap.size 0)=some (.i 2):=hkr▸(za hx3).trans ((za6 f 0 zc).trans (congrArg some hd.d.d0));have k1:(w1.alloc (.cells (tkA t) 96)).cell? (.q w1.heap.size 1)=some (.i 2):=hk▸za h9;have c61:=zi 61 hR3.blk rfl;have e7:=hcc.1;have e8:=hcc.2.1;have e9:=hcc.2.2;have k2:((w1.alloc (.cells (tkA t) 96)).alloc (.cells (v3z t.c) 24)).cell? (.q w1.heap.size 1)=some (.i 2):=hk▸(za ((heap_alloc_old (w1.alloc (.cells (tkA t) 96)) _ jq).trans h9))
  clear hk hkr)
 have hlw:=hB1.size;simp only [zgF]at hlw;have hB4:Below w.heap.size w ((w1.alloc (.cells (tkA t) 96)).alloc (.cells (v3z t.c) 24)):=hB3.alloc hB3.size _;have hx:((w1.alloc (.cells (tkA t) 96)).alloc (.cells (v3z t.c) 24)).heap[w.heap.size]? =some (.cells (rdA f) 50 (0,0)):=(heap_alloc_old (w1.alloc (.cells (tkA t) 96)) _ (zy hx3)).trans hx3;have h6:((w1.alloc (.cells (tkA t) 96)).alloc (.cells (v3z t.c) 24)).heap[w.heap.size+1]? =some (.cells z3z 24 (0,0)):=(heap_alloc_old (w1.alloc (.cells (tkA t) 96)) _ (zy h63)).trans h63;have hcb:((w1.alloc (.cells (tkA t) 96)).alloc (.cells (v3z t.c) 24)).heap[w1.heap.size+1]? =some (.cells (v3z t.c) 24 (0,0)):=by simpa using heap_alloc_new (w1.alloc (.cells (tkA t) 96)) (.cells (v3z t.c) 24)
 have hR5:=hR.below hB4;have hC5:Chg rb w ((w1.alloc (.cells (tkA t) 96)).alloc (.cells (v3z t.c) 24)):=Chg.of hB4;have hs1:w.heap.size+1<w1.heap.size:=zc;clear hlw hB4 hx3 h63 h9 hR3 hB3 hAz hB1 hx2 h62 hAx hA2 hcc k0 k1 c61 e7 e8 e9 k2 hce;generalize((w1.alloc (.cells (tkA t) 96)).alloc (.cells (v3z t.c) 24))=w5 at*
 generalize w1.heap.size=x9 at*
 obtain⟨x0,hx0⟩:∃x,w.heap.size=x:=⟨_,rfl⟩;rw [hx0]at hx h6 hs1 hrl⊢;have hx0s:w.heap.size<=x0:=zc;clear hx0;have hfr:∀W,Chg rb w5 W->W.heap[x0]? =some (.cells (rdA f) 50 (0,0))/\W.heap[x0+1]? =some (.cells z3z 24 (0,0))/\W.heap[x9+1]? =some (.cells (v3z t.c) 24 (0,0)):=fun W h=>⟨(h.block _ (zy hx) zc).trans hx,(h.block _ (zy h6) zc).trans h6,(h.block _ (zy hcb) zc).trans hcb⟩
 have hRd:zaz w5.drew rb rp cap p:=hR5.below ⟨rfl,rfl,rfl,Nat.le_refl _,fun _ _=>rfl⟩;have hCd:Chg rb w5 w5.drew:=Chg.drew (Chg.refl _ _);have hless:∀W,Calls PP 69 #[.i r.ht,.i p.s.p2,.i t.c.x] W fun e w'=>e= .returned (.tuple #[.i (je r.ht p.s.p2 t.c.x),.bool (zb5 r.ht p.s.p2 t.c.x)])/\Below W.heap.size W w':=fun W=>zkN hr.ht hs.p2 hc.x W
 have hS:∀(W:World),zaz W rb rp cap p->Chg rb w5 W->W.cell? (.q rb 20)=some (.i p.s.p2)/\W.cell? (.q x0 7)=some (.i r.ht)/\W.cell? (.q (x9+1) 0)=some (.i t.c.x):=fun W hn h=>⟨za hn.blk,(za (hfr W h).1).trans ((za6 f 7 zc).trans (congrArg some hd.ht)),za (hfr W h).2.2⟩
 go_region_held3(fun w'=>w'.cell? (.q rb 20)=some (.i p.s.p2)/\w'.cell? (.q x0 7)=some (.i r.ht)/\w'.cell? (.q (x9+1) 0)=some (.i t.c.x))
  (first|(with_reducible exact hS _ hRd hCd)|(with_reducible exact hS _ hRa hCa))
  (first|(go_at_call 69;refine(hless _).mono ?_;rintro e wa ⟨rfl,hBa⟩;have hRa:=hRd.below hBa;have hCa:=hCd.trans (Chg.of hBa)))
 go_wp2_with(go_at_call 67;refine(zcP rb rp cap p _ _ hRa).mono ?_;rintro e wb ⟨rfl,hRb,hCb⟩;have h6b:=(hfr wb (hCa.trans hCb)).2.1;have q0:=zi 0 h6b rfl;have g0:=zC 0 h6b;have q1:=zi 1 h6b rfl;have g1:=zC 1 h6b;have q2:=zi 2 h6b rfl;have g2:=zC 2 h6b)
 have h6u:=zbi (x0:=.i (je r.ht p.s.p2 t.c.x)) (x1:=.i (0)) (x2:=.i (0)) h6b;try simp only [Exit.inBlock,Exit.then]
 refine bodyPost_ret (zfI rfl _ _ (x0+1) 24 #[.i (je r.ht p.s.p2 t.c.x),.i (0),.i (0)] (0,0) rfl h6u (zaZ kfz) kfz) rfl ?_;have hCf:=(((hC5.trans (hCa.trans hCb)).setNew (x:=x0+1) (k:=0) (u:=.i (je r.ht p.s.p2 t.c.x)) zc).setNew (x:=x0+1) (k:=1) (u:=.i (0)) zc).setNew (x:=x0+1) (k:=2) (u:=.i (0)) zc;refine⟨rfl,hR.chg hCf ?_ (zep.refl _),hCf⟩;exact zt (zt (zt hRb.blk zc) zc) zc
theorem zVa(rb:Nat)(rp:Option Addr)(cap:Nat)(p:PS)(hl:p.ts.length<=8)(hp:∀t∈p.ts,t.ok)(hs:p.s.ok)(hst:p.s.start= -1\/0<=p.s.start)(sr:Int)(r:Rd)(hr:r.ok)(f:Nat->Value)(hd:Rd2 f r)(w:World)(hR:zaz w rb rp cap p)(t:TK)(hq:zbH p.ts sr=some t)(hk:t.kd=4)(hkr:r.kd=4)(h0:p.s.start≠ -1):Calls PP 28 #[ptB rb,.i sr,.agg (rdA f)] w fun e w'=>e= .returned (.tuple #[.agg #[.i ((zds p.s t r).x),.i ((zds p.s t r).y),.i ((zds p.s t r).z)],.i (axN t.kd),.i (0)])/\zaz w' rb rp cap ⟨p.s.k (zjf p.s t r),p.ts⟩/\Chg rb w w':=by
 rw [show zds p.s t r=⟨je (wid r.sp) (zh (spZ p.s)) t.c.x,0,0⟩ by unfold zds;rw [if_neg zc,if_neg zc,if_pos hk],show zjf p.s t r=(zw (spZ p.s)||zb5 (wid r.sp) (zh (spZ p.s)) t.c.x) by unfold zjf;rw [if_neg zc,if_neg zc,if_pos hk],show axN t.kd=1 by rw [hk];rfl]
 have hAx:Below w.heap.size w (w.alloc (.cells (rdA f) 50)):=(Below.refl _ w).alloc (Nat.le_refl _) _;have hA2:Below w.heap.size w ((w.alloc (.cells (rdA f) 50)).alloc (.cells z3z 24)):=hAx.alloc hAx.size _;have hx2:((w.alloc (.cells (rdA f) 50)).alloc (.cells z3z 24)).heap[w.heap.size]? =some (.cells (rdA f) 50 (0,0)):=(heap_alloc_old _ _ jq).trans (heap_alloc_new w _);have h62:((w.alloc (.cells (rdA f) 50)).alloc (.cells z3z 24)).heap[w.heap.size+1]? =some (.cells z3z 24 (0,0)):=heap_alloc2_new w _ _;have hrl:=hR.lt;have ha:=fun W (hB:Below w.heap.size w W)=>zeD rb rp cap p hl sr W (hR.below hB)
 rw [hq]at ha;dsimp only at ha;have hto:=hp t (zcM hq);have hc:=hto.cI;have hs2: ¬p.s.start<0:=by have:=hst.resolve_left h0;omega
 have hsrc:=zg5 hq;obtain⟨n,rfl⟩:∃n:Nat,sr=n:=⟨sr.toNat,by have:=hto.src;omega⟩;have hn8:n<8:=by have:=hto.src;omega
 have hn8i:(n:Int)<8:=zc;clear hsrc;have hcq:cC p.ts n=t.c:=by unfold cC;rw [hq]
 have hce:∀W:World,zaz W rb rp cap p->W.cell? (.q rb (21+n*4))=some (.i t.c.x)/\W.cell? (.q rb (21+n*4+1))=some (.i t.c.y)/\W.cell? (.q rb (21+n*4+2))=some (.i t.c.z):=fun W h=>by
  have h1:=h.cX n hn8;have h2:=h.cY n hn8;have h3:=h.cZ n hn8;rw [hcq]at h1 h2 h3;exact⟨h1,h2,h3⟩
 clear hcq;go_enter Proofs.Tryz.func28,Proofs.Tryz.ntmps28
 clear h0
 go_wp2_with(
  go_at_call 68;refine(ha _ hA2).mono ?_;clear ha;rintro e w1 ⟨rfl,hB1⟩;have hAz:Below ((w.alloc (.cells (rdA f) 50)).alloc (.cells z3z 24)).heap.size ((w.alloc (.cells (rdA f) 50)).alloc (.cells z3z 24)) (w1.alloc (.cells (tkA t) 96)):=hB1.alloc hB1.size _;have hB3:Below w.heap.size w (w1.alloc (.cells (tkA t) 96)):=hA2.trans (hAz.mono hA2.size);have hx3:(w1.alloc (.cells (tkA t) 96)).heap[w.heap.size]? =some (.cells (rdA f) 50 (0,0)):=(hAz.block _ (zy hx2)).trans hx2;have h63:(w1.alloc (.cells (tkA t) 96)).heap[w.heap.size+1]? =some (.cells z3z 24 (0,0)):=(hAz.block _ (zy h62)).trans h62;have h9:(w1.alloc (.cells (tkA t) 96)).heap[w1.heap.size]? =some (.cells (tkA t) 96 (0,0)):=heap_alloc_new w1 _
  have hR3:=hR.below hB3;have hcc:=hce _ hR3;have k0:(w1.alloc (.cells (tkA t) 96)).cell? (.q w.heap.size 0)=some (.i 4):=hkr▸(za hx3).trans ((za6 f 0 zc).trans (congrArg some hd.d.d0));have k1:(w1.alloc (.cells (tkA t) 96)).cell? (.q w1.heap.size 1)=some (.i 4):=hk▸za h9;have c61:=zi 61 hR3.blk rfl;have e7:=hcc.1;have e8:=hcc.2.1;have e9:=hcc.2.2;have k2:((w1.alloc (.cells (tkA t) 96)).alloc (.cells (v3z t.c) 24)).cell? (.q w1.heap.size 1)=some (.i 4):=hk▸(za ((heap_alloc_old (w1.alloc (.cells (tkA t) 96)) _ jq).trans h9))
  clear hk hkr)
 have hlw:=hB1.size;simp only [zgF]at hlw;have hB4:Below w.heap.size w ((w1.alloc (.cells (tkA t) 96)).alloc (.cells (v3z t.c) 24)):=hB3.alloc hB3.size _;have hx:((w1.alloc (.cells (tkA t) 96)).alloc (.cells (v3z t.c) 24)).heap[w.heap.size]? =some (.cells (rdA f) 50 (0,0)):=(heap_alloc_old (w1.alloc (.cells (tkA t) 96)) _ (zy hx3)).trans hx3;have h6:((w1.alloc (.cells (tkA t) 96)).alloc (.cells (v3z t.c) 24)).heap[w.heap.size+1]? =some (.cells z3z 24 (0,0)):=(heap_alloc_old (w1.alloc (.cells (tkA t) 96)) _ (zy h63)).trans h63;have hcb:((w1.alloc (.cells (tkA t) 96)).alloc (.cells (v3z t.c) 24)).heap[w1.heap.size+1]? =some (.cells (v3z t.c) 24 (0,0)):=by simpa using heap_alloc_new (w1.alloc (.cells (tkA t) 96)) (.cells (v3z t.c) 24)
 have hR5:=hR.below hB4;have hC5:Chg rb w ((w1.alloc (.cells (tkA t) 96)).alloc (.cells (v3z t.c) 24)):=Chg.of hB4;have hs1:w.heap.size+1<w1.heap.size:=zc;clear hlw hB4 hx3 h63 h9 hR3 hB3 hAz hB1 hx2 h62 hAx hA2 hcc k0 k1 c61 e7 e8 e9 k2 hce;generalize((w1.alloc (.cells (tkA t) 96)).alloc (.cells (v3z t.c) 24))=w5 at*
 generalize w1.heap.size=x9 at*
 obtain⟨x0,hx0⟩:∃x,w.heap.size=x:=⟨_,rfl⟩;rw [hx0]at hx h6 hs1 hrl⊢;have hx0s:w.heap.size<=x0:=zc;clear hx0;have hfr:∀W,Chg rb w5 W->W.heap[x0]? =some (.cells (rdA f) 50 (0,0))/\W.heap[x0+1]? =some (.cells z3z 24 (0,0))/\W.heap[x9+1]? =some (.cells (v3z t.c) 24 (0,0)):=fun W h=>⟨(h.block _ (zy hx) zc).trans hx,(h.block _ (zy h6) zc).trans h6,(h.block _ (zy hcb) zc).trans hcb⟩
 have hRd:zaz w5.drew rb rp cap p:=hR5.below ⟨rfl,rfl,rfl,Nat.le_refl _,fun _ _=>rfl⟩;have hCd:Chg rb w5 w5.drew:=Chg.drew (Chg.refl _ _);have hless:∀W,Calls PP 69 #[.i (wid r.sp),.i (zh (spZ p.s)),.i t.c.x] W fun e w'=>e= .returned (.tuple #[.i (je (wid r.sp) (zh (spZ p.s)) t.c.x),.bool (zb5 (wid r.sp) (zh (spZ p.s)) t.c.x)])/\Below W.heap.size W w':=fun W=>zkN (zoh hr.sp) (jk (spZ p.s)) hc.x W
 have hS:∀(W:World),zaz W rb rp cap p->Chg rb w5 W->W.cell? (.q x0 9)=some (.int .i32 r.sp)/\W.cell? (.q (x9+1) 0)=some (.i t.c.x):=fun W hn h=>⟨(za (hfr W h).1).trans ((za6 f 9 zc).trans (congrArg some hd.sp)),za (hfr W h).2.2⟩
 have hwd:=fun W=>zHX hr.sp W
 have hsp:=zww rb rp cap p hs;clear hRd hCd;go_wp2_with(go_at_call 72;refine(hsp _ hR5).mono ?_;clear hsp;rintro e w6 ⟨rfl,hB6⟩;have hRd:zaz w6.drew rb rp cap p:=(hR5.below hB6).below ⟨rfl,rfl,rfl,Nat.le_refl _,fun _ _=>rfl⟩;have hCd:Chg rb w5 w6.drew:=Chg.drew (Chg.of hB6))
 go_region_held3(fun w'=>w'.cell? (.q x0 9)=some (.int .i32 r.sp)/\w'.cell? (.q (x9+1) 0)=some (.i t.c.x))
  (first|(with_reducible exact hS _ hRd hCd)|(with_reducible exact hS _ hRa hCa)|(with_reducible exact hS _ hRe hCe))
  (first
    |(go_at_call 69;refine(hless _).mono ?_;rintro e we ⟨rfl,hBe⟩;have hRe:=hRa.below hBe;have hCe:=hCa.trans (Chg.of hBe))
    |(go_at_call 73;refine(hwd _).mono ?_;rintro e wa ⟨rfl,hBa⟩;have hRa:=hRd.below hBa;have hCa:=hCd.trans (Chg.of hBa)))
 have hX:zr 0:=by unfold zr;omega
 generalize hkk:zw (spZ p.s)=k at*
 cases k
 ·go_wp2_with(go_at_call 67;refine(zcP rb rp cap p (zb5 (wid r.sp) (zh (spZ p.s)) t.c.x) _ hRe).mono ?_;rintro e wb ⟨rfl,hRb,hCb⟩;have h6b:=(hfr wb (hCe.trans hCb)).2.1;have q0:=zi 0 h6b rfl;have g0:=zC 0 h6b;have q1:=zi 1 h6b rfl;have g1:=zC 1 h6b;have q2:=zi 2 h6b rfl;have g2:=zC 2 h6b)
  have h6u:=zbi (x0:=.i (je (wid r.sp) (zh (spZ p.s)) t.c.x)) (x1:=.i (0)) (x2:=.i (0)) h6b;try simp only [Exit.inBlock,Exit.then]
  refine bodyPost_ret (zfI rfl _ _ (x0+1) 24 #[.i (je (wid r.sp) (zh (spZ p.s)) t.c.x),.i (0),.i (0)] (0,0) rfl h6u (zaZ kfz) kfz) rfl ?_;have hCf:=(((hC5.trans (hCe.trans hCb)).setNew (x:=x0+1) (k:=0) (u:=.i (je (wid r.sp) (zh (spZ p.s)) t.c.x)) zc).setNew (x:=x0+1) (k:=1) (u:=.i (0)) zc).setNew (x:=x0+1) (k:=2) (u:=.i (0)) zc;refine⟨rfl,hR.chg hCf ?_ (zep.refl _),hCf⟩;exact zt (zt (zt (by rw [hkk];exact hRb.blk) zc) zc) zc
 ·go_wp2_with(go_at_call 67;refine(zcP rb rp cap p (true) _ hRe).mono ?_;rintro e wb ⟨rfl,hRb,hCb⟩;have h6b:=(hfr wb (hCe.trans hCb)).2.1;have q0:=zi 0 h6b rfl;have g0:=zC 0 h6b;have q1:=zi 1 h6b rfl;have g1:=zC 1 h6b;have q2:=zi 2 h6b rfl;have g2:=zC 2 h6b)
  have h6u:=zbi (x0:=.i (je (wid r.sp) (zh (spZ p.s)) t.c.x)) (x1:=.i (0)) (x2:=.i (0)) h6b;try simp only [Exit.inBlock,Exit.then]
  refine bodyPost_ret (zfI rfl _ _ (x0+1) 24 #[.i (je (wid r.sp) (zh (spZ p.s)) t.c.x),.i (0),.i (0)] (0,0) rfl h6u (zaZ kfz) kfz) rfl ?_;have hCf:=(((hC5.trans (hCe.trans hCb)).setNew (x:=x0+1) (k:=0) (u:=.i (je (wid r.sp) (zh (spZ p.s)) t.c.x)) zc).setNew (x:=x0+1) (k:=1) (u:=.i (0)) zc).setNew (x:=x0+1) (k:=2) (u:=.i (0)) zc;refine⟨rfl,hR.chg hCf ?_ (zep.refl _),hCf⟩;exact zt (zt (zt (by rw [hkk];exact hRb.blk) zc) zc) zc
theorem zVb(rb:Nat)(rp:Option Addr)(cap:Nat)(p:PS)(hl:p.ts.length<=8)(hp:∀t∈p.ts,t.ok)(hs:p.s.ok)(hst:p.s.start= -1\/0<=p.s.start)(sr:Int)(r:Rd)(hr:r.ok)(f:Nat->Value)(hd:Rd2 f r)(w:World)(hR:zaz w rb rp cap p)(t:TK)(hq:zbH p.ts sr=some t)(hk:t.kd=3)(hkr:r.kd=3)(h0:p.s.start≠ -1):Calls PP 28 #[ptB rb,.i sr,.agg (rdA f)] w fun e w'=>e= .returned (.tuple #[.agg #[.i ((zds p.s t r).x),.i ((zds p.s t r).y),.i ((zds p.s t r).z)],.i (axN t.kd),.i (0)])/\zaz w' rb rp cap ⟨p.s.k (zjf p.s t r),p.ts⟩/\Chg rb w w':=by
 rw [show zds p.s t r=⟨zee (hdV p.s t.c.x) r.hd,0,0⟩ by unfold zds;rw [if_neg zc,if_pos hk],show zjf p.s t r=(false) by unfold zjf;rw [if_neg zc,if_pos hk],show axN t.kd=1 by rw [hk];rfl]
 have hAx:Below w.heap.size w (w.alloc (.cells (rdA f) 50)):=(Below.refl _ w).alloc (Nat.le_refl _) _;have hA2:Below w.heap.size w ((w.alloc (.cells (rdA f) 50)).alloc (.cells z3z 24)):=hAx.alloc hAx.size _;have hx2:((w.alloc (.cells (rdA f) 50)).alloc (.cells z3z 24)).heap[w.heap.size]? =some (.cells (rdA f) 50 (0,0)):=(heap_alloc_old _ _ jq).trans (heap_alloc_new w _);have h62:((w.alloc (.cells (rdA f) 50)).alloc (.cells z3z 24)).heap[w.heap.size+1]? =some (.cells z3z 24 (0,0)):=heap_alloc2_new w _ _;have hrl:=hR.lt;have ha:=fun W (hB:Below w.heap.size w W)=>zeD rb rp cap p hl sr W (hR.below hB)
 rw [hq]at ha;dsimp only at ha;have hto:=hp t (zcM hq);have hc:=hto.cI;have hs2: ¬p.s.start<0:=by have:=hst.resolve_left h0;omega
 have hsrc:=zg5 hq;obtain⟨n,rfl⟩:∃n:Nat,sr=n:=⟨sr.toNat,by have:=hto.src;omega⟩;have hn8:n<8:=by have:=hto.src;omega
 have hn8i:(n:Int)<8:=zc;clear hsrc;have hcq:cC p.ts n=t.c:=by unfold cC;rw [hq]
 have hce:∀W:World,zaz W rb rp cap p->W.cell? (.q rb (21+n*4))=some (.i t.c.x)/\W.cell? (.q rb (21+n*4+1))=some (.i t.c.y)/\W.cell? (.q rb (21+n*4+2))=some (.i t.c.z):=fun W h=>by
  have h1:=h.cX n hn8;have h2:=h.cY n hn8;have h3:=h.cZ n hn8;rw [hcq]at h1 h2 h3;exact⟨h1,h2,h3⟩
 clear hcq;go_enter Proofs.Tryz.func28,Proofs.Tryz.ntmps28
 clear h0
 go_wp2_with(
  go_at_call 68;refine(ha _ hA2).mono ?_;clear ha;rintro e w1 ⟨rfl,hB1⟩;have hAz:Below ((w.alloc (.cells (rdA f) 50)).alloc (.cells z3z 24)).heap.size ((w.alloc (.cells (rdA f) 50)).alloc (.cells z3z 24)) (w1.alloc (.cells (tkA t) 96)):=hB1.alloc hB1.size _;have hB3:Below w.heap.size w (w1.alloc (.cells (tkA t) 96)):=hA2.trans (hAz.mono hA2.size);have hx3:(w1.alloc (.cells (tkA t) 96)).heap[w.heap.size]? =some (.cells (rdA f) 50 (0,0)):=(hAz.block _ (zy hx2)).trans hx2;have h63:(w1.alloc (.cells (tkA t) 96)).heap[w.heap.size+1]? =some (.cells z3z 24 (0,0)):=(hAz.block _ (zy h62)).trans h62;have h9:(w1.alloc (.cells (tkA t) 96)).heap[w1.heap.size]? =some (.cells (tkA t) 96 (0,0)):=heap_alloc_new w1 _
  have hR3:=hR.below hB3;have hcc:=hce _ hR3;have k0:(w1.alloc (.cells (tkA t) 96)).cell? (.q w.heap.size 0)=some (.i 3):=hkr▸(za hx3).trans ((za6 f 0 zc).trans (congrArg some hd.d.d0));have k1:(w1.alloc (.cells (tkA t) 96)).cell? (.q w1.heap.size 1)=some (.i 3):=hk▸za h9;have c61:=zi 61 hR3.blk rfl;have e7:=hcc.1;have e8:=hcc.2.1;have e9:=hcc.2.2;have k2:((w1.alloc (.cells (tkA t) 96)).alloc (.cells (v3z t.c) 24)).cell? (.q w1.heap.size 1)=some (.i 3):=hk▸(za ((heap_alloc_old (w1.alloc (.cells (tkA t) 96)) _ jq).trans h9))
  clear hk hkr)
 have hlw:=hB1.size;simp only [zgF]at hlw;have hB4:Below w.heap.size w ((w1.alloc (.cells (tkA t) 96)).alloc (.cells (v3z t.c) 24)):=hB3.alloc hB3.size _;have hx:((w1.alloc (.cells (tkA t) 96)).alloc (.cells (v3z t.c) 24)).heap[w.heap.size]? =some (.cells (rdA f) 50 (0,0)):=(heap_alloc_old (w1.alloc (.cells (tkA t) 96)) _ (zy hx3)).trans hx3;have h6:((w1.alloc (.cells (tkA t) 96)).alloc (.cells (v3z t.c) 24)).heap[w.heap.size+1]? =some (.cells z3z 24 (0,0)):=(heap_alloc_old (w1.alloc (.cells (tkA t) 96)) _ (zy h63)).trans h63;have hcb:((w1.alloc (.cells (tkA t) 96)).alloc (.cells (v3z t.c) 24)).heap[w1.heap.size+1]? =some (.cells (v3z t.c) 24 (0,0)):=by simpa using heap_alloc_new (w1.alloc (.cells (tkA t) 96)) (.cells (v3z t.c) 24)
 have hR5:=hR.below hB4;have hC5:Chg rb w ((w1.alloc (.cells (tkA t) 96)).alloc (.cells (v3z t.c) 24)):=Chg.of hB4;have hs1:w.heap.size+1<w1.heap.size:=zc;clear hlw hB4 hx3 h63 h9 hR3 hB3 hAz hB1 hx2 h62 hAx hA2 hcc k0 k1 c61 e7 e8 e9 k2 hce;generalize((w1.alloc (.cells (tkA t) 96)).alloc (.cells (v3z t.c) 24))=w5 at*
 generalize w1.heap.size=x9 at*
 obtain⟨x0,hx0⟩:∃x,w.heap.size=x:=⟨_,rfl⟩;rw [hx0]at hx h6 hs1 hrl⊢;have hx0s:w.heap.size<=x0:=zc;clear hx0;have hfr:∀W,Chg rb w5 W->W.heap[x0]? =some (.cells (rdA f) 50 (0,0))/\W.heap[x0+1]? =some (.cells z3z 24 (0,0))/\W.heap[x9+1]? =some (.cells (v3z t.c) 24 (0,0)):=fun W h=>⟨(h.block _ (zy hx) zc).trans hx,(h.block _ (zy h6) zc).trans h6,(h.block _ (zy hcb) zc).trans hcb⟩
 have hRd:zaz w5.drew rb rp cap p:=hR5.below ⟨rfl,rfl,rfl,Nat.le_refl _,fun _ _=>rfl⟩;have hCd:Chg rb w5 w5.drew:=Chg.drew (Chg.refl _ _);have hS:∀(W:World),zaz W rb rp cap p->Chg rb w5 W->W.cell? (.q rb 5)=some (.i p.s.a.m.a0)/\W.cell? (.q rb 6)=some (.i p.s.a.m.a1)/\W.cell? (.q rb 7)=some (.i p.s.a.m.a2)/\W.cell? (.q rb 8)=some (.i p.s.a.m.a3)/\W.cell? (.q rb 9)=some (.i p.s.a.m.a4)/\W.cell? (.q rb 10)=some (.i p.s.a.m.a5)/\W.cell? (.q rb 11)=some (.i p.s.a.m.a6)/\W.cell? (.q rb 12)=some (.i p.s.a.m.a7)/\W.cell? (.q rb 13)=some (.i p.s.a.m.a8)/\W.cell? (.q rb 14)=some (.i p.s.a.n)/\W.cell? (.q (x9+1) 0)=some (.i t.c.x):=fun W hn h=>⟨za hn.blk,za hn.blk,za hn.blk,za hn.blk,za hn.blk,za hn.blk,za hn.blk,za hn.blk,za hn.blk,za hn.blk,za (hfr W h).2.2⟩
 have hh:=fun W=>ztb hs.m (a:=p.s.a) W
 have hw1:wrap .u32 (zcQ p.s.a.m.a3 p.s.a.m.a0+wrap .u32 ((wrap .u64 t.c.x).tmod 4294967296))=hdV p.s t.c.x:=by
  have h:(wrap .u64 t.c.x).tmod 4294967296=t.c.x%18446744073709551616%4294967296:=by
   have e:wrap .u64 t.c.x=t.c.x%18446744073709551616:=by simp [wrap,IntKind.signed,IntKind.bits]
   rw [e,Int.tmod_eq_emod_of_nonneg zc]
  rw [h];unfold hdV;simp only [wrap,IntKind.signed,IntKind.bits];generalize zcQ p.s.a.m.a3 p.s.a.m.a0=q;simp
 have hU:U32 (hdV p.s t.c.x):=by unfold hdV U32;omega
 have hwy:=fun W=>zOt hU hr.hd W
 have hw2:wrap .i64 (zee (hdV p.s t.c.x) r.hd)=zee (hdV p.s t.c.x) r.hd:=zH (zVR _ _);go_region_held3(fun w'=>w'.cell? (.q rb 5)=some (.i p.s.a.m.a0)/\w'.cell? (.q rb 6)=some (.i p.s.a.m.a1)/\w'.cell? (.q rb 7)=some (.i p.s.a.m.a2)/\w'.cell? (.q rb 8)=some (.i p.s.a.m.a3)/\w'.cell? (.q rb 9)=some (.i p.s.a.m.a4)/\w'.cell? (.q rb 10)=some (.i p.s.a.m.a5)/\w'.cell? (.q rb 11)=some (.i p.s.a.m.a6)/\w'.cell? (.q rb 12)=some (.i p.s.a.m.a7)/\w'.cell? (.q rb 13)=some (.i p.s.a.m.a8)/\w'.cell? (.q rb 14)=some (.i p.s.a.n)/\w'.cell? (.q (x9+1) 0)=some (.i t.c.x))
  (first|(with_reducible exact hS _ hRd hCd)|(with_reducible exact hS _ hRa hCa))
  (first|(go_at_call 70;refine(hh _).mono ?_;rintro e wa ⟨rfl,hBa⟩;have hRa:=hRd.below hBa;have hCa:=hCd.trans (Chg.of hBa)))
 have e8:wa.cell? (.q x0 8)=some (.int .u32 r.hd):=(za (hfr wa hCa).1).trans ((za6 f 8 zc).trans (congrArg some hd.hd));go_wp2_with(go_at_call 71;refine(hwy _).mono ?_;clear hwy;rintro e wb ⟨rfl,hBb⟩;have hCb:Chg rb wa wb:=Chg.of hBb;have hRb:=hRa.below hBb;have h6b:=(hfr wb (hCa.trans hCb)).2.1;have q0:=zi 0 h6b rfl;have g0:=zC 0 h6b;have q1:=zi 1 h6b rfl;have g1:=zC 1 h6b;have q2:=zi 2 h6b rfl;have g2:=zC 2 h6b)
 have h6u:=zbi (x0:=.i (zee (hdV p.s t.c.x) r.hd)) (x1:=.i (0)) (x2:=.i (0)) h6b;try simp only [Exit.inBlock,Exit.then]
 refine bodyPost_ret (zfI rfl _ _ (x0+1) 24 #[.i (zee (hdV p.s t.c.x) r.hd),.i (0),.i (0)] (0,0) rfl h6u (zaZ kfz) kfz) rfl ?_;have hCf:=(((hC5.trans (hCa.trans hCb)).setNew (x:=x0+1) (k:=0) (u:=.i (zee (hdV p.s t.c.x) r.hd)) zc).setNew (x:=x0+1) (k:=1) (u:=.i (0)) zc).setNew (x:=x0+1) (k:=2) (u:=.i (0)) zc;refine⟨rfl,hR.chg hCf ?_ (zep.refl _),hCf⟩;exact zt (zt (zt (by rw [show p.s.k false=p.s by simp [NS.k]];exact hRb.blk) zc) zc) zc
end Go.Xv
