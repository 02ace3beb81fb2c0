/- A navigator answers, whatever the inertial sensor and the aids tell, what the document says: the law returns true for every input, and leaves its arguments as they were. -/
import Derived.Test.YtdchhmffiiedmaaGreatLNavPlays
import Derived.Test.YtdchhmffiiedmaaGreatLNavPlays5
import Derived.Test.YtdchhmffiiedmaaGreatLNavPlays6
set_option linter.unusedVariables false
set_option linter.unusedSimpArgs false
set_option maxRecDepth 100000
set_option maxHeartbeats 64000000
open Go.IntKind (wrap)
namespace Go.Xv
open Go.RowKit
theorem zVd{a b:Int}(ha:0<=a/\a<=9223372036854775807)(hb:0<=b/\b<=9223372036854775807):0<=a*b/\a*b<=85070591730234615847396907784232501249:=by
 refine⟨Int.mul_nonneg ha.1 hb.1,?_⟩;have:=Int.mul_le_mul ha.2 hb.2 hb.1 zc;omega
theorem zH6(rb:Nat)(rp:Option Addr)(cap:Nat)(p:PS)(hl:p.ts.length<=8)(hp:∀t∈p.ts,t.ok)(hst:p.s.start= -1\/(0<=p.s.start/\p.s.start<=1099511627776))(hdr:0<=p.s.drift/\p.s.drift<=9223372036854775807)(tk:Int)(hk:zr tk)(w:World)(hR:zaz w rb rp cap p):
 Calls PP 33 #[ptB rb,.i tk] w fun e w'=>e= .returned (.i (zHR p tk))/\Below w.heap.size w w':=by
 go_enter Proofs.Tryz.func33,Proofs.Tryz.ntmps33
 obtain⟨s,ts⟩:=p;replace hl:ts.length<=8:=hl;replace hp:∀t∈ts,t.ok:=hp;replace hst:s.start= -1\/(0<=s.start/\s.start<=1099511627776):=hst;replace hdr:0<=s.drift/\s.drift<=9223372036854775807:=hdr;unfold zHR;by_cases h0:s.start= -1
 ·rw [if_pos h0]
  have c61:w.cell? (.q rb 61)=some (.i (-1)):=h0▸za hR.blk;go_wp2;go_ret;exact⟨rfl,Below.refl _ _⟩
 ·rw [if_neg h0]
  have hs1:=hst.resolve_left h0;have hs2: ¬s.start<0:=zc;have c61:=zi 61 hR.blk rfl;have hmx:=zoq tk s.start;have hwr:=zpX hk hs1.1 hs1.2;have htt:0<=bTk s tk/\bTk s tk<=9223372036854775807:=by unfold bTk;unfold zr at hk;omega
  replace hwr:wrap .i64 (max tk s.start-s.start)=bTk s tk:=hwr;obtain⟨tt,htd⟩:∃x,bTk s tk=x:=⟨_,rfl⟩;rw [htd]at hwr htt⊢;clear htd;have hdt:=zVd hdr htt;have hml:=fun W (hW:Below w.heap.size w W)=>(zOu (a:=s.drift) (b:=tt) (by unfold zr;omega) (by unfold zr;omega) W).mono fun e w' (h:_/\_)=>(⟨h.1,hW.trans (h.2.mono hW.size),h.2⟩:_/\Below w.heap.size w w'/\Below W.heap.size W w')
  have hS:∀W,Below w.heap.size w W->W.cell? (.q rb 3)=some (.i s.drift)/\W.cell? (.q rb 61)=some (.i s.start):=fun W hB=>⟨(hB.cell (p:=(.q rb _)) hR.lt).trans (za hR.blk),(hB.cell (p:=(.q rb _)) hR.lt).trans (za hR.blk)⟩
  have hd:Below w.heap.size w w.drew:=⟨rfl,rfl,rfl,Nat.le_refl _,fun _ _=>rfl⟩;have hA:∀o,Below w.heap.size w (w.alloc o).drew:=fun o=>hd.alloc (Nat.le_refl _) o
  go_wp2;go_cut [5] (fun v w'=>∃x,v= .pointer (some (.q x 0))/\w'.heap[x]? =some (.cells #[.i (hi (s.drift*tt)),.int .u64 (lo (s.drift*tt))] 139 (0,0))/\w.heap.size<=x/\Below w.heap.size w w')
  case first=>
   go_region_held3(fun w'=>w'.cell? (.q rb 3)=some (.i s.drift)/\w'.cell? (.q rb 61)=some (.i s.start))
    (first|(with_reducible exact hS _ hd)|(with_reducible exact hS _ hBz')|(with_reducible exact hS _ (hA _))|(with_reducible exact hS _ (hBz'.alloc hBz'.size _))|(with_reducible exact hS _ ((hBz'.setCell (Nat.le_refl _) _).setCell (Nat.le_refl _) _)))
    (first
      |(go_at_call 78
        refine(hml _ (by with_reducible exact hd)).mono ?_
        rintro e wz ⟨rfl,hBz',hBz⟩)
      |(go_at_call 78
        refine(hml _ (by with_reducible exact hA _)).mono ?_;rintro e wz ⟨rfl,hBz',hBz⟩;have hz:wz.heap[w.heap.size]? =some (.cells #[.i 0,.int .u64 0] 139 (0,0)):=(hBz.block _ jq).trans (heap_alloc_new w _);have z0:=zi 0 hz rfl;have y0:=zC 0 hz;have z1:=zi 1 hz rfl
        have y1:=zC 1 hz))
   all_goals
    go_wp2;go_meet
    case rel=>
     first
      |exact⟨wz.heap.size,rfl,heap_alloc_new wz _,hBz'.size,hBz'.alloc hBz'.size _⟩
      |exact⟨w.heap.size,rfl,by simpa using zf (o:=1) (v:=.int .u64 (lo (s.drift*tt))) (zf (o:=0) (v:=.i (hi (s.drift*tt))) hz),Nat.le_refl _,(hBz'.setCell (Nat.le_refl _) _).setCell (Nat.le_refl _) _⟩
  case rest=>
   obtain⟨x,rfl,hx,hxw,hB0⟩:=hcut;obtain⟨w1,hw1⟩:∃x,x=wc:=⟨_,rfl⟩;subst hw1;replace hx:w1.heap[x]? =some (.cells #[.i (hi (s.drift*tt+(za8 (ts.take 0)).sum)),.int .u64 (lo (s.drift*tt+(za8 (ts.take 0)).sum))] 139 (0,0)):=by
    rw [show s.drift*tt+(za8 (ts.take 0)).sum=s.drift*tt by simp [za8]];exact hx
   clear hS hd hA hml hmx hwr;go_wp2;go_loopw [6] (fun v wr=>∃j:Nat,j<=ts.length/\v= .i j/\wr.heap[x]? =some (.cells #[.i (hi (s.drift*tt+(za8 (ts.take j)).sum)),.int .u64 (lo (s.drift*tt+(za8 (ts.take j)).sum))] 139 (0,0))/\Below w.heap.size w wr) (fun v _=>ts.length-(intOf v).toNat)
   case atStart=>exact⟨0,zc,rfl,hx,hB0⟩
   case round=>
    clear hx hB0;obtain⟨j,hj,rfl,h3,hB⟩:=hrel;have hR1:=hR.below hB;have c4:=zi 4 hR1.blk rfl;by_cases hlt:j<ts.length
    ·obtain⟨t,htj⟩:∃t,ts[j]? =some t:=⟨_,List.getElem?_eq_getElem hlt⟩
     obtain⟨ab,rfl,hab,f0,f1,f2,f3,f4,f5,f6⟩:=hR1.row j t htj;have hto:=hp t (List.mem_of_getElem? htj);have hlb:=zTi hto;have hlI:zr (ztQ t):=by unfold zr;omega
     have hltI:zr t.limit:=by have:=hto.rule.2.2.2.1;have:=hto.lim.2;unfold zr;omega
     have hwn:wrap .i64 (-t.wt)= -t.wt:=zH (by have:=hto.wt;unfold zr;omega);have hB4:Below w.heap.size w (wr.alloc (.cells #[.i t.src,.i t.kd,.i t.wt,.i t.gain,.i t.step,.i t.limit,.i t.hor] 96)):=hB.alloc hB.size _;have h7:(wr.alloc (.cells #[.i t.src,.i t.kd,.i t.wt,.i t.gain,.i t.step,.i t.limit,.i t.hor] 96)).heap[wr.heap.size]? =some (.cells #[.i t.src,.i t.kd,.i t.wt,.i t.gain,.i t.step,.i t.limit,.i t.hor] 96 (0,0)):=heap_alloc_new wr _;have h4:(wr.alloc (.cells #[.i t.src,.i t.kd,.i t.wt,.i t.gain,.i t.step,.i t.limit,.i t.hor] 96)).heap[x]? =some (.cells #[.i (hi (s.drift*tt+(za8 (ts.take j)).sum)),.int .u64 (lo (s.drift*tt+(za8 (ts.take j)).sum))] 139 (0,0)):=(heap_alloc_old _ _ (zy h3)).trans h3
     have k1:=zi 1 h7 rfl;have k2:=zi 2 h7 rfl;have k5:=zi 5 h7 rfl;clear hR1 h7;have hkd:t.kd=2\/t.kd=5\/(¬t.kd=2/\ ¬t.kd=5):=zc;rcases hkd with hk|hk|⟨hk2,hk5⟩
     ·replace k1:=k1.trans (congrArg (fun n=>some (Value.int .i64 n)) hk)
      have e1:za8 (ts.take (j+1))=za8 (ts.take j)++[ztQ t]:=by
       rw [zbI htj,zeC,if_pos zc]
      have had:=fun W=>zyv (s.drift*tt+(za8 (ts.take j)).sum) (ztQ t) W
      rw [show s.drift*tt+(za8 (ts.take j)).sum+ztQ t=s.drift*tt+(za8 (ts.take (j+1))).sum by rw [e1,List.sum_append];simp;omega]at had;have hof:=fun W=>zEv hlI W
      have hsf:=fun W=>zws hltI hto.wt.1 hto.wt.2 W
      rw [show t.limit/2^t.wt.toNat=ztQ t from rfl]at hsf;clear e1 hk;go_wp2_with fail
      refine(hsf _).mono ?_;rintro e wa ⟨rfl,hBa⟩;go_wp2;have h5:wa.drew.heap[x]? =some (.cells #[.i (hi (s.drift*tt+(za8 (ts.take j)).sum)),.int .u64 (lo (s.drift*tt+(za8 (ts.take j)).sum))] 139 (0,0)):=(hBa.block x (zy h4)).trans h4;have y0:=zi 0 h5 rfl;have y1:=zi 1 h5 rfl;have hB5:Below w.heap.size w wa.drew:=(fun h:Below w.heap.size w wa=>⟨h.os,h.tape,h.output,h.size,h.block⟩) (hB4.trans (hBa.mono hB4.size));clear hsf hBa hB4;rw [show Op.load 139 (.tmp 5)=ldq 139 (.tmp 5)from rfl];go_region_held3(fun _=>True) (first|trivial)
       (first
         |(go_at_call 81
           refine(hof _).mono ?_;rintro e wb ⟨rfl,hBb⟩;have h6:wb.heap[x]? =some (.cells #[.i (hi (s.drift*tt+(za8 (ts.take j)).sum)),.int .u64 (lo (s.drift*tt+(za8 (ts.take j)).sum))] 139 (0,0)):=(hBb.block x (zy h5)).trans h5;have u0:=zi 0 h6 rfl
           have u1:=zi 1 h6 rfl)
         |(go_at_call 80
           refine(had _).mono ?_;rintro e wq ⟨rfl,hBq⟩;have h7:wq.heap[x]? =some (.cells #[.i (hi (s.drift*tt+(za8 (ts.take j)).sum)),.int .u64 (lo (s.drift*tt+(za8 (ts.take j)).sum))] 139 (0,0)):=(hBq.block x (zy h6)).trans h6;have v0:=zi 0 h7 rfl;have v1:=zi 1 h7 rfl;have r0:=zC 0 h7
           have r1:=zC 1 h7))
      all_goals
       go_wp2;have hBB:Below w.heap.size w wq:=(hB5.trans (hBb.mono hB5.size)).trans (hBq.mono (Nat.le_trans hB5.size hBb.size));refine⟨⟨j+1,zc,jq,?_,(hBB.setCell hxw _).setCell hxw _⟩,by simp [intOf];omega⟩;have h8:=zf (o:=1) (v:=.int .u64 (lo (s.drift*tt+(za8 (ts.take (j+1))).sum))) (zf (o:=0) (v:=.i (hi (s.drift*tt+(za8 (ts.take (j+1))).sum))) h7);simpa using h8
     ·replace k1:=k1.trans (congrArg (fun n=>some (Value.int .i64 n)) hk)
      have e1:za8 (ts.take (j+1))=za8 (ts.take j)++[ztQ t]:=by
       rw [zbI htj,zeC,if_pos zc]
      have had:=fun W=>zyv (s.drift*tt+(za8 (ts.take j)).sum) (ztQ t) W
      rw [show s.drift*tt+(za8 (ts.take j)).sum+ztQ t=s.drift*tt+(za8 (ts.take (j+1))).sum by rw [e1,List.sum_append];simp;omega]at had;have hof:=fun W=>zEv hlI W
      have hsf:=fun W=>zws hltI hto.wt.1 hto.wt.2 W
      rw [show t.limit/2^t.wt.toNat=ztQ t from rfl]at hsf;clear e1 hk;go_wp2_with fail
      refine(hsf _).mono ?_;rintro e wa ⟨rfl,hBa⟩;go_wp2;have h5:wa.drew.heap[x]? =some (.cells #[.i (hi (s.drift*tt+(za8 (ts.take j)).sum)),.int .u64 (lo (s.drift*tt+(za8 (ts.take j)).sum))] 139 (0,0)):=(hBa.block x (zy h4)).trans h4;have y0:=zi 0 h5 rfl;have y1:=zi 1 h5 rfl;have hB5:Below w.heap.size w wa.drew:=(fun h:Below w.heap.size w wa=>⟨h.os,h.tape,h.output,h.size,h.block⟩) (hB4.trans (hBa.mono hB4.size));clear hsf hBa hB4;rw [show Op.load 139 (.tmp 5)=ldq 139 (.tmp 5)from rfl];go_region_held3(fun _=>True) (first|trivial)
       (first
         |(go_at_call 81
           refine(hof _).mono ?_;rintro e wb ⟨rfl,hBb⟩;have h6:wb.heap[x]? =some (.cells #[.i (hi (s.drift*tt+(za8 (ts.take j)).sum)),.int .u64 (lo (s.drift*tt+(za8 (ts.take j)).sum))] 139 (0,0)):=(hBb.block x (zy h5)).trans h5;have u0:=zi 0 h6 rfl
           have u1:=zi 1 h6 rfl)
         |(go_at_call 80
           refine(had _).mono ?_;rintro e wq ⟨rfl,hBq⟩;have h7:wq.heap[x]? =some (.cells #[.i (hi (s.drift*tt+(za8 (ts.take j)).sum)),.int .u64 (lo (s.drift*tt+(za8 (ts.take j)).sum))] 139 (0,0)):=(hBq.block x (zy h6)).trans h6;have v0:=zi 0 h7 rfl;have v1:=zi 1 h7 rfl;have r0:=zC 0 h7
           have r1:=zC 1 h7))
      all_goals
       go_wp2;have hBB:Below w.heap.size w wq:=(hB5.trans (hBb.mono hB5.size)).trans (hBq.mono (Nat.le_trans hB5.size hBb.size));refine⟨⟨j+1,zc,jq,?_,(hBB.setCell hxw _).setCell hxw _⟩,by simp [intOf];omega⟩;have h8:=zf (o:=1) (v:=.int .u64 (lo (s.drift*tt+(za8 (ts.take (j+1))).sum))) (zf (o:=0) (v:=.i (hi (s.drift*tt+(za8 (ts.take (j+1))).sum))) h7);simpa using h8
     ·have e1:za8 (ts.take (j+1))=za8 (ts.take j):=by
       rw [zbI htj,zeC,if_neg zc,List.append_nil]
      have q2:(t.kd==2)=false:=by simpa using hk2
      have q5:(t.kd==5)=false:=by simpa using hk5
      go_wp2;exact⟨⟨j+1,zc,jq,by rw [e1];exact h4,hB4⟩,by simp [intOf];omega⟩
    ·obtain rfl:j=ts.length:=zc
     rw [List.take_length]at h3;have hbl:=zPp hp;have hbn:=zxG ts;have hsb:=zOq (za8 ts) fun z hz=>by have:=hbl z hz;unfold zr;omega
     have hcl:=fun W=>zL1 (x:=s.drift*tt+(za8 ts).sum) (by unfold zcr;omega) W
     have z0:=zi 0 h3 rfl;have z1:=zi 1 h3 rfl;go_wp2_with(go_at_call 82;refine(hcl _).mono ?_;clear hcl;rintro e w5 ⟨rfl,hB5⟩)
     go_ret;exact⟨rfl,hB.trans (hB5.mono hB.size)⟩
end Go.Xv
