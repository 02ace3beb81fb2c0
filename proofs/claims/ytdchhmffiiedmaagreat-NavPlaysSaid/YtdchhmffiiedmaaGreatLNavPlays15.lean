/- A navigator answers, whatever the inertial sensor and the aids tell, what the document says: the law returns true for every input, and leaves its arguments as they were. -/
import Derived.Test.YtdchhmffiiedmaaGreatLNavPlays
import Derived.Test.YtdchhmffiiedmaaGreatLNavPlays14
set_option linter.unusedVariables false
set_option linter.unusedSimpArgs false
set_option maxRecDepth 100000
set_option maxHeartbeats 64000000
open Go.IntKind (wrap)
namespace Go.Xv
open Go.RowKit
theorem zVj{w:World}{base size n:Nat}{e:TypeId}{v:Value}{xs:List Value}(h:w.ownsRow base e size v n xs):∀k,v.ownBlock=some k->base<=k:=by
 obtain⟨_,⟨rfl,_⟩|⟨g,cap,cur,rfl,hg,_⟩⟩:=h
 ·intro k hk;cases hk
 ·intro k hk
  cases hk;exact hg
theorem zVk{w:World}{base size n x k:Nat}{e:TypeId}{v u:Value}{xs:List Value}(h:w.ownsRow base e size v n xs)(hx:x<base):(w.setCell (.q x k) u).ownsRow base e size v n xs:=by
 obtain⟨h0,⟨rfl,h1⟩|⟨g,cap,cur,rfl,hg,hh,h1,h2,h3,h4⟩⟩:=h
 ·exact⟨h0,.inl ⟨rfl,h1⟩⟩
 ·exact⟨h0,.inr ⟨g,cap,cur,rfl,hg,zt hh zc,h1,h2,h3,h4⟩⟩
theorem zH7{B:Nat}{w w' w'':World}{o:Option Nat}(h:Below B w w')(hg:w'.grownBy w'' o)(hB:B<=w'.heap.size)(ho:∀k,o=some k->B<=k):Below B w w'':=
 ⟨hg.os.trans h.os,hg.tape.trans h.tape,hg.output.trans h.output,Nat.le_trans h.size hg.size,fun k hk=>(hg.block k (Nat.lt_of_lt_of_le hk hB) (fun e=>by have:=ho k e.symm;omega)).trans (h.block k hk)⟩
theorem zVl{L:List AD}{n:Nat}(hn:(L.take 12).length=n):L.take n=L.take 12:=by
 rw [List.take_eq_take_iff, <-hn,List.length_take];omega
theorem zTG{L:List AD}{j:Nat}{a:AD}(h:L[j]? =some a):adL (L.take (j+1))=adL (L.take j)++#[.i a.src,.i a.kd,.i a.wt,.i a.gain,.i a.step,.i a.limit,.i a.hor].toList:=by
 rw [zjZ h];unfold adL;rw [List.flatMap_append];simp
theorem zMg(g:V3)(d:Int)(L:List AD)(p:Option Addr)(cap:Nat)(w:World)(hA:Src w p L)(hc:L.length<=cap):
 Calls PP 8 #[.agg #[.i g.x,.i g.y,.i g.z,.i d,.slice p L.length cap]] w fun e w'=>Below w.heap.size w w'/\∃rp cap',e= .returned (.agg #[.i g.x,.i g.y,.i g.z,.i d,.slice rp (L.take 12).length cap'])/\zdn w' rp (L.take 12)/\((rp=none/\cap'=0)\/∃ab,rp=some (.q ab 0))/\(L.take 12).length<=cap':=by
 go_enter Proofs.Tryz.func8,Proofs.Tryz.ntmps8
 obtain⟨i0,hi0,hz0,hz1,hz2⟩:=info_parts zxL;obtain⟨n,hn⟩:∃n,(L.take 12).length=n:=⟨_,rfl⟩;have hn12:n<=12/\n<=L.length/\(n=12\/n=L.length):=by rw [<-hn,List.length_take];omega
 rw [hn];have h0:(((w.alloc (.cells #[.i g.x,.i g.y,.i g.z,.i d,.slice p L.length cap] 27)).alloc (.cells #[.i 0,.i 0,.i 0,.i 0,.slice none 0 0] 39)).alloc (.cells #[.i g.x,.i g.y,.i g.z,.i d,.slice none 0 0] 39)).heap[w.heap.size]? =some (.cells #[.i g.x,.i g.y,.i g.z,.i d,.slice p L.length cap] 27 (0,0)):=(heap_alloc_old _ _ (by simp<;>omega)).trans ((heap_alloc_old _ _ jq).trans (heap_alloc_new w _));have h1:(((w.alloc (.cells #[.i g.x,.i g.y,.i g.z,.i d,.slice p L.length cap] 27)).alloc (.cells #[.i 0,.i 0,.i 0,.i 0,.slice none 0 0] 39)).alloc (.cells #[.i g.x,.i g.y,.i g.z,.i d,.slice none 0 0] 39)).heap[w.heap.size+1]? =some (.cells #[.i 0,.i 0,.i 0,.i 0,.slice none 0 0] 39 (0,0)):=(heap_alloc_old _ _ jq).trans (by simpa using heap_alloc_new (w.alloc (.cells #[.i g.x,.i g.y,.i g.z,.i d,.slice p L.length cap] 27)) (.cells #[.i 0,.i 0,.i 0,.i 0,.slice none 0 0] 39))
 have h2:(((w.alloc (.cells #[.i g.x,.i g.y,.i g.z,.i d,.slice p L.length cap] 27)).alloc (.cells #[.i 0,.i 0,.i 0,.i 0,.slice none 0 0] 39)).alloc (.cells #[.i g.x,.i g.y,.i g.z,.i d,.slice none 0 0] 39)).heap[w.heap.size+2]? =some (.cells #[.i g.x,.i g.y,.i g.z,.i d,.slice none 0 0] 39 (0,0)):=by simpa using heap_alloc_new ((w.alloc (.cells #[.i g.x,.i g.y,.i g.z,.i d,.slice p L.length cap] 27)).alloc (.cells #[.i 0,.i 0,.i 0,.i 0,.slice none 0 0] 39)) (.cells #[.i g.x,.i g.y,.i g.z,.i d,.slice none 0 0] 39)
 have hB:Below w.heap.size w (((w.alloc (.cells #[.i g.x,.i g.y,.i g.z,.i d,.slice p L.length cap] 27)).alloc (.cells #[.i 0,.i 0,.i 0,.i 0,.slice none 0 0] 39)).alloc (.cells #[.i g.x,.i g.y,.i g.z,.i d,.slice none 0 0] 39)):=(((Below.refl _ w).alloc (Nat.le_refl _) _).alloc jq _).alloc (by simp<;>omega) _;go_wp2;generalize(((w.alloc (.cells #[.i g.x,.i g.y,.i g.z,.i d,.slice p L.length cap] 27)).alloc (.cells #[.i 0,.i 0,.i 0,.i 0,.slice none 0 0] 39)).alloc (.cells #[.i g.x,.i g.y,.i g.z,.i d,.slice none 0 0] 39))=w3 at*
 obtain⟨b0,hb0⟩:∃x,w.heap.size=x:=⟨_,rfl⟩;rw [hb0]at h0 h1 h2;rw [show w.heap.size+1+1=b0+2 from zc,hb0];have hb0':w.heap.size<=b0:=zc;clear hb0;go_loopw [4] (fun v wr=>∃(j:Nat) (rq:Option Addr) (cq:Nat),j<=n/\v= .i j/\wr.heap[b0+2]? =some (.cells #[.i g.x,.i g.y,.i g.z,.i d,(.slice rq j cq)] 39 (0,0))/\wr.ownsRow (b0+3) 96 7 (.slice rq j cq) j (adL (L.take j))/\wr.heap[b0]? =some (.cells #[.i g.x,.i g.y,.i g.z,.i d,.slice p L.length cap] 27 (0,0))/\wr.heap[b0+1]? =some (.cells #[.i 0,.i 0,.i 0,.i 0,.slice none 0 0] 39 (0,0))/\Below w.heap.size w wr) (fun v _=>n-(intOf v).toNat)
 case atStart=>exact⟨0,none,0,zc,rfl,h2,⟨rfl,.inl ⟨rfl,rfl⟩⟩,h0,h1,hB⟩
 case round=>
  clear h0 h1 h2 hB;obtain⟨j,rq,cq,hj,rfl,h2,hown,h0,h1,hB⟩:=hrel;have c4:=zi 4 h0 rfl;by_cases hlt:j<n
  ·have hl1:j<L.length:=zc
   have hl2:j<12:=zc;have hlc:j<cap:=zc;obtain⟨a,haj⟩:∃a,L[j]? =some a:=⟨_,List.getElem?_eq_getElem hl1⟩;obtain⟨b,q,rfl,e0,e1,e2,e3,e4,e5,e6⟩:=ztJ hA hB (Nat.le_refl _) j a haj;have h5:((wr.alloc (.cells #[.i a.src,.i a.kd,.i a.wt,.i a.gain,.i a.step,.i a.limit,.i a.hor] 82)).alloc (.cells #[.i a.src,.i a.kd,.i a.wt,.i a.gain,.i a.step,.i a.limit,.i a.hor] 96)).heap[wr.heap.size+1]? =some (.cells #[.i a.src,.i a.kd,.i a.wt,.i a.gain,.i a.step,.i a.limit,.i a.hor] 96 (0,0)):=by simpa using heap_alloc_new (wr.alloc (.cells #[.i a.src,.i a.kd,.i a.wt,.i a.gain,.i a.step,.i a.limit,.i a.hor] 82)) (.cells #[.i a.src,.i a.kd,.i a.wt,.i a.gain,.i a.step,.i a.limit,.i a.hor] 96)
   have hlj:(L.take (j+1)).length=j+1:=by rw [List.length_take];omega
   have h2l:=(zy h2);have hBx:Below w.heap.size w ((wr.alloc (.cells #[.i a.src,.i a.kd,.i a.wt,.i a.gain,.i a.step,.i a.limit,.i a.hor] 82)).alloc (.cells #[.i a.src,.i a.kd,.i a.wt,.i a.gain,.i a.step,.i a.limit,.i a.hor] 96)):=(hB.alloc hB.size _).alloc (by have:=hB.size;simp<;>omega) _;have c24:=zi 4 h2 rfl
   go_wp2_with(at_builtin
               refine wpList_append_own _ rfl _ _ 37 rfl (b0+3) 96 i0 (.agg #[.i 0,.i 0,.i 0,.i 0,.i 0,.i 0,.i 0]) 7 56 zxK hi0 hz0 hz1 hz2 rfl dcz (.slice rq j cq) j _ rfl ((hown.alloc _).alloc _) (.q (wr.heap.size+1) 0) 1 1 #[.i a.src,.i a.kd,.i a.wt,.i a.gain,.i a.step,.i a.limit,.i a.hor].toList rfl rfl (World.news_of_block h5) (by simp [Value.oneCell']) (by simp only [maxLen];omega) zc (by simp<;>omega) ?_;intro v' w2 hown2 hg2 _;rw [<-zTG haj]at hown2;obtain⟨rp',cap',hv,hcc,_,_,_⟩:=zwC (ads:=L.take (j+1)) (by rw [hlj];exact hown2);rw [hlj]at hv;subst hv;have hbl:=zVj hown;have hBn:Below w.heap.size w w2:=zH7 hBx hg2 hBx.size fun k hk=>by have:=hbl k hk;omega
               have hk:∀k,k<b0+3->w2.heap[k]? =wr.heap[k]? :=fun k hk=>(hg2.block k (by simp<;>omega) (fun e=>by have:=hbl k e.symm;omega)).trans ((heap_alloc_old _ _ (by simp<;>omega)).trans (heap_alloc_old _ _ zc))
               replace h0:=(hk _ zc).trans h0;replace h1:=(hk _ zc).trans h1;replace h2:=(hk _ zc).trans h2;have f4:=zC 4 h2;have d4:=zi 4 h2 rfl
               clear hk hbl hg2 c24 c4)
   refine⟨⟨j+1,rp',cap',zc,jq,by simpa using zf (o:=4) (v:=.slice rp' (j+1) cap') h2,zVk hown2 zc,zt h0 zc,zt h1 zc,hBn.setCell (by show w.heap.size<=b0+2;omega) _⟩,by simp [intOf];omega⟩
  ·obtain rfl:j=n:=zc
   have hdone: ¬(j<L.length/\j<12):=zc;rw [zVl hn]at hown;obtain⟨rp',cap',hv,hcc,hpn,hAr,hab⟩:=zwC (ads:=L.take 12) (by rw [hn];exact hown);rw [hn]at hv hcc;cases hv;have a0:=zi 0 h2 rfl;have z0:=zi 0 h1 rfl;have f0:=zC 0 h1;have a1:=zi 1 h2 rfl;have z1:=zi 1 h1 rfl;have f1:=zC 1 h1;have a2:=zi 2 h2 rfl;have z2:=zi 2 h1 rfl;have f2:=zC 2 h1;have a3:=zi 3 h2 rfl;have z3:=zi 3 h1 rfl;have f3:=zC 3 h1;have a4:=zi 4 h2 rfl;have z4:=zi 4 h1 rfl;have f4:=zC 4 h1;have hfin:(((((wr.setCell (.q (b0+1) 0) (.i g.x)).setCell (.q (b0+1) 1) (.i g.y)).setCell (.q (b0+1) 2) (.i g.z)).setCell (.q (b0+1) 3) (.i d)).setCell (.q (b0+1) 4) (.slice rq j cq)).heap[b0+1]? =some (.cells #[.i g.x,.i g.y,.i g.z,.i d,.slice rq j cq] 39 (0,0)):=zvo h1
   have hBf:Below w.heap.size w (((((wr.setCell (.q (b0+1) 0) (.i g.x)).setCell (.q (b0+1) 1) (.i g.y)).setCell (.q (b0+1) 2) (.i g.z)).setCell (.q (b0+1) 3) (.i d)).setCell (.q (b0+1) 4) (.slice rq j cq)):=zrK hB zc;have hAf:zdn (((((wr.setCell (.q (b0+1) 0) (.i g.x)).setCell (.q (b0+1) 1) (.i g.y)).setCell (.q (b0+1) 2) (.i g.z)).setCell (.q (b0+1) 3) (.i d)).setCell (.q (b0+1) 4) (.slice rq j cq)) rq (L.take 12):=by
    repeat' (refine ztI ?_ fun ab h=>by have:=hab ab h;omega)
    exact hAr
   clear hab hn hA hc h0 h1 h2 hown hAr hB;rcases hn12.2.2 with h12|hl
   ·subst h12
    have hlt':(12:Nat)<L.length\/ ¬(12:Nat)<L.length:=zc;rcases hlt' with hlt'|hlt'
    all_goals
     go_wp2;generalize(((((wr.setCell (.q (b0+1) 0) (.i g.x)).setCell (.q (b0+1) 1) (.i g.y)).setCell (.q (b0+1) 2) (.i g.z)).setCell (.q (b0+1) 3) (.i d)).setCell (.q (b0+1) 4) (.slice rq 12 cq))=W at*
     try simp only [Exit.inBlock,Exit.then]
     refine bodyPost_ret (zim rfl _ _ (b0+1) 39 #[.i g.x,.i g.y,.i g.z,.i d,.slice rq 12 cq] (0,0) rfl hfin (zaZ kfz) kfz) rfl ?_;exact⟨hBf,_,_,rfl,hAf,hpn,hcc⟩
   ·subst hl
    go_wp2;generalize(((((wr.setCell (.q (b0+1) 0) (.i g.x)).setCell (.q (b0+1) 1) (.i g.y)).setCell (.q (b0+1) 2) (.i g.z)).setCell (.q (b0+1) 3) (.i d)).setCell (.q (b0+1) 4) (.slice rq L.length cq))=W at*
    try simp only [Exit.inBlock,Exit.then]
    refine bodyPost_ret (zim rfl _ _ (b0+1) 39 #[.i g.x,.i g.y,.i g.z,.i d,.slice rq L.length cq] (0,0) rfl hfin (zaZ kfz) kfz) rfl ?_;exact⟨hBf,_,_,rfl,hAf,hpn,hcc⟩
end Go.Xv
