/- A navigator answers, whatever the inertial sensor and the aids tell, what the document says: the law returns true for every input, and leaves its arguments as they were. -/
import Derived.Test.YtdchhmffiiedmaaGreatLNavPlays
import Derived.Test.YtdchhmffiiedmaaGreatLNavPlays13
set_option linter.unusedVariables false
set_option linter.unusedSimpArgs false
set_option maxRecDepth 100000
set_option maxHeartbeats 64000000
open Go.IntKind (wrap)
namespace Go.Xv
open Go.RowKit
def Src(w:World)(p:Option Addr)(L:List AD):Prop:=∀(i:Nat) (a:AD),L[i]? =some a->∃b q,p=some (.q b q)/\w.cell? (.q b (q+i*7))=some (.i a.src)/\w.cell? (.q b (q+i*7+1))=some (.i a.kd)/\w.cell? (.q b (q+i*7+2))=some (.i a.wt)/\w.cell? (.q b (q+i*7+3))=some (.i a.gain)/\w.cell? (.q b (q+i*7+4))=some (.i a.step)/\w.cell? (.q b (q+i*7+5))=some (.i a.limit)/\w.cell? (.q b (q+i*7+6))=some (.i a.hor)
theorem ztJ{w w':World}{B:Nat}{p:Option Addr}{L:List AD}(h:Src w p L)(hB:Below B w w')(hb:w.heap.size<=B):Src w' p L:=fun i a hi=>by
 obtain⟨b,q,h0,h1⟩:=h i a hi;have hb:∀{k:Nat} {v:Value},w.cell? (.q b k)=some v->w'.cell? (.q b k)=some v:=fun{k v} h=>(hB.cell (p:=(.q b k)) (Nat.lt_of_lt_of_le (World.block_lt_of_cell? w _ h) hb)).trans h
 exact⟨b,q,h0,hb h1.1,hb h1.2.1,hb h1.2.2.1,hb h1.2.2.2.1,hb h1.2.2.2.2.1,hb h1.2.2.2.2.2.1,hb h1.2.2.2.2.2.2⟩
theorem zRu{w:World}{ad:Addr}{L:List AD}{n:Nat}(hA:Src w (some ad) L):∀j u,(adL (L.take n))[j]? =some u->w.cell? (ad.add j)=some u:=fun i x hx=>by
 have hi:i<(L.take n).length*7:=by
  have:=(List.getElem?_eq_some_iff.1 hx).1;rwa [zzM]at this
 obtain⟨a,ha⟩:∃a,(L.take n)[i/7]? =some a:=⟨_,List.getElem?_eq_getElem zc⟩;have hg:=zzL ha (i%7) zc;rw [show i/7*7+i%7=i from zc,hx]at hg;have haL:L[i/7]? =some a:=by
  rw [List.getElem?_take]at ha;split at ha
  ·exact ha
  ·cases ha
 obtain⟨b,q,hab,c0,c1,c2,c3,c4,c5,c6⟩:=hA (i/7) a haL;cases hab;have hadd:((.q b q):Addr).add i=(.q b (q+i)):=by unfold Addr.add;split<;>simp_all
 rw [hadd];have hm:i%7<7:=zc;have hi7:i=i/7*7+i%7:=zc;generalize i/7=k at*
 generalize i%7=m at*
 subst hi7;rw [<-Nat.add_assoc];rcases m with _|_|_|_|_|_|_|m
 ·cases hg;exact c0
 ·cases hg;exact c1
 ·cases hg;exact c2
 ·cases hg;exact c3
 ·cases hg;exact c4
 ·cases hg;exact c5
 ·cases hg;exact c6
 ·omega
theorem zvo{W:World}{b:Nat}{ty:TypeId}{x0 x1 x2 x3 x4 y0 y1 y2 y3 y4:Value}(h:W.heap[b]? =some (.cells #[y0,y1,y2,y3,y4] ty (0,0))):(((((W.setCell (.q b 0) x0).setCell (.q b 1) x1).setCell (.q b 2) x2).setCell (.q b 3) x3).setCell (.q b 4) x4).heap[b]? =some (.cells #[x0,x1,x2,x3,x4] ty (0,0)):=by
 refine(zf (zf (zf (zf (zf h))))).trans ?_;kernel_rfl
theorem zrK{B:Nat}{w W:World}{b:Nat}{x0 x1 x2 x3 x4:Value}(h:Below B w W)(hb:B<=b):Below B w (((((W.setCell (.q b 0) x0).setCell (.q b 1) x1).setCell (.q b 2) x2).setCell (.q b 3) x3).setCell (.q b 4) x4):=by
 repeat' (refine Below.setCell ?_ ?_ _)
 all_goals first|exact h|exact hb
theorem zEB:PP.underlying 25=some (.slice 82):=kfz
theorem zMf:(PP.info? 82).map (fun i=>(i.zero,i.size,i.bytes))=some (some (.agg #[.i 0,.i 0,.i 0,.i 0,.i 0,.i 0,.i 0]),7,56):=kfz
theorem zTE(g:V3)(d:Int)(w:World):
 Calls PP 6 #[.agg #[.i g.x,.i g.y,.i g.z,.i d,.slice none 0 0]] w fun e w'=>Below w.heap.size w w'/\∃rp cap',e= .returned (.agg #[.i g.x,.i g.y,.i g.z,.i d,.slice rp 0 cap'])/\zdn w' rp []:=by
 go_enter Proofs.Tryz.func6,Proofs.Tryz.ntmps6
 obtain⟨i0,hi0,hz0,hz1,hz2⟩:=info_parts zMf;have h0:(((w.alloc (.cells #[.i g.x,.i g.y,.i g.z,.i d,.slice none 0 0] 27)).alloc (.cells #[.i 0,.i 0,.i 0,.i 0,.slice none 0 0] 27)).alloc (.cells #[] 82)).heap[w.heap.size]? =some (.cells #[.i g.x,.i g.y,.i g.z,.i d,.slice none 0 0] 27 (0,0)):=(heap_alloc_old _ _ (by simp<;>omega)).trans ((heap_alloc_old _ _ jq).trans (heap_alloc_new w _));have h1:(((w.alloc (.cells #[.i g.x,.i g.y,.i g.z,.i d,.slice none 0 0] 27)).alloc (.cells #[.i 0,.i 0,.i 0,.i 0,.slice none 0 0] 27)).alloc (.cells #[] 82)).heap[w.heap.size+1]? =some (.cells #[.i 0,.i 0,.i 0,.i 0,.slice none 0 0] 27 (0,0)):=(heap_alloc_old _ _ jq).trans (by simpa using heap_alloc_new (w.alloc (.cells #[.i g.x,.i g.y,.i g.z,.i d,.slice none 0 0] 27)) (.cells #[.i 0,.i 0,.i 0,.i 0,.slice none 0 0] 27))
 have h2:(((w.alloc (.cells #[.i g.x,.i g.y,.i g.z,.i d,.slice none 0 0] 27)).alloc (.cells #[.i 0,.i 0,.i 0,.i 0,.slice none 0 0] 27)).alloc (.cells #[] 82)).heap[w.heap.size+2]? =some (.cells #[] 82 (0,0)):=by simpa using heap_alloc_new ((w.alloc (.cells #[.i g.x,.i g.y,.i g.z,.i d,.slice none 0 0] 27)).alloc (.cells #[.i 0,.i 0,.i 0,.i 0,.slice none 0 0] 27)) (.cells #[] 82)
 have hB:Below w.heap.size w (((w.alloc (.cells #[.i g.x,.i g.y,.i g.z,.i d,.slice none 0 0] 27)).alloc (.cells #[.i 0,.i 0,.i 0,.i 0,.slice none 0 0] 27)).alloc (.cells #[] 82)):=(((Below.refl _ w).alloc (Nat.le_refl _) _).alloc jq _).alloc (by simp<;>omega) _;have hown:(((w.alloc (.cells #[.i g.x,.i g.y,.i g.z,.i d,.slice none 0 0] 27)).alloc (.cells #[.i 0,.i 0,.i 0,.i 0,.slice none 0 0] 27)).alloc (.cells #[] 82)).ownsRow (w.heap.size+2) 82 7 (.slice (some (.q (w.heap.size+2) 0)) 0 0) 0 []:=⟨rfl,.inr ⟨w.heap.size+2,0,#[],rfl,Nat.le_refl _,h2,Nat.le_refl _,by simp [maxLen],rfl,rfl⟩⟩
 go_wp2_with(at_builtin
             refine wpList_append_own_none rfl _ _ 25 rfl (w.heap.size+2) 82 i0 7 zEB hi0 _ _ [] rfl hown rfl ?_;obtain⟨w2,hw2e⟩:∃x,x=(((w.alloc (.cells #[.i g.x,.i g.y,.i g.z,.i d,.slice none 0 0] 27)).alloc (.cells #[.i 0,.i 0,.i 0,.i 0,.slice none 0 0] 27)).alloc (.cells #[] 82)):=⟨_,rfl⟩;rw [<-hw2e]at h0 h1 hB⊢;have hB2:=hB;clear hw2e hown h2 hB;have a0:=zi 0 h0 rfl;have a1:=zi 1 h0 rfl;have a2:=zi 2 h0 rfl;have a3:=zi 3 h0 rfl;have a4:=zi 4 h0 rfl;have g4:=zC 4 h0;have b0:=zi 0 h1 rfl;have f0:=zC 0 h1;have b1:=zi 1 h1 rfl;have f1:=zC 1 h1;have b2:=zi 2 h1 rfl;have f2:=zC 2 h1;have b3:=zi 3 h1 rfl;have f3:=zC 3 h1
             have b4:=zi 4 h1 rfl
             have f4:=zC 4 h1)
 have hfin:((((((w2.setCell (.q w.heap.size 4) (.slice (some (.q (w.heap.size+2) 0)) 0 0)).setCell (.q (w.heap.size+1) 0) (.i g.x)).setCell (.q (w.heap.size+1) 1) (.i g.y)).setCell (.q (w.heap.size+1) 2) (.i g.z)).setCell (.q (w.heap.size+1) 3) (.i d)).setCell (.q (w.heap.size+1) 4) (.slice (some (.q (w.heap.size+2) 0)) 0 0)).heap[w.heap.size+1]? =some (.cells #[.i g.x,.i g.y,.i g.z,.i d,.slice (some (.q (w.heap.size+2) 0)) 0 0] 27 (0,0)):=zvo (zt h1 zc);have hBf:Below w.heap.size w ((((((w2.setCell (.q w.heap.size 4) (.slice (some (.q (w.heap.size+2) 0)) 0 0)).setCell (.q (w.heap.size+1) 0) (.i g.x)).setCell (.q (w.heap.size+1) 1) (.i g.y)).setCell (.q (w.heap.size+1) 2) (.i g.z)).setCell (.q (w.heap.size+1) 3) (.i d)).setCell (.q (w.heap.size+1) 4) (.slice (some (.q (w.heap.size+2) 0)) 0 0)):=zrK (hB2.setCell (Nat.le_refl _) _) zc
 have hAf:zdn ((((((w2.setCell (.q w.heap.size 4) (.slice (some (.q (w.heap.size+2) 0)) 0 0)).setCell (.q (w.heap.size+1) 0) (.i g.x)).setCell (.q (w.heap.size+1) 1) (.i g.y)).setCell (.q (w.heap.size+1) 2) (.i g.z)).setCell (.q (w.heap.size+1) 3) (.i d)).setCell (.q (w.heap.size+1) 4) (.slice (some (.q (w.heap.size+2) 0)) 0 0)) (some (.q (w.heap.size+2) 0)) []:=by
  intro i a hi;simp at hi
 generalize((((((w2.setCell (.q w.heap.size 4) (.slice (some (.q (w.heap.size+2) 0)) 0 0)).setCell (.q (w.heap.size+1) 0) (.i g.x)).setCell (.q (w.heap.size+1) 1) (.i g.y)).setCell (.q (w.heap.size+1) 2) (.i g.z)).setCell (.q (w.heap.size+1) 3) (.i d)).setCell (.q (w.heap.size+1) 4) (.slice (some (.q (w.heap.size+2) 0)) 0 0))=W at*
 try simp only [Exit.inBlock,Exit.then]
 refine bodyPost_ret (zim rfl _ _ (w.heap.size+1) 27 #[.i g.x,.i g.y,.i g.z,.i d,.slice (some (.q (w.heap.size+2) 0)) 0 0] (0,0) rfl hfin (zaZ kfz) kfz) rfl ?_;exact⟨hBf,_,_,rfl,hAf⟩
theorem zTF(g:V3)(d:Int)(L:List AD)(ad:Addr)(cap:Nat)(w:World)(hA:Src w (some ad) L)(hc:L.length<=cap):
 Calls PP 6 #[.agg #[.i g.x,.i g.y,.i g.z,.i d,.slice (some ad) L.length cap]] w fun e w'=>Below w.heap.size w w'/\∃rp cap',e= .returned (.agg #[.i g.x,.i g.y,.i g.z,.i d,.slice rp (L.take 12).length cap'])/\zdn w' rp (L.take 12):=by
 go_enter Proofs.Tryz.func6,Proofs.Tryz.ntmps6
 obtain⟨i0,hi0,hz0,hz1,hz2⟩:=info_parts zMf;obtain⟨n,hn⟩:∃n,(L.take 12).length=n:=⟨_,rfl⟩;have hn12:n<=12/\n<=L.length:=by rw [<-hn,List.length_take];omega
 have hmin:(if(12:Int)<(L.length:Int)then 12 else(L.length:Int))=(n:Int):=by rw [<-hn,List.length_take];split<;>omega
 rw [hn];have h0:(((w.alloc (.cells #[.i g.x,.i g.y,.i g.z,.i d,.slice (some ad) L.length cap] 27)).alloc (.cells #[.i 0,.i 0,.i 0,.i 0,.slice none 0 0] 27)).alloc (.cells #[] 82)).heap[w.heap.size]? =some (.cells #[.i g.x,.i g.y,.i g.z,.i d,.slice (some ad) L.length cap] 27 (0,0)):=(heap_alloc_old _ _ (by simp<;>omega)).trans ((heap_alloc_old _ _ jq).trans (heap_alloc_new w _));have h1:(((w.alloc (.cells #[.i g.x,.i g.y,.i g.z,.i d,.slice (some ad) L.length cap] 27)).alloc (.cells #[.i 0,.i 0,.i 0,.i 0,.slice none 0 0] 27)).alloc (.cells #[] 82)).heap[w.heap.size+1]? =some (.cells #[.i 0,.i 0,.i 0,.i 0,.slice none 0 0] 27 (0,0)):=(heap_alloc_old _ _ jq).trans (by simpa using heap_alloc_new (w.alloc (.cells #[.i g.x,.i g.y,.i g.z,.i d,.slice (some ad) L.length cap] 27)) (.cells #[.i 0,.i 0,.i 0,.i 0,.slice none 0 0] 27))
 have h2:(((w.alloc (.cells #[.i g.x,.i g.y,.i g.z,.i d,.slice (some ad) L.length cap] 27)).alloc (.cells #[.i 0,.i 0,.i 0,.i 0,.slice none 0 0] 27)).alloc (.cells #[] 82)).heap[w.heap.size+2]? =some (.cells #[] 82 (0,0)):=by simpa using heap_alloc_new ((w.alloc (.cells #[.i g.x,.i g.y,.i g.z,.i d,.slice (some ad) L.length cap] 27)).alloc (.cells #[.i 0,.i 0,.i 0,.i 0,.slice none 0 0] 27)) (.cells #[] 82)
 have hB:Below w.heap.size w (((w.alloc (.cells #[.i g.x,.i g.y,.i g.z,.i d,.slice (some ad) L.length cap] 27)).alloc (.cells #[.i 0,.i 0,.i 0,.i 0,.slice none 0 0] 27)).alloc (.cells #[] 82)):=(((Below.refl _ w).alloc (Nat.le_refl _) _).alloc jq _).alloc (by simp<;>omega) _;have hown:(((w.alloc (.cells #[.i g.x,.i g.y,.i g.z,.i d,.slice (some ad) L.length cap] 27)).alloc (.cells #[.i 0,.i 0,.i 0,.i 0,.slice none 0 0] 27)).alloc (.cells #[] 82)).ownsRow (w.heap.size+2) 82 7 (.slice (some (.q (w.heap.size+2) 0)) 0 0) 0 []:=⟨rfl,.inr ⟨w.heap.size+2,0,#[],rfl,Nat.le_refl _,h2,Nat.le_refl _,by simp [maxLen],rfl,rfl⟩⟩
 have hA2:=ztJ hA hB (Nat.le_refl _)
 go_wp2_with(at_builtin
             refine wpList_append_own _ rfl _ _ 25 rfl (w.heap.size+2) 82 i0 (.agg #[.i 0,.i 0,.i 0,.i 0,.i 0,.i 0,.i 0]) 7 56 zEB hi0 hz0 hz1 hz2 rfl dcz _ _ [] rfl hown ad n cap (adL (L.take 12)) rfl (hn▸zzM (L.take 12)) (zRu hA2) (zPw _) (by simp only [maxLen];omega) zc jq ?_;intro v' w2 hown2 hg2 _;replace hg2:World.grownBy _ w2 (some (w.heap.size+2)):=hg2;replace hown2:w2.ownsRow (w.heap.size+2) 82 7 v' (L.take 12).length (adL (L.take 12)):=by rw [hn];simpa using hown2
             obtain⟨rp',cap',hv,hcc,_,hAr,hab⟩:=zwC hown2;rw [hn]at hv;subst hv;replace h0:=(hg2.block _ (by simp<;>omega) jq).trans h0;replace h1:=(hg2.block _ (by simp<;>omega) jq).trans h1;have hB2:Below w.heap.size w w2:=zos (g:=w.heap.size+2) hB hg2 hB.size zc;clear hown2 hg2 hown hA2 hB h2;have a0:=zi 0 h0 rfl;have a1:=zi 1 h0 rfl;have a2:=zi 2 h0 rfl;have a3:=zi 3 h0 rfl;have a4:=zi 4 h0 rfl;have g4:=zC 4 h0;have b0:=zi 0 h1 rfl;have f0:=zC 0 h1;have b1:=zi 1 h1 rfl;have f1:=zC 1 h1;have b2:=zi 2 h1 rfl;have f2:=zC 2 h1;have b3:=zi 3 h1 rfl;have f3:=zC 3 h1;have b4:=zi 4 h1 rfl
             have f4:=zC 4 h1)
 have hfin:((((((w2.setCell (.q w.heap.size 4) (.slice rp' n cap')).setCell (.q (w.heap.size+1) 0) (.i g.x)).setCell (.q (w.heap.size+1) 1) (.i g.y)).setCell (.q (w.heap.size+1) 2) (.i g.z)).setCell (.q (w.heap.size+1) 3) (.i d)).setCell (.q (w.heap.size+1) 4) (.slice rp' n cap')).heap[w.heap.size+1]? =some (.cells #[.i g.x,.i g.y,.i g.z,.i d,.slice rp' n cap'] 27 (0,0)):=zvo (zt h1 zc);have hBf:Below w.heap.size w ((((((w2.setCell (.q w.heap.size 4) (.slice rp' n cap')).setCell (.q (w.heap.size+1) 0) (.i g.x)).setCell (.q (w.heap.size+1) 1) (.i g.y)).setCell (.q (w.heap.size+1) 2) (.i g.z)).setCell (.q (w.heap.size+1) 3) (.i d)).setCell (.q (w.heap.size+1) 4) (.slice rp' n cap')):=zrK (hB2.setCell (Nat.le_refl _) _) zc
 have hAf:zdn ((((((w2.setCell (.q w.heap.size 4) (.slice rp' n cap')).setCell (.q (w.heap.size+1) 0) (.i g.x)).setCell (.q (w.heap.size+1) 1) (.i g.y)).setCell (.q (w.heap.size+1) 2) (.i g.z)).setCell (.q (w.heap.size+1) 3) (.i d)).setCell (.q (w.heap.size+1) 4) (.slice rp' n cap')) rp' (L.take 12):=by
  repeat' (refine ztI ?_ fun ab h=>by have:=hab ab h;omega)
  exact hAr
 generalize((((((w2.setCell (.q w.heap.size 4) (.slice rp' n cap')).setCell (.q (w.heap.size+1) 0) (.i g.x)).setCell (.q (w.heap.size+1) 1) (.i g.y)).setCell (.q (w.heap.size+1) 2) (.i g.z)).setCell (.q (w.heap.size+1) 3) (.i d)).setCell (.q (w.heap.size+1) 4) (.slice rp' n cap'))=W at*
 try simp only [Exit.inBlock,Exit.then]
 refine bodyPost_ret (zim rfl _ _ (w.heap.size+1) 27 #[.i g.x,.i g.y,.i g.z,.i d,.slice rp' n cap'] (0,0) rfl hfin (zaZ kfz) kfz) rfl ?_;exact⟨hBf,rp',cap',rfl,hAf⟩
theorem zRv(g:V3)(d:Int)(L:List AD)(p:Option Addr)(cap:Nat)(w:World)(hA:Src w p L)(hp:p=none->cap=0)(hc:L.length<=cap):
 Calls PP 6 #[.agg #[.i g.x,.i g.y,.i g.z,.i d,.slice p L.length cap]] w fun e w'=>Below w.heap.size w w'/\∃rp cap',e= .returned (.agg #[.i g.x,.i g.y,.i g.z,.i d,.slice rp (L.take 12).length cap'])/\zdn w' rp (L.take 12):=by
 cases p with
 |none=>
  obtain rfl:=hp rfl;obtain rfl:L=[]:=List.eq_nil_of_length_eq_zero zc;exact zTE g d w
 |some ad=>exact zTF g d L ad cap w hA hc
end Go.Xv
