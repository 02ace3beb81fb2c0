/- A navigator answers, whatever the inertial sensor and the aids tell, what the document says: the law returns true for every input, and leaves its arguments as they were. -/
import Derived.Test.YtdchhmffiiedmaaGreatLNavPlays
import Derived.Test.YtdchhmffiiedmaaGreatLNavPlays6
import Derived.Laws.AppendOwnNone
set_option linter.unusedVariables false
set_option linter.unusedSimpArgs false
set_option maxRecDepth 100000
set_option maxHeartbeats 64000000
open Go.IntKind (wrap)
namespace Go.Xv
open Go.RowKit
def adL(l:List AD):List Value:=l.flatMap fun a=>[.i a.src,.i a.kd,.i a.wt,.i a.gain,.i a.step,.i a.limit,.i a.hor]
theorem zzL:∀{l:List AD} {j:Nat} {a:AD},l[j]? =some a->∀k,k<7->(adL l)[j*7+k]? =[Value.int .i64 a.src,Value.int .i64 a.kd,Value.int .i64 a.wt,Value.int .i64 a.gain,Value.int .i64 a.step,Value.int .i64 a.limit,Value.int .i64 a.hor][k]?
 |[],_,_,h,_,_=>by simp at h
 |b::r,0,a,h,k,hk=>by
  cases h;show([_,_,_,_,_,_,_]++adL r)[0*7+k]? =_;rw [List.getElem?_append_left (by simp<;>omega),Nat.zero_mul,Nat.zero_add]
 |b::r,j+1,a,h,k,hk=>by
  show([_,_,_,_,_,_,_]++adL r)[(j+1)*7+k]? =_;rw [List.getElem?_append_right (by simp<;>omega),show(j+1)*7+k-[Value.int .i64 b.src,.i b.kd,.i b.wt,.i b.gain,.i b.step,.i b.limit,.i b.hor].length=j*7+k by simp;omega];exact zzL (l:=r) h k hk
theorem zzM(l:List AD):(adL l).length=l.length*7:=by
 induction l with
 |nil=>rfl
 |cons a r ih=>
  show([_,_,_,_,_,_,_]++adL r).length=_;rw [List.length_append,ih];simp;omega
theorem zTD{w:World}{ab:Nat}{ads:List AD}(hA:zdn w (some (.q ab 0)) ads):∀j u,(adL ads)[j]? =some u->w.cell? (((.q ab 0):Addr).add j)=some u:=fun i x hx=>by
 have hadd:((.q ab 0):Addr).add i=(.q ab i):=by unfold Addr.add;split<;>simp_all
 rw [hadd];have hi:i<ads.length*7:=by
  have:=(List.getElem?_eq_some_iff.1 hx).1;rwa [zzM]at this
 obtain⟨a,ha⟩:∃a,ads[i/7]? =some a:=⟨_,List.getElem?_eq_getElem zc⟩;have hg:=zzL ha (i%7) zc;rw [show i/7*7+i%7=i from zc,hx]at hg;obtain⟨ab',hab,c0,c1,c2,c3,c4,c5,c6⟩:=hA (i/7) a ha;cases hab;have hm:i%7<7:=zc;have hi7:i=i/7*7+i%7:=zc;generalize i/7=q at*
 generalize i%7=m at*
 subst hi7;rcases m with _|_|_|_|_|_|_|m
 ·cases hg;exact c0
 ·cases hg;exact c1
 ·cases hg;exact c2
 ·cases hg;exact c3
 ·cases hg;exact c4
 ·cases hg;exact c5
 ·cases hg;exact c6
 ·omega
theorem zPw(l:List AD):∀u∈adL l,u.oneCell'=true:=fun u hu=>by
 obtain⟨a,_,h⟩:=List.mem_flatMap.1 hu;simp only [List.mem_cons,List.not_mem_nil,or_false]at h;rcases h with rfl|rfl|rfl|rfl|rfl|rfl|rfl<;>rfl
theorem zwC{w:World}{base:Nat}{v:Value}{ads:List AD}{e:TypeId}(h:w.ownsRow base e 7 v ads.length (adL ads)):∃rp cap,v= .slice rp ads.length cap/\ads.length<=cap/\((rp=none/\cap=0)\/∃ab,rp=some (.q ab 0))/\zdn w rp ads/\∀ab,rp=some (.q ab 0)->base<=ab/\ab<w.heap.size:=by
 obtain⟨h1,⟨rfl,h0⟩|⟨g,cap,cur,rfl,hg,hh,h2,h3,h4,h5⟩⟩:=h
 ·have:ads=[]:=List.eq_nil_of_length_eq_zero h0
  subst this;exact⟨none,0,rfl,Nat.le_refl _,.inl ⟨rfl,rfl⟩,fun i a h=>by simp at h,fun ab h=>by cases h⟩
 ·refine⟨some (.q g 0),cap,rfl,h2,.inr ⟨g,rfl⟩,fun i a hi=>⟨g,rfl,?_⟩,fun ab h=>by cases h;exact⟨hg,(zy hh)⟩⟩
  have hlt:=(List.getElem?_eq_some_iff.1 hi).1;have key:∀k,k<7->w.cell? (.q g (i*7+k))=[Value.int .i64 a.src,Value.int .i64 a.kd,Value.int .i64 a.wt,Value.int .i64 a.gain,Value.int .i64 a.step,Value.int .i64 a.limit,Value.int .i64 a.hor][k]? :=fun k hk=>by
   rw [cell_of_row w g (i*7+k) cur e (0,0) hh, <-zzL hi k hk, <-h5,List.getElem?_take,if_pos zc];simp
  exact⟨key 0 zc,key 1 zc,key 2 zc,key 3 zc,key 4 zc,key 5 zc,key 6 zc⟩
theorem zxJ{ads:List AD}{s:Int}{t:TK}(h:zbH (ads.map AD.tk) s=some t):t.c=⟨0,0,0⟩/\t.last=0/\t.pulled=false:=by
 obtain⟨a,_,rfl⟩:=List.mem_map.1 (zcM h);exact⟨rfl,rfl,rfl⟩
theorem zW7(ads:List AD)(s:Int):cC (ads.map AD.tk) s=⟨0,0,0⟩:=by
 unfold cC;split
 ·rename_i h;exact(zxJ h).1
 ·rfl
theorem zW8(ads:List AD)(s:Int):cL (ads.map AD.tk) s=0:=by
 unfold cL;split
 ·rename_i h;exact(zxJ h).2.1
 ·rfl
theorem zW9(ads:List AD)(s:Int):cP (ads.map AD.tk) s=false:=by
 unfold cP;split
 ·rename_i h;exact(zxJ h).2.2
 ·rfl
theorem zMe(g:V3)(d:Int)(ads:List AD)(sl:Value):zOw ⟨zpV g d,ads.map AD.tk⟩ sl=#[.i g.x,.i g.y,.i g.z,.i d,sl,.i zcH.m.a0,.i zcH.m.a1,.i zcH.m.a2,.i zcH.m.a3,.i zcH.m.a4,.i zcH.m.a5,.i zcH.m.a6,.i zcH.m.a7,.i zcH.m.a8,.i zcH.n,.i 0,.i 0,.i 0,.i 0,.i 0,.i 0,.i 0,.i 0,.i 0,.i 0,.i 0,.i 0,.i 0,.i 0,.i 0,.i 0,.i 0,.i 0,.i 0,.i 0,.i 0,.i 0,.i 0,.i 0,.i 0,.i 0,.i 0,.i 0,.i 0,.i 0,.i 0,.i 0,.i 0,.i 0,.i 0,.i 0,.i 0,.i 0,.bool false,.bool false,.bool false,.bool false,.bool false,.bool false,.bool false,.bool false,.i (-1),.i (-1),.i 0,.bool false]:=by
 unfold zOw;simp only [zW7,zW8,zW9];kernel_rfl
theorem zg6{w w':World}{B:Nat}{rp:Option Addr}{ads:List AD}(h:zdn w rp ads)(hB:Below B w w')(hb:w.heap.size<=B):zdn w' rp ads:=fun i a hi=>by
 obtain⟨ab,h0,h1⟩:=h i a hi;have hb:∀{k:Nat} {v:Value},w.cell? (.q ab k)=some v->w'.cell? (.q ab k)=some v:=fun{k v} h=>(hB.cell (p:=(.q ab k)) (Nat.lt_of_lt_of_le (World.block_lt_of_cell? w _ h) hb)).trans h
 exact⟨ab,h0,hb h1.1,hb h1.2.1,hb h1.2.2.1,hb h1.2.2.2.1,hb h1.2.2.2.2.1,hb h1.2.2.2.2.2.1,hb h1.2.2.2.2.2.2⟩
theorem ztI{w:World}{x k:Nat}{u:Value}{rp:Option Addr}{ads:List AD}(h:zdn w rp ads)(hn:∀ab,rp=some (.q ab 0)->ab≠x):zdn (w.setCell (.q x k) u) rp ads:=fun i a hi=>by
 obtain⟨ab,h0,c0,c1,c2,c3,c4,c5,c6⟩:=h i a hi;have hne:=hn ab h0;exact⟨ab,h0,ya c0 hne,ya c1 hne,ya c2 hne,ya c3 hne,ya c4 hne,ya c5 hne,ya c6 hne⟩
theorem zEA{w:World}{rb:Nat}{rp:Option Addr}{ads:List AD}(h:zdn w rp ads)(hn:∀ab,rp=some (.q ab 0)->ab≠rb):∀(i:Nat) (t:TK),(ads.map AD.tk)[i]? =some t->∃ab,rp=some (.q ab 0)/\ab≠rb/\w.cell? (.q ab (i*7))=some (.i t.src)/\w.cell? (.q ab (i*7+1))=some (.i t.kd)/\w.cell? (.q ab (i*7+2))=some (.i t.wt)/\w.cell? (.q ab (i*7+3))=some (.i t.gain)/\w.cell? (.q ab (i*7+4))=some (.i t.step)/\w.cell? (.q ab (i*7+5))=some (.i t.limit)/\w.cell? (.q ab (i*7+6))=some (.i t.hor):=fun i t hi=>by
 rw [List.getElem?_map,Option.map_eq_some_iff]at hi;obtain⟨a,ha,rfl⟩:=hi;obtain⟨ab,h0,h1⟩:=h i a ha;exact⟨ab,h0,hn ab h0,h1⟩
theorem zxK:PP.underlying 37=some (.slice 96):=kfz
theorem zxL:(PP.info? 96).map (fun i=>(i.zero,i.size,i.bytes))=some (some (.agg #[.i 0,.i 0,.i 0,.i 0,.i 0,.i 0,.i 0]),7,56):=kfz
theorem zOF(g:V3)(d:Int)(w:World):
 Calls PP 7 #[.agg #[.i g.x,.i g.y,.i g.z,.i d,.slice none 0 0]] w fun e w'=>Below w.heap.size w w'/\((zkM d []/\∃rb rp' cap',e= .returned (.tuple #[ptB rb,.i 0])/\zaz w' rb rp' cap' ⟨zpV g d,([]:List AD).map AD.tk⟩/\w.heap.size<=rb/\∀ab,rp'=some (.q ab 0)->w.heap.size<=ab)\/(¬zkM d []/\e= .returned (.tuple #[.pointer none,.i 2]))):=by
 go_enter Proofs.Tryz.func7,Proofs.Tryz.ntmps7
 have hA0:Below w.heap.size w (w.alloc (.cells #[.i g.x,.i g.y,.i g.z,.i d,.slice none 0 0] 39)):=(Below.refl _ w).alloc (Nat.le_refl _) _;have hb0:(w.alloc (.cells #[.i g.x,.i g.y,.i g.z,.i d,.slice none 0 0] 39)).heap[w.heap.size]? =some (.cells #[.i g.x,.i g.y,.i g.z,.i d,.slice none 0 0] 39 (0,0)):=heap_alloc_new w _;have hck:=zuo g d [] none 0 (w.alloc (.cells #[.i g.x,.i g.y,.i g.z,.i d,.slice none 0 0] 39)) (fun i a h=>by simp at h) (fun h=>by omega) (Nat.le_refl _);simp only [List.length_nil]at hck;by_cases hok:zkM d []
 ·rw [zH0 hok]at hck
  obtain⟨i0,hi0,hz0,hz1,hz2⟩:=info_parts zxL
  go_wp2_with(first
   |(go_at_call 24;refine hck.mono ?_;clear hck;rintro e w1 ⟨rfl,hB1⟩
     have hb1:w1.heap[w.heap.size]? =some (.cells #[.i g.x,.i g.y,.i g.z,.i d,.slice none 0 0] 39 (0,0)):=(hB1.block _ jq).trans hb0;have hlt:w.heap.size<w1.heap.size:=(zy hb1);have k0:=zi 0 hb1 rfl;have k1:=zi 1 hb1 rfl;have k2:=zi 2 hb1 rfl;have k3:=zi 3 hb1 rfl;have k4:=zi 4 hb1 rfl;have hz:((w1.alloc (.cells #[.i g.x,.i g.y,.i g.z,.i d,.slice none 0 0] 39)).alloc (.cells #[] 96)).heap[w1.heap.size+1]? =some (.cells #[] 96 (0,0)):=by simpa using heap_alloc_new (w1.alloc (.cells #[.i g.x,.i g.y,.i g.z,.i d,.slice none 0 0] 39)) (.cells #[] 96)
     have hx1:((w1.alloc (.cells #[.i g.x,.i g.y,.i g.z,.i d,.slice none 0 0] 39)).alloc (.cells #[] 96)).heap[w1.heap.size]? =some (.cells #[.i g.x,.i g.y,.i g.z,.i d,.slice none 0 0] 39 (0,0)):=(heap_alloc_old _ _ jq).trans (heap_alloc_new w1 _);have hBx:Below w.heap.size w ((w1.alloc (.cells #[.i g.x,.i g.y,.i g.z,.i d,.slice none 0 0] 39)).alloc (.cells #[] 96)):=(((hA0.trans (hB1.mono hA0.size))).alloc zc _).alloc (by simp<;>omega) _
     have hown:((w1.alloc (.cells #[.i g.x,.i g.y,.i g.z,.i d,.slice none 0 0] 39)).alloc (.cells #[] 96)).ownsRow (w1.heap.size+1) 96 7 (.slice (some (.q (w1.heap.size+1) 0)) 0 0) 0 []:=⟨rfl,.inr ⟨w1.heap.size+1,0,#[],rfl,Nat.le_refl _,hz,Nat.le_refl _,by simp [maxLen],rfl,rfl⟩⟩)
   |(at_builtin
     refine wpList_append_own_none rfl _ _ 37 rfl (w1.heap.size+1) 96 i0 7 zxK hi0 _ _ [] rfl hown rfl ?_;clear hown;obtain⟨w2,hw2e⟩:∃x,x=((w1.alloc (.cells #[.i g.x,.i g.y,.i g.z,.i d,.slice none 0 0] 39)).alloc (.cells #[] 96)):=⟨_,rfl⟩;rw [<-hw2e]at hz hx1 hBx⊢;have hl2:w1.heap.size+1<w2.heap.size:=(zy hz);clear hw2e;have f4:=zC 4 hx1
     have c4:=zi 4 hx1 rfl))
  have hx2:=hx1;have hB2:=hBx;have hA2:zdn w2 (some (.q (w1.heap.size+1) 0)) []:=fun i a h=>by simp at h
  have hab2:∀ab,(some (.q (w1.heap.size+1) 0):Option Addr)=some (.q ab 0)->w1.heap.size+1<=ab/\ab<w2.heap.size:=fun ab h=>by cases h;exact⟨Nat.le_refl _,hl2⟩
  have hx5:w2.heap[w1.heap.size]? =some (.cells #[.i g.x,.i g.y,.i g.z,.i d,.slice none 0 0] 39 (0,0)):=hx2;have hw2:w1.heap.size<w2.heap.size:=(zy hx5);have hB3:Below w.heap.size w (w2.setCell (.q w1.heap.size 4) (.slice (some (.q (w1.heap.size+1) 0)) 0 0)):=hB2.setCell (show w.heap.size<=w1.heap.size from zc) _;have hx3:(w2.setCell (.q w1.heap.size 4) (.slice (some (.q (w1.heap.size+1) 0)) 0 0)).heap[w1.heap.size]? =some (.cells #[.i g.x,.i g.y,.i g.z,.i d,.slice (some (.q (w1.heap.size+1) 0)) 0 0] 39 (0,0)):=by simpa using zf (o:=4) (v:=.slice (some (.q (w1.heap.size+1) 0)) 0 0) hx5
  have hA3:zdn (w2.setCell (.q w1.heap.size 4) (.slice (some (.q (w1.heap.size+1) 0)) 0 0)) (some (.q (w1.heap.size+1) 0)) []:=ztI hA2 fun ab h=>by have:=hab2 ab h;omega
  have hx3d:(w2.setCell (.q w1.heap.size 4) (.slice (some (.q (w1.heap.size+1) 0)) 0 0)).drew.heap[w1.heap.size]? =_:=hx3;have hd3:Below w.heap.size w (w2.setCell (.q w1.heap.size 4) (.slice (some (.q (w1.heap.size+1) 0)) 0 0)).drew:=⟨hB3.os,hB3.tape,hB3.output,hB3.size,hB3.block⟩;have hab3:∀ab,(some (.q (w1.heap.size+1) 0):Option Addr)=some (.q ab 0)->w1.heap.size+1<=ab/\ab<(w2.setCell (.q w1.heap.size 4) (.slice (some (.q (w1.heap.size+1) 0)) 0 0)).heap.size:=fun ab h=>by have:=hab2 ab h;simpa using this
  have hA3d:zdn (w2.setCell (.q w1.heap.size 4) (.slice (some (.q (w1.heap.size+1) 0)) 0 0)).drew (some (.q (w1.heap.size+1) 0)) []:=hA3;clear hx2 hB2 hA2 hB3 hx3 hA3 hab2 hx5 hw2 f4 c4 hz hx1 hBx hl2;generalize w2.setCell (.q w1.heap.size 4) (.slice (some (.q (w1.heap.size+1) 0)) 0 0)=w3 at*
  generalize w1.heap.size=x5 at*
  have hS:∀W:World,W.heap[x5]? =some (.cells #[.i g.x,.i g.y,.i g.z,.i d,.slice (some (.q (x5+1) 0)) 0 0] 39 (0,0))->W.cell? (.q x5 0)=some (.i g.x)/\W.cell? (.q x5 1)=some (.i g.y)/\W.cell? (.q x5 2)=some (.i g.z)/\W.cell? (.q x5 3)=some (.i d)/\W.cell? (.q x5 4)=some (.slice (some (.q (x5+1) 0)) 0 0):=fun W h=>⟨za h,za h,za h,za h,za h⟩
  go_region_held3(fun w'=>w'.cell? (.q x5 0)=some (.i g.x)/\w'.cell? (.q x5 1)=some (.i g.y)/\w'.cell? (.q x5 2)=some (.i g.z)/\w'.cell? (.q x5 3)=some (.i d)/\w'.cell? (.q x5 4)=some (.slice (some (.q (x5+1) 0)) 0 0)) (first|(with_reducible exact hS _ hx3d)|(with_reducible exact hS _ hxz)|(with_reducible exact hS _ ((heap_alloc_old wz _ (zy hxz)).trans hxz)))
   (first
     |(go_at_call 25
       refine(zBq _).mono ?_;rintro e wz ⟨rfl,hBz⟩;have hxz:wz.heap[x5]? =some (.cells #[.i g.x,.i g.y,.i g.z,.i d,.slice (some (.q (x5+1) 0)) 0 0] 39 (0,0)):=(hBz.block _ (zy hx3d)).trans hx3d;have hAz:zdn wz (some (.q (x5+1) 0)) []:=zg6 hA3d hBz (Nat.le_refl _)
       have hBw:Below w.heap.size w wz:=hd3.trans (hBz.mono hd3.size)))
  all_goals
   go_wp2;go_ret2;refine⟨hBw.alloc hBw.size _,.inl ⟨hok,wz.heap.size,some (.q (x5+1) 0),0,rfl,⟨?_,?_⟩,hBw.size,fun ab h=>by have:=hab3 ab h;omega⟩⟩
   ·rw [zMe,show slR (some (.q (x5+1) 0)) ⟨zpV g d,([]:List AD).map AD.tk⟩ 0= .slice (some (.q (x5+1) 0)) 0 0 by simp [slR]]
    refine(heap_alloc_new wz _).trans ?_;kernel_rfl
   ·refine zEA (zg6 hAz ((Below.refl _ wz).alloc (Nat.le_refl _) _) (Nat.le_refl _)) fun ab h=> ?_
    have:=hab3 ab h;have h2:w3.heap.size<=wz.heap.size:=hBz.size;omega
 ·rw [zwv hok]at hck
  go_wp2_with(go_at_call 24;refine hck.mono ?_;clear hck;rintro e w1 ⟨rfl,hB1⟩)
  go_ret2;exact⟨hA0.trans (hB1.mono hA0.size),.inr ⟨hok,rfl⟩⟩
theorem zyx(g:V3)(d:Int)(ads:List AD)(rp:Option Addr)(cap:Nat)(w:World)(hA:zdn w rp ads)(hp:(rp=none/\cap=0)\/∃ab,rp=some (.q ab 0))(hc:ads.length<=cap):
 Calls PP 7 #[.agg #[.i g.x,.i g.y,.i g.z,.i d,.slice rp ads.length cap]] w fun e w'=>Below w.heap.size w w'/\((zkM d ads/\∃rb rp' cap',e= .returned (.tuple #[ptB rb,.i 0])/\zaz w' rb rp' cap' ⟨zpV g d,ads.map AD.tk⟩/\w.heap.size<=rb/\∀ab,rp'=some (.q ab 0)->w.heap.size<=ab)\/(¬zkM d ads/\e= .returned (.tuple #[.pointer none,.i 2]))):=by
 by_cases hne:rp=none
 ·have hq:=hp.resolve_right (fun⟨ab,h⟩=>by rw [hne]at h;cases h)
  obtain⟨rfl,rfl⟩:=hq;obtain rfl:ads=[]:=List.eq_nil_of_length_eq_zero zc;exact zOF g d w
 go_enter Proofs.Tryz.func7,Proofs.Tryz.ntmps7
 have hA0:Below w.heap.size w (w.alloc (.cells #[.i g.x,.i g.y,.i g.z,.i d,.slice rp ads.length cap] 39)):=(Below.refl _ w).alloc (Nat.le_refl _) _;have hb0:(w.alloc (.cells #[.i g.x,.i g.y,.i g.z,.i d,.slice rp ads.length cap] 39)).heap[w.heap.size]? =some (.cells #[.i g.x,.i g.y,.i g.z,.i d,.slice rp ads.length cap] 39 (0,0)):=heap_alloc_new w _;have hck:=zuo g d ads rp cap _ (zg6 hA hA0 (Nat.le_refl _)) (fun h=>hp.resolve_left fun q=>by omega) hc;by_cases hok:zkM d ads
 ·rw [zH0 hok]at hck
  have hn8:=hok.2.1;obtain⟨i0,hi0,hz0,hz1,hz2⟩:=info_parts zxL;rcases hp with⟨rfl,rfl⟩|⟨ab,rfl⟩
  ·exact absurd rfl hne
  ·go_wp2_with(first
    |(go_at_call 24;refine hck.mono ?_;clear hck;rintro e w1 ⟨rfl,hB1⟩
      have hb1:w1.heap[w.heap.size]? =some (.cells #[.i g.x,.i g.y,.i g.z,.i d,.slice (some (.q ab 0)) ads.length cap] 39 (0,0)):=(hB1.block _ jq).trans hb0;have hlt:w.heap.size<w1.heap.size:=(zy hb1);have k0:=zi 0 hb1 rfl;have k1:=zi 1 hb1 rfl;have k2:=zi 2 hb1 rfl;have k3:=zi 3 hb1 rfl;have k4:=zi 4 hb1 rfl;have hz:((w1.alloc (.cells #[.i g.x,.i g.y,.i g.z,.i d,.slice (some (.q ab 0)) ads.length cap] 39)).alloc (.cells #[] 96)).heap[w1.heap.size+1]? =some (.cells #[] 96 (0,0)):=by simpa using heap_alloc_new (w1.alloc (.cells #[.i g.x,.i g.y,.i g.z,.i d,.slice (some (.q ab 0)) ads.length cap] 39)) (.cells #[] 96)
      have hx1:((w1.alloc (.cells #[.i g.x,.i g.y,.i g.z,.i d,.slice (some (.q ab 0)) ads.length cap] 39)).alloc (.cells #[] 96)).heap[w1.heap.size]? =some (.cells #[.i g.x,.i g.y,.i g.z,.i d,.slice (some (.q ab 0)) ads.length cap] 39 (0,0)):=(heap_alloc_old _ _ jq).trans (heap_alloc_new w1 _);have hBx:Below w.heap.size w ((w1.alloc (.cells #[.i g.x,.i g.y,.i g.z,.i d,.slice (some (.q ab 0)) ads.length cap] 39)).alloc (.cells #[] 96)):=(((hA0.trans (hB1.mono hA0.size))).alloc zc _).alloc (by simp<;>omega) _
      have hown:((w1.alloc (.cells #[.i g.x,.i g.y,.i g.z,.i d,.slice (some (.q ab 0)) ads.length cap] 39)).alloc (.cells #[] 96)).ownsRow (w1.heap.size+1) 96 7 (.slice (some (.q (w1.heap.size+1) 0)) 0 0) 0 []:=⟨rfl,.inr ⟨w1.heap.size+1,0,#[],rfl,Nat.le_refl _,hz,Nat.le_refl _,by simp [maxLen],rfl,rfl⟩⟩)
    |(at_builtin
      refine wpList_append_own _ rfl _ _ 37 rfl (w1.heap.size+1) 96 i0 (.agg #[.i 0,.i 0,.i 0,.i 0,.i 0,.i 0,.i 0]) 7 56 zxK hi0 hz0 hz1 hz2 rfl dcz _ _ [] rfl hown (.q ab 0) ads.length cap (adL ads) rfl (zzM ads) (zTD (zg6 hA hBx (Nat.le_refl _))) (zPw ads) (by simp only [maxLen];omega) zc jq ?_;intro v' w2 hown2 hg2 _;replace hg2:World.grownBy _ w2 (some (w1.heap.size+1)):=hg2;replace hown2:w2.ownsRow (w1.heap.size+1) 96 7 v' ads.length (adL ads):=by simpa using hown2
      obtain⟨rp',cap',rfl,hcc,_,hA2,hab2⟩:=zwC hown2;have hx2:w2.heap[w1.heap.size]? =some (.cells #[.i g.x,.i g.y,.i g.z,.i d,.slice (some (.q ab 0)) ads.length cap] 39 (0,0)):=(hg2.block _ (by simp<;>omega) jq).trans hx1;have f4:=zC 4 hx2;have c4:=zi 4 hx2 rfl
      have hB2:Below w.heap.size w w2:=zos (g:=w1.heap.size+1) hBx hg2 hBx.size zc))
   have hx5:w2.heap[w1.heap.size]? =some (.cells #[.i g.x,.i g.y,.i g.z,.i d,.slice (some (.q ab 0)) ads.length cap] 39 (0,0)):=hx2;have hw2:w1.heap.size<w2.heap.size:=(zy hx5);have hB3:Below w.heap.size w (w2.setCell (.q w1.heap.size 4) (.slice rp' ads.length cap')):=hB2.setCell (show w.heap.size<=w1.heap.size from zc) _;have hx3:(w2.setCell (.q w1.heap.size 4) (.slice rp' ads.length cap')).heap[w1.heap.size]? =some (.cells #[.i g.x,.i g.y,.i g.z,.i d,.slice rp' ads.length cap'] 39 (0,0)):=by simpa using zf (o:=4) (v:=.slice rp' ads.length cap') hx5
   have hA3:zdn (w2.setCell (.q w1.heap.size 4) (.slice rp' ads.length cap')) rp' ads:=ztI hA2 fun ab h=>by have:=hab2 ab h;omega
   have hx3d:(w2.setCell (.q w1.heap.size 4) (.slice rp' ads.length cap')).drew.heap[w1.heap.size]? =_:=hx3;have hd3:Below w.heap.size w (w2.setCell (.q w1.heap.size 4) (.slice rp' ads.length cap')).drew:=⟨hB3.os,hB3.tape,hB3.output,hB3.size,hB3.block⟩;have hab3:∀ab,rp'=some (.q ab 0)->w1.heap.size+1<=ab/\ab<(w2.setCell (.q w1.heap.size 4) (.slice rp' ads.length cap')).heap.size:=fun ab h=>by have:=hab2 ab h;simpa using this
   have hA3d:zdn (w2.setCell (.q w1.heap.size 4) (.slice rp' ads.length cap')).drew rp' ads:=hA3;clear hx2 hB2 hA2 hB3 hx3 hA3 hab2 hx5 hw2 f4 c4 hg2 hown2;generalize w2.setCell (.q w1.heap.size 4) (.slice rp' ads.length cap')=w3 at*
   generalize w1.heap.size=x5 at*
   have hS:∀W:World,W.heap[x5]? =some (.cells #[.i g.x,.i g.y,.i g.z,.i d,.slice rp' ads.length cap'] 39 (0,0))->W.cell? (.q x5 0)=some (.i g.x)/\W.cell? (.q x5 1)=some (.i g.y)/\W.cell? (.q x5 2)=some (.i g.z)/\W.cell? (.q x5 3)=some (.i d)/\W.cell? (.q x5 4)=some (.slice rp' ads.length cap'):=fun W h=>⟨za h,za h,za h,za h,za h⟩
   go_region_held3(fun w'=>w'.cell? (.q x5 0)=some (.i g.x)/\w'.cell? (.q x5 1)=some (.i g.y)/\w'.cell? (.q x5 2)=some (.i g.z)/\w'.cell? (.q x5 3)=some (.i d)/\w'.cell? (.q x5 4)=some (.slice rp' ads.length cap')) (first|(with_reducible exact hS _ hx3d)|(with_reducible exact hS _ hxz)|(with_reducible exact hS _ ((heap_alloc_old wz _ (zy hxz)).trans hxz)))
    (first
      |(go_at_call 25
        refine(zBq _).mono ?_;rintro e wz ⟨rfl,hBz⟩;have hxz:wz.heap[x5]? =some (.cells #[.i g.x,.i g.y,.i g.z,.i d,.slice rp' ads.length cap'] 39 (0,0)):=(hBz.block _ (zy hx3d)).trans hx3d;have hAz:zdn wz rp' ads:=zg6 hA3d hBz (Nat.le_refl _)
        have hBw:Below w.heap.size w wz:=hd3.trans (hBz.mono hd3.size)))
   all_goals
    go_wp2;go_ret2;refine⟨hBw.alloc hBw.size _,.inl ⟨hok,wz.heap.size,rp',cap',rfl,⟨?_,?_⟩,hBw.size,fun ab h=>by have:=hab3 ab h;omega⟩⟩
    ·rw [zMe,show slR rp' ⟨zpV g d,ads.map AD.tk⟩ cap'= .slice rp' ads.length cap' by simp [slR]]
     refine(heap_alloc_new wz _).trans ?_;kernel_rfl
    ·refine zEA (zg6 hAz ((Below.refl _ wz).alloc (Nat.le_refl _) _) (Nat.le_refl _)) fun ab h=> ?_
     have:=hab3 ab h;have h2:w3.heap.size<=wz.heap.size:=hBz.size;omega
 ·rw [zwv hok]at hck
  go_wp2_with(go_at_call 24;refine hck.mono ?_;clear hck;rintro e w1 ⟨rfl,hB1⟩)
  go_ret2;exact⟨hA0.trans (hB1.mono hA0.size),.inr ⟨hok,rfl⟩⟩
end Go.Xv
