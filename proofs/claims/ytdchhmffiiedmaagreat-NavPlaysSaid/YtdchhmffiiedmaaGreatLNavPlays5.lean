/- A navigator answers, whatever the inertial sensor and the aids tell, what the document says: the law returns true for every input, and leaves its arguments as they were. -/
import Derived.Test.YtdchhmffiiedmaaGreatLNavPlays
import Derived.Test.YtdchhmffiiedmaaGreatLNavPlays2
import Derived.Test.YtdchhmffiiedmaaGreatLNavPlays3
import Derived.Test.YtdchhmffiiedmaaGreatLNavPlays4
import Derived.Deep.LoopGhost
import Derived.Deep.RegionHeldLaw
set_option linter.unusedVariables false
set_option linter.unusedSimpArgs false
set_option maxRecDepth 100000
set_option maxHeartbeats 64000000
open Go.IntKind (wrap)
namespace Go.Xv
open Go.RowKit Go.ChangeMaps
theorem zPo{l:List (Int×Nat)}(h:Srt l):l.length<=8:=by
 have:=zBm l 8;rw [zLN h]at this;simpa using this
theorem zBo(nb mb:Nat)(l:List (Int×Nat))(p:PS)(hm:mb≠nb)(hl:Srt l)(w:World)(hR:zcO w nb mb l p):
 Calls PP 49 #[ptB nb] w fun e w'=>∃rp cap rb,e= .returned (.slice rp l.length cap)/\(∀(i:Nat) (s:Int) (b:Nat),l[i]? =some (s,b)->rp=some ⟨rb,0,none⟩/\w'.cell? ⟨rb,i,none⟩=some (ptB b))/\w.heap.size<=rb/\Below w.heap.size w w':=by
 refine(zRj nb mb l p hm w hR).mono ?_;rintro e w' ⟨v,rfl,hown,hB⟩;rw [zLN hl]at hown;rcases hown.2 with⟨rfl,h0⟩|⟨g,cap,cur,rfl,hg,hh,h1,h2,h3,h4⟩
 ·refine⟨none,0,w.heap.size,?_,fun i s b hi=> ?_,Nat.le_refl _,hB⟩
  ·simp only [List.length_map]at h0
   rw [h0]
  ·have:=(List.getElem?_eq_some_iff.1 hi).1
   simp only [List.length_map]at h0;omega
 ·refine⟨some ⟨g,0,none⟩,cap,g,?_,fun i s b hi=>⟨rfl,?_⟩,hg,hB⟩
  ·simp
  ·have hlt:=(List.getElem?_eq_some_iff.1 hi).1
   rw [hown.cellAt i (by simpa using hlt),List.getElem?_map,List.getElem?_map,hi];rfl
abbrev oS(p:PS)(j:Nat):OS:=zDH (zBn p.s) (p.ts.take j)
abbrev oK(p:PS)(j:Nat):Bool:=zw (spZ p.s)||zpY (zBn p.s) (p.ts.take j)
theorem zRl(nb mb:Nat)(l:List (Int×Nat))(p:PS)(hm:mb≠nb)(hs:p.s.ok)(hp:∀t∈p.ts,t.ok)(hl:Srt l)(w:World)(hR:zcO w nb mb l p):
 Calls PP 16 #[ptB nb] w fun e w'=>e= .returned (.agg (oC p.s (zct p).1))/\zcO w' nb mb l (zct p).2/\Chg nb w w':=by
 go_enter Proofs.Tryz.func16,Proofs.Tryz.ntmps16
 obtain⟨s,ts⟩:=p;have hN:jc w nb mb s:=hR.nav;replace hs:s.ok:=hs;have hl8:=zPo hl;replace hp:∀t∈ts,t.ok:=hp;have hA0:Below w.heap.size w (w.alloc (.cells #[.i 0,.i 0,.i 0,.i 0,.i 0,.i 0,.int .u32 0,.i 0] 69)):=(Below.refl _ w).alloc (Nat.le_refl _) _;have hb0:(w.alloc (.cells #[.i 0,.i 0,.i 0,.i 0,.i 0,.i 0,.int .u32 0,.i 0] 69)).heap[w.heap.size]? =some (.cells #[.i 0,.i 0,.i 0,.i 0,.i 0,.i 0,.int .u32 0,.i 0] 69 (0,0)):=heap_alloc_new w _;have hnw:=hN.lt;have hN0:=hN.below hA0;have hi:=zil nb mb s _ hN0;go_wp2_with(go_at_call 43;refine hi.mono ?_;clear hi;rintro e w' ⟨rfl,hw⟩;obtain rfl:=hw.symm)
 generalize w.alloc (.cells #[.i 0,.i 0,.i 0,.i 0,.i 0,.i 0,.int .u32 0,.i 0] 69)=w0 at*
 have hnw0:nb<w0.heap.size:=hN0.lt;have hne0:nb≠w0.heap.size:=zc;have hd:Below w0.heap.size w0 w0.drew:=⟨rfl,rfl,rfl,Nat.le_refl _,fun _ _=>rfl⟩;have hA:∀o,Below w0.heap.size w0 (w0.alloc o).drew:=fun o=>hd.alloc (Nat.le_refl _) o
 have hS:∀w',Below w0.heap.size w0 w'->w'.cell? ⟨nb,3,none⟩=some (.i s.v0)/\w'.cell? ⟨nb,4,none⟩=some (.i s.v1)/\w'.cell? ⟨nb,5,none⟩=some (.i s.v2)/\w'.cell? ⟨nb,6,none⟩=some (.i s.p0)/\w'.cell? ⟨nb,7,none⟩=some (.i s.p1)/\w'.cell? ⟨nb,8,none⟩=some (.i s.p2)/\w'.cell? ⟨nb,10,none⟩=some (.i s.a.m.a0)/\w'.cell? ⟨nb,11,none⟩=some (.i s.a.m.a1)/\w'.cell? ⟨nb,12,none⟩=some (.i s.a.m.a2)/\w'.cell? ⟨nb,13,none⟩=some (.i s.a.m.a3)/\w'.cell? ⟨nb,14,none⟩=some (.i s.a.m.a4)/\w'.cell? ⟨nb,15,none⟩=some (.i s.a.m.a5)/\w'.cell? ⟨nb,16,none⟩=some (.i s.a.m.a6)/\w'.cell? ⟨nb,17,none⟩=some (.i s.a.m.a7)/\w'.cell? ⟨nb,18,none⟩=some (.i s.a.m.a8)/\w'.cell? ⟨nb,19,none⟩=some (.i s.a.n):=fun w' hB=>⟨(hB.cell (p:=⟨nb,_,none⟩) hN0.lt).trans (za hN0),(hB.cell (p:=⟨nb,_,none⟩) hN0.lt).trans (za hN0),(hB.cell (p:=⟨nb,_,none⟩) hN0.lt).trans (za hN0),(hB.cell (p:=⟨nb,_,none⟩) hN0.lt).trans (za hN0),(hB.cell (p:=⟨nb,_,none⟩) hN0.lt).trans (za hN0),(hB.cell (p:=⟨nb,_,none⟩) hN0.lt).trans (za hN0),(hB.cell (p:=⟨nb,_,none⟩) hN0.lt).trans (za hN0),(hB.cell (p:=⟨nb,_,none⟩) hN0.lt).trans (za hN0),(hB.cell (p:=⟨nb,_,none⟩) hN0.lt).trans (za hN0),(hB.cell (p:=⟨nb,_,none⟩) hN0.lt).trans (za hN0),(hB.cell (p:=⟨nb,_,none⟩) hN0.lt).trans (za hN0),(hB.cell (p:=⟨nb,_,none⟩) hN0.lt).trans (za hN0),(hB.cell (p:=⟨nb,_,none⟩) hN0.lt).trans (za hN0),(hB.cell (p:=⟨nb,_,none⟩) hN0.lt).trans (za hN0),(hB.cell (p:=⟨nb,_,none⟩) hN0.lt).trans (za hN0),(hB.cell (p:=⟨nb,_,none⟩) hN0.lt).trans (za hN0)⟩
 have hT:∀w',jc w' nb mb s.sp->w'.cell? ⟨nb,3,none⟩=some (.i s.v0)/\w'.cell? ⟨nb,4,none⟩=some (.i s.v1)/\w'.cell? ⟨nb,5,none⟩=some (.i s.v2)/\w'.cell? ⟨nb,6,none⟩=some (.i s.p0)/\w'.cell? ⟨nb,7,none⟩=some (.i s.p1)/\w'.cell? ⟨nb,8,none⟩=some (.i s.p2)/\w'.cell? ⟨nb,10,none⟩=some (.i s.a.m.a0)/\w'.cell? ⟨nb,11,none⟩=some (.i s.a.m.a1)/\w'.cell? ⟨nb,12,none⟩=some (.i s.a.m.a2)/\w'.cell? ⟨nb,13,none⟩=some (.i s.a.m.a3)/\w'.cell? ⟨nb,14,none⟩=some (.i s.a.m.a4)/\w'.cell? ⟨nb,15,none⟩=some (.i s.a.m.a5)/\w'.cell? ⟨nb,16,none⟩=some (.i s.a.m.a6)/\w'.cell? ⟨nb,17,none⟩=some (.i s.a.m.a7)/\w'.cell? ⟨nb,18,none⟩=some (.i s.a.m.a8)/\w'.cell? ⟨nb,19,none⟩=some (.i s.a.n):=fun w' hB=>⟨za hB,za hB,za hB,za hB,za hB,za hB,za hB,za hB,za hB,za hB,za hB,za hB,za hB,za hB,za hB,za hB⟩
 have hh:=fun W (hW:Below w0.heap.size w0 W)=>(zph hs.m (a:=s.a) W).mono fun e w' (h:_/\_)=>(⟨h.1,hW.trans (h.2.mono hW.size),h.2⟩:_/\Below w0.heap.size w0 w'/\Below W.heap.size W w')
 have hsp:=fun W (hW:jc W nb mb s)=>zs5 nb mb s hs W hW
 go_cut [3] (fun v w'=>∃ob,v= .pointer (some ⟨ob,0,none⟩)/\w'.heap[ob]? =some (.cells (zNX s) 69 (0,0))/\nb≠ob/\w0.heap.size<=ob/\jc w' nb mb s.sp/\Chg nb w0 w')
 case first=>
  go_region_held3(fun w'=>w'.cell? ⟨nb,3,none⟩=some (.i s.v0)/\w'.cell? ⟨nb,4,none⟩=some (.i s.v1)/\w'.cell? ⟨nb,5,none⟩=some (.i s.v2)/\w'.cell? ⟨nb,6,none⟩=some (.i s.p0)/\w'.cell? ⟨nb,7,none⟩=some (.i s.p1)/\w'.cell? ⟨nb,8,none⟩=some (.i s.p2)/\w'.cell? ⟨nb,10,none⟩=some (.i s.a.m.a0)/\w'.cell? ⟨nb,11,none⟩=some (.i s.a.m.a1)/\w'.cell? ⟨nb,12,none⟩=some (.i s.a.m.a2)/\w'.cell? ⟨nb,13,none⟩=some (.i s.a.m.a3)/\w'.cell? ⟨nb,14,none⟩=some (.i s.a.m.a4)/\w'.cell? ⟨nb,15,none⟩=some (.i s.a.m.a5)/\w'.cell? ⟨nb,16,none⟩=some (.i s.a.m.a6)/\w'.cell? ⟨nb,17,none⟩=some (.i s.a.m.a7)/\w'.cell? ⟨nb,18,none⟩=some (.i s.a.m.a8)/\w'.cell? ⟨nb,19,none⟩=some (.i s.a.n))
   (first|(with_reducible exact hS _ hd)|(with_reducible exact hS _ hBh')|(with_reducible exact hS _ (hA _))|(with_reducible exact hS _ (hBh'.alloc hBh'.size _))|(with_reducible exact hT _ hNs)|(with_reducible exact hT _ (hNs.below ((Below.refl _ ws).alloc (Nat.le_refl _) _)))|(with_reducible exact hT _ (zdX hNs hne0))|(with_reducible exact hT _ (zdX hNs hne1)))
   (first
     |(go_at_call 39
       refine(hh _ (by with_reducible exact hd)).mono ?_
       rintro e wh ⟨rfl,hBh',hBh⟩)
     |(go_at_call 39
       refine(hh _ (by with_reducible exact hA _)).mono ?_;rintro e wh ⟨rfl,hBh',hBh⟩
       have hz:wh.heap[w0.heap.size]? =some (.cells #[.i 0,.i 0,.i 0,.i 0,.i 0,.i 0,.int .u32 0,.i 0] 69 (0,0)):=(hBh.block _ jq).trans (heap_alloc_new w0 _))
     |(go_at_call 41
       refine(hsp wh (hN0.below hBh')).mono ?_;rintro e ws ⟨rfl,hNs,hCs⟩;have hzs:ws.heap[w0.heap.size]? =some (.cells #[.i 0,.i 0,.i 0,.i 0,.i 0,.i 0,.int .u32 0,.i 0] 69 (0,0)):=(hCs.block _ (zy hz) zc).trans hz;have z0:ws.cell? ⟨w0.heap.size,0,none⟩=some (.i 0):=za hzs;have y0:ws.frozen? ⟨w0.heap.size,0,none⟩=false:=zE hzs jq;have z1:ws.cell? ⟨w0.heap.size,1,none⟩=some (.i 0):=za hzs;have y1:ws.frozen? ⟨w0.heap.size,1,none⟩=false:=zE hzs jq;have z2:ws.cell? ⟨w0.heap.size,2,none⟩=some (.i 0):=za hzs;have y2:ws.frozen? ⟨w0.heap.size,2,none⟩=false:=zE hzs jq;have z3:ws.cell? ⟨w0.heap.size,3,none⟩=some (.i 0):=za hzs
       have y3:ws.frozen? ⟨w0.heap.size,3,none⟩=false:=zE hzs jq;have z4:ws.cell? ⟨w0.heap.size,4,none⟩=some (.i 0):=za hzs;have y4:ws.frozen? ⟨w0.heap.size,4,none⟩=false:=zE hzs jq;have z5:ws.cell? ⟨w0.heap.size,5,none⟩=some (.i 0):=za hzs;have y5:ws.frozen? ⟨w0.heap.size,5,none⟩=false:=zE hzs jq;have z6:ws.cell? ⟨w0.heap.size,6,none⟩=some (.int .u32 0):=za hzs;have y6:ws.frozen? ⟨w0.heap.size,6,none⟩=false:=zE hzs jq;have z7:ws.cell? ⟨w0.heap.size,7,none⟩=some (.i 0):=za hzs
       have y7:ws.frozen? ⟨w0.heap.size,7,none⟩=false:=zE hzs jq)
     |(go_at_call 41
       refine(hsp wh (hN0.below hBh')).mono ?_
       rintro e ws ⟨rfl,hNs,hCs⟩)
     |(go_at_call 41
       refine(hsp _ ((hN0.below hBh').below ((Below.refl _ wh).alloc (Nat.le_refl _) (.cells #[.i 0,.i 0,.i 0,.i 0,.i 0,.i 0,.int .u32 0,.i 0] 69)))).mono ?_;rintro e ws ⟨rfl,hNs,hCs⟩;have hne1:nb≠wh.heap.size:=by have:=hBh'.size;omega
       have hzs:ws.heap[wh.heap.size]? =some (.cells #[.i 0,.i 0,.i 0,.i 0,.i 0,.i 0,.int .u32 0,.i 0] 69 (0,0)):=(hCs.block _ jq (by have:=hBh'.size;omega)).trans (heap_alloc_new wh _);have z0:ws.cell? ⟨wh.heap.size,0,none⟩=some (.i 0):=za hzs;have y0:ws.frozen? ⟨wh.heap.size,0,none⟩=false:=zE hzs jq;have z1:ws.cell? ⟨wh.heap.size,1,none⟩=some (.i 0):=za hzs;have y1:ws.frozen? ⟨wh.heap.size,1,none⟩=false:=zE hzs jq;have z2:ws.cell? ⟨wh.heap.size,2,none⟩=some (.i 0):=za hzs;have y2:ws.frozen? ⟨wh.heap.size,2,none⟩=false:=zE hzs jq;have z3:ws.cell? ⟨wh.heap.size,3,none⟩=some (.i 0):=za hzs;have y3:ws.frozen? ⟨wh.heap.size,3,none⟩=false:=zE hzs jq
       have z4:ws.cell? ⟨wh.heap.size,4,none⟩=some (.i 0):=za hzs;have y4:ws.frozen? ⟨wh.heap.size,4,none⟩=false:=zE hzs jq;have z5:ws.cell? ⟨wh.heap.size,5,none⟩=some (.i 0):=za hzs;have y5:ws.frozen? ⟨wh.heap.size,5,none⟩=false:=zE hzs jq;have z6:ws.cell? ⟨wh.heap.size,6,none⟩=some (.int .u32 0):=za hzs;have y6:ws.frozen? ⟨wh.heap.size,6,none⟩=false:=zE hzs jq;have z7:ws.cell? ⟨wh.heap.size,7,none⟩=some (.i 0):=za hzs
       have y7:ws.frozen? ⟨wh.heap.size,7,none⟩=false:=zE hzs jq))
  all_goals
   go_wp2;go_meet
   case rel=>
    first
     |(have hg:=hne1;refine⟨wh.heap.size,rfl,zfj hzs,hne1,hBh'.size,zdX hNs hne1,zgV (((Chg.of hBh').alloc _).trans hCs) hBh'.size⟩;done)
     |(have hg:=hzs;refine⟨w0.heap.size,rfl,zfj hzs,hne0,Nat.le_refl _,zdX hNs hne0,zgV ((Chg.of hBh').trans hCs) (Nat.le_refl _)⟩;done)
     |(refine⟨ws.heap.size,rfl,heap_alloc_new ws _,?_,Nat.le_trans hBh'.size hCs.size,hNs.below ((Below.refl _ ws).alloc (Nat.le_refl _) _),((Chg.of hBh').trans hCs).alloc _⟩
       have:=hNs.lt
       omega)
 case rest=>
  obtain⟨ob,rfl,hob,hnl,hls,hNc,hCc⟩:=hcut;obtain⟨b0,hb0e⟩:∃x,x=w.heap.size:=⟨_,rfl⟩;have hb0le:w.heap.size<=b0:=Nat.le_of_eq hb0e.symm;have hnb0:nb≠b0:=zc;have hb0c:wc.heap[b0]? =some (.cells #[.i 0,.i 0,.i 0,.i 0,.i 0,.i 0,.int .u32 0,.i 0] 69 (0,0)):=by rw [hb0e];exact(hCc.block _ (zy hb0) zc).trans hb0
  have hcw:Chg nb w wc:=(Chg.of hA0).trans hCc;have hRc:zcO wc nb mb l ⟨s.sp,ts⟩:=hR.chg hm hNc hcw;have hal:=zBo nb mb l _ hm hl wc hRc;rw [<-hb0e];have hb0o:b0≠ob:=by have:=(zy hb0);omega
  have hobw:w.heap.size<=ob:=by have:=(zy hb0);omega
  clear hb0e hS hT hh hsp hA hNc hb0 hN0;go_wp2_with(go_at_call 49;refine hal.mono ?_;clear hal;rintro e wq ⟨rp,cap,rb,rfl,hrow,hrbs,hBq⟩)
  have hoq:wq.heap[ob]? =some (.cells (oC s (oS ⟨s,ts⟩ 0)) 69 (0,0)):=by
   rw [show oS ⟨s,ts⟩ 0=zBn s by simp [zDH],show oC s (zBn s)=zNX s from rfl];exact(hBq.block ob (zy hob)).trans hob
  have hzq:wq.heap[b0]? =some (.cells #[.i 0,.i 0,.i 0,.i 0,.i 0,.i 0,.int .u32 0,.i 0] 69 (0,0)):=(hBq.block b0 (zy hb0c)).trans hb0c;have hCq:Chg nb w wq:=hcw.trans (Chg.of hBq);have hNq:jc wq nb mb (s.k (oK ⟨s,ts⟩ 0)):=by
   rw [show oK ⟨s,ts⟩ 0=zw (spZ s) by simp [zpY]];exact hRc.nav.below hBq
  have hobl:ob<wc.heap.size:=(zy hob);have hnbl:nb<wc.heap.size:=hRc.nav.lt;have hb0l:b0<wq.heap.size:=(zy hzq);have hwq:wc.heap.size<=wq.heap.size:=hBq.size;clear hRc hob hb0c hcw hCc hBq;go_loopg [32] (l.length) (fun k v wr=>∃j:Nat,j+k=l.length/\v= .i j/\wr.heap[ob]? =some (.cells (oC s (oS ⟨s,ts⟩ j)) 69 (0,0))/\jc wr nb mb (s.k (oK ⟨s,ts⟩ j))/\jj (fun k=>k=nb\/k=ob) wq wr)
  case atStart=>exact⟨0,zc,rfl,hoq,hNq,jj.of (Below.refl _ _)⟩
  case round=>
   clear hoq hNq;obtain⟨j,hj,rfl,hor,hNr,hK⟩:=hrel;have hCr:Chg nb w wr:=⟨hK.os.trans hCq.os,hK.tape.trans hCq.tape,hK.output.trans hCq.output,Nat.le_trans hCq.size hK.size,fun k hk hn=>(hK.block k (Nat.lt_of_lt_of_le hk hCq.size) zc).trans (hCq.block k hk hn)⟩;have hRr:zcO wr nb mb l ⟨s.k (oK ⟨s,ts⟩ j),ts⟩:=hR.chg hm hNr hCr;by_cases hlt:j<l.length
   ·obtain⟨⟨sr,b⟩,hlj⟩:∃x,l[j]? =some x:=⟨_,List.getElem?_eq_getElem hlt⟩
    obtain⟨t,htj,hts,hb⟩:=hRr.trk.blk j sr b hlj;replace htj:ts[j]? =some t:=htj;obtain⟨rfl,hcq⟩:=hrow j sr b hlj;have hrl:rb<wq.heap.size:=World.block_lt_of_cell? wq _ hcq;have hcr:wr.cell? ⟨rb,j,none⟩=some (ptB b):=(World.cell?_of_block (a:=⟨rb,j,none⟩) (hK.block rb hrl zc)).trans hcq;have hto:=hp t (List.mem_of_getElem? htj);have hci:=hto.cI;have hbn:b≠nb:=hR.trk.ne (sr,b) (List.mem_of_getElem? hlj);have hblw:b<w.heap.size:=by
     obtain⟨t',h1,h2,h3⟩:=hR.trk.blk j sr b hlj;exact(zy h3)
    have hvs:=fun w=>zHP hci.x hci.y hci.z hto.wt.1 hto.wt.2 w
    have hwn:wrap .i64 (-t.wt)= -t.wt:=zH (by have:=hto.wt;unfold zr;omega);go_wp2;have hS2:∀w',Below wr.heap.size wr w'->w'.cell? ⟨b,7,none⟩=some (.i t.c.x)/\w'.cell? ⟨b,8,none⟩=some (.i t.c.y)/\w'.cell? ⟨b,9,none⟩=some (.i t.c.z)/\w'.cell? ⟨b,2,none⟩=some (.i t.wt):=fun w' hB=>⟨(hB.cell (p:=⟨b,_,none⟩) (zy hb)).trans (za hb),(hB.cell (p:=⟨b,_,none⟩) (zy hb)).trans (za hb),(hB.cell (p:=⟨b,_,none⟩) (zy hb)).trans (za hb),(hB.cell (p:=⟨b,_,none⟩) (zy hb)).trans (za hb)⟩
    have hd2:Below wr.heap.size wr wr.drew:=⟨rfl,rfl,rfl,Nat.le_refl _,fun _ _=>rfl⟩;have hA2:∀o,Below wr.heap.size wr (wr.alloc o).drew:=fun o=>hd2.alloc (Nat.le_refl _) o
    have hc2:=fun W (hW:Below wr.heap.size wr W)=>(hvs W).mono fun e w' (h:_/\_)=>(⟨h.1,hW.trans (h.2.mono hW.size),h.2⟩:_/\Below wr.heap.size wr w'/\Below W.heap.size W w')
    go_cut [6,7] (fun va vb w'=>∃l,va= .pointer (some ⟨l,0,none⟩)/\vb= .bool (false)/\w'.heap[l]? =some (.cells (v3z (shT t)) 24 (0,0))/\wr.heap.size<=l/\Below wr.heap.size wr w')
    case first=>
     go_region_held3(fun w'=>w'.cell? ⟨b,7,none⟩=some (.i t.c.x)/\w'.cell? ⟨b,8,none⟩=some (.i t.c.y)/\w'.cell? ⟨b,9,none⟩=some (.i t.c.z)/\w'.cell? ⟨b,2,none⟩=some (.i t.wt))
      (first|(with_reducible exact hS2 _ hd2)|(with_reducible exact hS2 _ hBz')|(with_reducible exact hS2 _ (hA2 _))|(with_reducible exact hS2 _ (hBz'.alloc hBz'.size _))|(with_reducible exact hS2 _ (zay hBz' (Nat.le_refl _))))
      (first
        |(go_at_call 50
          refine(hc2 _ (by with_reducible exact hd2)).mono ?_
          rintro e wz ⟨rfl,hBz',hBz⟩)
        |(go_at_call 50
          refine(hc2 _ (by with_reducible exact hA2 _)).mono ?_;rintro e wz ⟨rfl,hBz',hBz⟩;have hz:wz.heap[wr.heap.size]? =_:=(hBz.block _ jq).trans (heap_alloc_new wr _);have z0:wz.cell? ⟨wr.heap.size,0,none⟩=some (.i 0):=za hz;have y0:wz.frozen? ⟨wr.heap.size,0,none⟩=false:=zE hz jq;have z1:wz.cell? ⟨wr.heap.size,1,none⟩=some (.i 0):=za hz;have y1:wz.frozen? ⟨wr.heap.size,1,none⟩=false:=zE hz jq;have z2:wz.cell? ⟨wr.heap.size,2,none⟩=some (.i 0):=za hz
          have y2:wz.frozen? ⟨wr.heap.size,2,none⟩=false:=zE hz jq))
     ·go_wp2
      go_meet
      case rel=>exact⟨wz.heap.size,rfl,rfl,heap_alloc_new wz _,hBz'.size,hBz'.alloc hBz'.size _⟩
     ·go_wp2
      go_meet
      case rel=>exact⟨wr.heap.size,rfl,rfl,zbi hz,Nat.le_refl _,zay hBz' (Nat.le_refl _)⟩
    case rest=>
     obtain⟨cb,rfl,rfl,hcb,hcl,hBc⟩:=hcut;have hbc:wc.heap[b]? =some (.cells (zcC t) 85 (0,0)):=(hBc.block b (zy hb)).trans hb;have hoc:wc.heap[ob]? =some (.cells (oC s (oS ⟨s,ts⟩ j)) 69 (0,0)):=(hBc.block ob (zy hor)).trans hor;have hNc:jc wc nb mb (s.k (oK ⟨s,ts⟩ j)):=hNr.below hBc;have ck:wc.cell? ⟨b,1,none⟩=some (.i t.kd):=za hbc;have hoo:(oS ⟨s,ts⟩ j).ok:=zPm (zPn hs) fun u hu=>(hp u (List.mem_of_mem_take hu)).cI
     have hsh:=zVU hci;have hobr:ob<wr.heap.size:=(zy hor);have hsz:=hK.size;have hocb:ob≠cb:=zc;have hnc:nb≠cb:=by have:=hNr.lt;omega
     have hcl2:wq.heap.size<=cb:=by have:=hK.size;omega
     clear hS2 hd2 hA2 hc2 hvs hwn hrow hcq hcr hlj hor hb hbc;have h4:t.kd=2\/t.kd=3\/t.kd=4\/t.kd=5:=by have:=hto.kd;omega
     rcases h4 with hk|hk|hk|hk
     ·have hva:=fun w=>zrz hoo.p.x hoo.p.y hoo.p.z (a3:=0) (a4:=0) (by unfold zr;omega) (by unfold zr;omega) hsh.x w
      rw [Int.add_zero,Int.add_zero,zLj hoo.p.x,zLj hoo.p.y,zLk hoo.p.x,zLk hoo.p.y,Bool.false_or,Bool.false_or]at hva;rw [hk]at ck;have q0:wc.cell? ⟨cb,0,none⟩=some (.i (shT t).x):=za hcb;have q1:wc.cell? ⟨cb,1,none⟩=some (.i (shT t).y):=za hcb;have q2:wc.cell? ⟨cb,2,none⟩=some (.i (shT t).z):=za hcb;have q3:wc.cell? ⟨ob,0,none⟩=some (.i (oS ⟨s,ts⟩ j).p.x):=za hoc;have q4:wc.cell? ⟨ob,1,none⟩=some (.i (oS ⟨s,ts⟩ j).p.y):=za hoc;have q5:wc.cell? ⟨ob,2,none⟩=some (.i (oS ⟨s,ts⟩ j).p.z):=za hoc;have r0:wc.frozen? ⟨cb,0,none⟩=false:=zE hcb jq;have r1:wc.frozen? ⟨cb,1,none⟩=false:=zE hcb jq;have r2:wc.frozen? ⟨cb,2,none⟩=false:=zE hcb jq
      have hm2:=fun W (n:Nat) (hn:W.heap.size=n) (hW:jc W nb mb (s.k (oK ⟨s,ts⟩ j)))=>hn▸zgU [zw ((oS ⟨s,ts⟩ j).p.z+(shT t).x)] jq W.heap.size 1 nb mb _ (W.alloc (.cells #[.bool (zw ((oS ⟨s,ts⟩ j).p.z+(shT t).x))] 4)) zEm (hW.below ((Below.refl _ W).alloc (Nat.le_refl _) _))
      go_wp2_with(first
       |(go_at_call 51
         refine(hva _).mono ?_;rintro e wf ⟨rfl,hBf⟩;have hof:wf.heap[ob]? =some (.cells (oC s (oS ⟨s,ts⟩ j)) 69 (0,0)):=(hBf.block ob (zy (zt (zt (zt hoc hocb) hocb) hocb))).trans (zt (zt (zt hoc hocb) hocb) hocb);have ff0:wf.frozen? ⟨ob,0,none⟩=false:=zE hof jq;have fc0:wf.cell? ⟨ob,0,none⟩=some (.i (oS ⟨s,ts⟩ j).p.x):=za hof;have ff1:wf.frozen? ⟨ob,1,none⟩=false:=zE hof jq;have fc1:wf.cell? ⟨ob,1,none⟩=some (.i (oS ⟨s,ts⟩ j).p.y):=za hof;have ff2:wf.frozen? ⟨ob,2,none⟩=false:=zE hof jq
         have fc2:wf.cell? ⟨ob,2,none⟩=some (.i (oS ⟨s,ts⟩ j).p.z):=za hof)
       |(go_at_call 53
         refine(hm2 _ _ jq (((((((hNc.setNe hnc).setNe hnc).setNe hnc).below hBf).setNe hnl).setNe hnl).setNe hnl)).mono ?_
         rintro e wm ⟨rfl,hNm,hCm⟩))
      have eS:oS ⟨s,ts⟩ (j+1)={oS ⟨s,ts⟩ j with p:=⟨(oS ⟨s,ts⟩ j).p.x,(oS ⟨s,ts⟩ j).p.y,zh ((oS ⟨s,ts⟩ j).p.z+(shT t).x)⟩}:=by
       unfold oS;rw [zbI htj,zpZ];unfold zkK;rw [if_pos hk]
      have eK:zla (oS ⟨s,ts⟩ j) t=(zw ((oS ⟨s,ts⟩ j).p.z+(shT t).x)):=by unfold zla;rw [if_pos hk]
      have hoW:(((wf.setCell ⟨ob,0,none⟩ (.i (oS ⟨s,ts⟩ j).p.x)).setCell ⟨ob,1,none⟩ (.i (oS ⟨s,ts⟩ j).p.y)).setCell ⟨ob,2,none⟩ (.i (zh ((oS ⟨s,ts⟩ j).p.z+(shT t).x)))).heap[ob]? =some (.cells (oC s (oS ⟨s,ts⟩ (j+1))) 69 (0,0)):=by
       rw [eS];simpa [zwl]using(zf (o:=2) (v:=(.i (zh ((oS ⟨s,ts⟩ j).p.z+(shT t).x)))) (zf (o:=1) (v:=(.i (oS ⟨s,ts⟩ j).p.y)) (zf (o:=0) (v:=(.i (oS ⟨s,ts⟩ j).p.x)) hof)))
      have hKW:jj (fun k=>k=nb\/k=ob) wq (((wf.setCell ⟨ob,0,none⟩ (.i (oS ⟨s,ts⟩ j).p.x)).setCell ⟨ob,1,none⟩ (.i (oS ⟨s,ts⟩ j).p.y)).setCell ⟨ob,2,none⟩ (.i (zh ((oS ⟨s,ts⟩ j).p.z+(shT t).x)))):=((((jj.set (jj.set (jj.set (hK.trans (jj.of hBc)) (.inr hcl2)) (.inr hcl2)) (.inr hcl2)).trans (jj.of hBf)).set (.inl (.inr rfl))).set (.inl (.inr rfl))).set (.inl (.inr rfl));generalize(((wf.setCell ⟨ob,0,none⟩ (.i (oS ⟨s,ts⟩ j).p.x)).setCell ⟨ob,1,none⟩ (.i (oS ⟨s,ts⟩ j).p.y)).setCell ⟨ob,2,none⟩ (.i (zh ((oS ⟨s,ts⟩ j).p.z+(shT t).x))))=W at*
      go_roundg(gk-1)
      case measure=>omega
      case rel=>
       refine⟨j+1,zc,jq,?_,?_,?_⟩
       ·exact(hCm.block ob (by have:=(zy hoW);simp;omega) zc).trans ((heap_alloc_old _ _ (zy hoW)).trans hoW)
       ·have e2:oK ⟨s,ts⟩ (j+1)=(oK ⟨s,ts⟩ j||zla (oS ⟨s,ts⟩ j) t):=by
         unfold oK;rw [zbI htj,zjg,Bool.or_assoc]
        rw [e2,eK];simpa [NS.k,Bool.or_assoc]using hNm
       ·exact hKW.trans ((jj.of ((Below.refl _ W).alloc (Nat.le_refl _) _)).trans (jj.chg hCm (.inl rfl)))
     ·have hwr:wrap .u32 ((oS ⟨s,ts⟩ j).hd+wrap .u32 (shT t).x)=((oS ⟨s,ts⟩ j).hd+(shT t).x)%4294967296:=by simp [wrap,IntKind.signed,IntKind.bits]
      rw [hk]at ck;have q0:wc.cell? ⟨ob,6,none⟩=some (.int .u32 (oS ⟨s,ts⟩ j).hd):=za hoc;have q1:wc.cell? ⟨cb,0,none⟩=some (.i (shT t).x):=za hcb;have r0:wc.frozen? ⟨ob,6,none⟩=false:=zE hoc jq;have hm2:=fun W (n:Nat) (hn:W.heap.size=n) (hW:jc W nb mb (s.k (oK ⟨s,ts⟩ j)))=>hn▸zgU [false] jq W.heap.size 1 nb mb _ (W.alloc (.cells #[.bool (false)] 4)) zEm (hW.below ((Below.refl _ W).alloc (Nat.le_refl _) _))
      go_wp2_with(first
       |(go_at_call 53
         refine(hm2 _ _ jq (hNc.setNe hnl)).mono ?_
         rintro e wm ⟨rfl,hNm,hCm⟩))
      have eS:oS ⟨s,ts⟩ (j+1)={oS ⟨s,ts⟩ j with hd:=((oS ⟨s,ts⟩ j).hd+(shT t).x)%4294967296}:=by
       unfold oS;rw [zbI htj,zpZ];unfold zkK;rw [if_neg zc,if_pos hk]
      have eK:zla (oS ⟨s,ts⟩ j) t=false:=by unfold zla;rw [if_neg zc,if_pos hk]
      have hoW:(wc.setCell ⟨ob,6,none⟩ (.int .u32 (((oS ⟨s,ts⟩ j).hd+(shT t).x)%4294967296))).heap[ob]? =some (.cells (oC s (oS ⟨s,ts⟩ (j+1))) 69 (0,0)):=by
       rw [eS];simpa [zwl]using(zf (o:=6) (v:=(.int .u32 (((oS ⟨s,ts⟩ j).hd+(shT t).x)%4294967296))) hoc)
      have hKW:jj (fun k=>k=nb\/k=ob) wq (wc.setCell ⟨ob,6,none⟩ (.int .u32 (((oS ⟨s,ts⟩ j).hd+(shT t).x)%4294967296))):=(hK.trans (jj.of hBc)).set (.inl (.inr rfl));generalize(wc.setCell ⟨ob,6,none⟩ (.int .u32 (((oS ⟨s,ts⟩ j).hd+(shT t).x)%4294967296)))=W at*
      go_roundg(gk-1)
      case measure=>omega
      case rel=>
       refine⟨j+1,zc,jq,?_,?_,?_⟩
       ·exact(hCm.block ob (by have:=(zy hoW);simp;omega) zc).trans ((heap_alloc_old _ _ (zy hoW)).trans hoW)
       ·have e2:oK ⟨s,ts⟩ (j+1)=(oK ⟨s,ts⟩ j||zla (oS ⟨s,ts⟩ j) t):=by
         unfold oK;rw [zbI htj,zjg,Bool.or_assoc]
        rw [e2,eK];simpa [NS.k,Bool.or_assoc]using hNm
       ·exact hKW.trans ((jj.of ((Below.refl _ W).alloc (Nat.le_refl _) _)).trans (jj.chg hCm (.inl rfl)))
     ·have hfa:=fun w=>zOe hoo.sp hsh.x w
      rw [hk]at ck;have q0:wc.cell? ⟨ob,7,none⟩=some (.i (oS ⟨s,ts⟩ j).sp):=za hoc;have q1:wc.cell? ⟨cb,0,none⟩=some (.i (shT t).x):=za hcb;have hm2:=fun W (n:Nat) (hn:W.heap.size=n) (hW:jc W nb mb (s.k (oK ⟨s,ts⟩ j)))=>hn▸zgU [zw ((oS ⟨s,ts⟩ j).sp+(shT t).x)] jq W.heap.size 1 nb mb _ (W.alloc (.cells #[.bool (zw ((oS ⟨s,ts⟩ j).sp+(shT t).x))] 4)) zEm (hW.below ((Below.refl _ W).alloc (Nat.le_refl _) _))
      go_wp2_with(first
       |(go_at_call 52
         refine(hfa _).mono ?_;rintro e wf ⟨rfl,hBf⟩;have hof:wf.heap[ob]? =some (.cells (oC s (oS ⟨s,ts⟩ j)) 69 (0,0)):=(hBf.block ob (zy hoc)).trans hoc;have ff:wf.frozen? ⟨ob,7,none⟩=false:=zE hof jq
         have fc:wf.cell? ⟨ob,7,none⟩=some (.i (oS ⟨s,ts⟩ j).sp):=za hof)
       |(go_at_call 53
         refine(hm2 _ _ jq ((hNc.below hBf).setNe hnl)).mono ?_
         rintro e wm ⟨rfl,hNm,hCm⟩))
      have eS:oS ⟨s,ts⟩ (j+1)={oS ⟨s,ts⟩ j with sp:=zh ((oS ⟨s,ts⟩ j).sp+(shT t).x)}:=by
       unfold oS;rw [zbI htj,zpZ];unfold zkK;rw [if_neg zc,if_neg zc,if_pos hk]
      have eK:zla (oS ⟨s,ts⟩ j) t=(zw ((oS ⟨s,ts⟩ j).sp+(shT t).x)):=by unfold zla;rw [if_neg zc,if_neg zc,if_pos hk]
      have hoW:(wf.setCell ⟨ob,7,none⟩ (.i (zh ((oS ⟨s,ts⟩ j).sp+(shT t).x)))).heap[ob]? =some (.cells (oC s (oS ⟨s,ts⟩ (j+1))) 69 (0,0)):=by
       rw [eS];simpa [zwl]using(zf (o:=7) (v:=(.i (zh ((oS ⟨s,ts⟩ j).sp+(shT t).x)))) hof)
      have hKW:jj (fun k=>k=nb\/k=ob) wq (wf.setCell ⟨ob,7,none⟩ (.i (zh ((oS ⟨s,ts⟩ j).sp+(shT t).x)))):=((hK.trans (jj.of hBc)).trans (jj.of hBf)).set (.inl (.inr rfl));generalize(wf.setCell ⟨ob,7,none⟩ (.i (zh ((oS ⟨s,ts⟩ j).sp+(shT t).x))))=W at*
      go_roundg(gk-1)
      case measure=>omega
      case rel=>
       refine⟨j+1,zc,jq,?_,?_,?_⟩
       ·exact(hCm.block ob (by have:=(zy hoW);simp;omega) zc).trans ((heap_alloc_old _ _ (zy hoW)).trans hoW)
       ·have e2:oK ⟨s,ts⟩ (j+1)=(oK ⟨s,ts⟩ j||zla (oS ⟨s,ts⟩ j) t):=by
         unfold oK;rw [zbI htj,zjg,Bool.or_assoc]
        rw [e2,eK];simpa [NS.k,Bool.or_assoc]using hNm
       ·exact hKW.trans ((jj.of ((Below.refl _ W).alloc (Nat.le_refl _) _)).trans (jj.chg hCm (.inl rfl)))
     ·have hva:=fun w=>zrz hoo.p.x hoo.p.y hoo.p.z hsh.x hsh.y hsh.z w
      rw [hk]at ck;have q0:wc.cell? ⟨ob,0,none⟩=some (.i (oS ⟨s,ts⟩ j).p.x):=za hoc;have q1:wc.cell? ⟨ob,1,none⟩=some (.i (oS ⟨s,ts⟩ j).p.y):=za hoc;have q2:wc.cell? ⟨ob,2,none⟩=some (.i (oS ⟨s,ts⟩ j).p.z):=za hoc;have q3:wc.cell? ⟨cb,0,none⟩=some (.i (shT t).x):=za hcb;have q4:wc.cell? ⟨cb,1,none⟩=some (.i (shT t).y):=za hcb;have q5:wc.cell? ⟨cb,2,none⟩=some (.i (shT t).z):=za hcb;have hm2:=fun W (n:Nat) (hn:W.heap.size=n) (hW:jc W nb mb (s.k (oK ⟨s,ts⟩ j)))=>hn▸zgU [zeg (oS ⟨s,ts⟩ j).p (shT t)] jq W.heap.size 1 nb mb _ (W.alloc (.cells #[.bool (zeg (oS ⟨s,ts⟩ j).p (shT t))] 4)) zEm (hW.below ((Below.refl _ W).alloc (Nat.le_refl _) _))
      go_wp2_with(first
       |(go_at_call 51
         refine(hva _).mono ?_;rintro e wf ⟨rfl,hBf⟩;have hof:wf.heap[ob]? =some (.cells (oC s (oS ⟨s,ts⟩ j)) 69 (0,0)):=(hBf.block ob (zy hoc)).trans hoc;have ff0:wf.frozen? ⟨ob,0,none⟩=false:=zE hof jq;have fc0:wf.cell? ⟨ob,0,none⟩=some (.i (oS ⟨s,ts⟩ j).p.x):=za hof;have ff1:wf.frozen? ⟨ob,1,none⟩=false:=zE hof jq;have fc1:wf.cell? ⟨ob,1,none⟩=some (.i (oS ⟨s,ts⟩ j).p.y):=za hof;have ff2:wf.frozen? ⟨ob,2,none⟩=false:=zE hof jq
         have fc2:wf.cell? ⟨ob,2,none⟩=some (.i (oS ⟨s,ts⟩ j).p.z):=za hof)
       |(go_at_call 53
         refine(hm2 _ _ jq ((((hNc.below hBf).setNe hnl).setNe hnl).setNe hnl)).mono ?_
         rintro e wm ⟨rfl,hNm,hCm⟩))
      have eS:oS ⟨s,ts⟩ (j+1)={oS ⟨s,ts⟩ j with p:=zwl (oS ⟨s,ts⟩ j).p (shT t)}:=by
       unfold oS;rw [zbI htj,zpZ];unfold zkK;rw [if_neg zc,if_neg zc,if_neg zc]
      have eK:zla (oS ⟨s,ts⟩ j) t=(zeg (oS ⟨s,ts⟩ j).p (shT t)):=by unfold zla;rw [if_neg zc,if_neg zc,if_neg zc]
      have hoW:(((wf.setCell ⟨ob,0,none⟩ (.i (zh ((oS ⟨s,ts⟩ j).p.x+(shT t).x)))).setCell ⟨ob,1,none⟩ (.i (zh ((oS ⟨s,ts⟩ j).p.y+(shT t).y)))).setCell ⟨ob,2,none⟩ (.i (zh ((oS ⟨s,ts⟩ j).p.z+(shT t).z)))).heap[ob]? =some (.cells (oC s (oS ⟨s,ts⟩ (j+1))) 69 (0,0)):=by
       rw [eS];simpa [zwl]using(zf (o:=2) (v:=(.i (zh ((oS ⟨s,ts⟩ j).p.z+(shT t).z)))) (zf (o:=1) (v:=(.i (zh ((oS ⟨s,ts⟩ j).p.y+(shT t).y)))) (zf (o:=0) (v:=(.i (zh ((oS ⟨s,ts⟩ j).p.x+(shT t).x)))) hof)))
      have hKW:jj (fun k=>k=nb\/k=ob) wq (((wf.setCell ⟨ob,0,none⟩ (.i (zh ((oS ⟨s,ts⟩ j).p.x+(shT t).x)))).setCell ⟨ob,1,none⟩ (.i (zh ((oS ⟨s,ts⟩ j).p.y+(shT t).y)))).setCell ⟨ob,2,none⟩ (.i (zh ((oS ⟨s,ts⟩ j).p.z+(shT t).z)))):=((((hK.trans (jj.of hBc)).trans (jj.of hBf)).set (.inl (.inr rfl))).set (.inl (.inr rfl))).set (.inl (.inr rfl));generalize(((wf.setCell ⟨ob,0,none⟩ (.i (zh ((oS ⟨s,ts⟩ j).p.x+(shT t).x)))).setCell ⟨ob,1,none⟩ (.i (zh ((oS ⟨s,ts⟩ j).p.y+(shT t).y)))).setCell ⟨ob,2,none⟩ (.i (zh ((oS ⟨s,ts⟩ j).p.z+(shT t).z))))=W at*
      go_roundg(gk-1)
      case measure=>omega
      case rel=>
       refine⟨j+1,zc,jq,?_,?_,?_⟩
       ·exact(hCm.block ob (by have:=(zy hoW);simp;omega) zc).trans ((heap_alloc_old _ _ (zy hoW)).trans hoW)
       ·have e2:oK ⟨s,ts⟩ (j+1)=(oK ⟨s,ts⟩ j||zla (oS ⟨s,ts⟩ j) t):=by
         unfold oK;rw [zbI htj,zjg,Bool.or_assoc]
        rw [e2,eK];simpa [NS.k,Bool.or_assoc]using hNm
       ·exact hKW.trans ((jj.of ((Below.refl _ W).alloc (Nat.le_refl _) _)).trans (jj.chg hCm (.inl rfl)))
   ·have hj8:j=l.length:=zc
    have hgk:(j:Int)=l.length:=zc;subst hj8;have hlen:l.length=ts.length:=hR.trk.len;rw [show oS ⟨s,ts⟩ l.length=(zct ⟨s,ts⟩).1 by unfold oS zct;rw [hlen,List.take_length]]at hor
    rw [show oK ⟨s,ts⟩ l.length=(zw (spZ s)||zpY (zBn s) ts) by unfold oK;rw [hlen,List.take_length]]at hNr
    have hz0:wr.heap[b0]? =some (.cells #[.i 0,.i 0,.i 0,.i 0,.i 0,.i 0,.int .u32 0,.i 0] 69 (0,0)):=(hK.block b0 hb0l zc).trans hzq;have c0:wr.cell? ⟨ob,0,none⟩=some (.i (zct ⟨s,ts⟩).1.p.x):=za hor;have z0:wr.cell? ⟨b0,0,none⟩=some (.i 0):=za hz0;have y0:wr.frozen? ⟨b0,0,none⟩=false:=zE hz0 jq;have c1:wr.cell? ⟨ob,1,none⟩=some (.i (zct ⟨s,ts⟩).1.p.y):=za hor;have z1:wr.cell? ⟨b0,1,none⟩=some (.i 0):=za hz0;have y1:wr.frozen? ⟨b0,1,none⟩=false:=zE hz0 jq;have c2:wr.cell? ⟨ob,2,none⟩=some (.i (zct ⟨s,ts⟩).1.p.z):=za hor;have z2:wr.cell? ⟨b0,2,none⟩=some (.i 0):=za hz0;have y2:wr.frozen? ⟨b0,2,none⟩=false:=zE hz0 jq
    have c3:wr.cell? ⟨ob,3,none⟩=some (.i s.v0):=za hor;have z3:wr.cell? ⟨b0,3,none⟩=some (.i 0):=za hz0;have y3:wr.frozen? ⟨b0,3,none⟩=false:=zE hz0 jq;have c4:wr.cell? ⟨ob,4,none⟩=some (.i s.v1):=za hor;have z4:wr.cell? ⟨b0,4,none⟩=some (.i 0):=za hz0;have y4:wr.frozen? ⟨b0,4,none⟩=false:=zE hz0 jq;have c5:wr.cell? ⟨ob,5,none⟩=some (.i s.v2):=za hor;have z5:wr.cell? ⟨b0,5,none⟩=some (.i 0):=za hz0;have y5:wr.frozen? ⟨b0,5,none⟩=false:=zE hz0 jq;have c6:wr.cell? ⟨ob,6,none⟩=some (.int .u32 (zct ⟨s,ts⟩).1.hd):=za hor;have z6:wr.cell? ⟨b0,6,none⟩=some (.int .u32 0):=za hz0;have y6:wr.frozen? ⟨b0,6,none⟩=false:=zE hz0 jq
    have c7:wr.cell? ⟨ob,7,none⟩=some (.i (zct ⟨s,ts⟩).1.sp):=za hor;have z7:wr.cell? ⟨b0,7,none⟩=some (.i 0):=za hz0;have y7:wr.frozen? ⟨b0,7,none⟩=false:=zE hz0 jq;have hz1:=hz0;clear hrow hgk hz0 hl8;go_wp2;have hfin:((((((((wr.setCell ⟨b0,0,none⟩ (.i (zct ⟨s,ts⟩).1.p.x)).setCell ⟨b0,1,none⟩ (.i (zct ⟨s,ts⟩).1.p.y)).setCell ⟨b0,2,none⟩ (.i (zct ⟨s,ts⟩).1.p.z)).setCell ⟨b0,3,none⟩ (.i s.v0)).setCell ⟨b0,4,none⟩ (.i s.v1)).setCell ⟨b0,5,none⟩ (.i s.v2)).setCell ⟨b0,6,none⟩ (.int .u32 (zct ⟨s,ts⟩).1.hd)).setCell ⟨b0,7,none⟩ (.i (zct ⟨s,ts⟩).1.sp)).heap[b0]? =some (.cells (oC s (zct ⟨s,ts⟩).1) 69 (0,0)):=zfj hz1
    have hnf:jc ((((((((wr.setCell ⟨b0,0,none⟩ (.i (zct ⟨s,ts⟩).1.p.x)).setCell ⟨b0,1,none⟩ (.i (zct ⟨s,ts⟩).1.p.y)).setCell ⟨b0,2,none⟩ (.i (zct ⟨s,ts⟩).1.p.z)).setCell ⟨b0,3,none⟩ (.i s.v0)).setCell ⟨b0,4,none⟩ (.i s.v1)).setCell ⟨b0,5,none⟩ (.i s.v2)).setCell ⟨b0,6,none⟩ (.int .u32 (zct ⟨s,ts⟩).1.hd)).setCell ⟨b0,7,none⟩ (.i (zct ⟨s,ts⟩).1.sp)) nb mb _:=zdX hNr hnb0;have hcf:Chg nb w ((((((((wr.setCell ⟨b0,0,none⟩ (.i (zct ⟨s,ts⟩).1.p.x)).setCell ⟨b0,1,none⟩ (.i (zct ⟨s,ts⟩).1.p.y)).setCell ⟨b0,2,none⟩ (.i (zct ⟨s,ts⟩).1.p.z)).setCell ⟨b0,3,none⟩ (.i s.v0)).setCell ⟨b0,4,none⟩ (.i s.v1)).setCell ⟨b0,5,none⟩ (.i s.v2)).setCell ⟨b0,6,none⟩ (.int .u32 (zct ⟨s,ts⟩).1.hd)).setCell ⟨b0,7,none⟩ (.i (zct ⟨s,ts⟩).1.sp)):=zgV hCr hb0le
    generalize((((((((wr.setCell ⟨b0,0,none⟩ (.i (zct ⟨s,ts⟩).1.p.x)).setCell ⟨b0,1,none⟩ (.i (zct ⟨s,ts⟩).1.p.y)).setCell ⟨b0,2,none⟩ (.i (zct ⟨s,ts⟩).1.p.z)).setCell ⟨b0,3,none⟩ (.i s.v0)).setCell ⟨b0,4,none⟩ (.i s.v1)).setCell ⟨b0,5,none⟩ (.i s.v2)).setCell ⟨b0,6,none⟩ (.int .u32 (zct ⟨s,ts⟩).1.hd)).setCell ⟨b0,7,none⟩ (.i (zct ⟨s,ts⟩).1.sp))=W at*
    try simp only [Exit.inBlock,Exit.then]
    refine bodyPost_ret (zim rfl _ _ b0 69 (oC s (zct ⟨s,ts⟩).1) (0,0) rfl hfin (zaZ kfz) kfz) rfl ?_;exact⟨rfl,hR.chg hm hnf hcf,hcf⟩
def ztQ(t:TK):Int:=t.limit/2^t.wt.toNat
def za8(ts:List TK):List Int:=ts.filterMap fun t=>if t.kd=2\/t.kd=5 then some (ztQ t)else none
def bTk(s:NS)(tk:Int):Int:=max tk s.start-s.start
def zHR(p:PS)(tk:Int):Int:=if p.s.start= -1 then 0 else zh (p.s.drift*bTk p.s tk+(za8 p.ts).sum)
theorem zTi{t:TK}(h:t.ok):0<=ztQ t/\ztQ t<=9223372036854775807:=by
 have hp:(0:Int)<2^t.wt.toNat:=Int.pow_pos zc;have h0:0<=t.limit:=h.rule.2.2.2.1;have h1:t.limit<=9223372036854775807:=by have:=h.lim.2;omega
 have h2:=Int.ediv_nonneg h0 (Int.le_of_lt hp);have h3:=Int.ediv_le_self (2^t.wt.toNat) h0;unfold ztQ;omega
theorem zPp{ts:List TK}(h:∀t∈ts,t.ok):∀z∈za8 ts,0<=z/\z<=9223372036854775807:=by
 intro z hz;obtain⟨t,ht,he⟩:=List.mem_filterMap.1 hz;split at he
 ·cases he;exact zTi (h t ht)
 ·cases he
theorem zTj:∀{zs:List Int},(∀z∈zs,0<=z)->0<=zs.sum
 |[],_=>by simp
 |a::r,h=>by
  have h1:=h a (List.mem_cons_self ..);have h2:=zTj fun z hz=>h z (List.mem_cons_of_mem a hz)
  rw [List.sum_cons];omega
theorem zTk{a b:Int}(h:0<=b):zh (min a 9223372036854775807+b)=zh (a+b):=by
 unfold zh;omega
theorem zeC(ts:List TK)(t:TK):za8 (ts++[t])=za8 ts++(if t.kd=2\/t.kd=5 then [ztQ t]else []):=by
 unfold za8;rw [List.filterMap_append];congr 1
 by_cases h:t.kd=2\/t.kd=5<;>simp [h]
theorem zxG(ts:List TK):(za8 ts).length<=ts.length:=List.length_filterMap_le ..
theorem zTl:(PP.info? 22).map (fun i=>(i.zero,i.size,i.bytes))=some (some (.i 0),1,8):=kfz
theorem zEt:PP.underlying 119=some (.slice 22):=kfz
theorem _root_.Go.World.ownsRow.blk{w:World}{base g n cap size:Nat}{e:TypeId}{xs:List Value}(h:w.ownsRow base e size (.slice (some ⟨g,0,none⟩) n cap) n xs):base<=g:=(h.lt g rfl).1
theorem zos{B:Nat}{w w' w'':World}{g:Nat}(h:Below B w w')(hg:w'.grownBy w'' (some g))(hB:B<=w'.heap.size)(hgB:B<=g):Below B w w'':=
 ⟨hg.os.trans h.os,hg.tape.trans h.tape,hg.output.trans h.output,Nat.le_trans h.size hg.size,fun k hk=>(hg.block k (Nat.lt_of_lt_of_le hk hB) (fun e=>by cases e;omega)).trans (h.block k hk)⟩
theorem zWW{d n:Int}(hd:0<=d)(hn:0<n):(Int.tdiv 9223372036854775807 n<d)↔9223372036854775807<d*n:=by
 rw [Int.tdiv_eq_ediv_of_nonneg zc];exact Int.ediv_lt_iff_lt_mul hn
theorem zLO(nb mb:Nat)(l:List (Int×Nat))(p:PS)(hm:mb≠nb)(hp:∀t∈p.ts,t.ok)(hl:Srt l)(hst:p.s.start= -1\/(0<=p.s.start/\p.s.start<=1099511627776))(hdr:0<=p.s.drift/\p.s.drift<=9223372036854775807)(tk:Int)(hk:zr tk)(w:World)(hR:zcO w nb mb l p):
 Calls PP 19 #[ptB nb,.i tk] w fun e w'=>e= .returned (.i (zHR p tk))/\Below w.heap.size w w':=by
 go_enter Proofs.Tryz.func19,Proofs.Tryz.ntmps19
 obtain⟨s,ts⟩:=p;replace hp:∀t∈ts,t.ok:=hp;replace hst:s.start= -1\/(0<=s.start/\s.start<=1099511627776):=hst;replace hdr:0<=s.drift/\s.drift<=9223372036854775807:=hdr;have hl8:=zPo hl;have hN:jc w nb mb s:=hR.nav;have hs:=zcY nb mb s w hN;have c21:w.cell? ⟨nb,21,none⟩=some (.i s.start):=za hN;unfold zHR;by_cases h0:s.start= -1
 ·rw [if_pos h0]
  rw [h0]at hs;clear hN;go_wp2_with(go_at_call 54;refine hs.mono ?_;clear hs;rintro e w' ⟨rfl,hw⟩;obtain rfl:=hw.symm)
  go_ret;exact⟨rfl,Below.refl _ _⟩
 ·rw [if_neg h0]
  have h0b:(s.start== -1)=false:=by simpa using h0
  rw [h0b]at hs;have hs1:=hst.resolve_left h0;obtain⟨i0,hi0,hz0,hz1,hz2⟩:=info_parts zTl;have hmx:=zoq tk s.start;have hwr:=zpX hk hs1.1 hs1.2;have htt:0<=bTk s tk/\bTk s tk<=9223372036854775807:=by unfold bTk;unfold zr at hk;omega
  replace hwr:wrap .i64 (max tk s.start-s.start)=bTk s tk:=hwr;have c9:w.cell? ⟨nb,9,none⟩=some (.i s.drift):=za hN;have c9d:w.drew.cell? ⟨nb,9,none⟩=some (.i s.drift):=c9;have c21d:w.drew.cell? ⟨nb,21,none⟩=some (.i s.start):=c21;clear hN;go_wp2_with(go_at_call 54;refine hs.mono ?_;clear hs;rintro e w' ⟨rfl,hw⟩;obtain rfl:=hw.symm)
  go_region_held3(fun w'=>w'.cell? ⟨nb,21,none⟩=some (.i s.start)) (first|(with_reducible exact c21d)) (fail)
  clear hmx hwr;obtain⟨tt,htd⟩:∃x,x=bTk s tk:=⟨_,rfl⟩;rw [<-htd]at htt⊢;have hclip:∀b,0<=b->zh (min (s.drift*tt) 9223372036854775807+b)=zh (s.drift*bTk s tk+b):=fun b hb=>by rw [htd];exact zTk hb
  clear htd;go_wp2;have hA0:Below w.heap.size w (w.alloc (.cells #[.i (wrap64 (s.drift*tt))] 22)):=(Below.refl _ w).alloc (Nat.le_refl _) _;have hg0:(w.alloc (.cells #[.i (wrap64 (s.drift*tt))] 22)).drew.heap[w.heap.size]? =some (.cells #[.i (wrap64 (s.drift*tt))] 22 (0,0)):=heap_alloc_new w _;replace hA0:Below w.heap.size w (w.alloc (.cells #[.i (wrap64 (s.drift*tt))] 22)).drew:=⟨hA0.os,hA0.tape,hA0.output,hA0.size,hA0.block⟩;have c9d:(w.alloc (.cells #[.i (wrap64 (s.drift*tt))] 22)).drew.cell? ⟨nb,9,none⟩=some (.i s.drift):=(hA0.cell (p:=⟨nb,_,none⟩) hR.nav.lt).trans c9;generalize(w.alloc (.cells #[.i (wrap64 (s.drift*tt))] 22)).drew=wd at*
  go_cut [42] (fun v w'=>v= .bool (decide (9223372036854775807<s.drift*tt))/\w'=wd.drew)
  case first=>
   by_cases ht0:tt=0
   ·have e0:decide (9223372036854775807<s.drift*tt)=false:=by rw [ht0,Int.mul_zero];rfl
    have e1:Value.bool (decide (tt>0))= .bool false:=by rw [ht0];rfl
    have e1':Value.bool (decide (0<tt))= .bool false:=by rw [ht0];rfl
    have hnn: ¬0<tt:=zc;clear ht0;refine wp_region_held_drew (S:=fun w'=>w'.cell? ⟨nb,9,none⟩=some (.i s.drift)) kfz c9d (fun hHeld=> ?_);refine zag (i:=0) (oi:=⟨some 32,.move (.tmp 5),22,"nav.go:285",#[],none⟩) ?_;try simp only [Act.put,sLz]
    refine zag (i:=1) (oi:=⟨some 33,.binOp .gtr 22 (.tmp 32) (.const (.i 0)) 22,4,"nav.go:285",#[⟨0,.data⟩],none⟩) ?_;try simp only [Act.put,sLz]
    refine zag (i:=2) (oi:=⟨some 34,.move (.tmp 33),4,"nav.go:285",#[⟨1,.data⟩],none⟩) ?_;try simp only [Act.put,sLz]
    refine zaG (i:=3) (oi:=⟨some 35,.move (.tmp 0),29,"nav.go:285",#[⟨2,.guard⟩],some (2,true)⟩) ?_;try simp only [Act.put,sLz]
    refine zaG (i:=4) (oi:=⟨some 36,.nilCheck (.tmp 35),0,"nav.go:285",#[⟨3,.data⟩,⟨2,.guard⟩],some (2,true)⟩) ?_;try simp only [Act.put,sLz]
    refine zaG (i:=5) (oi:=⟨some 37,.fieldAddr 62 (.tmp 36) 3,0,"nav.go:285",#[⟨4,.data⟩,⟨2,.guard⟩],some (2,true)⟩) ?_;try simp only [Act.put,sLz]
    refine zaG (i:=6) (oi:=⟨some 38,.load 22 (.tmp 37),22,"nav.go:285",#[⟨5,.data⟩,⟨2,.guard⟩],some (2,true)⟩) ?_;try simp only [Act.put,sLz]
    refine zaG (i:=7) (oi:=⟨some 39,.move (.tmp 5),22,"nav.go:285",#[⟨2,.guard⟩],some (2,true)⟩) ?_;try simp only [Act.put,sLz]
    refine zaG (i:=8) (oi:=⟨some 40,.binOp .quo 22 (.const (.i 9223372036854775807)) (.tmp 39) 22,22,"nav.go:285",#[⟨7,.data⟩,⟨2,.guard⟩],some (2,true)⟩) ?_;try simp only [Act.put,sLz]
    refine zaG (i:=9) (oi:=⟨some 41,.binOp .gtr 22 (.tmp 38) (.tmp 40) 22,4,"nav.go:285",#[⟨6,.data⟩,⟨8,.data⟩,⟨2,.guard⟩],some (2,true)⟩) ?_;try simp only [Act.put,sLz]
    refine zag (i:=10) (oi:=⟨some 42,.pick (.tmp 34) (.tmp 41) (.const (.bool false)),4,"nav.go:285",#[⟨2,.data⟩,⟨9,.data⟩],none⟩) ?_;try simp only [Act.put,sLz]
    refine wpAnyH_done kfz ?_ _;go_wp2;go_meet
    case rel=>exact⟨by rw [e0],rfl⟩
   ·have htp:0<tt:=zc
    have hq:=zWW hdr.1 htp;have e1:Value.bool (decide (tt>0))= .bool true:=by rw [decide_eq_true htp]
    have e1':Value.bool (decide (0<tt))= .bool true:=by rw [decide_eq_true htp]
    have hrg: -9223372036854775808<=Int.tdiv 9223372036854775807 tt/\Int.tdiv 9223372036854775807 tt<=9223372036854775807:=by
     rw [Int.tdiv_eq_ediv_of_nonneg zc];have h1:=Int.ediv_nonneg (a:=9223372036854775807) zc (Int.le_of_lt htp);have h2:=Int.ediv_le_self (a:=9223372036854775807) tt zc;omega
    have hqw:wrap .i64 (Int.tdiv 9223372036854775807 tt)=Int.tdiv 9223372036854775807 tt:=zH (by unfold zr;omega);by_cases hov:9223372036854775807<s.drift*tt
    ·have e0:decide (9223372036854775807<s.drift*tt)=true:=by simpa using hov
     have e2:Value.bool (decide (Int.tdiv 9223372036854775807 tt<s.drift))= .bool true:=by rw [decide_eq_true (hq.2 hov)]
     have hlq:=hq.2 hov;clear hq;refine wp_region_held_drew (S:=fun w'=>w'.cell? ⟨nb,9,none⟩=some (.i s.drift)) kfz c9d (fun hHeld=> ?_);refine zag (i:=0) (oi:=⟨some 32,.move (.tmp 5),22,"nav.go:285",#[],none⟩) ?_;try simp only [Act.put,sLz]
     refine zag (i:=1) (oi:=⟨some 33,.binOp .gtr 22 (.tmp 32) (.const (.i 0)) 22,4,"nav.go:285",#[⟨0,.data⟩],none⟩) ?_;try simp only [Act.put,sLz]
     refine zag (i:=2) (oi:=⟨some 34,.move (.tmp 33),4,"nav.go:285",#[⟨1,.data⟩],none⟩) ?_;try simp only [Act.put,sLz]
     refine zag (i:=3) (oi:=⟨some 35,.move (.tmp 0),29,"nav.go:285",#[⟨2,.guard⟩],some (2,true)⟩) ?_;try simp only [Act.put,sLz]
     refine zag (i:=4) (oi:=⟨some 36,.nilCheck (.tmp 35),0,"nav.go:285",#[⟨3,.data⟩,⟨2,.guard⟩],some (2,true)⟩) ?_;try simp only [Act.put,sLz]
     refine zag (i:=5) (oi:=⟨some 37,.fieldAddr 62 (.tmp 36) 3,0,"nav.go:285",#[⟨4,.data⟩,⟨2,.guard⟩],some (2,true)⟩) ?_;try simp only [Act.put,sLz]
     refine zag (i:=6) (oi:=⟨some 38,.load 22 (.tmp 37),22,"nav.go:285",#[⟨5,.data⟩,⟨2,.guard⟩],some (2,true)⟩) ?_;try simp only [Act.put,sLz]
     refine zag (i:=7) (oi:=⟨some 39,.move (.tmp 5),22,"nav.go:285",#[⟨2,.guard⟩],some (2,true)⟩) ?_;try simp only [Act.put,sLz]
     refine zag (i:=8) (oi:=⟨some 40,.binOp .quo 22 (.const (.i 9223372036854775807)) (.tmp 39) 22,22,"nav.go:285",#[⟨7,.data⟩,⟨2,.guard⟩],some (2,true)⟩) ?_;try simp only [Act.put,sLz]
     refine zag (i:=9) (oi:=⟨some 41,.binOp .gtr 22 (.tmp 38) (.tmp 40) 22,4,"nav.go:285",#[⟨6,.data⟩,⟨8,.data⟩,⟨2,.guard⟩],some (2,true)⟩) ?_;try simp only [Act.put,sLz]
     refine zag (i:=10) (oi:=⟨some 42,.pick (.tmp 34) (.tmp 41) (.const (.bool false)),4,"nav.go:285",#[⟨2,.data⟩,⟨9,.data⟩],none⟩) ?_;try simp only [Act.put,sLz]
     refine wpAnyH_done kfz ?_ _;go_wp2;go_meet
     case rel=>exact⟨by rw [e0],rfl⟩
    ·have e0:decide (9223372036854775807<s.drift*tt)=false:=by simpa using hov
     have hlq:=fun h=>hov (hq.1 h)
     have e2:Value.bool (decide (Int.tdiv 9223372036854775807 tt<s.drift))= .bool false:=by rw [decide_eq_false hlq]
     clear hq;refine wp_region_held_drew (S:=fun w'=>w'.cell? ⟨nb,9,none⟩=some (.i s.drift)) kfz c9d (fun hHeld=> ?_);refine zag (i:=0) (oi:=⟨some 32,.move (.tmp 5),22,"nav.go:285",#[],none⟩) ?_;try simp only [Act.put,sLz]
     refine zag (i:=1) (oi:=⟨some 33,.binOp .gtr 22 (.tmp 32) (.const (.i 0)) 22,4,"nav.go:285",#[⟨0,.data⟩],none⟩) ?_;try simp only [Act.put,sLz]
     refine zag (i:=2) (oi:=⟨some 34,.move (.tmp 33),4,"nav.go:285",#[⟨1,.data⟩],none⟩) ?_;try simp only [Act.put,sLz]
     refine zag (i:=3) (oi:=⟨some 35,.move (.tmp 0),29,"nav.go:285",#[⟨2,.guard⟩],some (2,true)⟩) ?_;try simp only [Act.put,sLz]
     refine zag (i:=4) (oi:=⟨some 36,.nilCheck (.tmp 35),0,"nav.go:285",#[⟨3,.data⟩,⟨2,.guard⟩],some (2,true)⟩) ?_;try simp only [Act.put,sLz]
     refine zag (i:=5) (oi:=⟨some 37,.fieldAddr 62 (.tmp 36) 3,0,"nav.go:285",#[⟨4,.data⟩,⟨2,.guard⟩],some (2,true)⟩) ?_;try simp only [Act.put,sLz]
     refine zag (i:=6) (oi:=⟨some 38,.load 22 (.tmp 37),22,"nav.go:285",#[⟨5,.data⟩,⟨2,.guard⟩],some (2,true)⟩) ?_;try simp only [Act.put,sLz]
     refine zag (i:=7) (oi:=⟨some 39,.move (.tmp 5),22,"nav.go:285",#[⟨2,.guard⟩],some (2,true)⟩) ?_;try simp only [Act.put,sLz]
     refine zag (i:=8) (oi:=⟨some 40,.binOp .quo 22 (.const (.i 9223372036854775807)) (.tmp 39) 22,22,"nav.go:285",#[⟨7,.data⟩,⟨2,.guard⟩],some (2,true)⟩) ?_;try simp only [Act.put,sLz]
     refine zag (i:=9) (oi:=⟨some 41,.binOp .gtr 22 (.tmp 38) (.tmp 40) 22,4,"nav.go:285",#[⟨6,.data⟩,⟨8,.data⟩,⟨2,.guard⟩],some (2,true)⟩) ?_;try simp only [Act.put,sLz]
     refine zag (i:=10) (oi:=⟨some 42,.pick (.tmp 34) (.tmp 41) (.const (.bool false)),4,"nav.go:285",#[⟨2,.data⟩,⟨9,.data⟩],none⟩) ?_;try simp only [Act.put,sLz]
     refine wpAnyH_done kfz ?_ _;go_wp2;go_meet
     case rel=>exact⟨by rw [e0],rfl⟩
  case rest=>
   obtain⟨rfl,rfl⟩:=hcut;have hA1:Below w.heap.size w wd.drew:=⟨hA0.os,hA0.tape,hA0.output,hA0.size,hA0.block⟩;have hg1:wd.drew.heap[w.heap.size]? =some (.cells #[.i (wrap64 (s.drift*tt))] 22 (0,0)):=hg0;clear hA0 hg0 c9d;generalize wd.drew=w1 at*
   have f0:w1.frozen? ⟨w.heap.size,0,none⟩=false:=zE hg1 jq;have k0:w1.cell? ⟨w.heap.size,0,none⟩=some (.i (wrap64 (s.drift*tt))):=za hg1;go_upto_if 42 with(fail)
   go_cut [] (fun w'=>w'.heap[w.heap.size]? =some (.cells #[.i (min (s.drift*tt) 9223372036854775807)] 22 (0,0))/\Below w.heap.size w w')
   case first=>
    by_cases hov:9223372036854775807<s.drift*tt
    ·have e0:decide (9223372036854775807<s.drift*tt)=true:=by simpa using hov
     rw [e0];go_wp2;go_meet
     case rel=>
      refine⟨?_,hA1.setCell (Nat.le_refl _) _⟩;rw [show min (s.drift*tt) 9223372036854775807=9223372036854775807 from zc];simpa using zf (o:=0) (v:=.i 9223372036854775807) hg1
    ·have e0:decide (9223372036854775807<s.drift*tt)=false:=by simpa using hov
     rw [e0];go_wp2;go_meet
     case rel=>
      refine⟨?_,hA1⟩;have h1:=Int.mul_nonneg hdr.1 htt.1;rw [show min (s.drift*tt) 9223372036854775807=s.drift*tt from zc];rw [show wrap64 (s.drift*tt)=s.drift*tt by first|exact zH (by unfold zr;omega)|(unfold wrap64;omega)]at hg1;exact hg1
   case rest=>
    obtain⟨hg,hB⟩:=hcut;clear hg1 hA1 f0 k0;have hRc:zcO wc nb mb l ⟨s,ts⟩:=hR.chg hm (hR.nav.below hB) (Chg.of hB);have hal:=zBo nb mb l _ hm hl wc hRc;have hxl:w.heap.size<wc.heap.size:=(zy hg);obtain⟨v0,hv0⟩:∃x,x=min (s.drift*tt) 9223372036854775807:=⟨_,rfl⟩;rw [<-hv0]at hg hclip;have hvb:zr v0:=by have:=Int.mul_nonneg hdr.1 htt.1;unfold zr;omega
    obtain⟨x,hx⟩:∃x,x=w.heap.size:=⟨_,rfl⟩;rw [<-hx]at hg hxl⊢;have hxw:w.heap.size<=x:=zc;clear hx hv0;go_wp2_with(go_at_call 49;refine hal.mono ?_;clear hal;rintro e wq ⟨rp,cap,rb,rfl,hrow,hrbs,hBq⟩)
    have hgq:wq.heap[x]? =some (.cells #[.i v0] 22 (0,0)):=(hBq.block x hxl).trans hg;have hown:wq.ownsRow w.heap.size 22 1 (.slice (some ⟨x,0,none⟩) 1 1) 1 (([v0]++za8 (ts.take 0)).map (Value.int .i64)):=⟨by simp [za8],.inr ⟨x,1,#[.i v0],rfl,hxw,hgq,zc,by simp only [maxLen];omega,rfl,by simp [za8]⟩⟩
    have hBw:Below w.heap.size w wq:=hB.trans (hBq.mono hB.size);clear hgq hg hRc hB hBq;go_loopg [6,48] (l.length) (fun k v6 v wr=>∃(j g cp n:Nat),j+k=l.length/\v= .i j/\v6= .slice (some ⟨g,0,none⟩) n cp/\n=1+(za8 (ts.take j)).length/\wr.ownsRow w.heap.size 22 1 (.slice (some ⟨g,0,none⟩) n cp) n (([v0]++za8 (ts.take j)).map (Value.int .i64))/\Below w.heap.size w wr/\g≠rb/\∀i sr b,l[i]? =some (sr,b)->wr.cell? ⟨rb,i,none⟩=some (ptB b))
    case atStart=>exact⟨0,x,1,1,zc,rfl,rfl,by simp [za8],hown,hBw,zc,fun i sr b h=>(hrow i sr b h).2⟩
    case round=>
     clear hown hBw;obtain⟨j,g,cp,n,hj,rfl,rfl,rfl,hown,hB,hgr,hrw⟩:=hrel;have hRr:zcO wr nb mb l ⟨s,ts⟩:=hR.chg hm (hR.nav.below hB) (Chg.of hB);by_cases hlt:j<l.length
     ·obtain⟨⟨sr,b⟩,hlj⟩:∃x,l[j]? =some x:=⟨_,List.getElem?_eq_getElem hlt⟩
      obtain⟨t,htj,hts,hb⟩:=hRr.trk.blk j sr b hlj;replace htj:ts[j]? =some t:=htj;obtain⟨rfl,_⟩:=hrow j sr b hlj;have hcr:=hrw j sr b hlj;have hto:=hp t (List.mem_of_getElem? htj);have hlen:(za8 (ts.take j)).length<=j:=Nat.le_trans (zxG _) (by simp;omega);have ck:wr.cell? ⟨b,1,none⟩=some (.i t.kd):=za hb;have h4:t.kd=2\/t.kd=5\/(¬t.kd=2/\ ¬t.kd=5):=zc;have k5:wr.drew.cell? ⟨b,5,none⟩=some (.i t.limit):=za hb;have k2:wr.drew.cell? ⟨b,2,none⟩=some (.i t.wt):=za hb;have w0:0<=t.wt:=hto.wt.1;have w64:t.wt<=64:=by have:=hto.wt.2;omega
      have hgl:w.heap.size<=g:=hown.blk;have hrl:rb<wr.heap.size:=World.block_lt_of_cell? wr _ hcr;have hbg:some b≠some g:=fun e=>by
       have h1:b=g:=by cases e;rfl
       obtain⟨t',q1,q2,q3⟩:=hR.trk.blk j sr b hlj;have:=(zy q3);omega
      have hAl:∀(o:Obj) (k:Nat) {v:Value},wr.drew.cell? ⟨b,k,none⟩=some v->(wr.drew.alloc o).cell? ⟨b,k,none⟩=some v:=fun o k {v} h=>(World.cell?_of_block (heap_alloc_old _ _ (zy hb))).trans h
      have hAd:∀(o:Obj) (k:Nat) {v:Value},wr.drew.cell? ⟨b,k,none⟩=some v->(wr.alloc o).drew.cell? ⟨b,k,none⟩=some v:=fun o k {v} h=>hAl o k h
      clear hrow hts;rcases h4 with hk2|hk5|⟨hk2,hk5⟩
      ·rw [hk2]at ck
       go_wp2
       go_region_held3(fun w'=>w'.cell? ⟨b,5,none⟩=some (.i t.limit)/\w'.cell? ⟨b,2,none⟩=some (.i t.wt)) (first|(with_reducible exact⟨k5,k2⟩)|(with_reducible exact⟨hAl _ _ k5,hAl _ _ k2⟩)|(with_reducible exact⟨hAd _ _ k5,hAd _ _ k2⟩)|(with_reducible exact⟨k5',k2'⟩)) (first
        |(refine step_append_lies _ (by rfl) (.tmp 66) (.tmp 79) 119 (by rfl) (w.heap.size) 22 i0 (.i 0) 1 8 zEt hi0 hz0 hz1 hz2 dcz dcz (.slice (some ⟨g,0,none⟩) (1+(za8 (ts.take j)).length) cp) (1+(za8 (ts.take j)).length) (([v0]++za8 (ts.take j)).map (Value.int .i64)) (by rfl)
           (hown.drew.alloc _) ⟨wr.heap.size,0,none⟩ 1 1 [.i (t.limit/2^t.wt.toNat)] (by rfl) (by rfl) (World.news_of_block (heap_alloc_new wr.drew _)) (by simp [Value.oneCell']) dcz (by simp only [maxLen];omega) zc (by have:=hB.size;simp;omega) _ (by rfl) ?_
          intro g2 cp2 w2 hown2 hgr2 hat2 hlt2;replace hgr2:World.grownBy _ w2 (some g):=hgr2;have k5':w2.cell? ⟨b,5,none⟩=some (.i t.limit):=hgr2.cell (hAl _ _ k5) hbg
          have k2':w2.cell? ⟨b,2,none⟩=some (.i t.wt):=hgr2.cell (hAl _ _ k2) hbg))
       go_wp2;go_roundg(gk-1)
       case measure=>omega
       case rel=>
        refine⟨j+1,g2,cp2,_,zc,jq,rfl,?_,?_,?_,?_,?_⟩
        ·rw [zbI htj,zeC,if_pos zc];simp;omega
        ·rw [zbI htj,zeC,if_pos zc]
         simpa [ztQ,List.append_assoc]using hown2
        ·exact zos (⟨hB.os,hB.tape,hB.output,by have:=hB.size;simp;omega,fun k hk=>(heap_alloc_old _ _ (Nat.lt_of_lt_of_le hk hB.size)).trans (hB.block k hk)⟩:Below w.heap.size w (wr.drew.alloc (.cells #[.i (t.limit/2^t.wt.toNat)] 22))) hgr2 (by have:=hB.size;simp;omega) hgl
        ·intro e
         rcases hat2 with h|h
         ·cases h;exact hgr e
         ·rw [h]at e;simp at e;omega
        ·intro i sr' b' h
         exact hgr2.cell ((World.cell?_of_block (a:=⟨rb,i,none⟩) (heap_alloc_old _ _ hrl)).trans (hrw i sr' b' h)) (fun e=>hgr (by cases e;rfl))
      ·rw [hk5]at ck
       go_wp2
       go_region_held3(fun w'=>w'.cell? ⟨b,5,none⟩=some (.i t.limit)/\w'.cell? ⟨b,2,none⟩=some (.i t.wt)) (first|(with_reducible exact⟨k5,k2⟩)|(with_reducible exact⟨hAl _ _ k5,hAl _ _ k2⟩)|(with_reducible exact⟨hAd _ _ k5,hAd _ _ k2⟩)|(with_reducible exact⟨k5',k2'⟩)) (first
        |(refine step_append_lies _ (by rfl) (.tmp 66) (.tmp 79) 119 (by rfl) (w.heap.size) 22 i0 (.i 0) 1 8 zEt hi0 hz0 hz1 hz2 dcz dcz (.slice (some ⟨g,0,none⟩) (1+(za8 (ts.take j)).length) cp) (1+(za8 (ts.take j)).length) (([v0]++za8 (ts.take j)).map (Value.int .i64)) (by rfl)
           (hown.drew.alloc _) ⟨wr.heap.size,0,none⟩ 1 1 [.i (t.limit/2^t.wt.toNat)] (by rfl) (by rfl) (World.news_of_block (heap_alloc_new wr.drew _)) (by simp [Value.oneCell']) dcz (by simp only [maxLen];omega) zc (by have:=hB.size;simp;omega) _ (by rfl) ?_
          intro g2 cp2 w2 hown2 hgr2 hat2 hlt2;replace hgr2:World.grownBy _ w2 (some g):=hgr2;have k5':w2.cell? ⟨b,5,none⟩=some (.i t.limit):=hgr2.cell (hAl _ _ k5) hbg
          have k2':w2.cell? ⟨b,2,none⟩=some (.i t.wt):=hgr2.cell (hAl _ _ k2) hbg))
       go_wp2;go_roundg(gk-1)
       case measure=>omega
       case rel=>
        refine⟨j+1,g2,cp2,_,zc,jq,rfl,?_,?_,?_,?_,?_⟩
        ·rw [zbI htj,zeC,if_pos zc];simp;omega
        ·rw [zbI htj,zeC,if_pos zc]
         simpa [ztQ,List.append_assoc]using hown2
        ·exact zos (⟨hB.os,hB.tape,hB.output,by have:=hB.size;simp;omega,fun k hk=>(heap_alloc_old _ _ (Nat.lt_of_lt_of_le hk hB.size)).trans (hB.block k hk)⟩:Below w.heap.size w (wr.drew.alloc (.cells #[.i (t.limit/2^t.wt.toNat)] 22))) hgr2 (by have:=hB.size;simp;omega) hgl
        ·intro e
         rcases hat2 with h|h
         ·cases h;exact hgr e
         ·rw [h]at e;simp at e;omega
        ·intro i sr' b' h
         exact hgr2.cell ((World.cell?_of_block (a:=⟨rb,i,none⟩) (heap_alloc_old _ _ hrl)).trans (hrw i sr' b' h)) (fun e=>hgr (by cases e;rfl))
      ·have q2:(t.kd==2)=false:=by simpa using hk2
       have q5:(t.kd==5)=false:=by simpa using hk5
       go_wp2;go_roundg(gk-1)
       case measure=>omega
       case rel=>
        refine⟨j+1,g,cp,_,zc,jq,rfl,?_,?_,hB,hgr,hrw⟩
        ·rw [zbI htj,zeC,if_neg zc,List.append_nil]
        ·rw [zbI htj,zeC,if_neg zc,List.append_nil]
         exact hown
     ·have hj8:j=l.length:=zc
      subst hj8;have hlen:l.length=ts.length:=hR.trk.len;rw [hlen,List.take_length]at hown;have hlb:=zPp hp;have hll:=zxG ts
      have hsm:=zRk ([v0]++za8 ts) (fun z hz=>by
       rcases List.mem_append.1 hz with h|h
       ·rw [List.mem_singleton.1 h];exact hvb
       ·have:=hlb z h;unfold zr;omega) (by simp;omega) g cp wr (fun i hi=>by
       rw [hown.cellAt i (by simpa [Nat.add_comm]using hi),List.getElem?_map,List.getElem?_eq_getElem hi]
       rfl)
      have hs2:zh (([v0]++za8 ts).sum)=zh (s.drift*bTk s tk+(za8 ts).sum):=by
       rw [List.sum_append,List.sum_singleton];exact hclip _ (zTj fun z hz=>(hlb z hz).1)
      rw [hs2]at hsm;have hzl:([v0]++za8 ts).length=1+(za8 ts).length:=by simp;omega
      rw [hzl]at hsm;clear hrow hrw hlb hzl hs2 hclip;rw [List.take_of_length_le (Nat.le_of_eq hlen.symm)];go_wp2_with(go_at_call 55;refine hsm.mono ?_;clear hsm;rintro e w5 ⟨rfl,hB5⟩)
      go_ret;exact⟨rfl,hB.trans (hB5.mono hB.size)⟩
end Go.Xv
namespace Go.Xv
def zzp:Cfg:=⟨[0,1,2],[],[],[]⟩
def zgC:Sg:=⟨[.v (.agg [.i,.i,.i,.i,.i,.i,.i])],.v (.bool)⟩
def zzq(jN:Qi4)(F:Nat):=zS [(57,zz zh7 ki4 jN F)]
def zjh(jN:Qi4)(F:Nat):FT ki7:=fun a b c d e g h=>bif(decide (a>=0))then bif(decide (a<8))then bif(decide (b>=2))then bif(decide (b<=5))then bif(decide (c>=0))then bif(decide (c<=16))then bif(jN.ok F d e g h)then some (.v (.bool ((jN.i 0 F d e g h)==0)))else none else some (.v (.bool false))else some (.v (.bool false))else some (.v (.bool false))else some (.v (.bool false))else some (.v (.bool false))else some (.v (.bool false))
def zgD:=zjh jN
def zdy:Qi7:=mkQ (l:=ki7) zgC.o zgD
theorem zzr(jN:Qi4)(F:Nat):HHz zgC ki7 (zzq jN F) zzp [] 23 (zjh jN F):=hzz
theorem zzs(F:Nat)(a c d e g h l:Int):KO1 (zgD F a c d e g h l) (zdy.ok F a c d e g h l) (zdy.b 0 F a c d e g h l):=ko1 _
theorem zzt(F:Nat):yc PP 23 (unS (zz zgC ki7 zdy F)):=
 gzz F (zzr jN F) (zd (zv9 F) zn)
end Go.Xv
namespace Go.Xv
open Go.RowKit Go.ChangeMaps
structure AD where
 src:Int
 kd:Int
 wt:Int
 gain:Int
 step:Int
 limit:Int
 hor:Int
abbrev AD.tk(a:AD):TK:=⟨a.src,a.kd,a.wt,a.gain,a.step,a.limit,a.hor,⟨0,0,0⟩,0,false⟩
abbrev adC(a:AD):Array Value:=#[.i a.src,.i a.kd,.i a.wt,.i a.gain,.i a.step,.i a.limit,.i a.hor]
def znm(a:AD):Prop:=0<=a.src/\a.src<=7/\2<=a.kd/\a.kd<=5/\0<=a.wt/\a.wt<=16/\zbw a.gain a.step a.limit a.hor
def zkL:Int->List AD->Prop
 |_,[]=>True
 |s,a::r=>(znm a/\s<a.src)/\zkL a.src r
def zkM(d:Int)(ads:List AD):Prop:=0<=d/\ads.length<=8/\zkL (-1) ads
theorem zWX(F:Nat)(a:AD):zgD F a.src a.kd a.wt a.gain a.step a.limit a.hor=some (.v (.bool (@decide (znm a) (Classical.propDecidable _)))):=by
 unfold zgD zjh;obtain⟨h1,h2⟩:=zKW F a.gain a.step a.limit a.hor;have key:∀{p:Prop} (_: ¬p-> ¬znm a) {x:R} [Decidable p],(p->x=some (.v (.bool (@decide (znm a) (Classical.propDecidable _)))))->(bif decide p then x else some (.v (.bool false)))=some (.v (.bool (@decide (znm a) (Classical.propDecidable _)))):=fun{p} hn {x} _ h=>by
  by_cases hp:p
  ·rw [decide_eq_true hp];exact h hp
  ·rw [decide_eq_false hp,@decide_eq_false _ (Classical.propDecidable _) (hn hp)];rfl
 unfold znm at key⊢;refine key (fun hn h=>hn h.1) fun p1=>key (fun hn h=>hn zc) fun p2=>key (fun hn h=>hn h.2.2.1) fun p3=>key (fun hn h=>hn h.2.2.2.1) fun p4=>key (fun hn h=>hn h.2.2.2.2.1) fun p5=>key (fun hn h=>hn h.2.2.2.2.2.1) fun p6=> ?_
 refine bp h1 ?_;rw [h2];unfold zA3;by_cases hr:zbw a.gain a.step a.limit a.hor
 ·rw [if_pos hr,@decide_eq_true _ (Classical.propDecidable _) ⟨p1,zc,p3,p4,p5,p6,hr⟩];rfl
 ·rw [if_neg hr,@decide_eq_false _ (Classical.propDecidable _) (fun h=>hr h.2.2.2.2.2.2)];rfl
theorem zLP(a:AD)(w:World):Calls PP 23 #[.agg #[.i a.src,.i a.kd,.i a.wt,.i a.gain,.i a.step,.i a.limit,.i a.hor]] w fun e w'=>e= .returned (.bool (@decide (znm a) (Classical.propDecidable _)))/\Below w.heap.size w w':=by
 refine yc.plain (zzt 200) [.agg #[.i a.src,.i a.kd,.i a.wt,.i a.gain,.i a.step,.i a.limit,.i a.hor]] _ ?_ w;obtain⟨h,q0⟩:=zzs 200 _ _ _ _ _ _ _ (zWX 200 a);have e:zz zgC ki7 zdy 200 [.v (.agg #[.i a.src,.i a.kd,.i a.wt,.i a.gain,.i a.step,.i a.limit,.i a.hor])]=some (zdy.ok 200 a.src a.kd a.wt a.gain a.step a.limit a.hor,.v (.bool (zdy.b 0 200 a.src a.kd a.wt a.gain a.step a.limit a.hor))):=kfz;rw [h,q0]at e;exact zdE e
theorem zum{w:World}{mb:Nat}{l:List (Int×Nat)}(h:znv w mb l){k:Int}(hk:zcS l k=none):
 (Instr.mapEntry 60 (.map (some mb)) (.i k)).run PP w= .ok (.tuple #[.pointer none,.i l.length]) (setBlock w mb (.map (EL 0 l++[({key:=.i k,val:=.pointer none,born:=l.length}:MapEntry)]).toArray (l.length+1))):=by
 have hf:=zvl l k 0 0;have he:=zBk l k 0;rw [hk]at he;have hn:zyt l k 0=none:=by
  cases hl:zyt l k 0 with
  |none=>rfl
  |some p=>rw [hl]at he;cases he
 simp only [Instr.mapEntry,Sem.run_bind,run_underlying zmp,MapKept.run_getObj_map h,zHB,Result.andThen,Sem.run_pure,Instr.findKey,run_underlying zEp,hf,hn];simp [ztE,MapKept.run_setObj_map _ h,goInt,setBlock]
theorem zPq:∀(l:List (Int×Nat)) (i:Nat) (s:Int) (b:Nat),EL i (l++[(s,b)])=EL i l++[{key:=.i s,val:=ptB b,born:=i+l.length}]
 |[],_,_,_=>rfl
 |(s',b')::r,i,s,b=>by
  show _::EL (i+1) (r++[(s,b)])=_::(EL (i+1) r++_);rw [zPq r (i+1) s b];simp only [List.length_cons,List.cons_append];rw [show i+1+r.length=i+(r.length+1)from zc]
theorem zwr:∀(l:List (Int×Nat)) (i:Nat) (x:MapEntry),x.born=i+l.length->(EL i l++[x]).findIdx? (fun e=>(e.born:Int)==((i+l.length:Nat):Int))=some l.length
 |[],i,x,h=>by simp [EL,h]
 |(s,b)::r,i,x,h=>by
  have ih:=zwr r (i+1) x (by rw [h];simp;omega);unfold EL;rw [List.cons_append,List.findIdx?_cons];rw [show(((i:Int)==((i+((s,b)::r).length:Nat):Int))=false) by simp;omega];rw [show i+((s,b)::r).length=i+1+r.length by simp;omega];simp only [Bool.false_eq_true,if_false,ih];simp
theorem zrW{w:World}{mb:Nat}{l:List (Int×Nat)}{k:Int}{b:Nat}(h:w.heap[mb]? =some (.map (EL 0 l++[({key:=.i k,val:=.pointer none,born:=l.length}:MapEntry)]).toArray (l.length+1))):
 (Instr.entryStore 60 (.map (some mb)) (.i l.length) (ptB b)).run PP w= .ok () (setBlock w mb (.map (EL 0 (l++[(k,b)])).toArray (l.length+1))):=by
 rw [<-List.push_toArray]at h;have hi:((EL 0 l).toArray.push {key:=.i k,val:=.pointer none,born:=l.length}).findIdx? (fun e=>(e.born:Int)==(l.length:Int))=some l.length:=by
  have:=zwr l 0 {key:=.i k,val:=.pointer none,born:=l.length} jq;simpa using this
 have hl:(EL 0 l).length=l.length:=by
  have:∀(l:List (Int×Nat)) i,(EL i l).length=l.length:=fun l=>by
   induction l with
   |nil=>intro i;rfl
   |cons a r ih=>intro i;simp [EL,ih]
  exact this l 0
 simp only [Instr.entryStore,Sem.run_bind,MapKept.run_getObj_map h,Result.andThen,Sem.run_pure,asInt,asIntOf,hi];rw [MapKept.run_setObj_map _ h];simp only [setBlock,zPq];have e:((EL 0 l).toArray.push {key:=.i k,val:=.pointer none,born:=l.length}).modify l.length (fun e:MapEntry=>{e with val:=ptB b})=(EL 0 l++[({key:=.i k,val:=ptB b,born:=0+l.length}:MapEntry)]).toArray:=by
  have hm:∀(q:List MapEntry) (x:MapEntry) (f:MapEntry->MapEntry),(q++[x]).modify q.length f=q++[f x]:=fun q=>by
   induction q with
   |nil=>intro x f;rfl
   |cons a r ih=>intro x f;simpa using ih x f
  have:=hm (EL 0 l) ({key:=.i k,val:=.pointer none,born:=l.length}:MapEntry) (fun e:MapEntry=>({e with val:=ptB b}:MapEntry));rw [hl]at this;simpa using this
 rw [e,Nat.zero_add]
def znn:Int->List AD->Int
 |s,[]=>s
 |_,a::r=>znn a.src r
theorem zgX:∀(s:Int) (l:List AD) (a:AD),zkL s (l++[a])↔(zkL s l/\znm a/\znn s l<a.src)
 |s,[],a=>by simp [zkL,znn]
 |s,b::r,a=>by
  show((znm b/\s<b.src)/\zkL b.src (r++[a]))↔(((znm b/\s<b.src)/\zkL b.src r)/\znm a/\znn b.src r<a.src);rw [zgX b.src r a];constructor
  ·rintro⟨h1,h2,h3,h4⟩;exact⟨⟨h1,h2⟩,h3,h4⟩
  ·rintro⟨⟨h1,h2⟩,h3,h4⟩;exact⟨h1,h2,h3,h4⟩
theorem zrH:∀(s:Int) (l:List AD) (j:Nat),zkL s l->zkL s (l.take j)
 |_,[],j,_=>by simp [zkL]
 |_,_::_,0,_=>trivial
 |_,b::r,j+1,h=>⟨h.1,zrH b.src r j h.2⟩
theorem zjZ{ts:List AD}{j:Nat}{t:AD}(h:ts[j]? =some t):ts.take (j+1)=ts.take j++[t]:=by
 obtain⟨h1,h2⟩:=List.getElem?_eq_some_iff.1 h;rw [List.take_succ_eq_append_getElem h1,h2]
theorem zno:∀(s:Int) (l:List AD) (a:AD),znn s (l++[a])=a.src
 |_,[],_=>rfl
 |_,b::r,a=>zno b.src r a
theorem zLQ:∀{l:List (Int×Nat)} {k:Int},(∀p∈l,p.1<k)->zcS l k=none
 |[],_,_=>rfl
 |(s,b)::r,k,h=>by
  have:=h (s,b) (List.mem_cons_self ..);unfold zcS;rw [if_neg (by simp only at this;omega)];exact zLQ fun p hp=>h p (List.mem_cons_of_mem _ hp)
theorem jj.setBlk{D:Nat->Prop}{w W:World}{b:Nat}{o:Obj}(h:jj D w W)(hd:D b):jj D w (setBlock W b o):=
 ⟨h.os,h.tape,h.output,by have:=h.size;simpa [setBlock]using this,fun k hk hn=>by
  have hne:b≠k:=fun e=>hn (e▸hd)
  rw [<-h.block k hk hn]
  simp [setBlock,hne]⟩
theorem jj.allc{D:Nat->Prop}{w W:World}{o:Obj}(h:jj D w W):jj D w (W.alloc o):=h.trans (jj.of ((Below.refl _ _).alloc (Nat.le_refl _) _))
theorem zot{W:World}{b:Nat}{o o':Obj}(h:W.heap[b]? =some o'):(setBlock W b o).heap[b]? =some o:=by
 have:=(zy h);simp [setBlock,this]
theorem zxH{W:World}{b k:Nat}{o:Obj}(h:b≠k):(setBlock W b o).heap[k]? =W.heap[k]? :=by
 simp [setBlock,h]
def zdn(w:World)(rp:Option Addr)(ads:List AD):Prop:=∀(i:Nat) (a:AD),ads[i]? =some a->∃ab,rp=some (.q ab 0)/\w.cell? (.q ab (i*7))=some (.i a.src)/\w.cell? (.q ab (i*7+1))=some (.i a.kd)/\w.cell? (.q ab (i*7+2))=some (.i a.wt)/\w.cell? (.q ab (i*7+3))=some (.i a.gain)/\w.cell? (.q ab (i*7+4))=some (.i a.step)/\w.cell? (.q ab (i*7+5))=some (.i a.limit)/\w.cell? (.q ab (i*7+6))=some (.i a.hor)
def zX3(w w':World)(g:V3)(d:Int)(ads:List AD)(e:Ending):Prop:=∃nb mb l,e= .returned (.tuple #[ptB nb,.i 0])/\zcO w' nb mb l ⟨zpV g d,ads.map AD.tk⟩/\mb≠nb/\Srt l/\w.heap.size<=nb/\w.heap.size<=mb/\∀p∈l,w.heap.size<=p.2
theorem zLR{wc wr wz W:World}{nb mb:Nat}{ads:List AD}{l:List (Int×Nat)}{a:AD}{b:Nat}(hM:znv wr mb l)(hT:zxz wr nb l ((ads.take l.length).map AD.tk))(hSr:Srt l)(hle:∀p∈l,p.1<=znn (-1) (ads.take l.length))(hfr:∀p∈l,wc.heap.size<=p.2)
 (hok:zkL (-1) (ads.take l.length)) (hK:jj (fun k=>k=mb) wc wr) (hKz:jj (fun k=>k=mb) wr wz) (haj:ads[l.length]? =some a) (hg:znm a) (hls: ¬a.src<=znn (-1) (ads.take l.length)) (hbW:W.heap[b]? =some (.cells (zcC a.tk) 85 (0,0))) (hb:wz.heap.size<=b) (hKW:jj (fun k=>k=mb) wz W) (hnb:nb<wr.heap.size):
 zxz W nb (l++[(a.src,b)]) ((ads.take (l.length+1)).map AD.tk)/\Srt (l++[(a.src,b)])/\(∀p∈l++[(a.src,b)],p.1<=znn (-1) (ads.take (l.length+1)))/\(∀p∈l++[(a.src,b)],wc.heap.size<=p.2)/\zkL (-1) (ads.take (l.length+1))/\jj (fun k=>k=mb) wc W:=by
 have hKr:jj (fun k=>k=mb) wr W:=hKz.trans hKW;have hold:∀p∈l,p.2<wr.heap.size/\p.2≠mb:=fun p hp=>by
  obtain⟨i,hi⟩:=List.getElem?_of_mem hp;obtain⟨t,h1,h2,h3⟩:=hT.blk i p.1 p.2 hi;exact⟨(zy h3),fun e=>by unfold znv at hM;rw [e,hM]at h3;cases h3⟩
 have hsz:=hKz.size;have hsc:=hK.size;rw [zjZ haj,zno,zgX,List.map_append];have hlen:=hT.len;refine⟨⟨by simp only [List.length_append,List.length_map,List.length_cons,List.length_nil]at hlen⊢;omega,fun i s b' hi=> ?_,?_,fun p hp=> ?_⟩,⟨?_,fun p hp=> ?_⟩,fun p hp=> ?_,fun p hp=> ?_,⟨hok,hg,zc⟩,hK.trans hKr⟩
 ·rcases Nat.lt_or_ge i l.length with hlt|hge
  ·rw [List.getElem?_append_left hlt]at hi
   obtain⟨t,h1,h2,h3⟩:=hT.blk i s b' hi;have:=hold (s,b') (List.mem_of_getElem? hi);exact⟨t,by rw [List.getElem?_append_left zc];exact h1,h2,(hKr.block b' this.1 this.2).trans h3⟩
  ·rw [List.getElem?_append_right hge]at hi
   have h0:i-l.length=0:=by
    rcases Nat.eq_zero_or_pos (i-l.length)with h|h
    ·exact h
    ·rw [List.getElem?_eq_none (by simp;omega)]at hi;cases hi
   rw [h0]at hi;cases hi;exact⟨a.tk,by rw [List.getElem?_append_right zc,show i-(List.map AD.tk (List.take l.length ads)).length=0 from zc];rfl,rfl,hbW⟩
 ·rw [List.map_append,List.nodup_append]
  refine⟨hT.nodup,jq,fun x hx y hy=> ?_⟩;obtain⟨p,hp,rfl⟩:=List.mem_map.1 hx;have:=(hold p hp).1;simp at hy;omega
 ·rcases List.mem_append.1 hp with h|h
  ·exact hT.ne p h
  ·rw [List.mem_singleton.1 h]
   show b≠nb;omega
 ·rw [List.pairwise_append]
  refine⟨hSr.1,jq,fun x hx y hy=> ?_⟩;have:=hle x hx;rw [List.mem_singleton.1 hy];show x.1<a.src;omega
 ·rcases List.mem_append.1 hp with h|h
  ·exact hSr.2 p h
  ·rw [List.mem_singleton.1 h]
   exact⟨hg.1,hg.2.1⟩
 ·rcases List.mem_append.1 hp with h|h
  ·have:=hle p h;omega
  ·rw [List.mem_singleton.1 h]
   exact Int.le_refl _
 ·rcases List.mem_append.1 hp with h|h
  ·exact hfr p h
  ·rw [List.mem_singleton.1 h]
   show wc.heap.size<=b;omega
theorem zEu(g:V3)(d:Int)(ads:List AD)(rp:Option Addr)(cap:Nat)(w:World)(hn:ads.length<=1000)(hA:zdn w rp ads):
 Calls PP 5 #[.agg #[.i g.x,.i g.y,.i g.z,.i d,.slice rp ads.length cap]] w fun e w'=>Below w.heap.size w w'/\((zkM d ads/\zX3 w w' g d ads e)\/(¬zkM d ads/\e= .returned (.tuple #[.pointer none,.i 2]))):=by
 go_enter Proofs.Tryz.func5,Proofs.Tryz.ntmps5
 have hA0:Below w.heap.size w (w.alloc (.cells #[.i g.x,.i g.y,.i g.z,.i d,.slice rp ads.length cap] 27)):=(Below.refl _ w).alloc (Nat.le_refl _) _;have hb0:(w.alloc (.cells #[.i g.x,.i g.y,.i g.z,.i d,.slice rp ads.length cap] 27)).heap[w.heap.size]? =some (.cells #[.i g.x,.i g.y,.i g.z,.i d,.slice rp ads.length cap] 27 (0,0)):=heap_alloc_new w _;by_cases hd':d<0
 ·go_wp2
  go_ret2;exact⟨hA0,.inr ⟨fun h=>by have:=h.1;omega,rfl⟩⟩
 by_cases hl8:8<ads.length
 ·go_wp2
  go_ret2;exact⟨hA0,.inr ⟨fun h=>by have:=h.2.1;omega,rfl⟩⟩
 go_wp2;replace hA:zdn (w.alloc (.cells #[.i g.x,.i g.y,.i g.z,.i d,.slice rp ads.length cap] 27)) rp ads:=fun i a ha=>by
  obtain⟨ab,h0,h1⟩:=hA i a ha;have hb:∀{k:Nat} {v:Value},w.cell? (.q ab k)=some v->(w.alloc (.cells #[.i g.x,.i g.y,.i g.z,.i d,.slice rp ads.length cap] 27)).cell? (.q ab k)=some v:=fun{k v} h=>(hA0.cell (p:=(.q ab k)) (World.block_lt_of_cell? w _ h)).trans h
  exact⟨ab,h0,hb h1.1,hb h1.2.1,hb h1.2.2.1,hb h1.2.2.2.1,hb h1.2.2.2.2.1,hb h1.2.2.2.2.2.1,hb h1.2.2.2.2.2.2⟩
 generalize w.alloc (.cells #[.i g.x,.i g.y,.i g.z,.i d,.slice rp ads.length cap] 27)=w0 at*
 have hw0:Below w0.heap.size w0 w0.drew:=⟨rfl,rfl,rfl,Nat.le_refl _,fun _ _=>rfl⟩;have hAa:∀o,Below w0.heap.size w0 (w0.alloc o).drew:=fun o=>hw0.alloc (Nat.le_refl _) o
 have hlt:w.heap.size<w0.heap.size:=(zy hb0);have hS:∀w',Below w0.heap.size w0 w'->w'.cell? (.q w.heap.size 0)=some (.i g.x)/\w'.cell? (.q w.heap.size 1)=some (.i g.y)/\w'.cell? (.q w.heap.size 2)=some (.i g.z)/\w'.cell? (.q w.heap.size 3)=some (.i d):=fun w' hB=>⟨(hB.cell (p:=(.q w.heap.size _)) hlt).trans (za hb0),(hB.cell (p:=(.q w.heap.size _)) hlt).trans (za hb0),(hB.cell (p:=(.q w.heap.size _)) hlt).trans (za hb0),(hB.cell (p:=(.q w.heap.size _)) hlt).trans (za hb0)⟩
 have hh:=fun W (hW:Below w0.heap.size w0 W)=>(zBe W).mono fun e w' (h:_/\_)=>(⟨h.1,hW.trans (h.2.mono hW.size),h.2⟩:_/\Below w0.heap.size w0 w'/\Below W.heap.size W w')
 have hmm:= @run_makeMap PP;go_cut [4] (fun v w'=>∃nb mb,v= .pointer (some (.q nb 0))/\jc w' nb mb (zpV g d)/\znv w' mb []/\mb≠nb/\w0.heap.size<=mb/\w0.heap.size<=nb/\Below w0.heap.size w0 w')
 case first=>
  go_region_held3(fun w'=>w'.cell? (.q w.heap.size 0)=some (.i g.x)/\w'.cell? (.q w.heap.size 1)=some (.i g.y)/\w'.cell? (.q w.heap.size 2)=some (.i g.z)/\w'.cell? (.q w.heap.size 3)=some (.i d))
   (first|(with_reducible exact hS _ hw0)|(with_reducible exact hS _ hBh')|(with_reducible exact hS _ (hAa _))|(with_reducible exact hS _ (hBh'.alloc hBh'.size _))|(with_reducible exact hS _ ((hBh'.alloc hBh'.size _).alloc (Nat.le_trans hBh'.size jq) _)))
   (first
     |(go_at_call 22
       refine(hh _ (by with_reducible exact hw0)).mono ?_
       rintro e wh ⟨rfl,hBh',hBh⟩)
     |(go_at_call 22
       refine(hh _ (by with_reducible exact hAa _)).mono ?_;rintro e wh ⟨rfl,hBh',hBh⟩
       have hz:wh.heap[w0.heap.size]? =some (.map #[] 0):=(hBh.block _ jq).trans (heap_alloc_new w0 _)))
  all_goals
   go_wp2;go_meet
   case rel=>
    first
     |(have hlz:=(zy hz)
       refine⟨wh.heap.size,w0.heap.size,rfl,heap_alloc_new wh _,(heap_alloc_old wh _ hlz).trans hz,zc,zc,zc,hBh'.alloc hBh'.size _⟩)
     |(have hsz:=hBh'.size
       have hsz1:w0.heap.size<=(wh.alloc (.map #[] 0)).heap.size:=Nat.le_trans hsz jq
       refine⟨_,wh.heap.size,rfl,heap_alloc2_new wh _ _,(heap_alloc_old _ _ jq).trans (heap_alloc_new wh _),zc,zc,zc,(hBh'.alloc hsz _).alloc hsz1 _⟩)
 case rest=>
  obtain⟨nb,mb,rfl,hNc,hMc,hne,hlm,hle,hB⟩:=hcut;have c4:wc.cell? (.q w.heap.size 4)=some (.slice rp ads.length cap):=(hB.cell (p:=(.q w.heap.size _)) hlt).trans (za hb0);replace hA:zdn wc rp ads:=fun i a ha=>by
   obtain⟨ab,h0,h1⟩:=hA i a ha;have hb:∀{k:Nat} {v:Value},w0.cell? (.q ab k)=some v->wc.cell? (.q ab k)=some v:=fun{k v} h=>(hB.cell (p:=(.q ab k)) (World.block_lt_of_cell? w0 _ h)).trans h
   exact⟨ab,h0,hb h1.1,hb h1.2.1,hb h1.2.2.1,hb h1.2.2.2.1,hb h1.2.2.2.2.1,hb h1.2.2.2.2.2.1,hb h1.2.2.2.2.2.2⟩
  have hBw:Below w.heap.size w wc:=hA0.trans (hB.mono hA0.size);have hnb:w.heap.size<=nb:=zc;have hmb:w.heap.size<=mb:=zc;have hnl:=hNc.lt;have hml:mb<wc.heap.size:=(zy hMc);clear hS hh hmm hAa hB;go_wp2;go_loopg [5,28] (ads.length) (fun k v5 v wr=>∃(j:Nat) (l:List (Int×Nat)),j+k=ads.length/\v= .i j/\v5= .i (znn (-1) (ads.take j))/\l.length=j/\znv wr mb l/\zxz wr nb l ((ads.take j).map AD.tk)/\Srt l/\(∀p∈l,p.1<=znn (-1) (ads.take j))/\(∀p∈l,wc.heap.size<=p.2)/\zkL (-1) (ads.take j)/\jj (fun k=>k=mb) wc wr)
  case atStart=>exact⟨0,[],zc,rfl,rfl,rfl,hMc,⟨jq,fun i s b h=>by simp at h,jq,fun p h=>(by cases h)⟩,⟨List.Pairwise.nil,fun p h=>(by cases h)⟩,fun p h=>(by cases h),fun p h=>(by cases h),trivial,jj.of (Below.refl _ _)⟩
  case round=>
   obtain⟨j,l,hj,rfl,rfl,rfl,hM,hT,hSr,hle,hfr,hok,hK⟩:=hrel;have hN:jc wr nb mb (zpV g d):=(hK.block nb hnl hne.symm).trans hNc;have hBr:Below w.heap.size w wr:=⟨hK.os.trans hBw.os,hK.tape.trans hBw.tape,hK.output.trans hBw.output,Nat.le_trans hBw.size hK.size,fun k hk=>(hK.block k (Nat.lt_of_lt_of_le hk hBw.size) zc).trans (hBw.block k hk)⟩;by_cases hlt:l.length<ads.length
   ·obtain⟨a,haj⟩:∃x,ads[l.length]? =some x:=⟨_,List.getElem?_eq_getElem hlt⟩
    obtain⟨ab,rfl,e0,e1,e2,e3,e4,e5,e6⟩:=hA l.length a haj;have hc:∀{k:Nat} {v:Value},wc.cell? (.q ab k)=some v->ab≠mb->wr.cell? (.q ab k)=some v:=fun{k v} h hb=>(World.cell?_of_block (a:=(.q ab k)) (hK.block ab (World.block_lt_of_cell? wc _ h) hb)).trans h
    have hab:ab≠mb:=fun e=>by rw [e]at e0;unfold World.cell? at e0;unfold znv at hMc;rw [show wc.heap[((.q mb (l.length*7)):Addr).block]? =_ from hMc]at e0;cases e0
    replace e0:=hc e0 hab;replace e1:=hc e1 hab;replace e2:=hc e2 hab;replace e3:=hc e3 hab;replace e4:=hc e4 hab;replace e5:=hc e5 hab;replace e6:=hc e6 hab;have hrt:=fun w=>zLP a w
    by_cases hgood:znm a
    ·rw [@decide_eq_true _ (Classical.propDecidable _) hgood]at hrt
     by_cases hls:a.src<=znn (-1) (ads.take l.length)
     ·go_wp2_with(go_at_call 23;refine(hrt _).mono ?_;clear hrt;rintro e wz ⟨rfl,hBz⟩;have h7:wz.heap[wr.heap.size]? =some (.cells (adC a) 82 (0,0)):=(hBz.block _ jq).trans (heap_alloc_new wr _);have k0:=zi 0 h7 rfl)
      go_ret2;refine⟨hBr.trans (((Below.refl _ wr).alloc (Nat.le_refl _) _).trans (hBz.mono jq)|>.mono hBr.size),.inr ⟨fun h=> ?_,rfl⟩⟩;have:=zrH (-1) ads (l.length+1) h.2.2;rw [zjZ haj,zgX]at this;have:=this.2.2;omega
     ·go_wp2_with(go_at_call 23;refine(hrt _).mono ?_;clear hrt;rintro e wz ⟨rfl,hBz⟩;have h7:wz.heap[wr.heap.size]? =some (.cells (adC a) 82 (0,0)):=(hBz.block _ jq).trans (heap_alloc_new wr _);have k0:=zi 0 h7 rfl)
      have hNz:jc wz nb mb (zpV g d):=hN.below (((Below.refl _ wr).alloc (Nat.le_refl _) _).trans (hBz.mono jq));have hMz:znv wz mb l:=((((Below.refl _ wr).alloc (Nat.le_refl _) _).trans (hBz.mono jq)).block mb (zy hM)).trans hM;have hKz:jj (fun k=>k=mb) wr wz:=jj.of (((Below.refl _ wr).alloc (Nat.le_refl _) _).trans (hBz.mono jq));have hlk:zcS l a.src=none:=zLQ fun p hp=>by have:=hle p hp;omega
      obtain⟨x7,hx7⟩:∃x,x=wr.heap.size:=⟨_,rfl⟩;rw [<-hx7]at h7⊢;have hml2:mb<x7:=by have:=(zy hM);omega
      clear hx7 hBz k0;have hS:∀W:World,jj (fun k=>k=mb) wz W->W.cell? (.q nb 20)=some (.map (some mb))/\W.cell? (.q x7 0)=some (.i a.src)/\W.cell? (.q x7 1)=some (.i a.kd)/\W.cell? (.q x7 2)=some (.i a.wt)/\W.cell? (.q x7 3)=some (.i a.gain)/\W.cell? (.q x7 4)=some (.i a.step)/\W.cell? (.q x7 5)=some (.i a.limit)/\W.cell? (.q x7 6)=some (.i a.hor):=fun W h=>by
       have h1:=(h.block nb hNz.lt zc).trans hNz;have h2:=(h.block x7 (zy h7) zc).trans h7;exact⟨za h1,za h2,za h2,za h2,za h2,za h2,za h2,za h2⟩
      have hMd:znv wz.drew mb l:=hMz;have hMa:znv (wz.alloc (.cells (zcC a.tk) 85)).drew mb l:=(heap_alloc_old wz _ (zy hMz)).trans hMz;have hm1:=zum hMd hlk;have hm2:=zum hMa hlk;have ht1:((setBlock wz.drew mb (.map (EL 0 l++[({key:=.i a.src,val:=.pointer none,born:=l.length}:MapEntry)]).toArray (l.length+1))).alloc (.cells (zcC a.tk) 85)).heap[mb]? =_:=(heap_alloc_old _ _ (by have:=(zy hMz);simpa [setBlock]using this)).trans (zot hMd)
      have ht2:(setBlock (wz.alloc (.cells (zcC a.tk) 85)).drew mb (.map (EL 0 l++[({key:=.i a.src,val:=.pointer none,born:=l.length}:MapEntry)]).toArray (l.length+1))).heap[mb]? =_:=zot hMa;have hs1:=zrW (b:=(setBlock wz.drew mb (.map (EL 0 l++[({key:=.i a.src,val:=.pointer none,born:=l.length}:MapEntry)]).toArray (l.length+1))).heap.size) ht1;have hs2:=zrW (b:=wz.heap.size) ht2;have hk1:jj (fun k=>k=mb) wz wz.drew:=jj.drew (jj.of (Below.refl _ _));have hk2:jj (fun k=>k=mb) wz (wz.alloc (.cells (zcC a.tk) 85)).drew:=jj.drew (jj.allc (jj.of (Below.refl _ _)));have hk3:jj (fun k=>k=mb) wz (setBlock wz.drew mb (.map (EL 0 l++[({key:=.i a.src,val:=.pointer none,born:=l.length}:MapEntry)]).toArray (l.length+1))):=hk1.setBlk rfl
      have hk4:jj (fun k=>k=mb) wz ((setBlock wz.drew mb (.map (EL 0 l++[({key:=.i a.src,val:=.pointer none,born:=l.length}:MapEntry)]).toArray (l.length+1))).alloc (.cells (zcC a.tk) 85)):=hk3.allc;have hk5:jj (fun k=>k=mb) wz (setBlock (wz.alloc (.cells (zcC a.tk) 85)).drew mb (.map (EL 0 l++[({key:=.i a.src,val:=.pointer none,born:=l.length}:MapEntry)]).toArray (l.length+1))):=hk2.setBlk rfl;go_region_held3(fun w'=>w'.cell? (.q nb 20)=some (.map (some mb))/\w'.cell? (.q x7 0)=some (.i a.src)/\w'.cell? (.q x7 1)=some (.i a.kd)/\w'.cell? (.q x7 2)=some (.i a.wt)/\w'.cell? (.q x7 3)=some (.i a.gain)/\w'.cell? (.q x7 4)=some (.i a.step)/\w'.cell? (.q x7 5)=some (.i a.limit)/\w'.cell? (.q x7 6)=some (.i a.hor)) (first|(with_reducible exact hS _ hk1)|(with_reducible exact hS _ hk2)|(with_reducible exact hS _ hk3)|(with_reducible exact hS _ hk4)|(with_reducible exact hS _ hk5)|(with_reducible exact hS _ (hk4.setBlk rfl))|(with_reducible exact hS _ (hk5.setBlk rfl))) (fail)
      all_goals
       go_wp2;go_roundg(gk-1)
       case measure=>omega
       case rel=>
        first
         |(have hbW:=(zxH (W:=(setBlock wz.drew mb (.map (EL 0 l++[({key:=.i a.src,val:=.pointer none,born:=l.length}:MapEntry)]).toArray (l.length+1))).alloc (.cells (zcC a.tk) 85)) (b:=mb) (k:=(setBlock wz.drew mb (.map (EL 0 l++[({key:=.i a.src,val:=.pointer none,born:=l.length}:MapEntry)]).toArray (l.length+1))).heap.size) (o:=.map (EL 0 (l++[(a.src,(setBlock wz.drew mb (.map (EL 0 l++[({key:=.i a.src,val:=.pointer none,born:=l.length}:MapEntry)]).toArray (l.length+1))).heap.size)])).toArray (l.length+1)) (by have:=(zy hMz);simp [setBlock];omega)).trans (heap_alloc_new _ _)
           obtain⟨q1,q2,q3,q4,q5,q6⟩:=zLR hM hT hSr hle hfr hok hK hKz haj hgood zc hbW (by simp [setBlock]) (hk4.setBlk rfl) hN.lt
           exact⟨l.length+1,_,zc,jq,by rw [zjZ haj,zno],jq,by simpa [znv]using zot ht1,q1,q2,q3,q4,q5,q6⟩)
         |(have hbW:=(zxH (W:=setBlock (wz.alloc (.cells (zcC a.tk) 85)).drew mb (.map (EL 0 l++[({key:=.i a.src,val:=.pointer none,born:=l.length}:MapEntry)]).toArray (l.length+1))) (b:=mb) (k:=wz.heap.size) (o:=.map (EL 0 (l++[(a.src,wz.heap.size)])).toArray (l.length+1)) (by have:=(zy hMz);omega)).trans ((zxH (by have:=(zy hMz);omega)).trans (heap_alloc_new _ _))
           obtain⟨q1,q2,q3,q4,q5,q6⟩:=zLR hM hT hSr hle hfr hok hK hKz haj hgood zc hbW (Nat.le_refl _) (hk5.setBlk rfl) hN.lt
           exact⟨l.length+1,_,zc,jq,by rw [zjZ haj,zno],jq,by simpa [znv]using zot ht2,q1,q2,q3,q4,q5,q6⟩)
    ·rw [@decide_eq_false _ (Classical.propDecidable _) hgood]at hrt
     go_wp2_with(go_at_call 23;refine(hrt _).mono ?_;clear hrt;rintro e wz ⟨rfl,hBz⟩;have h7:wz.heap[wr.heap.size]? =some (.cells (adC a) 82 (0,0)):=(hBz.block _ jq).trans (heap_alloc_new wr _);have k0:=zi 0 h7 rfl)
     go_ret2;refine⟨hBr.trans (((Below.refl _ wr).alloc (Nat.le_refl _) _).trans (hBz.mono jq)|>.mono hBr.size),.inr ⟨fun h=> ?_,rfl⟩⟩;have:=zrH (-1) ads (l.length+1) h.2.2;rw [zjZ haj,zgX]at this;exact hgood this.2.1
   ·have hz:l.length=ads.length:=zc
    rw [hz,List.take_length]at hT hok;go_wp2;go_ret2;refine⟨hBr,.inl ⟨⟨zc,zc,hok⟩,nb,mb,l,rfl,⟨hN,hM,hT⟩,hne,hSr,hnb,hmb,fun p hp=>Nat.le_trans hBw.size (hfr p hp)⟩⟩
end Go.Xv
namespace Go.Xv
def zLS:Cfg:=⟨[0,1,2,3,4,5,6,7,8,9,10,11],[],[],[]⟩
def zou:Sg:=⟨[.v (.agg [.i,.i,.i]),.v (.agg [.i,.i,.i])],.v (.tup [.agg [.i,.i,.i],.bool])⟩
def zLT(yq:jQ)(F:Nat):=zS [(77,zz zg1 ki2 yq F)]
def zrI(yq:jQ)(F:Nat):FT ki6:=fun a c d e g h=>bif(yq.ok F a e)then let l:Int:=yq.i 0 F a e;bif(yq.ok F c g)then let m:Int:=yq.i 0 F c g;bif(yq.ok F d h)then let o:Int:=yq.i 0 F d h;bif(yq.b 1 F a e)then some (.v (.tuple #[.agg #[.i l,.i m,.i o],.bool true]))else bif(yq.b 1 F c g)then some (.v (.tuple #[.agg #[.i l,.i m,.i o],.bool true]))else some (.v (.tuple #[.agg #[.i l,.i m,.i o],.bool (yq.b 1 F d h)]))else none else none else none
def zs9:=zrI yq
def zbr:Qi6:=mkQ (l:=ki6) zou.o zs9
theorem zLU(yq:jQ)(F:Nat):HHz zou ki6 (zLT yq F) zLS [] 66 (zrI yq F):=hzz
theorem zLV(F:Nat)(a c d e g h:Int):zkR (zs9 F a c d e g h) (zbr.ok F a c d e g h) (zbr.i 0 F a c d e g h) (zbr.i 1 F a c d e g h) (zbr.i 2 F a c d e g h) (zbr.b 3 F a c d e g h):=zll _
theorem zLW(F:Nat):yc PP 66 (unS (zz zou ki6 zbr F)):=
 gzz F (zLU yq F) (zd (zsv F) zn)
def zHS:Cfg:=⟨[0,1,2,6,7,8,9,10,11],[],[],[]⟩
def zmj:Sg:=⟨[.i,.i,.i],.v (.tup [.i,.bool])⟩
def zHT(yP:jQ)(F:Nat):=zS [(111,zz zkn ki2 yP F)]
def zpo(yP:jQ)(F:Nat):FT ki3:=fun a c d=>bif(yP.ok F a c)then let e:Int:=yP.i 0 F a c;bif(yP.ok F e d)then let g:Int:=yP.i 0 F e d;bif(yP.b 1 F a c)then some (.v (.tuple #[.i g,.bool true]))else some (.v (.tuple #[.i g,.bool (yP.b 1 F e d)]))else none else none
def zrJ:=zpo yP
def zcn:Qi3:=mkQ (l:=ki3) zmj.o zrJ
theorem zHU(yP:jQ)(F:Nat):HHz zmj ki3 (zHT yP F) zHS [] 69 (zpo yP F):=hzz
theorem zHV(F:Nat)(a c d:Int):KO4 (zrJ F a c d) (zcn.ok F a c d) (zcn.i 0 F a c d) (zcn.b 1 F a c d):=ko4 _
theorem zHW(F:Nat):yc PP 69 (unS (zz zmj ki3 zcn F)):=
 gzz F (zHU yP F) (zd (zye F) zn)
def zDI:Cfg:=⟨[0,1,2,4,5,6,7,8,9,10,11],[],[],[]⟩
def zj0:Sg:=⟨[.v (.agg [.i,.i,.i]),.i],.v (.tup [.agg [.i,.i,.i],.bool])⟩
def zDJ(zT:jQ)(F:Nat):=zS [(79,zz zeK ki2 zT F)]
def znp(zT:jQ)(F:Nat):FT ki4:=fun c d e a=>bif(zT.ok F c a)then let g:Int:=zT.i 0 F c a;bif(zT.ok F d a)then let h:Int:=zT.i 0 F d a;bif(zT.ok F e a)then let l:Int:=zT.i 0 F e a;bif(zT.b 1 F c a)then some (.v (.tuple #[.agg #[.i g,.i h,.i l],.bool true]))else bif(zT.b 1 F d a)then some (.v (.tuple #[.agg #[.i g,.i h,.i l],.bool true]))else some (.v (.tuple #[.agg #[.i g,.i h,.i l],.bool (zT.b 1 F e a)]))else none else none else none
def zpp:=znp zT
def zaY:Qi4:=mkQ (l:=ki4) zj0.o zpp
theorem zDK(zT:jQ)(F:Nat):HHz zj0 ki4 (zDJ zT F) zDI [] 76 (znp zT F):=hzz
theorem zDL(F:Nat)(a c d e:Int):zkR (zpp F a c d e) (zaY.ok F a c d e) (zaY.i 0 F a c d e) (zaY.i 1 F a c d e) (zaY.i 2 F a c d e) (zaY.b 3 F a c d e):=zll _
theorem zDM(F:Nat):yc PP 76 (unS (zz zj0 ki4 zaY F)):=
 gzz F (zDK zT F) (zd (zo9 F) zn)
end Go.Xv
namespace Go.Xv
open Go.RowKit
theorem zU0(F:Nat)(hF:200<=F){a0 a1 a2 a3 a4 a5:Int}(h0:zr a0)(h1:zr a1)(h2:zr a2)(h3:zr a3)(h4:zr a4)(h5:zr a5):zbr.ok F a0 a1 a2 a3 a4 a5=true/\zbr.i 0 F a0 a1 a2 a3 a4 a5=zh (a0+a3)/\zbr.i 1 F a0 a1 a2 a3 a4 a5=zh (a1+a4)/\zbr.i 2 F a0 a1 a2 a3 a4 a5=zh (a2+a5)/\zbr.b 3 F a0 a1 a2 a3 a4 a5=(zw (a0+a3)||zw (a1+a4)||zw (a2+a5)):=by
 refine zLV F _ _ _ _ _ _ ?_;unfold zs9 zrI;obtain⟨p1,p2,p3⟩:=znL F _ _ (zzB F hF h0 h3);obtain⟨q1,q2,q3⟩:=znL F _ _ (zzB F hF h1 h4);obtain⟨r1,r2,r3⟩:=znL F _ _ (zzB F hF h2 h5);refine bp p1 (bp q1 (bp r1 ?_));rw [p2,p3,q2,q3,r2,r3];exact or3
theorem zRn(F:Nat)(hF:200<=F){a b c:Int}(ha:zr a)(hb:zr b)(hc:zr c):zcn.ok F a b c=true/\zcn.i 0 F a b c=zh (zh (a-b)-c)/\zcn.b 1 F a b c=(zw (a-b)||zw (zh (a-b)-c)):=by
 refine zHV F _ _ _ ?_;unfold zrJ zpo;obtain⟨p1,p2,p3⟩:=zko F _ _ (zvN F hF ha hb);obtain⟨q1,q2,q3⟩:=zko F _ _ (zvN F hF (jk (a-b)) hc);refine bp p1 ?_;rw [p2,p3];refine bp q1 ?_;rw [q2,q3];cases zw (a-b)<;>rfl
theorem zRo(F:Nat)(hF:200<=F){a0 a1 a2 g:Int}(i0:zr a0)(i1:zr a1)(i2:zr a2)(h0:0<=g)(h1:g<=16):zaY.ok F a0 a1 a2 (-g)=true/\zaY.i 0 F a0 a1 a2 (-g)=a0/2^g.toNat/\zaY.i 1 F a0 a1 a2 (-g)=a1/2^g.toNat/\zaY.i 2 F a0 a1 a2 (-g)=a2/2^g.toNat/\zaY.b 3 F a0 a1 a2 (-g)=false:=by
 refine zDL F _ _ _ _ ?_;unfold zpp znp;obtain⟨p1,p2,p3⟩:=zeL F hF i0 h0 h1;obtain⟨q1,q2,q3⟩:=zeL F hF i1 h0 h1;obtain⟨r1,r2,r3⟩:=zeL F hF i2 h0 h1;refine bp p1 (bp q1 (bp r1 ?_));rw [p2,p3,q2,q3,r2,r3];rfl
theorem zRp(F:Nat)(x:Int):zdL.ok F x 12=true/\zdL.i 0 F x 12=x%18446744073709551616%12:=by
 refine zGy F _ _ ?_;unfold zlU;have w:wrap .u64 12=12:=dcz;refine bn rfl ?_;rw [w];refine bp rfl (zd6 ?_);rw [zd2,Int.tmod_eq_emod_of_nonneg zc,zH (by unfold zr;omega)]
theorem zU1(F:Nat)(hF:200<=F){a:Att}(hM:MI a.m){v0 v1 v2:Int}(h0:I32 v0)(h1:I32 v1)(h2:I32 v2):zaj.ok F a.m.a0 a.m.a1 a.m.a2 a.m.a3 a.m.a4 a.m.a5 a.m.a6 a.m.a7 a.m.a8 a.n v0 v1 v2=true/\zaj.i 0 F a.m.a0 a.m.a1 a.m.a2 a.m.a3 a.m.a4 a.m.a5 a.m.a6 a.m.a7 a.m.a8 a.n v0 v1 v2=(zh (jA a.m.a0 a.m.a1 a.m.a2 (wid v0) (wid v1) (wid v2)))/\zaj.i 1 F a.m.a0 a.m.a1 a.m.a2 a.m.a3 a.m.a4 a.m.a5 a.m.a6 a.m.a7 a.m.a8 a.n v0 v1 v2=(zh (jA a.m.a3 a.m.a4 a.m.a5 (wid v0) (wid v1) (wid v2)))/\zaj.i 2 F a.m.a0 a.m.a1 a.m.a2 a.m.a3 a.m.a4 a.m.a5 a.m.a6 a.m.a7 a.m.a8 a.n v0 v1 v2=(zh (jA a.m.a6 a.m.a7 a.m.a8 (wid v0) (wid v1) (wid v2)))/\zaj.b 3 F a.m.a0 a.m.a1 a.m.a2 a.m.a3 a.m.a4 a.m.a5 a.m.a6 a.m.a7 a.m.a8 a.n v0 v1 v2=(zw (jA a.m.a0 a.m.a1 a.m.a2 (wid v0) (wid v1) (wid v2))||zw (jA a.m.a3 a.m.a4 a.m.a5 (wid v0) (wid v1) (wid v2))||zw (jA a.m.a6 a.m.a7 a.m.a8 (wid v0) (wid v1) (wid v2))):=by
 obtain⟨z0,z1,z2,c,⟨_,p0,p1,p2,p3⟩,hr⟩:=zUO F hF hM h0 h1 h2;obtain⟨_,q0,q1,q2,q3⟩:=zSU F hF hM h0 h1 h2;rw [<-q0, <-q1, <-q2, <-q3,p0,p1,p2,p3];exact hr
theorem zOr(F:Nat)(hF:200<=F)(A:Mt)(n:Int):zan.ok F A.a0 A.a1 A.a2 A.a3 A.a4 A.a5 A.a6 A.a7 A.a8 n 0=true/\zan.i 0 F A.a0 A.a1 A.a2 A.a3 A.a4 A.a5 A.a6 A.a7 A.a8 n 0=A.a0/\zan.i 1 F A.a0 A.a1 A.a2 A.a3 A.a4 A.a5 A.a6 A.a7 A.a8 n 0=A.a3/\zan.i 2 F A.a0 A.a1 A.a2 A.a3 A.a4 A.a5 A.a6 A.a7 A.a8 n 0=A.a6:=by
 obtain⟨z0,z1,z2,⟨_,p0,p1,p2⟩,hr⟩:=zST F hF A n 0;obtain⟨_,q0,q1,q2⟩:=zEl F hF A n;rw [q0]at p0;rw [q1]at p1;rw [q2]at p2;rw [<-p0, <-p1, <-p2]at hr;exact hr
theorem zOs{a b:Int}(ha:zr a)(hb:zr b)(w:World):Calls PP 61 #[.i a,.i b] w fun e w'=>e= .returned (.tuple #[.i (zld a b),.bool (zuc a b)])/\Below w.heap.size w w':=by
 refine yc.plain (zyg 200) [.i a,.i b] _ ?_ w;obtain⟨hq,q0,q1⟩:=znV 200 _ _ (zzC 200 (Nat.le_refl _) ha hb);have e:zz zkt ki2 zaD 200 [.v (.i a),.v (.i b)]=some (zaD.ok 200 a b,.v (.tuple #[.i (zaD.i 0 200 a b),.bool (zaD.b 1 200 a b)])):=kfz;rw [hq,q0,q1]at e;exact zdE e
theorem zLX{a:Att}(hM:MI a.m)(hn:a.n<=9223372036854775807/\ -9223372036854775808<=a.n){r0 r1 r2 t:Int}(h0:I32 r0)(h1:I32 r1)(h2:I32 r2)(w:World):Calls PP 62 #[.agg #[.i a.m.a0,.i a.m.a1,.i a.m.a2,.i a.m.a3,.i a.m.a4,.i a.m.a5,.i a.m.a6,.i a.m.a7,.i a.m.a8,.i a.n],.agg #[.int .i32 r0,.int .i32 r1,.int .i32 r2],.i t] w fun e w'=>e= .returned (.tuple #[.agg #[.i (zaF a (yv r0 t) (yv r1 t) (yv r2 t)).m.a0,.i (zaF a (yv r0 t) (yv r1 t) (yv r2 t)).m.a1,.i (zaF a (yv r0 t) (yv r1 t) (yv r2 t)).m.a2,.i (zaF a (yv r0 t) (yv r1 t) (yv r2 t)).m.a3,.i (zaF a (yv r0 t) (yv r1 t) (yv r2 t)).m.a4,.i (zaF a (yv r0 t) (yv r1 t) (yv r2 t)).m.a5,.i (zaF a (yv r0 t) (yv r1 t) (yv r2 t)).m.a6,.i (zaF a (yv r0 t) (yv r1 t) (yv r2 t)).m.a7,.i (zaF a (yv r0 t) (yv r1 t) (yv r2 t)).m.a8,.i (zaF a (yv r0 t) (yv r1 t) (yv r2 t)).n],.bool (zri a.m (yv r0 t) (yv r1 t) (yv r2 t))])/\Below w.heap.size w w':=by
 refine yc.plain (zHr 200) [.agg #[.i a.m.a0,.i a.m.a1,.i a.m.a2,.i a.m.a3,.i a.m.a4,.i a.m.a5,.i a.m.a6,.i a.m.a7,.i a.m.a8,.i a.n],.agg #[.int .i32 r0,.int .i32 r1,.int .i32 r2],.i t] _ ?_ w;obtain⟨hq,q0,q1,q2,q3,q4,q5,q6,q7,q8,q9,q10⟩:=zUN 200 (Nat.le_refl _) hM hn h0 h1 h2;have e:zz zl9 zBJ yp 200 [.v (.agg #[.i a.m.a0,.i a.m.a1,.i a.m.a2,.i a.m.a3,.i a.m.a4,.i a.m.a5,.i a.m.a6,.i a.m.a7,.i a.m.a8,.i a.n]),.v (.agg #[.int .i32 r0,.int .i32 r1,.int .i32 r2]),.v (.i t)]=some (yp.ok 200 a.m.a0 a.m.a1 a.m.a2 a.m.a3 a.m.a4 a.m.a5 a.m.a6 a.m.a7 a.m.a8 a.n r0 r1 r2 t,.v (.tuple #[.agg #[.i (yp.i 0 200 a.m.a0 a.m.a1 a.m.a2 a.m.a3 a.m.a4 a.m.a5 a.m.a6 a.m.a7 a.m.a8 a.n r0 r1 r2 t),.i (yp.i 1 200 a.m.a0 a.m.a1 a.m.a2 a.m.a3 a.m.a4 a.m.a5 a.m.a6 a.m.a7 a.m.a8 a.n r0 r1 r2 t),.i (yp.i 2 200 a.m.a0 a.m.a1 a.m.a2 a.m.a3 a.m.a4 a.m.a5 a.m.a6 a.m.a7 a.m.a8 a.n r0 r1 r2 t),.i (yp.i 3 200 a.m.a0 a.m.a1 a.m.a2 a.m.a3 a.m.a4 a.m.a5 a.m.a6 a.m.a7 a.m.a8 a.n r0 r1 r2 t),.i (yp.i 4 200 a.m.a0 a.m.a1 a.m.a2 a.m.a3 a.m.a4 a.m.a5 a.m.a6 a.m.a7 a.m.a8 a.n r0 r1 r2 t),.i (yp.i 5 200 a.m.a0 a.m.a1 a.m.a2 a.m.a3 a.m.a4 a.m.a5 a.m.a6 a.m.a7 a.m.a8 a.n r0 r1 r2 t),.i (yp.i 6 200 a.m.a0 a.m.a1 a.m.a2 a.m.a3 a.m.a4 a.m.a5 a.m.a6 a.m.a7 a.m.a8 a.n r0 r1 r2 t),.i (yp.i 7 200 a.m.a0 a.m.a1 a.m.a2 a.m.a3 a.m.a4 a.m.a5 a.m.a6 a.m.a7 a.m.a8 a.n r0 r1 r2 t),.i (yp.i 8 200 a.m.a0 a.m.a1 a.m.a2 a.m.a3 a.m.a4 a.m.a5 a.m.a6 a.m.a7 a.m.a8 a.n r0 r1 r2 t),.i (yp.i 9 200 a.m.a0 a.m.a1 a.m.a2 a.m.a3 a.m.a4 a.m.a5 a.m.a6 a.m.a7 a.m.a8 a.n r0 r1 r2 t)],.bool (yp.b 10 200 a.m.a0 a.m.a1 a.m.a2 a.m.a3 a.m.a4 a.m.a5 a.m.a6 a.m.a7 a.m.a8 a.n r0 r1 r2 t)])):=kfz
 rw [hq,q0,q1,q2,q3,q4,q5,q6,q7,q8,q9,q10]at e;exact zdE e
theorem zLY{a:Att}(hM:MI a.m){v0 v1 v2:Int}(h0:I32 v0)(h1:I32 v1)(h2:I32 v2)(w:World):Calls PP 63 #[.agg #[.i a.m.a0,.i a.m.a1,.i a.m.a2,.i a.m.a3,.i a.m.a4,.i a.m.a5,.i a.m.a6,.i a.m.a7,.i a.m.a8,.i a.n],.agg #[.int .i32 v0,.int .i32 v1,.int .i32 v2]] w fun e w'=>e= .returned (.tuple #[.agg #[.i (zh (jA a.m.a0 a.m.a1 a.m.a2 (wid v0) (wid v1) (wid v2))),.i (zh (jA a.m.a3 a.m.a4 a.m.a5 (wid v0) (wid v1) (wid v2))),.i (zh (jA a.m.a6 a.m.a7 a.m.a8 (wid v0) (wid v1) (wid v2)))],.bool (zw (jA a.m.a0 a.m.a1 a.m.a2 (wid v0) (wid v1) (wid v2))||zw (jA a.m.a3 a.m.a4 a.m.a5 (wid v0) (wid v1) (wid v2))||zw (jA a.m.a6 a.m.a7 a.m.a8 (wid v0) (wid v1) (wid v2)))])/\Below w.heap.size w w':=by
 refine yc.plain (zHo 200) [.agg #[.i a.m.a0,.i a.m.a1,.i a.m.a2,.i a.m.a3,.i a.m.a4,.i a.m.a5,.i a.m.a6,.i a.m.a7,.i a.m.a8,.i a.n],.agg #[.int .i32 v0,.int .i32 v1,.int .i32 v2]] _ ?_ w;obtain⟨hq,q0,q1,q2,q3⟩:=zU1 200 (Nat.le_refl _) hM h0 h1 h2;have e:zz zl8 zpz zaj 200 [.v (.agg #[.i a.m.a0,.i a.m.a1,.i a.m.a2,.i a.m.a3,.i a.m.a4,.i a.m.a5,.i a.m.a6,.i a.m.a7,.i a.m.a8,.i a.n]),.v (.agg #[.int .i32 v0,.int .i32 v1,.int .i32 v2])]=some (zaj.ok 200 a.m.a0 a.m.a1 a.m.a2 a.m.a3 a.m.a4 a.m.a5 a.m.a6 a.m.a7 a.m.a8 a.n v0 v1 v2,.v (.tuple #[.agg #[.i (zaj.i 0 200 a.m.a0 a.m.a1 a.m.a2 a.m.a3 a.m.a4 a.m.a5 a.m.a6 a.m.a7 a.m.a8 a.n v0 v1 v2),.i (zaj.i 1 200 a.m.a0 a.m.a1 a.m.a2 a.m.a3 a.m.a4 a.m.a5 a.m.a6 a.m.a7 a.m.a8 a.n v0 v1 v2),.i (zaj.i 2 200 a.m.a0 a.m.a1 a.m.a2 a.m.a3 a.m.a4 a.m.a5 a.m.a6 a.m.a7 a.m.a8 a.n v0 v1 v2)],.bool (zaj.b 3 200 a.m.a0 a.m.a1 a.m.a2 a.m.a3 a.m.a4 a.m.a5 a.m.a6 a.m.a7 a.m.a8 a.n v0 v1 v2)])):=kfz
 rw [hq,q0,q1,q2,q3]at e;exact zdE e
theorem zLZ{a0 a1 a2 a3 a4 a5:Int}(h0:zr a0)(h1:zr a1)(h2:zr a2)(h3:zr a3)(h4:zr a4)(h5:zr a5)(w:World):Calls PP 64 #[.agg #[.i a0,.i a1,.i a2],.agg #[.i a3,.i a4,.i a5]] w fun e w'=>e= .returned (.tuple #[.agg #[.i (zh (a0-a3)),.i (zh (a1-a4)),.i (zh (a2-a5))],.bool (zw (a0-a3)||zw (a1-a4)||zw (a2-a5))])/\Below w.heap.size w w':=by
 refine yc.plain (zyj 200) [.agg #[.i a0,.i a1,.i a2],.agg #[.i a3,.i a4,.i a5]] _ ?_ w;obtain⟨hq,q0,q1,q2,q3⟩:=zO7 200 (Nat.le_refl _) h0 h1 h2 h3 h4 h5;have e:zz zky ki6 jo 200 [.v (.agg #[.i a0,.i a1,.i a2]),.v (.agg #[.i a3,.i a4,.i a5])]=some (jo.ok 200 a0 a1 a2 a3 a4 a5,.v (.tuple #[.agg #[.i (jo.i 0 200 a0 a1 a2 a3 a4 a5),.i (jo.i 1 200 a0 a1 a2 a3 a4 a5),.i (jo.i 2 200 a0 a1 a2 a3 a4 a5)],.bool (jo.b 3 200 a0 a1 a2 a3 a4 a5)])):=kfz;rw [hq,q0,q1,q2,q3]at e;exact zdE e
theorem zta{a0 a1 a2 a3 a4 a5:Int}(h0:zr a0)(h1:zr a1)(h2:zr a2)(h3:zr a3)(h4:zr a4)(h5:zr a5)(w:World):Calls PP 66 #[.agg #[.i a0,.i a1,.i a2],.agg #[.i a3,.i a4,.i a5]] w fun e w'=>e= .returned (.tuple #[.agg #[.i (zh (a0+a3)),.i (zh (a1+a4)),.i (zh (a2+a5))],.bool (zw (a0+a3)||zw (a1+a4)||zw (a2+a5))])/\Below w.heap.size w w':=by
 refine yc.plain (zLW 200) [.agg #[.i a0,.i a1,.i a2],.agg #[.i a3,.i a4,.i a5]] _ ?_ w;obtain⟨hq,q0,q1,q2,q3⟩:=zU0 200 (Nat.le_refl _) h0 h1 h2 h3 h4 h5;have e:zz zou ki6 zbr 200 [.v (.agg #[.i a0,.i a1,.i a2]),.v (.agg #[.i a3,.i a4,.i a5])]=some (zbr.ok 200 a0 a1 a2 a3 a4 a5,.v (.tuple #[.agg #[.i (zbr.i 0 200 a0 a1 a2 a3 a4 a5),.i (zbr.i 1 200 a0 a1 a2 a3 a4 a5),.i (zbr.i 2 200 a0 a1 a2 a3 a4 a5)],.bool (zbr.b 3 200 a0 a1 a2 a3 a4 a5)])):=kfz;rw [hq,q0,q1,q2,q3]at e;exact zdE e
theorem zun{a0 a1 a2 a3:Int}(h0:zr a0)(h1:zr a1)(h2:zr a2)(h3:zr a3)(w:World):Calls PP 65 #[.agg #[.i a0,.i a1,.i a2],.i a3] w fun e w'=>e= .returned (.tuple #[.agg #[.i (zh (pr a0 a3)),.i (zh (pr a1 a3)),.i (zh (pr a2 a3))],.bool (zw (pr a0 a3)||zw (pr a1 a3)||zw (pr a2 a3))])/\Below w.heap.size w w':=by
 refine yc.plain (zue 200) [.agg #[.i a0,.i a1,.i a2],.i a3] _ ?_ w;obtain⟨hq,q0,q1,q2,q3⟩:=zEj 200 (Nat.le_refl _) h0 h1 h2 h3;have e:zz zf4 ki4 yH 200 [.v (.agg #[.i a0,.i a1,.i a2]),.v (.i a3)]=some (yH.ok 200 a0 a1 a2 a3,.v (.tuple #[.agg #[.i (yH.i 0 200 a0 a1 a2 a3),.i (yH.i 1 200 a0 a1 a2 a3),.i (yH.i 2 200 a0 a1 a2 a3)],.bool (yH.b 3 200 a0 a1 a2 a3)])):=kfz;rw [hq,q0,q1,q2,q3]at e;exact zdE e
theorem zL0{a0 a1 a2 a3 a4 a5:Int}(h0:zr a0)(h1:zr a1)(h2:zr a2)(h3:zr a3)(h4:zr a4)(h5:zr a5)(w:World):Calls PP 114 #[.agg #[.i a0,.i a1,.i a2],.agg #[.i a3,.i a4,.i a5]] w fun e w'=>e= .returned (.tuple #[.i (zh (jA a0 a1 a2 a3 a4 a5)),.bool (zw (jA a0 a1 a2 a3 a4 a5))])/\Below w.heap.size w w':=by
 refine yc.plain (zsM 200) [.agg #[.i a0,.i a1,.i a2],.agg #[.i a3,.i a4,.i a5]] _ ?_ w;obtain⟨hq,q0,q1⟩:=zAN 200 (Nat.le_refl _) h0 h1 h2 h3 h4 h5;have e:zz zg2 ki6 yz 200 [.v (.agg #[.i a0,.i a1,.i a2]),.v (.agg #[.i a3,.i a4,.i a5])]=some (yz.ok 200 a0 a1 a2 a3 a4 a5,.v (.tuple #[.i (yz.i 0 200 a0 a1 a2 a3 a4 a5),.bool (yz.b 1 200 a0 a1 a2 a3 a4 a5)])):=kfz;rw [hq,q0,q1]at e;exact zdE e
theorem zkN{a b c:Int}(ha:zr a)(hb:zr b)(hc:zr c)(w:World):Calls PP 69 #[.i a,.i b,.i c] w fun e w'=>e= .returned (.tuple #[.i (zh (zh (a-b)-c)),.bool (zw (a-b)||zw (zh (a-b)-c))])/\Below w.heap.size w w':=by
 refine yc.plain (zHW 200) [.i a,.i b,.i c] _ ?_ w;obtain⟨hq,q0,q1⟩:=zRn 200 (Nat.le_refl _) ha hb hc;have e:zz zmj ki3 zcn 200 [.v (.i a),.v (.i b),.v (.i c)]=some (zcn.ok 200 a b c,.v (.tuple #[.i (zcn.i 0 200 a b c),.bool (zcn.b 1 200 a b c)])):=kfz;rw [hq,q0,q1]at e;exact zdE e
theorem ztb{a:Att}(hM:MI a.m)(w:World):Calls PP 70 #[.agg #[.i a.m.a0,.i a.m.a1,.i a.m.a2,.i a.m.a3,.i a.m.a4,.i a.m.a5,.i a.m.a6,.i a.m.a7,.i a.m.a8,.i a.n]] w fun e w'=>e= .returned (.int .u32 (zcQ a.m.a3 a.m.a0))/\Below w.heap.size w w':=by
 refine yc.plain (zzi 200) [.agg #[.i a.m.a0,.i a.m.a1,.i a.m.a2,.i a.m.a3,.i a.m.a4,.i a.m.a5,.i a.m.a6,.i a.m.a7,.i a.m.a8,.i a.n]] _ ?_ w;obtain⟨hq,q0⟩:=zHt 200 (Nat.le_refl _) hM;have e:zz zgz zmy zco 200 [.v (.agg #[.i a.m.a0,.i a.m.a1,.i a.m.a2,.i a.m.a3,.i a.m.a4,.i a.m.a5,.i a.m.a6,.i a.m.a7,.i a.m.a8,.i a.n])]=some (zco.ok 200 a.m.a0 a.m.a1 a.m.a2 a.m.a3 a.m.a4 a.m.a5 a.m.a6 a.m.a7 a.m.a8 a.n,.v (.int .u32 (zco.i 0 200 a.m.a0 a.m.a1 a.m.a2 a.m.a3 a.m.a4 a.m.a5 a.m.a6 a.m.a7 a.m.a8 a.n))):=kfz;rw [hq,q0]at e;exact zdE e
theorem zDN(a:Att)(w:World):Calls PP 115 #[.agg #[.i a.m.a0,.i a.m.a1,.i a.m.a2,.i a.m.a3,.i a.m.a4,.i a.m.a5,.i a.m.a6,.i a.m.a7,.i a.m.a8,.i a.n],.i 0] w fun e w'=>e= .returned (.agg #[.i a.m.a0,.i a.m.a3,.i a.m.a6])/\Below w.heap.size w w':=by
 refine yc.plain (zBd 200) [.agg #[.i a.m.a0,.i a.m.a1,.i a.m.a2,.i a.m.a3,.i a.m.a4,.i a.m.a5,.i a.m.a6,.i a.m.a7,.i a.m.a8,.i a.n],.i 0] _ ?_ w;obtain⟨hq,q0,q1,q2⟩:=zOr 200 (Nat.le_refl _) a.m a.n;have e:zz zie zpA zan 200 [.v (.agg #[.i a.m.a0,.i a.m.a1,.i a.m.a2,.i a.m.a3,.i a.m.a4,.i a.m.a5,.i a.m.a6,.i a.m.a7,.i a.m.a8,.i a.n]),.v (.i 0)]=some (zan.ok 200 a.m.a0 a.m.a1 a.m.a2 a.m.a3 a.m.a4 a.m.a5 a.m.a6 a.m.a7 a.m.a8 a.n 0,.v (.agg #[.i (zan.i 0 200 a.m.a0 a.m.a1 a.m.a2 a.m.a3 a.m.a4 a.m.a5 a.m.a6 a.m.a7 a.m.a8 a.n 0),.i (zan.i 1 200 a.m.a0 a.m.a1 a.m.a2 a.m.a3 a.m.a4 a.m.a5 a.m.a6 a.m.a7 a.m.a8 a.n 0),.i (zan.i 2 200 a.m.a0 a.m.a1 a.m.a2 a.m.a3 a.m.a4 a.m.a5 a.m.a6 a.m.a7 a.m.a8 a.n 0)])):=kfz
 rw [hq,q0,q1,q2]at e;exact zdE e
theorem zOt{a b:Int}(ha:U32 a)(hb:U32 b)(w:World):Calls PP 71 #[.int .u32 a,.int .u32 b] w fun e w'=>e= .returned (.int .i32 (zee a b))/\Below w.heap.size w w':=by
 refine yc.plain (zKr 200) [.int .u32 a,.int .u32 b] _ ?_ w;obtain⟨hq,q0⟩:=zWx 200 ha hb;have e:zz zn4 ki2 zeo 200 [.v (.int .u32 a),.v (.int .u32 b)]=some (zeo.ok 200 a b,.v (.int .i32 (zeo.i 0 200 a b))):=kfz;rw [hq,q0]at e;exact zdE e
theorem zHX{x:Int}(h:I32 x)(w:World):Calls PP 73 #[.int .i32 x] w fun e w'=>e= .returned (.i (wid x))/\Below w.heap.size w w':=by
 refine yc.plain (zuj 200) [.int .i32 x] _ ?_ w;obtain⟨hq,q0⟩:=zwj 200 h;have e:zz zga ki jS 200 [.v (.int .i32 x)]=some (jS.ok 200 x,.v (.i (jS.i 0 200 x))):=kfz;rw [hq,q0]at e;exact zdE e
theorem zHY{g s l h c0 c1 c2 la o0 o1 o2 n t:Int}(hs:zr s)(hl:zr l)(ho0:zr o0)(ho1:zr o1)(ho2:zr o2)(hp:zxE g s l h c0 c1 c2 la n t)(w:World):Calls PP 74 #[.agg #[.i g,.i s,.i l,.i h],.agg #[.i c0,.i c1,.i c2,.i la],.agg #[.i o0,.i o1,.i o2],.i n,.i t] w fun e w'=>e= .returned (.tuple #[.agg #[.i (axV n 0 (ji g s l c0 o0) c0),.i (axV n 1 (ji g s l c1 o1) c1),.i (axV n 2 (ji g s l c2 o2) c2),.i t],.i 0])/\Below w.heap.size w w':=by
 refine yc.plain (zHN 200) [.agg #[.i g,.i s,.i l,.i h],.agg #[.i c0,.i c1,.i c2,.i la],.agg #[.i o0,.i o1,.i o2],.i n,.i t] _ ?_ w;obtain⟨hq,q0,q1,q2,q3,q4⟩:=zHM 200 _ _ _ _ _ _ _ _ _ _ _ _ _ (zN8 200 (Nat.le_refl _) hs hl ho0 ho1 ho2 hp);have e:zz zmh zpz zbF 200 [.v (.agg #[.i g,.i s,.i l,.i h]),.v (.agg #[.i c0,.i c1,.i c2,.i la]),.v (.agg #[.i o0,.i o1,.i o2]),.v (.i n),.v (.i t)]=some (zbF.ok 200 g s l h c0 c1 c2 la o0 o1 o2 n t,.v (.tuple #[.agg #[.i (zbF.i 0 200 g s l h c0 c1 c2 la o0 o1 o2 n t),.i (zbF.i 1 200 g s l h c0 c1 c2 la o0 o1 o2 n t),.i (zbF.i 2 200 g s l h c0 c1 c2 la o0 o1 o2 n t),.i (zbF.i 3 200 g s l h c0 c1 c2 la o0 o1 o2 n t)],.i (zbF.i 4 200 g s l h c0 c1 c2 la o0 o1 o2 n t)])):=kfz
 rw [hq,q0,q1,q2,q3,q4]at e;exact zdE e
theorem zHZ{g s l h c0 c1 c2 la t:Int}(hs:zr s)(hl:zr l)(hp:zxF g s l h c0 c1 c2 la t)(w:World):Calls PP 75 #[.agg #[.i g,.i s,.i l,.i h],.agg #[.i c0,.i c1,.i c2,.i la],.i t] w fun e w'=>e= .returned (.tuple #[.agg #[.i (fdV s h la t c0),.i (fdV s h la t c1),.i (fdV s h la t c2),.i la],.i 0])/\Below w.heap.size w w':=by
 refine yc.plain (zHK 200) [.agg #[.i g,.i s,.i l,.i h],.agg #[.i c0,.i c1,.i c2,.i la],.i t] _ ?_ w;obtain⟨hq,q0,q1,q2,q3,q4⟩:=zHJ 200 _ _ _ _ _ _ _ _ _ (zOc 200 (Nat.le_refl _) hs hl hp);have e:zz zmf ki9 zbE 200 [.v (.agg #[.i g,.i s,.i l,.i h]),.v (.agg #[.i c0,.i c1,.i c2,.i la]),.v (.i t)]=some (zbE.ok 200 g s l h c0 c1 c2 la t,.v (.tuple #[.agg #[.i (zbE.i 0 200 g s l h c0 c1 c2 la t),.i (zbE.i 1 200 g s l h c0 c1 c2 la t),.i (zbE.i 2 200 g s l h c0 c1 c2 la t),.i (zbE.i 3 200 g s l h c0 c1 c2 la t)],.i (zbE.i 4 200 g s l h c0 c1 c2 la t)])):=kfz;rw [hq,q0,q1,q2,q3,q4]at e;exact zdE e
theorem zDO{a0 a1 a2 g:Int}(i0:zr a0)(i1:zr a1)(i2:zr a2)(h0:0<=g)(h1:g<=16)(w:World):Calls PP 76 #[.agg #[.i a0,.i a1,.i a2],.i (-g)] w fun e w'=>e= .returned (.tuple #[.agg #[.i (a0/2^g.toNat),.i (a1/2^g.toNat),.i (a2/2^g.toNat)],.bool false])/\Below w.heap.size w w':=by
 refine yc.plain (zDM 200) [.agg #[.i a0,.i a1,.i a2],.i (-g)] _ ?_ w;obtain⟨hq,q0,q1,q2,q3⟩:=zRo 200 (Nat.le_refl _) i0 i1 i2 h0 h1;have e:zz zj0 ki4 zaY 200 [.v (.agg #[.i a0,.i a1,.i a2]),.v (.i (-g))]=some (zaY.ok 200 a0 a1 a2 (-g),.v (.tuple #[.agg #[.i (zaY.i 0 200 a0 a1 a2 (-g)),.i (zaY.i 1 200 a0 a1 a2 (-g)),.i (zaY.i 2 200 a0 a1 a2 (-g))],.bool (zaY.b 3 200 a0 a1 a2 (-g))])):=kfz;rw [hq,q0,q1,q2,q3]at e;exact zdE e
theorem zBp{a b:Int}(ha:zr a)(hb:zr b)(w:World):Calls PP 77 #[.i a,.i b] w fun e w'=>e= .returned (.tuple #[.i (zh (a+b)),.bool (zw (a+b))])/\Below w.heap.size w w':=by
 refine yc.plain (zsv 200) [.i a,.i b] _ ?_ w;obtain⟨hq,q0,q1⟩:=zrl 200 (Nat.le_refl _) ha hb;have e:zz zg1 ki2 yq 200 [.v (.i a),.v (.i b)]=some (yq.ok 200 a b,.v (.tuple #[.i (yq.i 0 200 a b),.bool (yq.b 1 200 a b)])):=kfz;rw [hq,q0,q1]at e;exact zdE e
theorem zws{a g:Int}(ha:zr a)(h0:0<=g)(h1:g<=16)(w:World):Calls PP 79 #[.i a,.i (-g)] w fun e w'=>e= .returned (.tuple #[.i (a/2^g.toNat),.bool false])/\Below w.heap.size w w':=by
 refine yc.plain (zo9 200) [.i a,.i (-g)] _ ?_ w;obtain⟨hq,q0,q1⟩:=zeL 200 (Nat.le_refl _) ha h0 h1;have e:zz zeK ki2 zT 200 [.v (.i a),.v (.i (-g))]=some (zT.ok 200 a (-g),.v (.tuple #[.i (zT.i 0 200 a (-g)),.bool (zT.b 1 200 a (-g))])):=kfz;rw [hq,q0,q1]at e;exact zdE e
theorem zOu{a b:Int}(ha:zr a)(hb:zr b)(w:World):Calls PP 78 #[.i a,.i b] w fun e w'=>e= .returned (.agg #[.i (hi (a*b)),.int .u64 (lo (a*b))])/\Below w.heap.size w w':=by
 refine yc.plain (zkh 200) [.i a,.i b] _ ?_ w;obtain⟨hq,q0,q1⟩:=zAv 200 (Nat.le_refl _) ha hb;have e:zz zem ki2 zF 200 [.v (.i a),.v (.i b)]=some (zF.ok 200 a b,.v (.agg #[.i (zF.i 0 200 a b),.int .u64 (zF.i 1 200 a b)])):=kfz;rw [hq,q0,q1]at e;exact zdE e
theorem zEv{a:Int}(ha:zr a)(w:World):Calls PP 81 #[.i a] w fun e w'=>e= .returned (.agg #[.i (hi a),.int .u64 (lo a)])/\Below w.heap.size w w':=by
 refine yc.plain (ze1 200) [.i a] _ ?_ w;obtain⟨hq,q0,q1⟩:=zso 200 ha;have e:zz zc8 ki zo 200 [.v (.i a)]=some (zo.ok 200 a,.v (.agg #[.i (zo.i 0 200 a),.int .u64 (zo.i 1 200 a)])):=kfz;rw [hq,q0,q1]at e;exact zdE e
theorem zyv(x y:Int)(w:World):Calls PP 80 #[.agg #[.i (hi x),.int .u64 (lo x)],.agg #[.i (hi y),.int .u64 (lo y)]] w fun e w'=>e= .returned (.agg #[.i (hi (x+y)),.int .u64 (lo (x+y))])/\Below w.heap.size w w':=by
 refine yc.plain (zcF 200) [.agg #[.i (hi x),.int .u64 (lo x)],.agg #[.i (hi y),.int .u64 (lo y)]] _ ?_ w;obtain⟨hq,q0,q1⟩:=zfN 200 (Nat.le_refl _) x y;have e:zz zbP ki4 ze 200 [.v (.agg #[.i (hi x),.int .u64 (lo x)]),.v (.agg #[.i (hi y),.int .u64 (lo y)])]=some (ze.ok 200 (hi x) (lo x) (hi y) (lo y),.v (.agg #[.i (ze.i 0 200 (hi x) (lo x) (hi y) (lo y)),.int .u64 (ze.i 1 200 (hi x) (lo x) (hi y) (lo y))])):=kfz;rw [hq,q0,q1]at e;exact zdE e
theorem zL1{x:Int}(hx:zcr x)(w:World):Calls PP 82 #[.agg #[.i (hi x),.int .u64 (lo x)]] w fun e w'=>e= .returned (.tuple #[.i (zh x),.bool (zw x)])/\Below w.heap.size w w':=by
 refine yc.plain (zql 200) [.agg #[.i (hi x),.int .u64 (lo x)]] _ ?_ w;obtain⟨hq,q0,q1⟩:=zFj 200 hx;have e:zz zft ki2 yJ 200 [.v (.agg #[.i (hi x),.int .u64 (lo x)])]=some (yJ.ok 200 (hi x) (lo x),.v (.tuple #[.i (yJ.i 0 200 (hi x) (lo x)),.bool (yJ.b 1 200 (hi x) (lo x))])):=kfz;rw [hq,q0,q1]at e;exact zdE e
theorem zBq(w:World):Calls PP 25 #[] w fun e w'=>e= .returned (.agg #[.i zcH.m.a0,.i zcH.m.a1,.i zcH.m.a2,.i zcH.m.a3,.i zcH.m.a4,.i zcH.m.a5,.i zcH.m.a6,.i zcH.m.a7,.i zcH.m.a8,.i zcH.n])/\Below w.heap.size w w':=by
 refine yc.plain (zK2 200) [] _ ?_ w;obtain⟨hq,q0,q1,q2,q3,q4,q5,q6,q7,q8,q9⟩:=zWG 200;have e:zz zog k0 yQ 200 []=some (yQ.ok 200,.v (.agg #[.i (yQ.i 0 200),.i (yQ.i 1 200),.i (yQ.i 2 200),.i (yQ.i 3 200),.i (yQ.i 4 200),.i (yQ.i 5 200),.i (yQ.i 6 200),.i (yQ.i 7 200),.i (yQ.i 8 200),.i (yQ.i 9 200)])):=kfz;rw [hq,q0,q1,q2,q3,q4,q5,q6,q7,q8,q9]at e;exact zdE e
theorem zL2(x:Int)(w:World):Calls PP 26 #[.i x,.i 12] w fun e w'=>e= .returned (.i (x%18446744073709551616%12))/\Below w.heap.size w w':=by
 refine yc.plain (zGz 200) [.i x,.i 12] _ ?_ w;obtain⟨hq,q0⟩:=zRp 200 x;have e:zz zlT ki2 zdL 200 [.v (.i x),.v (.i 12)]=some (zdL.ok 200 x 12,.v (.i (zdL.i 0 200 x 12))):=kfz;rw [hq,q0]at e;exact zdE e
end Go.Xv
namespace Go.Xv
def zpq:Cfg:=⟨[0,1,2,3,4,13,18,75],[(0,[0,1,2,3,5,6,7,8,9,10,11,12,13])],[],[]⟩
def zge:Sg:=⟨[.agg [.i,.i,.i,.i,.fs .hole .hole 7]],.i⟩
def zpr(ym:Qi4)(F:Nat):=zS [(58,zz zf8 ki4 ym F)]
def zgE:TS:=⟨[(0,.agg [.i,.i,.i,.i,.fs .hole .hole 7]),(1,.lp 0 (.lit 0)),(2,.i),(3,.i)],[(0,⟨(.ex [.i,.i,.i,.i,.fs .hole .hole 7]),false⟩)],1⟩
def zwt:TS:=⟨[(0,.agg [.i,.i,.i,.i,.fs .hole .hole 7]),(1,.lp 0 (.lit 0)),(2,.i),(3,.i),(4,.lp 1 (.lit 0))],[(0,⟨(.ex [.i,.i,.i,.i,.fs .hole .hole 7]),false⟩),(1,⟨(.ex [.i,.i,.i,.i,.i,.i,.i]),true⟩)],2⟩
def zwu:TS:=zgE
def zji(ym:Qi4)(F:Nat)(E:FT zbO)(h:FT zdR)(B:FT zbO):FT zbO:=fun v w x y z f n C l r d e g a c b=>bif(decide (l<((b:Nat):Int)))then bif((decide (0<=l))&&(decide (l<((b:Nat):Int))))then let A:Nat:=c+((Int.toNat l)*7);bif((isI .i64 a[A]?)&&((isI .i64 a[(A+1)]?)&&((isI .i64 a[((A+1)+1)]?)&&((isI .i64 a[(((A+1)+1)+1)]?)&&((isI .i64 a[((((A+1)+1)+1)+1)]?)&&((isI .i64 a[(((((A+1)+1)+1)+1)+1)]?)&&((isI .i64 a[((((((A+1)+1)+1)+1)+1)+1)]?)&&true)))))))then let j:Int:=iv a[A]?;let m:Int:=iv a[(A+1)]?;let o:Int:=iv a[((A+1)+1)]?;let p:Int:=iv a[(((A+1)+1)+1)]?;let s:Int:=iv a[((((A+1)+1)+1)+1)]?;let t:Int:=iv a[(((((A+1)+1)+1)+1)+1)]?;let u:Int:=iv a[((((((A+1)+1)+1)+1)+1)+1)]?;bif(decide (j<0))then h v w x y z f n 2 l r d e g a c b j m o p s t u else bif(decide (j>7))then h v w x y z f n 2 l r d e g a c b j m o p s t u else bif(decide (l>0))then let D:Int:=wrap .i64 (l-1);bif((decide (0<=D))&&(decide (D<((b:Nat):Int))))then let G:Nat:=c+((Int.toNat D)*7);bif((isI .i64 a[G]?)&&true)then bif(decide (j<=(iv a[G]?)))then h v w x y z f n 2 l r d e g a c b j m o p s t u else bif(decide (m<2))then h v w x y z f n 2 l r d e g a c b j m o p s t u else bif(decide (m>5))then h v w x y z f n 2 l r d e g a c b j m o p s t u else bif(decide (o<0))then h v w x y z f n 2 l r d e g a c b j m o p s t u else bif(decide (o>16))then h v w x y z f n 2 l r d e g a c b j m o p s t u else bif(ym.ok F p s t u)then bif((ym.i 0 F p s t u) !=0)then h v w x y z f n 2 l r d e g a c b j m o p s t u else E v w x y z f n C (wrap .i64 (l+1)) r d e g a c b else none else none else none else bif(decide (m<2))then h v w x y z f n 2 l r d e g a c b j m o p s t u else bif(decide (m>5))then h v w x y z f n 2 l r d e g a c b j m o p s t u else bif(decide (o<0))then h v w x y z f n 2 l r d e g a c b j m o p s t u else bif(decide (o>16))then h v w x y z f n 2 l r d e g a c b j m o p s t u else bif(ym.ok F p s t u)then bif((ym.i 0 F p s t u) !=0)then h v w x y z f n 2 l r d e g a c b j m o p s t u else E v w x y z f n C (wrap .i64 (l+1)) r d e g a c b else none else none else none else B v w x y z f n C l r d e g a c b
def zlb:=zji ym
def jO(F:Nat)(a:FT zdR)(b:FT zbO):Nat->FT zbO:=lY fun c=>zlb F c a b
theorem zzu{F n}{a}{b}:jO F a b (n+1)=zlb F (jO F a b n) a b:=rfl
def ziz(k:Exit->VS->R):FT zdR:=cQ _ fun q=>k .ret (fS zwt q)
def ziA(k:Exit->VS->R):FT zbO:=cQ _ fun q=>k (.exit 0) (fS zwu q)
def zgf(jO:Nat->FT zdR->FT zbO->Nat->FT zbO)(F:Nat):List LW:=[⟨0,zgE,fun k q=>uQ _ (jO F (ziz k) (ziA k) F) q⟩]
theorem zxI(F:Nat)(k:Exit->VS->R):∀n q,iQ PP (zpr ym F) zpq (zgf jO F) [] 24 0 0 k n zgE q=uQ _ (jO F (ziz k) (ziA k) n) q:=
 lG (fun _=>by kernel_rfl) ((hzz:∀(ym:Qi4) (jO:Nat->FT zdR->FT zbO->Nat->FT zbO),LH PP (zpr ym F) zpq (zgf jO F) [] 24 0 0 k zgE (fun a=>zji ym F a (ziz k) (ziA k))) ym jO)
def znq(jO:Nat->FT zdR->FT zbO->Nat->FT zbO)(F:Nat):FT zwQ:=fun d e g a h l b=>bif(decide (a<0))then some (.v (.i 2))else bif(decide (((b:Nat):Int)>8))then some (.v (.i 2))else jO F (fun m o p s t u w c x y z f n r j A B C D E G H I=>some (.v (.i c))) (fun J K L M N O P Q T U V X Y Z v47 v48=>some (.v (.i 0))) F d e g a h l b 0 0 d e g a h l b
def zj1:=znq jO
def zdY:zWa:=mkQ (l:=zwQ) zge.o zj1
theorem zDP(ym:Qi4)(jO:Nat->FT zdR->FT zbO->Nat->FT zbO)(F:Nat):HHz zge zwQ (zpr ym F) zpq (zgf jO F) 24 (znq jO F):=hzz
theorem zDQ(F:Nat)(a b c d:Int)(e:List VV)(g h:Nat):KO0 (zj1 F a b c d e g h) (zdY.ok F a b c d e g h) (zdY.i 0 F a b c d e g h):=ko0 _
theorem zDR(F:Nat):yc PP 24 (unS (zz zge zwQ zdY F)):=
 gzl (W:=zgf jO) F (zDP ym jO F) (zd (zuh F) zn) (jP [(0,zaK PP 24 0)] kfz (zd (jZ (zgf jO F) rfl (yn (fun _ k q=>Le.ofEq (zxI F k F q).symm) jY)) zn))
end Go.Xv
namespace Go.Xv
open Go.RowKit
def adV(a:AD):List VV:=[.v (.i a.src),.v (.i a.kd),.v (.i a.wt),.v (.i a.gain),.v (.i a.step),.v (.i a.limit),.v (.i a.hor)]
def zeW(l:List AD):List VV:=l.flatMap adV
theorem zeO:∀{l:List AD} {j:Nat} {a:AD},l[j]? =some a->∀k,k<7->(zeW l)[j*7+k]? =(adV a)[k]?
 |[],_,_,h,_,_=>by simp at h
 |b::r,0,a,h,k,hk=>by
  cases h;show(adV b++zeW r)[0*7+k]? =_;rw [List.getElem?_append_left (by simp [adV];omega),Nat.zero_mul,Nat.zero_add]
 |b::r,j+1,a,h,k,hk=>by
  show(adV b++zeW r)[(j+1)*7+k]? =_;rw [List.getElem?_append_right (by simp [adV];omega),show(j+1)*7+k-(adV b).length=j*7+k by simp [adV];omega];exact zeO (l:=r) h k hk
theorem zRq(l:List AD):(zeW l).length=l.length*7:=by
 induction l with
 |nil=>rfl
 |cons a r ih=>
  show(adV a++zeW r).length=_;rw [List.length_append,ih];simp [adV];omega
theorem zL4(k:IntKind)(n:Int):isI k (some (.v (.int k n)))=true:=by simp [isI]
theorem zPr(k:IntKind)(n:Int):iv (some (.v (.int k n)))=n:=rfl
theorem zTm(F:Nat)(hF:200<=F)(g0 g1 g2 d:Int)(ads:List AD)(h8:ads.length<=8)(r:Int)(h1:zkL (-1) ads->r=0)(h2: ¬zkL (-1) ads->r=2):
 ∀(n j:Nat),ads.length<n+j->j<=ads.length->zkL (-1) (ads.take j)->jO F (fun _ _ _ _ _ _ _ v17 _ _ _ _ _ _ _ _ _ _ _ _ _ _ _=>some (.v (.i v17))) (fun _ _ _ _ _ _ _ _ _ _ _ _ _ _ _ _=>some (.v (.i 0))) n g0 g1 g2 d (zeW ads) 0 ads.length 0 (j:Int) g0 g1 g2 d (zeW ads) 0 ads.length=some (.v (.i r)):=by
 intro n;induction n with
 |zero=>intro j h hj _;omega
 |succ n ih=>
  intro j h hj hok;rw [zzu];unfold zlb zji;by_cases hlt:j<ads.length
  ·obtain⟨a,haj⟩:∃a,ads[j]? =some a:=⟨_,List.getElem?_eq_getElem hlt⟩
   have bad:((znm a/\znn (-1) (ads.take j)<a.src)->False)->r=2:=fun hb=>h2 fun h=>hb (by
    have:=zrH (-1) ads (j+1) h;rw [zjZ haj,zgX]at this
    exact this.2)
   obtain⟨p1,p2⟩:=zKX F a.gain a.step a.limit a.hor;have hv:0+Int.toNat (j:Int)*7=j*7:=zc;have e0:(zeW ads)[j*7]? =some (.v (.i a.src)):=zeO haj 0 zc;have e1:(zeW ads)[j*7+1]? =some (.v (.i a.kd)):=zeO haj 1 zc;have e2:(zeW ads)[j*7+1+1]? =some (.v (.i a.wt)):=zeO haj 2 zc;have e3:(zeW ads)[j*7+1+1+1]? =some (.v (.i a.gain)):=zeO haj 3 zc;have e4:(zeW ads)[j*7+1+1+1+1]? =some (.v (.i a.step)):=zeO haj 4 zc;have e5:(zeW ads)[j*7+1+1+1+1+1]? =some (.v (.i a.limit)):=zeO haj 5 zc;have e6:(zeW ads)[j*7+1+1+1+1+1+1]? =some (.v (.i a.hor)):=zeO haj 6 zc;refine bp (dt zc) (bp (by rw [dt (show 0<=(j:Int)from zc),dt (show(j:Int)<(ads.length:Int)from zc)];rfl) ?_)
   dsimp only;simp only [hv,e0,e1,e2,e3,e4,e5,e6,zL4,zPr,Bool.and_true,cond_true];by_cases c1:a.src<0
   ·exact bp (dt c1) (by rw [bad fun q=>by have:=q.1.1;omega])
   refine bn (df c1) ?_;by_cases c2:a.src>7
   ·exact bp (dt c2) (by rw [bad fun q=>by have:=q.1.2.1;omega])
   refine bn (df c2) ?_;by_cases hj0:j=0
   ·subst hj0
    have hls:znn (-1) (ads.take 0)<a.src:=by
     show(-1:Int)<a.src;omega
    refine bn (df zc) ?_;by_cases c3:a.kd<2
    ·exact bp (dt c3) (by rw [bad fun q=>by have:=q.1.2.2.1;omega])
    refine bn (df c3) ?_;by_cases c4:a.kd>5
    ·exact bp (dt c4) (by rw [bad fun q=>by have:=q.1.2.2.2.1;omega])
    refine bn (df c4) ?_;by_cases c5:a.wt<0
    ·exact bp (dt c5) (by rw [bad fun q=>by have:=q.1.2.2.2.2.1;omega])
    refine bn (df c5) ?_;by_cases c6:a.wt>16
    ·exact bp (dt c6) (by rw [bad fun q=>by have:=q.1.2.2.2.2.2.1;omega])
    refine bn (df c6) ?_;refine bp p1 ?_;rw [p2];by_cases c7:zbw a.gain a.step a.limit a.hor
    ·rw [zvc c7]
     refine bn rfl ?_;rw [show wrap .i64 (((0:Nat):Int)+1)=((0+1:Nat):Int) by rw [zH (by unfold zr;omega)];omega];refine ih (0+1) zc zc ?_;rw [zjZ haj,zgX];exact⟨hok,⟨zc,zc,zc,zc,zc,zc,c7⟩,zc⟩
    ·rw [zA4 c7]
     exact bp rfl (by rw [bad fun q=>c7 q.1.2.2.2.2.2.2])
   ·obtain⟨i,rfl⟩:∃i,j=i+1:=⟨j-1,zc⟩
    obtain⟨b,hbi⟩:∃b,ads[i]? =some b:=⟨_,List.getElem?_eq_getElem zc⟩;have hw:wrap .i64 (((i+1:Nat):Int)-1)=(i:Int):=by rw [zH (by unfold zr;omega)];omega
    have hv2:0+Int.toNat (i:Int)*7=i*7:=zc;have e7:(zeW ads)[i*7]? =some (.v (.i b.src)):=zeO hbi 0 zc;have hls0:znn (-1) (ads.take (i+1))=b.src:=by rw [zjZ hbi,zno]
    refine bp (dt zc) ?_;simp only [hw,hv2,e7,zL4,zPr,Bool.and_true,cond_true];refine bp (by rw [dt (show 0<=(i:Int)from zc),dt (show(i:Int)<(ads.length:Int)from zc)];rfl) ?_;by_cases c8:a.src<=b.src
    ·exact bp (dt c8) (by rw [bad fun q=>by have:=q.2;omega])
    refine bn (df c8) ?_;have hls:znn (-1) (ads.take (i+1))<a.src:=zc;by_cases c3:a.kd<2
    ·exact bp (dt c3) (by rw [bad fun q=>by have:=q.1.2.2.1;omega])
    refine bn (df c3) ?_;by_cases c4:a.kd>5
    ·exact bp (dt c4) (by rw [bad fun q=>by have:=q.1.2.2.2.1;omega])
    refine bn (df c4) ?_;by_cases c5:a.wt<0
    ·exact bp (dt c5) (by rw [bad fun q=>by have:=q.1.2.2.2.2.1;omega])
    refine bn (df c5) ?_;by_cases c6:a.wt>16
    ·exact bp (dt c6) (by rw [bad fun q=>by have:=q.1.2.2.2.2.2.1;omega])
    refine bn (df c6) ?_;refine bp p1 ?_;rw [p2];by_cases c7:zbw a.gain a.step a.limit a.hor
    ·rw [zvc c7]
     refine bn rfl ?_;rw [show wrap .i64 (((i+1:Nat):Int)+1)=((i+1+1:Nat):Int) by rw [zH (by unfold zr;omega)];omega];refine ih (i+1+1) zc zc ?_;rw [zjZ haj,zgX];exact⟨hok,⟨zc,zc,zc,zc,zc,zc,c7⟩,zc⟩
    ·rw [zA4 c7]
     exact bp rfl (by rw [bad fun q=>c7 q.1.2.2.2.2.2.2])
  ·refine bn (df zc) ?_
   obtain rfl:j=ads.length:=zc;rw [List.take_length]at hok;rw [h1 hok]
noncomputable def zOv(d:Int)(ads:List AD):Int:= @ite _ (zkM d ads) (Classical.propDecidable _) 0 2
theorem zH0{d:Int}{ads:List AD}(h:zkM d ads):zOv d ads=0:=by unfold zOv;rw [if_pos h]
theorem zwv{d:Int}{ads:List AD}(h: ¬zkM d ads):zOv d ads=2:=by unfold zOv;rw [if_neg h]
theorem zWY(g0 g1 g2 d:Int)(ads:List AD):zj1 200 g0 g1 g2 d (zeW ads) 0 ads.length=some (.v (.i (zOv d ads))):=by
 unfold zj1 znq;by_cases c1:d<0
 ·exact bp (dt c1) (by rw [zwv fun h=>by have:=h.1;omega])
 refine bn (df c1) ?_;by_cases c2:ads.length>8
 ·exact bp (dt zc) (by rw [zwv fun h=>by have:=h.2.1;omega])
 refine bn (df zc) ?_;exact zTm 200 (Nat.le_refl _) g0 g1 g2 d ads zc _ (fun h=>zH0 ⟨zc,zc,h⟩) (fun h=>zwv fun q=>h q.2.2) 200 0 zc zc trivial
theorem zRr{w:World}{p:Option Addr}{ads:List AD}{cap:Nat}(hA:zdn w p ads)(hp:0<cap->∃ab,p=some (.q ab 0))(hc:ads.length<=cap):Rel (fun b=>b<w.heap.size) w zmr (.fs (zeW ads) 0 ads.length 7) (.slice p ads.length cap):=by
 by_cases h0:cap=0
 ·subst h0
  obtain rfl:ads=[]:=List.eq_nil_of_length_eq_zero zc;exact Rel.fs zmr [] 0 0 7 0 0 0 p (fun _=>undef) zc zc jq jq jq
 ·obtain⟨ab,rfl⟩:=hp zc
  have key:∀(i:Nat) (x:VV),(zeW ads)[i]? =some x->∃n,x= .v (.i n)/\w.cell? (.q ab i)=some (.i n):=fun i x hx=>by
   have hi:i<ads.length*7:=by
    have:=(List.getElem?_eq_some_iff.1 hx).1;rwa [zRq]at this
   obtain⟨a,ha⟩:∃a,ads[i/7]? =some a:=⟨_,List.getElem?_eq_getElem zc⟩;have hg:=zeO ha (i%7) zc;rw [show i/7*7+i%7=i from zc,hx]at hg;obtain⟨ab',hab,c0,c1,c2,c3,c4,c5,c6⟩:=hA (i/7) a ha;cases hab;have hm:i%7<7:=zc;have hi7:i=i/7*7+i%7:=zc;generalize i/7=q at*
   generalize i%7=m at*
   subst hi7;rcases m with _|_|_|_|_|_|_|m
   ·exact⟨a.src,by simpa [adV]using hg,c0⟩
   ·exact⟨a.kd,by simpa [adV]using hg,c1⟩
   ·exact⟨a.wt,by simpa [adV]using hg,c2⟩
   ·exact⟨a.gain,by simpa [adV]using hg,c3⟩
   ·exact⟨a.step,by simpa [adV]using hg,c4⟩
   ·exact⟨a.limit,by simpa [adV]using hg,c5⟩
   ·exact⟨a.hor,by simpa [adV]using hg,c6⟩
   ·omega
  refine Rel.fs zmr (zeW ads) 0 ads.length 7 ab 0 cap _ (fun i=>.i (iv (zeW ads)[i]?)) hc (fun _=>rfl) (fun i x hx=> ?_) (fun i x hx=> ?_) (fun i x hx=> ?_)
  ·obtain⟨n,_,h⟩:=key i x hx
   exact World.block_lt_of_cell? w _ h
  ·obtain⟨n,rfl,h⟩:=key i x hx
   rw [hx,Nat.zero_add];exact⟨h,rfl⟩
  ·obtain⟨n,rfl,h⟩:=key i x hx
   rw [hx];rfl
theorem zTn{St:Nat->Prop}{w:World}{a b c d:Int}{x:VV}{v:Value}(h:Rel St w zmr x v):Rel St w zmr (.agg [.v (.i a),.v (.i b),.v (.i c),.v (.i d),x]) (.agg #[.i a,.i b,.i c,.i d,v]):=by
 refine Rel.agg zmr _ _ (fun i=>(#[.i a,.i b,.i c,.i d,v]:Array Value).getD i undef) rfl (fun i y hi=> ?_) (fun i y hi=> ?_)
 ·rcases i with _|_|_|_|_|i<;>first|rfl|simp at hi
 ·rcases i with _|_|_|_|_|i
  ·cases hi;exact .v _ _
  ·cases hi;exact .v _ _
  ·cases hi;exact .v _ _
  ·cases hi;exact .v _ _
  ·cases hi;exact h
  ·simp at hi
theorem zuo(g:V3)(d:Int)(ads:List AD)(rp:Option Addr)(cap:Nat)(w:World)(hA:zdn w rp ads)(hp:0<cap->∃ab,rp=some (.q ab 0))(hc:ads.length<=cap):
 Calls PP 24 #[.agg #[.i g.x,.i g.y,.i g.z,.i d,.slice rp ads.length cap]] w fun e w'=>e= .returned (.i (zOv d ads))/\Below w.heap.size w w':=by
 obtain⟨hq,q0⟩:=zDQ 200 _ _ _ _ _ _ _ (zWY g.x g.y g.z d ads);have e:zz zge zwQ zdY 200 [.agg [.v (.i g.x),.v (.i g.y),.v (.i g.z),.v (.i d),.fs (zeW ads) 0 ads.length 7]]=some (zdY.ok 200 g.x g.y g.z d (zeW ads) 0 ads.length,.v (.i (zdY.i 0 200 g.x g.y g.z d (zeW ads) 0 ads.length))):=kfz;rw [hq,q0]at e;have h:unS (zz zge zwQ zdY 200) [.agg [.v (.i g.x),.v (.i g.y),.v (.i g.z),.v (.i d),.fs (zeW ads) 0 ads.length 7]]=some (.v (.i (zOv d ads))):=by unfold unS;rw [e]
 obtain⟨_,hk⟩:=zDR 200 _ _ h;refine(hk w _ (fun b=>b<w.heap.size) (fun _ h=>h) rfl (fun i x hx=> ?_)).mono ?_
 ·rcases i with _|i
  ·cases hx
   exact⟨_,rfl,zTn (zRr hA hp hc)⟩
  ·simp at hx
 ·rintro e w' ⟨v,rfl,hb,hr⟩
  obtain rfl:=hr.1.v_inv;exact⟨rfl,hb⟩
def cC(ts:List TK)(s:Int):V3:=match zbH ts s with
 |some t=>t.c
 |none=>⟨0,0,0⟩
def cL(ts:List TK)(s:Int):Int:=match zbH ts s with
 |some t=>t.last
 |none=>0
def cP(ts:List TK)(s:Int):Bool:=match zbH ts s with
 |some t=>t.pulled
 |none=>false
def zBr(s:NS):Int:=if s.start= -1 then-1 else s.last
abbrev zOw(p:PS)(sl:Value):Array Value:=#[.i p.s.g0,.i p.s.g1,.i p.s.g2,.i p.s.drift,sl,.i p.s.a.m.a0,.i p.s.a.m.a1,.i p.s.a.m.a2,.i p.s.a.m.a3,.i p.s.a.m.a4,.i p.s.a.m.a5,.i p.s.a.m.a6,.i p.s.a.m.a7,.i p.s.a.m.a8,.i p.s.a.n,.i p.s.v0,.i p.s.v1,.i p.s.v2,.i p.s.p0,.i p.s.p1,.i p.s.p2,.i (cC p.ts 0).x,.i (cC p.ts 0).y,.i (cC p.ts 0).z,.i (cL p.ts 0),.i (cC p.ts 1).x,.i (cC p.ts 1).y,.i (cC p.ts 1).z,.i (cL p.ts 1),.i (cC p.ts 2).x,.i (cC p.ts 2).y,.i (cC p.ts 2).z,.i (cL p.ts 2),.i (cC p.ts 3).x,.i (cC p.ts 3).y,.i (cC p.ts 3).z,.i (cL p.ts 3),.i (cC p.ts 4).x,.i (cC p.ts 4).y,.i (cC p.ts 4).z,.i (cL p.ts 4),.i (cC p.ts 5).x,.i (cC p.ts 5).y,.i (cC p.ts 5).z,.i (cL p.ts 5),.i (cC p.ts 6).x,.i (cC p.ts 6).y,.i (cC p.ts 6).z,.i (cL p.ts 6),.i (cC p.ts 7).x,.i (cC p.ts 7).y,.i (cC p.ts 7).z,.i (cL p.ts 7),.bool (cP p.ts 0),.bool (cP p.ts 1),.bool (cP p.ts 2),.bool (cP p.ts 3),.bool (cP p.ts 4),.bool (cP p.ts 5),.bool (cP p.ts 6),.bool (cP p.ts 7),.i p.s.start,.i (zBr p.s),.i p.s.now,.bool p.s.cut]
abbrev slR(rp:Option Addr)(p:PS)(cap:Nat):Value:=.slice rp p.ts.length cap
structure zaz (w:World) (rb:Nat) (rp:Option Addr) (cap:Nat) (p:PS):Prop where
 blk:w.heap[rb]? =some (.cells (zOw p (slR rp p cap)) 93 (0,0))
 row:∀(i:Nat) (t:TK),p.ts[i]? =some t->∃ab,rp=some (.q ab 0)/\ab≠rb/\w.cell? (.q ab (i*7))=some (.i t.src)/\w.cell? (.q ab (i*7+1))=some (.i t.kd)/\w.cell? (.q ab (i*7+2))=some (.i t.wt)/\w.cell? (.q ab (i*7+3))=some (.i t.gain)/\w.cell? (.q ab (i*7+4))=some (.i t.step)/\w.cell? (.q ab (i*7+5))=some (.i t.limit)/\w.cell? (.q ab (i*7+6))=some (.i t.hor)
theorem zaz.lt{w:World}{rb:Nat}{rp:Option Addr}{cap:Nat}{p:PS}(h:zaz w rb rp cap p):rb<w.heap.size:=(zy h.blk)
def zep(ts ts':List TK):Prop:=ts'.length=ts.length/\∀(i:Nat) (t':TK),ts'[i]? =some t'->∃t,ts[i]? =some t/\t'.src=t.src/\t'.kd=t.kd/\t'.wt=t.wt/\t'.gain=t.gain/\t'.step=t.step/\t'.limit=t.limit/\t'.hor=t.hor
theorem zep.refl(ts:List TK):zep ts ts:=⟨rfl,fun _ t h=>⟨t,h,rfl,rfl,rfl,rfl,rfl,rfl,rfl⟩⟩
theorem zaz.chg{w w':World}{rb:Nat}{rp:Option Addr}{cap:Nat}{p p':PS}(h:zaz w rb rp cap p)(hc:Chg rb w w')(hb:w'.heap[rb]? =some (.cells (zOw p' (slR rp p' cap)) 93 (0,0)))(hs:zep p.ts p'.ts):zaz w' rb rp cap p':=by
 refine⟨hb,fun i t' hi=> ?_⟩;obtain⟨t,h1,e1,e2,e3,e4,e5,e6,e7⟩:=hs.2 i t' hi;obtain⟨ab,h0,hn,c0,c1,c2,c3,c4,c5,c6⟩:=h.row i t h1;have hk:∀{k:Nat} {v:Value},w.cell? (.q ab k)=some v->w'.cell? (.q ab k)=some v:=fun{k v} hh=>(World.cell?_of_block (a:=(.q ab k)) (hc.block ab (World.block_lt_of_cell? w _ hh) hn)).trans hh
 rw [e1,e2,e3,e4,e5,e6,e7];exact⟨ab,h0,hn,hk c0,hk c1,hk c2,hk c3,hk c4,hk c5,hk c6⟩
theorem zaz.below{w w':World}{rb:Nat}{rp:Option Addr}{cap:Nat}{p:PS}(h:zaz w rb rp cap p)(hB:Below w.heap.size w w'):zaz w' rb rp cap p:=
 h.chg (Chg.of hB) ((hB.block rb h.lt).trans h.blk) (zep.refl _)
theorem zEw(rb:Nat)(rp:Option Addr)(cap:Nat)(p:PS)(tk:Int)(w:World)(hR:zaz w rb rp cap p):Calls PP 60 #[ptB rb,.i tk] w fun e w'=>
 (¬(p.s.now<=tk/\tk<=1099511627776)/\e= .returned (.bool false)/\w'=w)\/((p.s.now<=tk/\tk<=1099511627776)/\e= .returned (.bool true)/\zaz w' rb rp cap ⟨{p.s with now:=tk},p.ts⟩/\Chg rb w w'):=by
 have c63:=zi 63 hR.blk rfl;have f63:=zC 63 hR.blk;have hc:Chg rb w (w.setCell (.q rb 63) (.i tk)):=(Chg.refl rb w).setCell 63 _;have hr:zaz (w.setCell (.q rb 63) (.i tk)) rb rp cap ⟨{p.s with now:=tk},p.ts⟩:=hR.chg hc (zf hR.blk) (zep.refl _);by_cases h1:tk<p.s.now
 ·refine Calls.mono (R:=fun e w'=>e= .returned (.bool false)/\w'=w) ?_ (fun e w' h=>.inl ⟨zc,h⟩)
  go_enter Proofs.Tryz.func60,Proofs.Tryz.ntmps60
  go_wp2;go_ret;simp
 ·by_cases h2:1099511627776<tk
  ·refine Calls.mono (R:=fun e w'=>e= .returned (.bool false)/\w'=w) ?_ (fun e w' h=>.inl ⟨zc,h⟩)
   go_enter Proofs.Tryz.func60,Proofs.Tryz.ntmps60
   go_wp2;go_ret;simp
  ·refine Calls.mono (R:=fun e w'=>e= .returned (.bool true)/\w'=w.setCell (.q rb 63) (.i tk)) ?_ (fun e w' h=>.inr ⟨zc,h.1,h.2▸hr,h.2▸hc⟩)
   go_enter Proofs.Tryz.func60,Proofs.Tryz.ntmps60
   go_wp2;go_ret;simp
theorem zcP(rb:Nat)(rp:Option Addr)(cap:Nat)(p:PS)(b:Bool)(w:World)(hR:zaz w rb rp cap p):Calls PP 67 #[ptB rb,.bool b] w fun e w'=>e= .returned (.tuple #[])/\zaz w' rb rp cap ⟨p.s.k b,p.ts⟩/\Chg rb w w':=by
 go_enter Proofs.Tryz.func67,Proofs.Tryz.ntmps67
 have c64:=zi 64 hR.blk rfl;have f64:=zC 64 hR.blk;have hc:∀v,Chg rb w (w.setCell (.q rb 64) v):=fun v=>(Chg.refl rb w).setCell 64 _
 have hb:=hR.blk;cases h:p.s.cut with
 |true=>
  rw [h]at c64;go_wp2;go_end0;rw [show p.s.k b={p.s with cut:=true} by simp [NS.k,h]];exact⟨rfl,hR.chg (hc _) (zf hb) (zep.refl _),hc _⟩
 |false=>
  rw [h]at c64;go_wp2;go_end0;rw [show p.s.k b={p.s with cut:=b} by simp [NS.k,h]];exact⟨rfl,hR.chg (hc _) (zf hb) (zep.refl _),hc _⟩
theorem zww(rb:Nat)(rp:Option Addr)(cap:Nat)(p:PS)(hs:p.s.ok)(w:World)(hR:zaz w rb rp cap p):
 Calls PP 72 #[ptB rb] w fun e w'=>e= .returned (.tuple #[.i (zh (spZ p.s)),.bool (zw (spZ p.s))])/\Below w.heap.size w w':=by
 go_enter Proofs.Tryz.func72,Proofs.Tryz.ntmps72
 have hS:∀w',Below w.heap.size w w'->w'.cell? (.q rb 15)=some (.i p.s.v0)/\w'.cell? (.q rb 16)=some (.i p.s.v1)/\w'.cell? (.q rb 17)=some (.i p.s.v2)/\w'.cell? (.q rb 5)=some (.i p.s.a.m.a0)/\w'.cell? (.q rb 6)=some (.i p.s.a.m.a1)/\w'.cell? (.q rb 7)=some (.i p.s.a.m.a2)/\w'.cell? (.q rb 8)=some (.i p.s.a.m.a3)/\w'.cell? (.q rb 9)=some (.i p.s.a.m.a4)/\w'.cell? (.q rb 10)=some (.i p.s.a.m.a5)/\w'.cell? (.q rb 11)=some (.i p.s.a.m.a6)/\w'.cell? (.q rb 12)=some (.i p.s.a.m.a7)/\w'.cell? (.q rb 13)=some (.i p.s.a.m.a8)/\w'.cell? (.q rb 14)=some (.i p.s.a.n):=fun w' hB=>⟨(hB.cell (p:=(.q rb _)) hR.lt).trans (za hR.blk),(hB.cell (p:=(.q rb _)) hR.lt).trans (za hR.blk),(hB.cell (p:=(.q rb _)) hR.lt).trans (za hR.blk),(hB.cell (p:=(.q rb _)) hR.lt).trans (za hR.blk),(hB.cell (p:=(.q rb _)) hR.lt).trans (za hR.blk),(hB.cell (p:=(.q rb _)) hR.lt).trans (za hR.blk),(hB.cell (p:=(.q rb _)) hR.lt).trans (za hR.blk),(hB.cell (p:=(.q rb _)) hR.lt).trans (za hR.blk),(hB.cell (p:=(.q rb _)) hR.lt).trans (za hR.blk),(hB.cell (p:=(.q rb _)) hR.lt).trans (za hR.blk),(hB.cell (p:=(.q rb _)) hR.lt).trans (za hR.blk),(hB.cell (p:=(.q rb _)) hR.lt).trans (za hR.blk),(hB.cell (p:=(.q rb _)) hR.lt).trans (za hR.blk)⟩
 have hd:Below w.heap.size w w.drew:=⟨rfl,rfl,rfl,Nat.le_refl _,fun _ _=>rfl⟩;obtain⟨i0,i1,i2,i3,i4,i5,i6,i7,i8⟩:=hs.m;have ht:=zDN p.s.a;have hdot:=fun w=>zL0 hs.v0 hs.v1 hs.v2 i0 i3 i6 w
 rw [show jA p.s.v0 p.s.v1 p.s.v2 p.s.a.m.a0 p.s.a.m.a3 p.s.a.m.a6=spZ p.s from rfl]at hdot;go_wp2;go_region_held3(fun w'=>w'.cell? (.q rb 15)=some (.i p.s.v0)/\w'.cell? (.q rb 16)=some (.i p.s.v1)/\w'.cell? (.q rb 17)=some (.i p.s.v2)/\w'.cell? (.q rb 5)=some (.i p.s.a.m.a0)/\w'.cell? (.q rb 6)=some (.i p.s.a.m.a1)/\w'.cell? (.q rb 7)=some (.i p.s.a.m.a2)/\w'.cell? (.q rb 8)=some (.i p.s.a.m.a3)/\w'.cell? (.q rb 9)=some (.i p.s.a.m.a4)/\w'.cell? (.q rb 10)=some (.i p.s.a.m.a5)/\w'.cell? (.q rb 11)=some (.i p.s.a.m.a6)/\w'.cell? (.q rb 12)=some (.i p.s.a.m.a7)/\w'.cell? (.q rb 13)=some (.i p.s.a.m.a8)/\w'.cell? (.q rb 14)=some (.i p.s.a.n)) (first|exact hS _ hd|exact hS _ hB1|exact hS _ hB2)
  (first
    |(go_at_call 115;refine(ht _).mono ?_;clear ht;rintro e w1 ⟨rfl,hB1⟩;replace hB1:Below w.heap.size w w1:=hd.trans hB1)
    |(go_at_call 114;refine(hdot _).mono ?_;clear hdot;rintro e w2 ⟨rfl,hB2⟩;replace hB2:Below w.heap.size w w2:=hB1.trans (hB2.mono hB1.size)))
 go_wp2;go_ret2;exact⟨rfl,hB2⟩
theorem zTo{fn:Func}{p u:Tmp}{ty:TypeId}(h:fn.results=#[.cell p ty,.tmp u])(tmps:Array Value)(w:World)(g:Nat)(t:TypeId)(cs:Array Value)(fr:Nat×Nat)
 (hp:tmps.getD p undef= .pointer (some (.q g 0))) (hg:w.heap[g]? =some (.cells cs t fr)) (hr:∃d,PP.underlying ty=some d/\d.isRow=true) (hi:(PP.info? ty).map (·.size)=some cs.size):
 (results fn tmps).run PP w= .ok (.tuple #[.agg cs,tmps.getD u undef]) w:=by
 obtain⟨d,hu,hd⟩:=hr;have hp':tmps[p]?.getD undef= .pointer (some (.q g 0)):=by simpa using hp
 have hl:=run_loadVar_row (P:=PP) w g t ty cs fr d hg hu (by cases d<;>first|rfl|exact hd) hi;simp [results,h,hp',asAddr,hl,Sem.run_bind,Result.andThen]
abbrev tkA(t:TK):Array Value:=#[.i t.src,.i t.kd,.i t.wt,.i t.gain,.i t.step,.i t.limit,.i t.hor]
theorem zBs:∀{ts:List TK} {j:Nat} {t:TK} {k:Int},ts[j]? =some t->t.src=k->(∀(i:Nat) (u:TK),i<j->ts[i]? =some u->u.src≠k)->zbH ts k=some t
 |[],_,_,_,h,_,_=>by simp at h
 |a::r,0,t,k,h,hk,_=>by
  simp at h;subst h;unfold zbH;rw [if_pos hk.symm]
 |a::r,j+1,t,k,h,hk,hn=>by
  unfold zbH;rw [if_neg (fun e=>hn 0 a zc rfl e.symm)];exact zBs (j:=j) (by simpa using h) hk fun i u hi hu=>hn (i+1) u zc (by simpa using hu)
theorem zL5:∀{ts:List TK} {k:Int},(∀(i:Nat) (u:TK),ts[i]? =some u->u.src≠k)->zbH ts k=none
 |[],_,_=>rfl
 |a::r,k,hn=>by
  unfold zbH;rw [if_neg (fun e=>hn 0 a rfl e.symm)];exact zL5 fun i u hu=>hn (i+1) u (by simpa using hu)
theorem zBt{W:World}{b:Nat}{ty:TypeId}{x0 x1 x2 x3 x4 x5 x6 y0 y1 y2 y3 y4 y5 y6:Value}(h:W.heap[b]? =some (.cells #[y0,y1,y2,y3,y4,y5,y6] ty (0,0))):(((((((W.setCell (.q b 0) x0).setCell (.q b 1) x1).setCell (.q b 2) x2).setCell (.q b 3) x3).setCell (.q b 4) x4).setCell (.q b 5) x5).setCell (.q b 6) x6).heap[b]? =some (.cells #[x0,x1,x2,x3,x4,x5,x6] ty (0,0)):=by
 replace h:=zf (o:=0) (v:=x0) h;simp only [sLz]at h;replace h:=zf (o:=1) (v:=x1) h;simp only [sLz]at h;replace h:=zf (o:=2) (v:=x2) h;simp only [sLz]at h;replace h:=zf (o:=3) (v:=x3) h;simp only [sLz]at h;replace h:=zf (o:=4) (v:=x4) h;simp only [sLz]at h;replace h:=zf (o:=5) (v:=x5) h;simp only [sLz]at h;replace h:=zf (o:=6) (v:=x6) h;simp only [sLz]at h;exact h
theorem zwx{B:Nat}{w W:World}{b:Nat}{x0 x1 x2 x3 x4 x5 x6:Value}(h:Below B w W)(hb:B<=b):Below B w (((((((W.setCell (.q b 0) x0).setCell (.q b 1) x1).setCell (.q b 2) x2).setCell (.q b 3) x3).setCell (.q b 4) x4).setCell (.q b 5) x5).setCell (.q b 6) x6):=by
 repeat' (refine Below.setCell ?_ ?_ _)
 all_goals first|exact h|exact hb
theorem zeD(rb:Nat)(rp:Option Addr)(cap:Nat)(p:PS)(hn:p.ts.length<=8)(sr:Int)(w:World)(hR:zaz w rb rp cap p):Calls PP 68 #[ptB rb,.i sr] w fun e w'=>
 e= .returned (match zbH p.ts sr with|some t=>.tuple #[.agg (tkA t),.bool true]|none=>.tuple #[.agg #[.i 0,.i 0,.i 0,.i 0,.i 0,.i 0,.i 0],.bool false])/\Below w.heap.size w w':=by
 obtain⟨q,hq⟩:∃q,zbH p.ts sr=q:=⟨_,rfl⟩;rw [hq];go_enter Proofs.Tryz.func68,Proofs.Tryz.ntmps68
 have hA0:Below w.heap.size w (w.alloc (.cells #[.i 0,.i 0,.i 0,.i 0,.i 0,.i 0,.i 0] 96)):=(Below.refl _ w).alloc (Nat.le_refl _) _;have hz:(w.alloc (.cells #[.i 0,.i 0,.i 0,.i 0,.i 0,.i 0,.i 0] 96)).heap[w.heap.size]? =some (.cells #[.i 0,.i 0,.i 0,.i 0,.i 0,.i 0,.i 0] 96 (0,0)):=heap_alloc_new w _;go_wp2;have hR1:=hR.below hA0;generalize w.alloc (.cells #[.i 0,.i 0,.i 0,.i 0,.i 0,.i 0,.i 0] 96)=w1 at*
 obtain⟨x,hx⟩:∃x,x=w.heap.size:=⟨_,rfl⟩;rw [<-hx]at hz⊢;have hxs:w.heap.size<=x:=zc;clear hx;have z0:=zi 0 hz rfl;have y0:=zC 0 hz;have z1:=zi 1 hz rfl;have y1:=zC 1 hz;have z2:=zi 2 hz rfl;have y2:=zC 2 hz;have z3:=zi 3 hz rfl;have y3:=zC 3 hz;have z4:=zi 4 hz rfl;have y4:=zC 4 hz;have z5:=zi 5 hz rfl;have y5:=zC 5 hz;have z6:=zi 6 hz rfl;have y6:=zC 6 hz;have c4:=zi 4 hR1.blk rfl;go_loopw [6] (fun v wr=>∃j:Nat,j<=p.ts.length/\v= .i j/\wr=w1/\∀i u,i<j->p.ts[i]? =some u->u.src≠sr) (fun v _=>p.ts.length-(intOf v).toNat)
 case atStart=>exact⟨0,zc,rfl,rfl,fun i u h=>absurd h zc⟩
 case round=>
  obtain⟨j,hj,rfl,rfl,hno⟩:=hrel;by_cases hlt:j<p.ts.length
  ·obtain⟨t,htj⟩:∃t,p.ts[j]? =some t:=⟨_,List.getElem?_eq_getElem hlt⟩
   obtain⟨ab,rfl,hab,e0,e1,e2,e3,e4,e5,e6⟩:=hR1.row j t htj;by_cases hs:t.src=sr
   ·have hqq:=zBs htj hs hno
    rw [hq]at hqq;subst hqq;clear hq;subst hs;clear hno htj;go_wp2;have h1:=zBt (x0:=.i t.src) (x1:=.i t.kd) (x2:=.i t.wt) (x3:=.i t.gain) (x4:=.i t.step) (x5:=.i t.limit) (x6:=.i t.hor) hz;have h2:=zwx (x0:=.i t.src) (x1:=.i t.kd) (x2:=.i t.wt) (x3:=.i t.gain) (x4:=.i t.step) (x5:=.i t.limit) (x6:=.i t.hor) hA0 hxs;try simp only [Exit.inBlock,Exit.then]
    refine bodyPost_ret (zTo rfl _ _ x 96 (tkA t) (0,0) rfl h1 (zaZ kfz) kfz) rfl ?_;exact⟨rfl,h2⟩
   ·have hsb:(t.src==sr)=false:=by simpa using hs
    clear hq;go_wp2;refine⟨⟨j+1,zc,jq,by trivial,fun i u hi hu=> ?_⟩,by simp [intOf];omega⟩;rcases Nat.lt_or_ge i j with h|h
    ·exact hno i u h hu
    ·obtain rfl:i=j:=zc
     rw [htj]at hu;cases hu;exact hs
  ·have hnn:zbH p.ts sr=none:=zL5 fun i u hu=>hno i u (by have:=(List.getElem?_eq_some_iff.1 hu).1;omega) hu
   rw [hq]at hnn;subst hnn;clear hq hno;go_wp2;have h1:=zBt (x0:=.i 0) (x1:=.i 0) (x2:=.i 0) (x3:=.i 0) (x4:=.i 0) (x5:=.i 0) (x6:=.i 0) hz;have h2:=zwx (x0:=.i 0) (x1:=.i 0) (x2:=.i 0) (x3:=.i 0) (x4:=.i 0) (x5:=.i 0) (x6:=.i 0) hA0 hxs;try simp only [Exit.inBlock,Exit.then]
   refine bodyPost_ret (zTo rfl _ _ x 96 #[.i 0,.i 0,.i 0,.i 0,.i 0,.i 0,.i 0] (0,0) rfl h1 (zaZ kfz) kfz) rfl ?_;exact⟨rfl,h2⟩
theorem zaz.pC{w:World}{rb:Nat}{rp:Option Addr}{cap:Nat}{p:PS}(h:zaz w rb rp cap p):∀n:Nat,n<8->w.cell? (.q rb (53+n))=some (.bool (cP p.ts n))
 |0,_=>za (o:=53) h.blk
 |1,_=>za (o:=54) h.blk
 |2,_=>za (o:=55) h.blk
 |3,_=>za (o:=56) h.blk
 |4,_=>za (o:=57) h.blk
 |5,_=>za (o:=58) h.blk
 |6,_=>za (o:=59) h.blk
 |7,_=>za (o:=60) h.blk
theorem zaz.cX{w:World}{rb:Nat}{rp:Option Addr}{cap:Nat}{p:PS}(h:zaz w rb rp cap p):∀n:Nat,n<8->w.cell? (.q rb (21+n*4))=some (.i (cC p.ts n).x)
 |0,_=>za (o:=21) h.blk
 |1,_=>za (o:=25) h.blk
 |2,_=>za (o:=29) h.blk
 |3,_=>za (o:=33) h.blk
 |4,_=>za (o:=37) h.blk
 |5,_=>za (o:=41) h.blk
 |6,_=>za (o:=45) h.blk
 |7,_=>za (o:=49) h.blk
theorem zaz.cY{w:World}{rb:Nat}{rp:Option Addr}{cap:Nat}{p:PS}(h:zaz w rb rp cap p):∀n:Nat,n<8->w.cell? (.q rb (21+n*4+1))=some (.i (cC p.ts n).y)
 |0,_=>za (o:=22) h.blk
 |1,_=>za (o:=26) h.blk
 |2,_=>za (o:=30) h.blk
 |3,_=>za (o:=34) h.blk
 |4,_=>za (o:=38) h.blk
 |5,_=>za (o:=42) h.blk
 |6,_=>za (o:=46) h.blk
 |7,_=>za (o:=50) h.blk
theorem zaz.cZ{w:World}{rb:Nat}{rp:Option Addr}{cap:Nat}{p:PS}(h:zaz w rb rp cap p):∀n:Nat,n<8->w.cell? (.q rb (21+n*4+2))=some (.i (cC p.ts n).z)
 |0,_=>za (o:=23) h.blk
 |1,_=>za (o:=27) h.blk
 |2,_=>za (o:=31) h.blk
 |3,_=>za (o:=35) h.blk
 |4,_=>za (o:=39) h.blk
 |5,_=>za (o:=43) h.blk
 |6,_=>za (o:=47) h.blk
 |7,_=>za (o:=51) h.blk
theorem zaz.cL{w:World}{rb:Nat}{rp:Option Addr}{cap:Nat}{p:PS}(h:zaz w rb rp cap p):∀n:Nat,n<8->w.cell? (.q rb (21+n*4+3))=some (.i (cL p.ts n))
 |0,_=>za (o:=24) h.blk
 |1,_=>za (o:=28) h.blk
 |2,_=>za (o:=32) h.blk
 |3,_=>za (o:=36) h.blk
 |4,_=>za (o:=40) h.blk
 |5,_=>za (o:=44) h.blk
 |6,_=>za (o:=48) h.blk
 |7,_=>za (o:=52) h.blk
theorem zg5:∀{ts:List TK} {k:Int} {t:TK},zbH ts k=some t->t.src=k
 |[],_,_,h=>by cases h
 |a::r,k,t,h=>by
  unfold zbH at h;split at h
  ·cases h;rename_i e;exact e.symm
  ·exact zg5 h
theorem zOy(rb:Nat)(rp:Option Addr)(cap:Nat)(p:PS)(hn:p.ts.length<=8)(hp:∀t∈p.ts,t.ok)(hst:p.s.start= -1\/(0<=p.s.start/\p.s.start<=1099511627776))(sr tk:Int)(hk:zr tk)(w:World)(hR:zaz w rb rp cap p):
 Calls PP 34 #[ptB rb,.i sr,.i tk] w fun e w'=>e= .returned (.i (zTc p sr tk))/\Below w.heap.size w w':=by
 have ha:=zeD rb rp cap p hn sr w hR;obtain⟨v,hv⟩:∃v,v=zTc p sr tk:=⟨_,rfl⟩;rw [<-hv];unfold zTc at hv;go_enter Proofs.Tryz.func34,Proofs.Tryz.ntmps34
 cases ho:zbH p.ts sr with
 |none=>
  rw [ho]at ha hv;dsimp only at ha;have hv0:v=0:=by rw [hv];split<;>rfl
  subst hv0;clear hv;go_wp2_with(go_at_call 68;refine ha.mono ?_;clear ha;rintro e w1 ⟨rfl,hB1⟩)
  go_ret;exact⟨rfl,hB1.alloc hB1.size _⟩
 |some t=>
  rw [ho]at ha hv;dsimp only at ha hv;have hto:=hp t (zcM ho);have hA1:∀w1,Below w.heap.size w w1->Below w.heap.size w (w1.alloc (.cells (tkA t) 96)):=fun w1 hB=>hB.alloc hB.size _
  by_cases h0:p.s.start= -1
  ·rw [if_pos h0]at hv
   subst hv;go_wp2_with(go_at_call 68;refine ha.mono ?_;clear ha;rintro e w1 ⟨rfl,hB1⟩;have c61:(w1.alloc (.cells (tkA t) 96)).cell? (.q rb 61)=some (.i (-1)):=h0▸za (hR.below (hA1 w1 hB1)).blk)
   go_ret;exact⟨rfl,hA1 w1 hB1⟩
  ·rw [if_neg h0]at hv
   have hs1:=hst.resolve_left h0;have hlast:0<=t.last/\t.last<=1099511627776:=hto.corr.1;obtain⟨n,rfl⟩:∃n:Nat,sr=n:=by
    have h1:=zg5 ho;have:=hto.src;exact⟨sr.toNat,zc⟩
   have hn8:n<8:=by
    have h1:=zg5 ho;have:=hto.src;omega
   have hpC:∀w1,Below w.heap.size w w1->(w1.alloc (.cells (tkA t) 96)).cell? (.q rb (53+n))=some (.bool t.pulled):=fun w1 hB=>by
    have:=(hR.below (hA1 w1 hB)).pC n hn8;unfold cP at this;rw [ho]at this;exact this
   have hcL:∀w1,Below w.heap.size w w1->(w1.alloc (.cells (tkA t) 96)).cell? (.q rb (21+n*4+3))=some (.i t.last):=fun w1 hB=>by
    have:=(hR.below (hA1 w1 hB)).cL n hn8;unfold cL at this;rw [ho]at this;exact this
   have hs2: ¬p.s.start<0:=zc;unfold zUZ at hv;cases hpu:t.pulled with
   |true=>
    rw [hpu,if_pos rfl]at hv;rw [hpu]at hpC;have hmx:=zoq tk t.last;have hwr:=zpX hk hlast.1 hlast.2;subst hv;go_wp2_with(go_at_call 68;refine ha.mono ?_;clear ha;rintro e w1 ⟨rfl,hB1⟩;have c61:=zi 61 (hR.below (hA1 w1 hB1)).blk rfl;have c53:=hpC w1 hB1;have c21:=hcL w1 hB1)
    go_ret;exact⟨rfl,hA1 w1 hB1⟩
   |false=>
    rw [hpu,if_neg jq]at hv;rw [hpu]at hpC;have hmx:=zoq tk p.s.start;have hwr:=zpX hk hs1.1 hs1.2;subst hv;go_wp2_with(go_at_call 68;refine ha.mono ?_;clear ha;rintro e w1 ⟨rfl,hB1⟩;have c61:=zi 61 (hR.below (hA1 w1 hB1)).blk rfl;have c53:=hpC w1 hB1)
    go_ret;exact⟨rfl,hA1 w1 hB1⟩
end Go.Xv
