/- A navigator answers, whatever the inertial sensor and the aids tell, what the document says: the law returns true for every input, and leaves its arguments as they were. -/
import Derived.Test.YtdchhmffiiedmaaGreatLNavPlays
import Derived.Test.YtdchhmffiiedmaaGreatLNavPlays2
import Derived.Test.YtdchhmffiiedmaaGreatLNavPlays3
import Derived.Carry
import Derived.RowKit
import Derived.ChangeSame
import Derived.ChangeArms
import Derived.OpenShut
import Derived.WalkKit
import Derived.ProofKit
import Derived.JoinedOf
import Derived.ChangeSlices
import Derived.ChangeOld
import Derived.Deep.MidRow
import Derived.Deep.AppendLies
import Derived.Maps.RangeWalk
import Derived.Maps.AppendAt
set_option linter.unusedVariables false
set_option linter.unusedSimpArgs false
set_option maxRecDepth 100000
set_option maxHeartbeats 64000000
open Go.IntKind (wrap)
namespace Go.Xv
open Go.RowKit
theorem zim{fn:Func}{p:Tmp}{ty:TypeId}(h:fn.results=#[.cell p ty])(tmps:Array Value)(w:World)(g:Nat)(t:TypeId)(cs:Array Value)(fr:Nat×Nat)
 (hp:tmps.getD p undef= .pointer (some (.q g 0))) (hg:w.heap[g]? =some (.cells cs t fr)) (hr:∃d,PP.underlying ty=some d/\d.isRow=true) (hi:(PP.info? ty).map (·.size)=some cs.size):
 (results fn tmps).run PP w= .ok (.agg cs) w:=by
 obtain⟨d,hu,hd⟩:=hr;exact results_cell_row h tmps w g t cs fr d hp hg hu (by cases d<;>first|rfl|exact hd) hi
abbrev NS.sp(s:NS):NS:={s with cut:=s.cut||zw (spZ s)}
abbrev zNX(s:NS):Array Value:=#[.i s.p0,.i s.p1,.i s.p2,.i s.v0,.i s.v1,.i s.v2,.int .u32 (zcQ s.a.m.a3 s.a.m.a0),.i (zh (spZ s))]
theorem zLh(nb mb:Nat)(s:NS)(hs:s.ok)(w:World)(hN:jc w nb mb s)(hM:zzm w mb)(hnm:mb≠nb):
 Calls PP 16 #[.pointer (some (.q nb 0))] w fun e w'=>e= .returned (.agg (zNX s))/\jc w' nb mb s.sp/\Chg nb w w':=by
 go_enter Proofs.Tryz.func16,Proofs.Tryz.ntmps16
 have hA0:Below w.heap.size w (w.alloc (.cells #[.i 0,.i 0,.i 0,.i 0,.i 0,.i 0,.int .u32 0,.i 0] 69)):=(Below.refl _ w).alloc (Nat.le_refl _) _;have hb0:(w.alloc (.cells #[.i 0,.i 0,.i 0,.i 0,.i 0,.i 0,.int .u32 0,.i 0] 69)).heap[w.heap.size]? =some (.cells #[.i 0,.i 0,.i 0,.i 0,.i 0,.i 0,.int .u32 0,.i 0] 69 (0,0)):=heap_alloc_new w _;have hnw:=hN.lt;have hN0:=hN.below hA0;have hM0:=hM.chg (Chg.of hA0:Chg nb _ _) hnm;have hi:=zil nb mb s _ hN0;go_wp2_with(go_at_call 43;refine hi.mono ?_;clear hi;rintro e w' ⟨rfl,hw⟩;obtain rfl:=hw.symm)
 generalize w.alloc (.cells #[.i 0,.i 0,.i 0,.i 0,.i 0,.i 0,.int .u32 0,.i 0] 69)=w0 at*
 have hnw0:nb<w0.heap.size:=hN0.lt;have hne0:nb≠w0.heap.size:=zc;have hd:Below w0.heap.size w0 w0.drew:=⟨rfl,rfl,rfl,Nat.le_refl _,fun _ _=>rfl⟩;have hA:∀o,Below w0.heap.size w0 (w0.alloc o).drew:=fun o=>hd.alloc (Nat.le_refl _) o
 have hS:∀w',Below w0.heap.size w0 w'->w'.cell? (.q nb 3)=some (.i s.v0)/\w'.cell? (.q nb 4)=some (.i s.v1)/\w'.cell? (.q nb 5)=some (.i s.v2)/\w'.cell? (.q nb 6)=some (.i s.p0)/\w'.cell? (.q nb 7)=some (.i s.p1)/\w'.cell? (.q nb 8)=some (.i s.p2)/\w'.cell? (.q nb 10)=some (.i s.a.m.a0)/\w'.cell? (.q nb 11)=some (.i s.a.m.a1)/\w'.cell? (.q nb 12)=some (.i s.a.m.a2)/\w'.cell? (.q nb 13)=some (.i s.a.m.a3)/\w'.cell? (.q nb 14)=some (.i s.a.m.a4)/\w'.cell? (.q nb 15)=some (.i s.a.m.a5)/\w'.cell? (.q nb 16)=some (.i s.a.m.a6)/\w'.cell? (.q nb 17)=some (.i s.a.m.a7)/\w'.cell? (.q nb 18)=some (.i s.a.m.a8)/\w'.cell? (.q nb 19)=some (.i s.a.n):=fun w' hB=>⟨(hB.cell (p:=(.q nb _)) hN0.lt).trans (za hN0),(hB.cell (p:=(.q nb _)) hN0.lt).trans (za hN0),(hB.cell (p:=(.q nb _)) hN0.lt).trans (za hN0),(hB.cell (p:=(.q nb _)) hN0.lt).trans (za hN0),(hB.cell (p:=(.q nb _)) hN0.lt).trans (za hN0),(hB.cell (p:=(.q nb _)) hN0.lt).trans (za hN0),(hB.cell (p:=(.q nb _)) hN0.lt).trans (za hN0),(hB.cell (p:=(.q nb _)) hN0.lt).trans (za hN0),(hB.cell (p:=(.q nb _)) hN0.lt).trans (za hN0),(hB.cell (p:=(.q nb _)) hN0.lt).trans (za hN0),(hB.cell (p:=(.q nb _)) hN0.lt).trans (za hN0),(hB.cell (p:=(.q nb _)) hN0.lt).trans (za hN0),(hB.cell (p:=(.q nb _)) hN0.lt).trans (za hN0),(hB.cell (p:=(.q nb _)) hN0.lt).trans (za hN0),(hB.cell (p:=(.q nb _)) hN0.lt).trans (za hN0),(hB.cell (p:=(.q nb _)) hN0.lt).trans (za hN0)⟩
 have hT:∀w',jc w' nb mb s.sp->w'.cell? (.q nb 3)=some (.i s.v0)/\w'.cell? (.q nb 4)=some (.i s.v1)/\w'.cell? (.q nb 5)=some (.i s.v2)/\w'.cell? (.q nb 6)=some (.i s.p0)/\w'.cell? (.q nb 7)=some (.i s.p1)/\w'.cell? (.q nb 8)=some (.i s.p2)/\w'.cell? (.q nb 10)=some (.i s.a.m.a0)/\w'.cell? (.q nb 11)=some (.i s.a.m.a1)/\w'.cell? (.q nb 12)=some (.i s.a.m.a2)/\w'.cell? (.q nb 13)=some (.i s.a.m.a3)/\w'.cell? (.q nb 14)=some (.i s.a.m.a4)/\w'.cell? (.q nb 15)=some (.i s.a.m.a5)/\w'.cell? (.q nb 16)=some (.i s.a.m.a6)/\w'.cell? (.q nb 17)=some (.i s.a.m.a7)/\w'.cell? (.q nb 18)=some (.i s.a.m.a8)/\w'.cell? (.q nb 19)=some (.i s.a.n):=fun w' hB=>⟨za hB,za hB,za hB,za hB,za hB,za hB,za hB,za hB,za hB,za hB,za hB,za hB,za hB,za hB,za hB,za hB⟩
 have hh:=fun W (hW:Below w0.heap.size w0 W)=>(zph hs.m (a:=s.a) W).mono fun e w' (h:_/\_)=>(⟨h.1,hW.trans (h.2.mono hW.size),h.2⟩:_/\Below w0.heap.size w0 w'/\Below W.heap.size W w')
 have hsp:=fun W (hW:jc W nb mb s)=>zs5 nb mb s hs W hW
 go_cut [3] (fun v w'=>∃l,v= .pointer (some (.q l 0))/\w'.heap[l]? =some (.cells (zNX s) 69 (0,0))/\nb≠l/\w0.heap.size<=l/\jc w' nb mb s.sp/\Chg nb w0 w')
 case first=>
  go_region_held3(fun w'=>w'.cell? (.q nb 3)=some (.i s.v0)/\w'.cell? (.q nb 4)=some (.i s.v1)/\w'.cell? (.q nb 5)=some (.i s.v2)/\w'.cell? (.q nb 6)=some (.i s.p0)/\w'.cell? (.q nb 7)=some (.i s.p1)/\w'.cell? (.q nb 8)=some (.i s.p2)/\w'.cell? (.q nb 10)=some (.i s.a.m.a0)/\w'.cell? (.q nb 11)=some (.i s.a.m.a1)/\w'.cell? (.q nb 12)=some (.i s.a.m.a2)/\w'.cell? (.q nb 13)=some (.i s.a.m.a3)/\w'.cell? (.q nb 14)=some (.i s.a.m.a4)/\w'.cell? (.q nb 15)=some (.i s.a.m.a5)/\w'.cell? (.q nb 16)=some (.i s.a.m.a6)/\w'.cell? (.q nb 17)=some (.i s.a.m.a7)/\w'.cell? (.q nb 18)=some (.i s.a.m.a8)/\w'.cell? (.q nb 19)=some (.i s.a.n))
   (first|(with_reducible exact hS _ hd)|(with_reducible exact hS _ hBh')|(with_reducible exact hS _ (hA _))|(with_reducible exact hS _ (hBh'.alloc hBh'.size _))|(with_reducible exact hT _ hNs)|(with_reducible exact hT _ (hNs.below ((Below.refl _ ws).alloc (Nat.le_refl _) _)))|(with_reducible exact hT _ (zdX hNs hne0))|(with_reducible exact hT _ (zdX hNs hne1)))
   (first
     |(go_at_call 39
       refine(hh _ (by with_reducible exact hd)).mono ?_
       rintro e wh ⟨rfl,hBh',hBh⟩)
     |(go_at_call 39
       refine(hh _ (by with_reducible exact hA _)).mono ?_;rintro e wh ⟨rfl,hBh',hBh⟩
       have hz:wh.heap[w0.heap.size]? =some (.cells #[.i 0,.i 0,.i 0,.i 0,.i 0,.i 0,.int .u32 0,.i 0] 69 (0,0)):=(hBh.block _ jq).trans (heap_alloc_new w0 _))
     |(go_at_call 41
       refine(hsp wh (hN0.below hBh')).mono ?_;rintro e ws ⟨rfl,hNs,hCs⟩;have hzs:ws.heap[w0.heap.size]? =some (.cells #[.i 0,.i 0,.i 0,.i 0,.i 0,.i 0,.int .u32 0,.i 0] 69 (0,0)):=(hCs.block _ (zy hz) zc).trans hz;have z0:=zi 0 hzs rfl;have y0:=zC 0 hzs;have z1:=zi 1 hzs rfl;have y1:=zC 1 hzs;have z2:=zi 2 hzs rfl;have y2:=zC 2 hzs;have z3:=zi 3 hzs rfl;have y3:=zC 3 hzs;have z4:=zi 4 hzs rfl;have y4:=zC 4 hzs;have z5:=zi 5 hzs rfl;have y5:=zC 5 hzs;have z6:=zi 6 hzs rfl;have y6:=zC 6 hzs;have z7:=zi 7 hzs rfl
       have y7:=zC 7 hzs)
     |(go_at_call 41
       refine(hsp wh (hN0.below hBh')).mono ?_
       rintro e ws ⟨rfl,hNs,hCs⟩)
     |(go_at_call 41
       refine(hsp _ ((hN0.below hBh').below ((Below.refl _ wh).alloc (Nat.le_refl _) (.cells #[.i 0,.i 0,.i 0,.i 0,.i 0,.i 0,.int .u32 0,.i 0] 69)))).mono ?_;rintro e ws ⟨rfl,hNs,hCs⟩;have hne1:nb≠wh.heap.size:=by have:=hBh'.size;omega
       have hzs:ws.heap[wh.heap.size]? =some (.cells #[.i 0,.i 0,.i 0,.i 0,.i 0,.i 0,.int .u32 0,.i 0] 69 (0,0)):=(hCs.block _ jq (by have:=hBh'.size;omega)).trans (heap_alloc_new wh _);have z0:=zi 0 hzs rfl;have y0:=zC 0 hzs;have z1:=zi 1 hzs rfl;have y1:=zC 1 hzs;have z2:=zi 2 hzs rfl;have y2:=zC 2 hzs;have z3:=zi 3 hzs rfl;have y3:=zC 3 hzs;have z4:=zi 4 hzs rfl;have y4:=zC 4 hzs;have z5:=zi 5 hzs rfl;have y5:=zC 5 hzs;have z6:=zi 6 hzs rfl;have y6:=zC 6 hzs;have z7:=zi 7 hzs rfl
       have y7:=zC 7 hzs))
  all_goals
   go_wp2;go_meet
   case rel=>
    first
     |(have hg:=hne1;refine⟨wh.heap.size,rfl,zfj hzs,hne1,hBh'.size,zdX hNs hne1,zgV (((Chg.of hBh').alloc _).trans hCs) hBh'.size⟩;done)
     |(have hg:=hzs;refine⟨w0.heap.size,rfl,zfj hzs,hne0,Nat.le_refl _,zdX hNs hne0,zgV ((Chg.of hBh').trans hCs) (Nat.le_refl _)⟩;done)
     |(refine⟨ws.heap.size,rfl,heap_alloc_new ws _,?_,Nat.le_trans hBh'.size hCs.size,hNs.below ((Below.refl _ ws).alloc (Nat.le_refl _) _),((Chg.of hBh').trans hCs).alloc _⟩
       have:=hNs.lt
       omega)
 case rest=>
  obtain⟨l,rfl,hl,hnl,hls,hNc,hCc⟩:=hcut;have hMc:zzm wc mb:=hM0.chg hCc hnm;obtain⟨b0,hb0e⟩:∃x,x=w.heap.size:=⟨_,rfl⟩;have hb0le:w.heap.size<=b0:=Nat.le_of_eq hb0e.symm;have hnb0:nb≠b0:=zc;have hb0c:wc.heap[b0]? =some (.cells #[.i 0,.i 0,.i 0,.i 0,.i 0,.i 0,.int .u32 0,.i 0] 69 (0,0)):=by rw [hb0e];exact(hCc.block _ (zy hb0) zc).trans hb0
  have hal:=zLg nb mb s.sp wc hNc hMc;have hcw:Chg nb w wc:=(Chg.of hA0).trans hCc;have c0:=zi 0 hl rfl;have z0:=zi 0 hb0c rfl;have y0:=zC 0 hb0c;have c1:=zi 1 hl rfl;have z1:=zi 1 hb0c rfl;have y1:=zC 1 hb0c;have c2:=zi 2 hl rfl;have z2:=zi 2 hb0c rfl;have y2:=zC 2 hb0c;have c3:=zi 3 hl rfl;have z3:=zi 3 hb0c rfl;have y3:=zC 3 hb0c;have c4:=zi 4 hl rfl;have z4:=zi 4 hb0c rfl;have y4:=zC 4 hb0c;have c5:=zi 5 hl rfl;have z5:=zi 5 hb0c rfl;have y5:=zC 5 hb0c;have c6:=zi 6 hl rfl;have z6:=zi 6 hb0c rfl;have y6:=zC 6 hb0c;have c7:=zi 7 hl rfl;have z7:=zi 7 hb0c rfl;have y7:=zC 7 hb0c;rw [<-hb0e];clear hb0e
  clear hS hT hh hsp hA;go_wp2_with(go_at_call 49;refine hal.mono ?_;clear hal;rintro e w' ⟨rfl,hw⟩;obtain rfl:=hw.symm)
  go_loopw [32] (fun v wr=>v= .i 0/\wr=wc) (fun _ _=>0)
  case atStart=>exact⟨rfl,rfl⟩
  case round=>
   obtain⟨rfl,rfl⟩:=hrel;go_wp2;have hfin:((((((((wr.setCell (.q b0 0) (.i s.p0)).setCell (.q b0 1) (.i s.p1)).setCell (.q b0 2) (.i s.p2)).setCell (.q b0 3) (.i s.v0)).setCell (.q b0 4) (.i s.v1)).setCell (.q b0 5) (.i s.v2)).setCell (.q b0 6) (.int .u32 (zcQ s.a.m.a3 s.a.m.a0))).setCell (.q b0 7) (.i (zh (spZ s)))).heap[b0]? =some (.cells (zNX s) 69 (0,0)):=zfj hb0c;have hnf:jc ((((((((wr.setCell (.q b0 0) (.i s.p0)).setCell (.q b0 1) (.i s.p1)).setCell (.q b0 2) (.i s.p2)).setCell (.q b0 3) (.i s.v0)).setCell (.q b0 4) (.i s.v1)).setCell (.q b0 5) (.i s.v2)).setCell (.q b0 6) (.int .u32 (zcQ s.a.m.a3 s.a.m.a0))).setCell (.q b0 7) (.i (zh (spZ s)))) nb mb s.sp:=zdX hNc hnb0
   have hcf:Chg nb w ((((((((wr.setCell (.q b0 0) (.i s.p0)).setCell (.q b0 1) (.i s.p1)).setCell (.q b0 2) (.i s.p2)).setCell (.q b0 3) (.i s.v0)).setCell (.q b0 4) (.i s.v1)).setCell (.q b0 5) (.i s.v2)).setCell (.q b0 6) (.int .u32 (zcQ s.a.m.a3 s.a.m.a0))).setCell (.q b0 7) (.i (zh (spZ s)))):=zgV hcw hb0le;generalize((((((((wr.setCell (.q b0 0) (.i s.p0)).setCell (.q b0 1) (.i s.p1)).setCell (.q b0 2) (.i s.p2)).setCell (.q b0 3) (.i s.v0)).setCell (.q b0 4) (.i s.v1)).setCell (.q b0 5) (.i s.v2)).setCell (.q b0 6) (.int .u32 (zcQ s.a.m.a3 s.a.m.a0))).setCell (.q b0 7) (.i (zh (spZ s))))=W at*
   try simp only [Exit.inBlock,Exit.then]
   refine bodyPost_ret (zim rfl _ _ b0 69 (zNX s) (0,0) rfl hfin (zaZ kfz) kfz) rfl ?_;exact⟨rfl,hnf,hcf⟩
def zpV(g:V3)(d:Int):NS:=⟨g.x,g.y,g.z,0,0,0,0,0,0,d,zcH, -1,0,0,false⟩
theorem zLi(g:V3)(d:Int)(hd:0<=d)(w:World):
 Calls PP 5 #[.agg #[.i g.x,.i g.y,.i g.z,.i d,.slice none 0 0]] w fun e w'=>∃nb mb,e= .returned (.tuple #[.pointer (some (.q nb 0)),.i 0])/\jc w' nb mb (zpV g d)/\zzm w' mb/\mb≠nb/\w.heap.size<=nb/\Below w.heap.size w w':=by
 go_enter Proofs.Tryz.func5,Proofs.Tryz.ntmps5
 have hA0:Below w.heap.size w (w.alloc (.cells #[.i g.x,.i g.y,.i g.z,.i d,.slice none 0 0] 27)):=(Below.refl _ w).alloc (Nat.le_refl _) _;have hb0:(w.alloc (.cells #[.i g.x,.i g.y,.i g.z,.i d,.slice none 0 0] 27)).heap[w.heap.size]? =some (.cells #[.i g.x,.i g.y,.i g.z,.i d,.slice none 0 0] 27 (0,0)):=heap_alloc_new w _;have hd': ¬d<0:=zc;go_wp2;generalize w.alloc (.cells #[.i g.x,.i g.y,.i g.z,.i d,.slice none 0 0] 27)=w0 at*
 have hw0:Below w0.heap.size w0 w0.drew:=⟨rfl,rfl,rfl,Nat.le_refl _,fun _ _=>rfl⟩;have hA:∀o,Below w0.heap.size w0 (w0.alloc o).drew:=fun o=>hw0.alloc (Nat.le_refl _) o
 have hlt:w.heap.size<w0.heap.size:=(zy hb0);have hS:∀w',Below w0.heap.size w0 w'->w'.cell? (.q w.heap.size 0)=some (.i g.x)/\w'.cell? (.q w.heap.size 1)=some (.i g.y)/\w'.cell? (.q w.heap.size 2)=some (.i g.z)/\w'.cell? (.q w.heap.size 3)=some (.i d):=fun w' hB=>⟨(hB.cell (p:=(.q w.heap.size _)) hlt).trans (za hb0),(hB.cell (p:=(.q w.heap.size _)) hlt).trans (za hb0),(hB.cell (p:=(.q w.heap.size _)) hlt).trans (za hb0),(hB.cell (p:=(.q w.heap.size _)) hlt).trans (za hb0)⟩
 have hh:=fun W (hW:Below w0.heap.size w0 W)=>(zBe W).mono fun e w' (h:_/\_)=>(⟨h.1,hW.trans (h.2.mono hW.size),h.2⟩:_/\Below w0.heap.size w0 w'/\Below W.heap.size W w')
 have hmm:= @run_makeMap PP;go_cut [4] (fun v w'=>∃nb mb,v= .pointer (some (.q nb 0))/\jc w' nb mb (zpV g d)/\zzm w' mb/\mb≠nb/\w0.heap.size<=nb/\Below w0.heap.size w0 w')
 case first=>
  go_region_held3(fun w'=>w'.cell? (.q w.heap.size 0)=some (.i g.x)/\w'.cell? (.q w.heap.size 1)=some (.i g.y)/\w'.cell? (.q w.heap.size 2)=some (.i g.z)/\w'.cell? (.q w.heap.size 3)=some (.i d))
   (first|(with_reducible exact hS _ hw0)|(with_reducible exact hS _ hBh')|(with_reducible exact hS _ (hA _))|(with_reducible exact hS _ (hBh'.alloc hBh'.size _))|(with_reducible exact hS _ ((hBh'.alloc hBh'.size _).alloc (Nat.le_trans hBh'.size jq) _)))
   (first
     |(go_at_call 22
       refine(hh _ (by with_reducible exact hw0)).mono ?_
       rintro e wh ⟨rfl,hBh',hBh⟩)
     |(go_at_call 22
       refine(hh _ (by with_reducible exact hA _)).mono ?_;rintro e wh ⟨rfl,hBh',hBh⟩
       have hz:wh.heap[w0.heap.size]? =some (.map #[] 0):=(hBh.block _ jq).trans (heap_alloc_new w0 _)))
  all_goals
   go_wp2;go_meet
   case rel=>
    first
     |(have hlz:=(zy hz)
       refine⟨wh.heap.size,w0.heap.size,rfl,heap_alloc_new wh _,⟨0,(heap_alloc_old wh _ hlz).trans hz⟩,zc,zc,hBh'.alloc hBh'.size _⟩)
     |(have hsz:=hBh'.size
       have hsz1:w0.heap.size<=(wh.alloc (.map #[] 0)).heap.size:=Nat.le_trans hsz jq
       refine⟨_,wh.heap.size,rfl,heap_alloc2_new wh _ _,⟨0,(heap_alloc_old _ _ jq).trans (heap_alloc_new wh _)⟩,zc,zc,(hBh'.alloc hsz _).alloc hsz1 _⟩)
 case rest=>
  obtain⟨nb,mb,rfl,hNc,hMc,hne,hle,hB⟩:=hcut;have c4:wc.cell? (.q w.heap.size 4)=some (.slice none 0 0):=(hB.cell (p:=(.q w.heap.size _)) hlt).trans (za hb0);have hBw:Below w.heap.size w wc:=hA0.trans (hB.mono hA0.size);have hnb:w.heap.size<=nb:=zc;clear hS hh hmm hA;go_wp2;go_loopw [28] (fun v wr=>v= .i 0/\wr=wc) (fun _ _=>0)
  case atStart=>exact⟨rfl,rfl⟩
  case round=>
   obtain⟨rfl,rfl⟩:=hrel;go_wp2;go_ret2;exact⟨nb,mb,rfl,hNc,hMc,hne,hnb,hBw⟩
theorem zLj{z:Int}(h:zr z):zh z=z:=by unfold zh;unfold zr at h;split<;>(try split)<;>omega
theorem zLk{z:Int}(h:zr z):zw z=false:=by unfold zw;unfold zr at h;simp;omega
structure zWK (g:V3) (s:NS):Prop where
 g0:s.g0=wid g.x
 g1:s.g1=wid g.y
 g2:s.g2=wid g.z
 v0:s.v0=0
 v1:s.v1=0
 v2:s.v2=0
 p0:s.p0=0
 p1:s.p1=0
 p2:s.p2=0
 m:s.a.m=zKL
 n:0<=s.a.n/\s.a.n<=15
 cut:s.cut=false
theorem zWK.ok{g:V3}(hg:g.W){s:NS}(h:zWK g s):s.ok:=by
 have z:zr 0:=by unfold zr;omega
 have hM:MI zKL:=by unfold MI zr zKL;decide
 refine⟨?_,?_,?_,?_,?_,?_,?_,?_,?_,?_,h.n⟩
 ·rw [h.g0];exact zoh hg.x
 ·rw [h.g1];exact zoh hg.y
 ·rw [h.g2];exact zoh hg.z
 ·rw [h.v0];exact z
 ·rw [h.v1];exact z
 ·rw [h.v2];exact z
 ·rw [h.p0];exact z
 ·rw [h.p1];exact z
 ·rw [h.p2];exact z
 ·rw [h.m];exact hM
theorem zSY(g:V3)(d:Int):zWK g (zpV ⟨wid g.x,wid g.y,wid g.z⟩ d):=⟨rfl,rfl,rfl,rfl,rfl,rfl,rfl,rfl,rfl,rfl,⟨by show(0:Int)<=0;omega,by show(0:Int)<=15;omega⟩,rfl⟩
def rdF(g:V3):Nat->Value
 |0=>.i 1
 |1=>.int .i32 0
 |2=>.int .i32 0
 |3=>.int .i32 0
 |4=>.int .i32 g.x
 |5=>.int .i32 g.y
 |6=>.int .i32 g.z
 |7=>.i 0
 |8=>.int .u32 0
 |9=>.int .i32 0
 |10=>.int .u32 0
 |11=>.int .u32 0
 |12=>.int .u8 0
 |13=>.i 0
 |14=>.i 0
 |15=>.i 0
 |16=>.int .u8 0
 |17=>.int .u8 0
 |18=>.int .u8 0
 |19=>.int .u8 0
 |20=>.int .u8 0
 |21=>.int .u8 0
 |22=>.int .u8 0
 |23=>.int .u8 0
 |24=>.int .u8 0
 |25=>.int .u8 0
 |26=>.int .u8 0
 |27=>.int .u8 0
 |28=>.int .u8 0
 |29=>.int .u8 0
 |30=>.int .u8 0
 |31=>.int .u8 0
 |32=>.int .u8 0
 |33=>.int .u8 0
 |34=>.int .u8 0
 |35=>.int .u8 0
 |36=>.int .u8 0
 |37=>.int .u8 0
 |38=>.int .u8 0
 |39=>.int .u8 0
 |40=>.int .u8 0
 |41=>.int .u8 0
 |42=>.int .u8 0
 |43=>.int .u8 0
 |44=>.int .u8 0
 |45=>.int .u8 0
 |46=>.int .u8 0
 |47=>.int .u8 0
 |48=>.int .u64 0
 |49=>.int .u8 0
 |50=>.int .u32 0
 |51=>.i 0
 |52=>.int .u32 0
 |53=>.int .u8 0
 |54=>.int .u8 0
 |55=>.int .u16 0
 |56=>.int .u64 0
 |_+57=>undef
theorem zSZ(g:V3):zUT (rdF g) 1 ⟨0,0,0⟩ g:=⟨rfl,rfl,rfl,rfl,rfl,rfl,rfl⟩
theorem z3W:(⟨0,0,0⟩:V3).W:=⟨by unfold I32;decide,by unfold I32;decide,by unfold I32;decide⟩
def wk1:NS:=⟨0,0,0,0,0,0,0,0,0,0,zcH,0,0,0,false⟩
def wk2:NS:=⟨0,0,0,4294967296,0,0,4294967296,0,0,0,⟨zKL,1⟩,0,100,100,false⟩
theorem zWL:zpi (zpV ⟨0,0,0⟩ 0) 0 1 ⟨0,0,0⟩ ⟨0,0,0⟩=wk1:=kfz
theorem zWM:zpi wk1 100 1 ⟨0,0,0⟩ ⟨65536,0,0⟩=wk2:=kfz
theorem zeh:(zpV ⟨0,0,0⟩ 0).ok:=(zSY ⟨0,0,0⟩ 0).ok z3W
theorem zWN:wk1.ok:=⟨zeh.g0,zeh.g1,zeh.g2,zeh.v0,zeh.v1,zeh.v2,zeh.p0,zeh.p1,zeh.p2,zeh.m,zeh.n⟩
theorem zWO:wk2.ok:=⟨zeh.g0,zeh.g1,zeh.g2,by unfold wk2 zr;decide,zeh.v1,zeh.v2,by unfold wk2 zr;decide,zeh.p1,zeh.p2,zeh.m,by unfold wk2;decide⟩
theorem Chg.low{nb B:Nat}{a b:World}(h:Chg nb a b)(hn:B<=nb)(hs:B<=a.heap.size):Below B a b:=⟨h.os,h.tape,h.output,h.size,fun k hk=>h.block k zc zc⟩
theorem zUU(w:World):Sem.run PP (binOp BinOp.eql 24 (Value.agg #[.i 4294967296,.i 0,.i 0]) (Value.agg #[.i 4294967296,.i 0,.i 0])) w= .ok (.bool true) w:=by
 kernel_rfl
theorem zLl(w:World):Calls PP 11 #[] w fun e w'=>e= .returned (.bool true)/\Below w.heap.size w w':=by
 go_enter Proofs.Tryz.func11,Proofs.Tryz.ntmps11
 have hn:=zLi ⟨0,0,0⟩ 0 (Int.le_refl _) w;go_wp2_with(go_at_call 5;refine hn.mono ?_;clear hn;rintro e w1 ⟨nb,mb,rfl,hN1,hM1,hne,hle,hB1⟩)
 have h1:=zxx nb mb (zpV ⟨0,0,0⟩ 0) zeh (.inl rfl) 0 1 ⟨0,0,0⟩ ⟨0,0,0⟩ z3W z3W _ (zSZ ⟨0,0,0⟩) w1 hN1;rw [zWL,show zr4 (zpV ⟨0,0,0⟩ 0) 0 1=0 from kfz]at h1;refine h1.mono ?_;clear h1;rintro e w2 ⟨rfl,hN2,hC2⟩;have hM2:=hM1.chg hC2 hne;have h2:=zxx nb mb wk1 zWN (.inr ⟨Int.le_refl _,Int.le_refl _⟩) 100 1 ⟨0,0,0⟩ ⟨65536,0,0⟩ z3W ⟨by unfold I32;decide,by unfold I32;decide,by unfold I32;decide⟩ _ (zSZ ⟨65536,0,0⟩) w2 hN2;rw [zWM,show zr4 wk1 100 1=0 from kfz]at h2;go_wp2_with(go_at_call 13;refine h2.mono ?_;clear h2;rintro e w3 ⟨rfl,hN3,hC3⟩)
 have hM3:=hM2.chg hC3 hne;have h3:=zLh nb mb wk2 zWO w3 hN3 hM3 hne;rw [show zNX wk2=#[.i 4294967296,.i 0,.i 0,.i 4294967296,.i 0,.i 0,.int .u32 (zcQ 0 4294967296),.i (zh (spZ wk2))]from rfl]at h3;generalize zcQ 0 4294967296=A at h3;generalize zh (spZ wk2)=B at h3;refine h3.mono ?_;clear h3;rintro e w4 ⟨rfl,hN4,hC4⟩;have hM4:=hM3.chg hC4 hne;have h4:=fun W hN hM=>zHD nb mb wk2.sp 100 W hN hM
 rw [if_neg (show¬wk2.sp.start= -1 by show¬(0:Int)= -1;decide)]at h4;have hq:=zUU;have hB5:∀o,Below w4.heap.size w4 (w4.alloc o):=fun o=>(Below.refl _ w4).alloc (Nat.le_refl _) o
 go_wp2_with(go_at_call 17;refine(h4 _ (hN4.below (hB5 _)) (hM4.chg (Chg.of (hB5 _)) hne)).mono ?_;rintro e w5 ⟨rfl,hB6⟩)
 go_ret;have s1:=hB1.size;have s2:=hC2.size;have s3:=hC3.size;have s4:=hC4.size;have b4:Below w.heap.size w w4:=((hB1.trans (hC2.low hle s1)).trans (hC3.low hle zc)).trans (hC4.low hle zc);exact⟨rfl,(b4.trans ((hB5 _).mono b4.size)).trans (hB6.mono (Nat.le_trans b4.size (hB5 _).size))⟩
end Go.Xv
namespace Go.Xv
open Go.RowKit Go.WideShapes Go.ChangeShapes
section
variable{H:Type}{enc:TypeId×Value->H}{P:Program}
def zS1(P:Program)(ts:List TypeId):Bool:=ts.all fun t=>P.readableRec t&&decide (t<P.types.size)
theorem zuk(hl:laidOutB P=true){W W':World}(hb:Below W.heap.size W W'){sp:Nat->Bool}:
 ∀{ts:List TypeId} {vs:List Value} {ds:List (DataW H)} {ps:List MemPlace},zS1 P ts=true->DataW.TrodAll enc P W 0 (fun _=>true) true ts vs ds ps->(∀x∈ps,x.block<W.heap.size)->
  (∀x∈ps,sp x.block=true)->DataW.TrodAll enc P W' 0 sp true ts vs ds ps
 |[],_,_,_,_,h,_,_=>by
  obtain⟨rfl,rfl,rfl⟩:=trodAll_nil h;rfl
 |t::ts,_,_,_,hr,h,hlt,hsp=>by
  obtain⟨v,vs,d,ds,p,q,rfl,rfl,rfl,h1,h2⟩:=trodAll_cons h;simp only [zS1,List.all_cons,Bool.and_eq_true,decide_eq_true_eq]at hr
  exact⟨p,q,WideElems.Trod_stays hl hr.1.1 hr.1.2 h1 (fun x hx=>hb.same (hlt x (by simp [hx]))) (fun x hx=>hsp x (by simp [hx])),
   zuk hl hb hr.2 h2 (fun x hx=>hlt x (by simp [hx])) (fun x hx=>hsp x (by simp [hx])),rfl⟩
end
def zNY(P:Program)(g:TypeId->Option (List (Option IntKind))):Nat->List Field->Option (List (Option IntKind))
 |_,[]=>some []
 |off,f::r=>bif Nat.beq f.offset off then(match g f.type with
  |some l=>bif Nat.beq l.length (P.cellsOf f.type)then(match zNY P g (off+l.length) r with
   |some q=>some (l++q)
   |none=>none)else none
  |none=>none)else none
def shK(P:Program):Nat->TypeId->Option (List (Option IntKind))
 |0,_=>none
 |d+1,t=>match P.underlying t with
  |some (.int k)=>some [some k]
  |some .bool=>some [none]
  |some (.array n e)=>match shK P d e with
   |some l=>bif Nat.beq l.length (P.cellsOf e)&&Nat.beq (n*l.length) (P.cellsOf t)then some (List.replicate n l).flatten else none
   |none=>none
  |some (.struct fs)=>match zNY P (shK P d) 0 fs.toList with
   |some l=>bif Nat.beq l.length (P.cellsOf t)then some l else none
   |none=>none
  |_=>none
def ziF:List (Option IntKind)->List Value->Prop
 |[],[]=>True
 |some k::r,.int k' n::q=>k'=k/\(Lit.int k n).wf=true/\ziF r q
 |none::r,.bool _::q=>ziF r q
 |_,_=>False
theorem zol:∀{a b:List (Option IntKind)} {x y:List Value},ziF a x->ziF b y->ziF (a++b) (x++y)
 |[],_,[],_,_,h=>h
 |[],_,_::_,_,h,_=>by cases h
 |none::a,b,x,y,h,h2=>by
  cases x with
  |nil=>cases h
  |cons v x=>cases v<;>first|exact zol (a:=a) h h2|cases h
 |some k::a,b,x,y,h,h2=>by
  cases x with
  |nil=>cases h
  |cons v x=>cases v<;>first|exact⟨h.1,h.2.1,zol h.2.2 h2⟩|cases h
theorem zg4{k:IntKind}{r:List (Option IntKind)}{l:List Value}(h:ziF (some k::r) l):∃n q,l= .int k n::q/\(Lit.int k n).wf=true/\ziF r q:=by
 cases l with
 |nil=>cases h
 |cons v q=>
  cases v with
  |int k' n=>obtain⟨rfl,h2,h3⟩:=h;exact⟨n,q,rfl,h2,h3⟩
  |_=>cases h
theorem zxy{r:List (Option IntKind)}{l:List Value}(h:ziF (none::r) l):∃b q,l= .bool b::q/\ziF r q:=by
 cases l with
 |nil=>cases h
 |cons v q=>
  cases v with
  |bool b=>exact⟨b,q,rfl,h⟩
  |_=>cases h
theorem zLm{l:List Value}(h:ziF [] l):l=[]:=by
 cases l with
 |nil=>rfl
 |cons _ _=>cases h
section
variable{H:Type}{enc:TypeId×Value->H}{P:Program}{w:World}{base:Nat}{spare:Nat->Bool}{held:Bool}
theorem zS3{t e:TypeId}{n fuel:Nat}{cs:List Value}{x:DataW H×List MemPlace}(ht:P.underlying t=some (.array n e))(h:DataW.trod enc P w base spare held fuel t cs=some x):
 ∃m,fuel=m+1/\cs.length=P.cellsOf t/\∀i,i<n->∃y,DataW.trod enc P w base spare held m e ((cs.drop (i*P.cellsOf e)).take (P.cellsOf e))=some y:=by
 obtain⟨xs,m,h1,_,h2,h3,h4⟩:=DataW.trod_array ht h;refine⟨m,h1,h2,fun i hi=> ?_⟩;rw [h4 i hi];exact⟨xs[i],List.getElem?_eq_getElem zc⟩
theorem zHE{l:List (Option IntKind)}{z:Nat}(hz:l.length=z):∀(n:Nat) (cs:List Value),cs.length=n*z->(∀i,i<n->ziF l ((cs.drop (i*z)).take z))->ziF (List.replicate n l).flatten cs
 |0,cs,h,_=>by
  obtain rfl:cs=[]:=by cases cs with
   |nil=>rfl
   |cons _ _=>simp at h
  exact trivial
 |n+1,cs,h,hf=>by
  have h0:=hf 0 zc;rw [Nat.zero_mul,List.drop_zero]at h0;rw [List.replicate_succ,List.flatten_cons, <-List.take_append_drop z cs];refine zol h0 (zHE hz n _ (by rw [List.length_drop,h,Nat.succ_mul];omega) fun i hi=> ?_);have:=hf (i+1) zc;rw [List.drop_drop,show z+i*z=(i+1)*z by rw [Nat.succ_mul];omega];exact this
theorem zPh{g:TypeId->Option (List (Option IntKind))}{cs:List Value}(N:Nat)(hN:cs.length=N):∀(fs:List Field) (off:Nat) (l:List (Option IntKind)),zNY P g off fs=some l->off+l.length=N->
 (∀f∈fs,∀q,g f.type=some q->ziF q ((cs.drop f.offset).take (P.cellsOf f.type)))->ziF l (cs.drop off)
 |[],off,l,h,he,_=>by
  simp only [zNY,Option.some.injEq]at h;subst h;rw [List.drop_eq_nil_of_le (by simp at he;omega)];exact trivial
 |f::r,off,l,h,he,hf=>by
  unfold zNY at h;cases h1:Nat.beq f.offset off with
  |false=>rw [h1]at h;cases h
  |true=>
   rw [h1]at h;simp only [cond_true]at h;cases h2:g f.type with
   |none=>rw [h2]at h;cases h
   |some a=>
    rw [h2]at h;simp only at h;cases h3:Nat.beq a.length (P.cellsOf f.type)with
    |false=>rw [h3]at h;cases h
    |true=>
     rw [h3]at h;simp only [cond_true]at h;cases h4:zNY P g (off+a.length) r with
     |none=>rw [h4]at h;cases h
     |some b=>
      rw [h4]at h;simp only [Option.some.injEq]at h;subst h;have e1:=Nat.eq_of_beq_eq_true h1;have e3:=Nat.eq_of_beq_eq_true h3;have k1:=hf f jq a h2;rw [e1, <-e3]at k1;rw [List.length_append]at he;have k2:=zPh N hN r (off+a.length) b h4 zc fun f' hf'=>hf f' (by simp [hf'])
      rw [<-List.take_append_drop a.length (cs.drop off),List.drop_drop];exact zol k1 k2
theorem zpW:∀(d:Nat) (t:TypeId) (ks:List (Option IntKind)) (fuel:Nat) (cs:List Value) (x:DataW H×List MemPlace),shK P d t=some ks->DataW.trod enc P w base spare held fuel t cs=some x->ziF ks cs
 |0,_,_,_,_,_,h,_=>by cases h
 |d+1,t,ks,fuel,cs,x,h,hx=>by
  unfold shK at h;cases ht:P.underlying t with
  |none=>rw [ht]at h;cases h
  |some u=>
   rw [ht]at h;cases u with
   |int k=>
    simp only [Option.some.injEq]at h;subst h;obtain⟨n',h1,_,hw⟩:=DataW.trod_int ht hx;subst h1;exact⟨rfl,hw,trivial⟩
   |bool=>
    simp only [Option.some.injEq]at h;subst h;cases fuel with
    |zero=>simp [DataW.trod]at hx
    |succ n=>
     unfold DataW.trod at hx;rw [ht]at hx;split at hx<;>simp_all
     trivial
   |array n e=>
    simp only at h;cases he:shK P d e with
    |none=>rw [he]at h;cases h
    |some l=>
     rw [he]at h;simp only at h;cases hb:(Nat.beq l.length (P.cellsOf e)&&Nat.beq (n*l.length) (P.cellsOf t))with
     |false=>rw [hb]at h;cases h
     |true=>
      rw [hb]at h;simp only [cond_true,Option.some.injEq]at h;subst h;rw [Bool.and_eq_true]at hb;have e1:=Nat.eq_of_beq_eq_true hb.1;have e2:=Nat.eq_of_beq_eq_true hb.2;obtain⟨m,_,hl,hel⟩:=zS3 ht hx;refine zHE e1 n cs (by rw [hl, <-e2,e1]) fun i hi=> ?_
      obtain⟨y,hy⟩:=hel i hi;exact zpW d e l m _ y he hy
   |struct fs=>
    simp only at h;cases he:zNY P (shK P d) 0 fs.toList with
    |none=>rw [he]at h;cases h
    |some l=>
     rw [he]at h;simp only at h;cases hb:Nat.beq l.length (P.cellsOf t)with
     |false=>rw [hb]at h;cases h
     |true=>
      rw [hb]at h;simp only [cond_true,Option.some.injEq]at h;subst h;have e1:=Nat.eq_of_beq_eq_true hb;obtain⟨xs,m,_,_,hl,hn,hel⟩:=DataW.trod_struct ht hx;have:=zPh (P:=P) (cs:=cs) (P.cellsOf t) hl fs.toList 0 l he zc ?_
      ·simpa using this
      ·intro f hf q hq
       obtain⟨i,hi⟩:=List.mem_iff_getElem?.1 hf;have hi':fs[i]? =some f:=by simpa using hi
       have hlt:i<fs.size:=by
        rcases Nat.lt_or_ge i fs.size with h|h
        ·exact h
        ·rw [Array.getElem?_eq_none h]at hi';cases hi'
       have h1:=hel i f hi';have h2:xs[i]? =some xs[i]:=List.getElem?_eq_getElem zc;rw [h2]at h1;exact zpW d f.type q m _ _ hq h1
   |_=>simp only at h;cases h
theorem zS4{r:Reach}{b0:Nat}{t:TypeId}{k:IntKind}{v:Value}{d:DataW H}{ps:List MemPlace}(ht:P.underlying t=some (.int k))(hval:Value.okWide P w r b0 t v)(hd:DataW.Trod enc P w base spare held t v d ps):
 ∃n,v= .int k n/\(Lit.int k n).wf=true:=by
 obtain⟨n,h1,_,_,h2⟩:=open_int ht hval hd;exact⟨n,h1,h2⟩
end
theorem zin{n:Int}(h:(Lit.int .i64 n).wf=true):zr n:=by
 simp [Lit.wf,IntKind.min,IntKind.max,IntKind.signed,IntKind.bits]at h;unfold zr;omega
theorem zvk{n:Int}(h:(Lit.int .i32 n).wf=true):I32 n:=by
 simp [Lit.wf,IntKind.min,IntKind.max,IntKind.signed,IntKind.bits]at h;unfold I32;omega
theorem zWP{n:Int}(h:(Lit.int .u32 n).wf=true):U32 n:=by
 simp [Lit.wf,IntKind.min,IntKind.max,IntKind.signed,IntKind.bits]at h;unfold U32;omega
end Go.Xv
namespace Go.Xv
open Go.ChangeShapes Go.WideShapes Go.ChangeAt Go.RowKit
def zBh:List Char:=[Char.ofNat 99,Char.ofNat 117,Char.ofNat 116]
theorem zQ7: "harness".toList=[Char.ofNat 104,Char.ofNat 97,Char.ofNat 114,Char.ofNat 110,Char.ofNat 101,Char.ofNat 115,Char.ofNat 115]:=String.toList_ofList
theorem zQ8: "ownmain".toList=[Char.ofNat 111,Char.ofNat 119,Char.ofNat 110,Char.ofNat 109,Char.ofNat 97,Char.ofNat 105,Char.ofNat 110]:=String.toList_ofList
theorem zWQ: "gc".toList=[Char.ofNat 103,Char.ofNat 99]:=String.toList_ofList
theorem zS5: "spec".toList=[Char.ofNat 115,Char.ofNat 112,Char.ofNat 101,Char.ofNat 99]:=String.toList_ofList
theorem zEq: "carried".toList=[Char.ofNat 99,Char.ofNat 97,Char.ofNat 114,Char.ofNat 114,Char.ofNat 105,Char.ofNat 101,Char.ofNat 100]:=String.toList_ofList
theorem zPi: "cut".toList=[Char.ofNat 99,Char.ofNat 117,Char.ofNat 116]:=String.toList_ofList
theorem zS6: "finals".toList=[Char.ofNat 102,Char.ofNat 105,Char.ofNat 110,Char.ofNat 97,Char.ofNat 108,Char.ofNat 115]:=String.toList_ofList
theorem zDD: "reflectrows".toList=[Char.ofNat 114,Char.ofNat 101,Char.ofNat 102,Char.ofNat 108,Char.ofNat 101,Char.ofNat 99,Char.ofNat 116,Char.ofNat 114,Char.ofNat 111,Char.ofNat 119,Char.ofNat 115]:=String.toList_ofList
theorem zNZ: "leanrows".toList=[Char.ofNat 108,Char.ofNat 101,Char.ofNat 97,Char.ofNat 110,Char.ofNat 114,Char.ofNat 111,Char.ofNat 119,Char.ofNat 115]:=String.toList_ofList
theorem zN0: "onebuild".toList=[Char.ofNat 111,Char.ofNat 110,Char.ofNat 101,Char.ofNat 98,Char.ofNat 117,Char.ofNat 105,Char.ofNat 108,Char.ofNat 100]:=String.toList_ofList
theorem zHF: "publicsums".toList=[Char.ofNat 112,Char.ofNat 117,Char.ofNat 98,Char.ofNat 108,Char.ofNat 105,Char.ofNat 99,Char.ofNat 115,Char.ofNat 117,Char.ofNat 109,Char.ofNat 115]:=String.toList_ofList
theorem zQ9: "eqguard".toList=[Char.ofNat 101,Char.ofNat 113,Char.ofNat 103,Char.ofNat 117,Char.ofNat 97,Char.ofNat 114,Char.ofNat 100]:=String.toList_ofList
theorem zLn: "ownunsafe".toList=[Char.ofNat 111,Char.ofNat 119,Char.ofNat 110,Char.ofNat 117,Char.ofNat 110,Char.ofNat 115,Char.ofNat 97,Char.ofNat 102,Char.ofNat 101]:=String.toList_ofList
theorem zLo: "libbeside".toList=[Char.ofNat 108,Char.ofNat 105,Char.ofNat 98,Char.ofNat 98,Char.ofNat 101,Char.ofNat 115,Char.ofNat 105,Char.ofNat 100,Char.ofNat 101]:=String.toList_ofList
theorem zLp: "ownbeside".toList=[Char.ofNat 111,Char.ofNat 119,Char.ofNat 110,Char.ofNat 98,Char.ofNat 101,Char.ofNat 115,Char.ofNat 105,Char.ofNat 100,Char.ofNat 101]:=String.toList_ofList
theorem zHG: "reflbeside".toList=[Char.ofNat 114,Char.ofNat 101,Char.ofNat 102,Char.ofNat 108,Char.ofNat 98,Char.ofNat 101,Char.ofNat 115,Char.ofNat 105,Char.ofNat 100,Char.ofNat 101]:=String.toList_ofList
theorem zRa: "aliases".toList=[Char.ofNat 97,Char.ofNat 108,Char.ofNat 105,Char.ofNat 97,Char.ofNat 115,Char.ofNat 101,Char.ofNat 115]:=String.toList_ofList
theorem zLq: "afterinit".toList=[Char.ofNat 97,Char.ofNat 102,Char.ofNat 116,Char.ofNat 101,Char.ofNat 114,Char.ofNat 105,Char.ofNat 110,Char.ofNat 105,Char.ofNat 116]:=String.toList_ofList
theorem zN1: "crcplain".toList=[Char.ofNat 99,Char.ofNat 114,Char.ofNat 99,Char.ofNat 112,Char.ofNat 108,Char.ofNat 97,Char.ofNat 105,Char.ofNat 110]:=String.toList_ofList
theorem zHH: "roadunsafe".toList=[Char.ofNat 114,Char.ofNat 111,Char.ofNat 97,Char.ofNat 100,Char.ofNat 117,Char.ofNat 110,Char.ofNat 115,Char.ofNat 97,Char.ofNat 102,Char.ofNat 101]:=String.toList_ofList
theorem zLr: "fmthandon".toList=[Char.ofNat 102,Char.ofNat 109,Char.ofNat 116,Char.ofNat 104,Char.ofNat 97,Char.ofNat 110,Char.ofNat 100,Char.ofNat 111,Char.ofNat 110]:=String.toList_ofList
section
variable{P:Program}{R:List (List Char)}
theorem zRb{S L:List Char}(io:P.initOrder.toList=L)(h:wordsSigns L=[Char.ofNat 104,Char.ofNat 97,Char.ofNat 114,Char.ofNat 110,Char.ofNat 101,Char.ofNat 115,Char.ofNat 115]::S::zBh::R)(hs:isSumSigns S=true):behindMainWord (wordsSigns P.initOrder.toList)=zBh::R:=by
 rw [io,h];unfold behindMainWord;dsimp only;rw [hs,zQ7,zQ8];rfl
theorem zLs:stripLifts liftWords (zBh::R)=([],zBh::R):=by
 simp only [liftWords,stripLifts,zS6,zDD,zNZ,zN0,zHF,zQ9,zLn,zLo,zLp,zHG,zRa,zLq,zN1,zHH,zLr];rfl
theorem zUV(h:behindMainWord (wordsSigns P.initOrder.toList)=zBh::R):P.make=some .cut:=by
 unfold Program.make;rw [h];dsimp only;rw [zWQ,zS5,zPi];rfl
theorem zS7(h:behindMainWord (wordsSigns P.initOrder.toList)=zBh::R):P.headLifts=[]:=by
 unfold Program.headLifts;rw [h,zLs];dsimp only;rw [zPi];rfl
theorem zS8(h:behindMainWord (wordsSigns P.initOrder.toList)=zBh::R):P.liftsFinal=false:=by
 unfold Program.liftsFinal;rw [h,zS7 h];dsimp only;rw [zEq,zWQ,zPi];rfl
theorem zS9(h:behindMainWord (wordsSigns P.initOrder.toList)=zBh::R)(h1:P.laysLater=false)(h2:P.bearsReflect=false)(h3:P.doorFits []=true):P.mayEnter=true:=by
 unfold Program.mayEnter;rw [h];dsimp only;rw [zLs];dsimp only;rw [zWQ,zS5,zEq,zPi,h1,h2,h3];rfl
theorem zRc{f:FuncId}{fn:Func}{s:ChangeSpec}{c:OpenClaim}(h:behindMainWord (wordsSigns P.initOrder.toList)=zBh::R)(he:P.mayEnter=true)(hc:c.lifted=false)(hm:c.make= .cut)
 (hk:c.domain.isEmpty=true/\c.kinds=[])
 (hx:(c.wf (OpenSpec.ofChange s)&&laidOutB P&&mapsRowed P&&fn.params.all (P.readableRec ·)&&namedTie P c.named s.vars&&(c.stops==[])&&(P.stops==[])&&(c.knobs==[])&&(P.stopKnobs==[])&&(c.inPlace==P.inPlace f)&&(c.unfollowed==P.unfollowed f)&&(c.recurses==P.recurses f)&&(c.named==P.varsNamed f)&&(c.maps==(fn.params.toList++s.plain.varTypes P).any (P.mapsRec ·))&&(c.ifaces==(fn.params.toList++s.plain.varTypes P).any (P.ifacesRec ·))&&(c.mapsOut==P.mapsAmong fn.resultTypes.toList)&&(c.loops==(fn.params.toList++s.plain.varTypes P).any (P.loopsFrom ·))&&(c.wideKeys==(fn.params.toList++s.plain.varTypes P++fn.resultTypes.toList).any (P.wideKeysFrom ·))&&s.vars.all (P.varReadable ·)&&fn.resultTypes.all (fun t=>P.readableRec t&&decide (t<P.types.size))&&(c.ifacesOut==fn.resultTypes.toList.any (P.ifacesRec ·))&&(c.loopsOut==fn.resultTypes.toList.any (P.loopsFrom ·))&&(c.plainKeys==P.plainKeys)&&c.shortTexts.isNone&&P.stopsHeard&&(c.pinned==c.pinnedBy)&&
 (c.veiled==(fn.params.toList++s.plain.varTypes P++fn.resultTypes.toList).any (P.veiledRec ·))&&c.veiledFits P fn.params.toList (fn.params.toList++s.plain.varTypes P++fn.resultTypes.toList))=true):joinedFacts P f fn s c=true:=by
 simp only [Bool.and_eq_true]at hx;unfold joinedFacts;simp only [Bool.and_eq_true];rw [he,zS8 h,zUV h,hc,hm];simp only [and_assoc]at hx⊢;simp only [hx,hk,if_true,and_self,BEq.rfl]
end
end Go.Xv
namespace Go.Xv
open Go.RowKit Go.WideShapes Go.ChangeShapes
theorem zBi(a:Addr)(n m:Nat):(a.add n).add m=a.add (n+m):=by
 unfold Addr.add;by_cases hn:n=0
 ·subst hn;simp
 ·by_cases hm:m=0
  ·subst hm;simp
  ·simp [hn,hm,Nat.add_assoc]
theorem zBj:∀{ks:List (Option IntKind)} {l:List Value},ziF ks l->∀v∈l,v.oneCell'=true
 |[],[],_,v,h=>by cases h
 |[],_::_,h,_,_=>by cases h
 |none::a,l,h,v,hv=>by
  obtain⟨b,q,rfl,h2⟩:=zxy h;rcases List.mem_cons.1 hv with rfl|hv
  ·rfl
  ·exact zBj h2 v hv
 |some k::a,l,h,v,hv=>by
  obtain⟨n,q,rfl,_,h2⟩:=zg4 h;rcases List.mem_cons.1 hv with rfl|hv
  ·rfl
  ·exact zBj h2 v hv
section
variable{H:Type}{enc:TypeId×Value->H}{P:Program}{W:World}{base:Nat}{held:Bool}
theorem zEr{k:IntKind}:∀(n:Nat) (vs:List Value),ziF (List.replicate n (some k)) vs->∃zs:List Int,vs=zs.map (fun z=>.int k z)/\zs.length=n/\∀z∈zs,(Lit.int k z).wf=true
 |0,vs,h=>by
  have:vs=[]:=by cases vs with
   |nil=>rfl
   |cons a r=>cases h
  exact⟨[],this,rfl,jq⟩
 |n+1,vs,h=>by
  rw [List.replicate_succ]at h;obtain⟨z,q,rfl,hz,h2⟩:=zg4 h;obtain⟨zs,rfl,hl,hw⟩:=zEr n q h2
  exact⟨z::zs,rfl,by simp [hl],fun y hy=>by
   rcases List.mem_cons.1 hy with rfl|hy
   ·exact hz
   ·exact hw y hy⟩
end
section
variable{H:Type}{enc:TypeId×Value->H}{P:Program}{W:World}{base:Nat}{held:Bool}
theorem ztO(hl:laidOutB P=true){n:FuncId}{fn:Func}{s:ChangeSpec}{apart fresh handsOn again:Bool}
 {bt:TypeId} (hbt:P.underlying bt=some .bool) (hres:fn.resultTypes=#[bt]) (hro:zS1 P fn.params.toList=true) (hsv:s.vars=[])
 {W:World} {args:Array Value} {ds gs:List (DataW H)} {before:List MemPlace}
 (hfn:s.fn H ds={results:=[.lit (.bool true)],args:=ds})
 (hW:DataW.Whole enc P fn.params.toList s.vars apart W args.toList ds gs before)
 (hc:Calls P n args W fun e W'=>e= .returned (.bool true)/\Below W.heap.size W W'):
 Calls P n args W fun e W'=>∃v,e= .returned v/\s.post enc P fn apart fresh handsOn again W args v W':=by
 refine hc.mono fun e W' ⟨he,hb⟩=>⟨.bool true,he,?_⟩
 have hlt:=hW.lt;have hW0:=hW;obtain⟨p,q,hA,hV,rfl,hz,hn⟩:=hW;rw [hsv]at hV;obtain⟨rfl,rfl⟩:gs=[]/\q=[]:=by
  cases gs with
  |nil=>exact⟨rfl,hV⟩
  |cons=>exact hV.elim
 have hps:∀x∈p,x.block<W.heap.size:=fun x hx=>hlt x (by simp [hx])
 have hargs:∀sp:Nat->Bool,(∀x∈p,sp x.block=true)->DataW.TrodAll enc P W' 0 sp true fn.params.toList args.toList ds p:=fun sp hsp=>
  zuk hl hb hro hA hps hsp
 have hresT:∀(b:Nat) (sp:Nat->Bool) (hd:Bool),DataW.TrodAll enc P W' b sp hd fn.resultTypes.toList ((Value.bool true).resultList fn.resultTypes.size) [.lit (.bool true)] []:=by
  intro b sp hd;rw [hres];exact⟨[],[],shut_bool hbt true,rfl,rfl⟩
 have hfn':s.fn H (ds++[])={results:=[.lit (.bool true)],args:=ds}:=by rw [List.append_nil];exact hfn
 have hvars:∀sp:Nat->Bool,DataW.TrodVars enc P W' sp s.vars [] []:=fun sp=>by rw [hsv];rfl
 refine⟨ds,[],p++[],[],p,[],hW0,?_,?_,?_,hb.frame _,fun _=>⟨ok_one hres rfl (okWide_bool_mk hbt _),?_⟩⟩
 ·rw [hfn'];exact hresT _ _ _
 ·rw [hfn'];exact hargs _ (fun x hx=>by simpa using hps x hx)
 ·rw [hfn'];exact hvars _
 ·refine⟨_,_,([]++p)++[],⟨[]++p,[],trodAll_append (hargs _ (fun _ _=>rfl)) (hresT _ _ _),hvars _,rfl,?_,?_⟩,?_⟩
  ·intro b off hp
   rw [hb.frozen (hlt _ (by simpa using hp))];exact hz b off (by simpa using hp)
  ·intro ha
   simpa using hn ha
  ·intro x hx _
   simpa using hx
end
end Go.Xv
namespace Go.Xv
open Go.RowKit
structure TK where
 src:Int
 kd:Int
 wt:Int
 gain:Int
 step:Int
 limit:Int
 hor:Int
 c:V3
 last:Int
 pulled:Bool
abbrev zcC(t:TK):Array Value:=#[.i t.src,.i t.kd,.i t.wt,.i t.gain,.i t.step,.i t.limit,.i t.hor,.i t.c.x,.i t.c.y,.i t.c.z,.i t.last,.bool t.pulled]
abbrev ptB(b:Nat):Value:=.pointer (some (.q b 0))
def EL:Nat->List (Int×Nat)->List MapEntry
 |_,[]=>[]
 |i,(s,b)::r=>{key:=.i s,val:=ptB b,born:=i}::EL (i+1) r
def znv(w:World)(mb:Nat)(l:List (Int×Nat)):Prop:=w.heap[mb]? =some (.map (EL 0 l).toArray l.length)
def zcS:List (Int×Nat)->Int->Option Nat
 |[],_=>none
 |(s,b)::r,k=>if k=s then some b else zcS r k
def zyt:List (Int×Nat)->Int->Nat->Option (Nat×Value)
 |[],_,_=>none
 |(s,b)::r,k,j=>if k=s then some (j,ptB b)else zyt r k (j+1)
theorem zBk:∀(l:List (Int×Nat)) (k:Int) (j:Nat),(zyt l k j).map (·.2)=(zcS l k).map ptB
 |[],_,_=>rfl
 |(s,b)::r,k,j=>by
  unfold zyt zcS;split
  ·rfl
  ·exact zBk r k (j+1)
theorem zvl:∀(l:List (Int×Nat)) (k:Int) (i j:Nat),Instr.findNow (.i) (.i k) (EL i l) j=some (zyt l k j)
 |[],_,_,_=>rfl
 |(s,b)::r,k,i,j=>by
  unfold EL Instr.findNow zyt;simp only [Instr.sameNow,if_true];by_cases h:k=s
  ·subst h
   simp
  ·simp only [h,if_false,beq_iff_eq,beq_eq_false_iff_ne.2 h]
   exact zvl r k (i+1) (j+1)
def ptV:Option Nat->Value
 |none=>.pointer none
 |some b=>ptB b
theorem zio{w:World}{mb:Nat}{l:List (Int×Nat)}(h:znv w mb l)(k:Int):(Instr.lookup 60 (.map (some mb)) (.i k) false).run PP w= .ok (ptV (zcS l k)) w:=by
 have hf:=zvl l k 0 0;have he:=zBk l k 0;simp only [Instr.lookup,Sem.run_bind,run_underlying zmp,MapKept.run_getObj_map h,zHB,Result.andThen,Sem.run_pure,Instr.findKey,run_underlying zEp,hf];cases hl:zyt l k 0 with
 |none=>
  rw [hl]at he;cases hk:zcS l k with
  |none=>simp [ptV,ztE]
  |some b=>rw [hk]at he;cases he
 |some p=>
  rw [hl]at he;cases hk:zcS l k with
  |none=>rw [hk]at he;cases he
  |some b=>
   rw [hk]at he;obtain⟨i,v⟩:=p;obtain rfl:v=ptB b:=by simpa using he
   simp [ptV]
structure zxz (w:World) (nb:Nat) (l:List (Int×Nat)) (ts:List TK):Prop where
 len:l.length=ts.length
 blk:∀(i:Nat) (s:Int) (b:Nat),l[i]? =some (s,b)->∃t:TK,ts[i]? =some t/\s=t.src/\w.heap[b]? =some (.cells (zcC t) 85 (0,0))
 nodup:(l.map (·.2)).Nodup
 ne:∀p∈l,p.2≠nb
structure jj (D:Nat->Prop) (w w':World):Prop where
 os:w'.os=w.os
 tape:w'.tape=w.tape
 output:w'.output=w.output
 size:w.heap.size<=w'.heap.size
 block:∀k,k<w.heap.size-> ¬D k->w'.heap[k]? =w.heap[k]?
theorem jj.of{D:Nat->Prop}{w w':World}(h:Below w.heap.size w w'):jj D w w':=⟨h.os,h.tape,h.output,h.size,fun k hk _=>h.block k hk⟩
theorem jj.chg{D:Nat->Prop}{nb:Nat}{w w':World}(h:Chg nb w w')(hn:D nb):jj D w w':=⟨h.os,h.tape,h.output,h.size,fun k hk hd=>h.block k hk (fun e=>hd (e▸hn))⟩
theorem jj.trans{D:Nat->Prop}{w w' w'':World}(h:jj D w w')(k:jj D w' w''):jj D w w'':=
 ⟨k.os.trans h.os,k.tape.trans h.tape,k.output.trans h.output,Nat.le_trans h.size k.size,fun i hi hn=>(k.block i (Nat.lt_of_lt_of_le hi h.size) hn).trans (h.block i hi hn)⟩
theorem jj.mono{D D':Nat->Prop}{w w':World}(h:jj D w w')(hd:∀k,D k->D' k):jj D' w w':=⟨h.os,h.tape,h.output,h.size,fun k hk hn=>h.block k hk (fun e=>hn (hd k e))⟩
theorem zxA:∀{l:List (Int×Nat)} {k:Int} {b:Nat},zcS l k=some b->∃i:Nat,l[i]? =some (k,b)
 |(s,b')::r,k,b,h=>by
  unfold zcS at h;split at h
  ·rename_i hk
   cases h;exact⟨0,by rw [hk];rfl⟩
  ·obtain⟨i,hi⟩:=zxA h
   exact⟨i+1,hi⟩
theorem zfI{fn:Func}{p u v:Tmp}{ty:TypeId}(h:fn.results=#[.cell p ty,.tmp u,.tmp v])(tmps:Array Value)(w:World)(g:Nat)(t:TypeId)(cs:Array Value)(fr:Nat×Nat)
 (hp:tmps.getD p undef= .pointer (some (.q g 0))) (hg:w.heap[g]? =some (.cells cs t fr)) (hr:∃d,PP.underlying ty=some d/\d.isRow=true) (hi:(PP.info? ty).map (·.size)=some cs.size):
 (results fn tmps).run PP w= .ok (.tuple #[.agg cs,tmps.getD u undef,tmps.getD v undef]) w:=by
 obtain⟨d,hu,hd⟩:=hr;have hp':tmps[p]?.getD undef= .pointer (some (.q g 0)):=by simpa using hp
 have hl:=run_loadVar_row (P:=PP) w g t ty cs fr d hg hu (by cases d<;>first|rfl|exact hd) hi;simp [results,h,hp',asAddr,hl,Sem.run_bind,Result.andThen]
theorem zni(k:Int)(w:World):Calls PP 42 #[.i k] w fun e w'=>e= .returned (.i (if k=5 then 3 else 1))/\w'=w:=by
 go_enter Proofs.Tryz.func42,Proofs.Tryz.ntmps42
 by_cases h:k=5
 ·subst h
  go_wp2;go_ret;simp
 ·have hb:(k==5)=false:=by simpa using h
  rw [if_neg h];go_wp2;go_ret;simp
end Go.Xv
namespace Go.Xv
def zLt:Cfg:=⟨[0,1,2,3,4,6,7,8,15],[],[],[]⟩
def zom:Sg:=⟨[.v (.agg [.i,.i,.i,.i]),.v (.agg [.i,.i,.i,.i]),.i],.v (.tup [.agg [.i,.i,.i,.i],.i])⟩
def zLu(zaC:Qi9)(j5:zBK)(F:Nat):=zS [(92,zz zm8 ki9 zaC F),(93,zz zjR zpA j5 F)]
def zrB(zaC:Qi9)(j5:zBK)(F:Nat):FT ki9:=fun g h l a c d e m o=>bif(zaC.ok F g h l a c d e m o)then bif(!(zaC.b 0 F g h l a c d e m o))then some (.v (.tuple #[.agg #[.i 0,.i 0,.i 0,.i 0],.i 2]))else bif(decide ((wrap .i64 (o-m))<=a))then some (.v (.tuple #[.agg #[.i c,.i d,.i e,.i m],.i 0]))else bif(j5.ok F g h l a c d e 0 0 0 3)then some (.v (.tuple #[.agg #[.i (j5.i 0 F g h l a c d e 0 0 0 3),.i (j5.i 1 F g h l a c d e 0 0 0 3),.i (j5.i 2 F g h l a c d e 0 0 0 3),.i m],.i 0]))else none else none
def zon:=zrB zaC j5
def zbQ:Qi9:=mkQ (l:=ki9) zom.o zon
theorem zLv(zaC:Qi9)(j5:zBK)(F:Nat):HHz zom ki9 (zLu zaC j5 F) zLt [] 48 (zrB zaC j5 F):=hzz
theorem zLw(F:Nat)(a b c d e g h l m:Int):zRR (zon F a b c d e g h l m) (zbQ.ok F a b c d e g h l m) (zbQ.i 0 F a b c d e g h l m) (zbQ.i 1 F a b c d e g h l m) (zbQ.i 2 F a b c d e g h l m) (zbQ.i 3 F a b c d e g h l m) (zbQ.i 4 F a b c d e g h l m):=zUk _
theorem zLx(F:Nat):yc PP 48 (unS (zz zom ki9 zbQ F)):=
 gzz F (zLv zaC j5 F) (zd (zA2 F) (zd (zC6 F) zn))
def zLy:Cfg:=⟨[0,1,2,3,4,5,6,7,10,11,24],[],[],[]⟩
def zoo:Sg:=⟨[.v (.agg [.i,.i,.i,.i]),.v (.agg [.i,.i,.i,.i]),.v (.agg [.i,.i,.i]),.i,.i],.v (.tup [.agg [.i,.i,.i,.i],.i])⟩
def zLz(zaC:Qi9)(zaX:zBK)(F:Nat):=zS [(92,zz zm8 ki9 zaC F),(93,zz zod zpA zaX F)]
def zrC(zaC:Qi9)(zaX:zBK)(F:Nat):FT zpz:=fun e g h l m o p u s t c a d=>bif(zaC.ok F e g h l m o p u d)then bif(!(zaC.b 0 F e g h l m o p u d))then some (.v (.tuple #[.agg #[.i 0,.i 0,.i 0,.i 0],.i 2]))else bif(decide (a<0))then some (.v (.tuple #[.agg #[.i 0,.i 0,.i 0,.i 0],.i 2]))else bif(decide (a>3))then some (.v (.tuple #[.agg #[.i 0,.i 0,.i 0,.i 0],.i 2]))else bif(zaX.ok F e g h l m o p s t c a)then some (.v (.tuple #[.agg #[.i (zaX.i 0 F e g h l m o p s t c a),.i (zaX.i 1 F e g h l m o p s t c a),.i (zaX.i 2 F e g h l m o p s t c a),.i d],.i 0]))else none else none
def zop:=zrC zaC zaX
def zbR:zUg:=mkQ (l:=zpz) zoo.o zop
theorem zLA(zaC:Qi9)(zaX:zBK)(F:Nat):HHz zoo zpz (zLz zaC zaX F) zLy [] 47 (zrC zaC zaX F):=hzz
theorem zLB(F:Nat)(d e g h l m o p s t a b c:Int):zRR (zop F d e g h l m o p s t a b c) (zbR.ok F d e g h l m o p s t a b c) (zbR.i 0 F d e g h l m o p s t a b c) (zbR.i 1 F d e g h l m o p s t a b c) (zbR.i 2 F d e g h l m o p s t a b c) (zbR.i 3 F d e g h l m o p s t a b c) (zbR.i 4 F d e g h l m o p s t a b c):=zUk _
theorem zLC(F:Nat):yc PP 47 (unS (zz zoo zpz zbR F)):=
 gzz F (zLA zaC zaX F) (zd (zA2 F) (zd (zKV F) zn))
def zpj:Cfg:=⟨[0,1,2,3,4,5,18,20,39],[(0,[0,1,2,3,4,5,6,7,8,9,10,11,12,13,14,15,16,17,18])],[],[]⟩
def zgc:Sg:=⟨[.v (.agg [.i,.i,.i,.i]),.v (.agg [.i,.i,.i,.i])],.i⟩
def zpk(ym:Qi4)(F:Nat):=zS [(58,zz zf8 ki4 ym F)]
def zeH:TS:=⟨[(0,.v (.agg [.i,.i,.i,.i])),(1,.v (.agg [.i,.i,.i,.i])),(2,.lp 0 (.lit 0)),(3,.lp 1 (.lit 0)),(4,.i),(5,.i)],[(0,⟨(.ex [.i,.i,.i,.i]),true⟩),(1,⟨(.ex [.i,.i,.i,.i]),true⟩)],2⟩
def zwn:TS:=zeH
def zwo:TS:=zeH
def zcN(F:Nat)(A o f:FT ziD):FT ziD:=fun p s t u w x y z n g h l e m a b c d=>
 bif(decide (g<3))then(
  bif((decide (0<=g))&&(decide (g<3)))then(
   let r:Nat:=(0+((Int.toNat g)*1))
   bif((isI .i64 [.v (.i a),.v (.i b),.v (.i c),.v (.i d)][r]?)&&true)then(
    bif(decide ((iv [.v (.i a),.v (.i b),.v (.i c),.v (.i d)][r]?)>e))then(
     o p s t u w x y z 2 g h l e m a b c d)
    else(
     bif((decide (0<=g))&&(decide (g<3)))then(
      let j:Nat:=(0+((Int.toNat g)*1))
      bif((isI .i64 [.v (.i a),.v (.i b),.v (.i c),.v (.i d)][j]?)&&true)then(
       bif(decide ((iv [.v (.i a),.v (.i b),.v (.i c),.v (.i d)][j]?)<(wrap .i64 (0-e))))then(
        o p s t u w x y z 2 g h l e m a b c d)
       else(
        A p s t u w x y z n (wrap .i64 (g+1)) h l e m a b c d))else none)else none))else none)else none)
 else(
  f p s t u w x y z n g h l e m a b c d)
def jh(F:Nat)(a b:FT ziD):Nat->FT ziD:=lY fun c=>zcN F c a b
theorem zgB{F n}{a}{b}:jh F a b (n+1)=zcN F (jh F a b n) a b:=rfl
def ziq(k:Exit->VS->R):FT ziD:=cQ _ fun q=>k .ret (fS zwn q)
def zir(k:Exit->VS->R):FT ziD:=cQ _ fun q=>k (.exit 0) (fS zwo q)
def zgd(jh:Nat->FT ziD->FT ziD->Nat->FT ziD)(F:Nat):List LW:=[⟨0,zeH,fun k q=>uQ _ (jh F (ziq k) (zir k) F) q⟩]
theorem zxB(F:Nat)(k:Exit->VS->R):∀n q,iQ PP (zpk ym F) zpj (zgd jh F) [] 116 0 0 k n zeH q=uQ _ (jh F (ziq k) (zir k) n) q:=
 lG (fun _=>by kernel_rfl) ((hzz:∀(ym:Qi4) (jh:Nat->FT ziD->FT ziD->Nat->FT ziD),LH PP (zpk ym F) zpj (zgd jh F) [] 116 0 0 k zeH (fun a=>zcN F a (ziq k) (zir k))) ym jh)
def znj(ym:Qi4)(jh:Nat->FT ziD->FT ziD->Nat->FT ziD)(F:Nat):FT ki8:=fun a b c d h l m e=>bif(ym.ok F a b c d)then bif((ym.i 0 F a b c d) !=0)then some (.v (.i 2))else bif(decide (e<0))then some (.v (.i 2))else bif(decide (e>1099511627776))then some (.v (.i 2))else jh F (fun P Q T U V X Y Z g o p s t u w x y z=>some (.v (.i g))) (fun f n r j A B C D E G H I J K L M N O=>some (.v (.i 0))) F a b c d h l m e 0 0 a b c d h l m e else none
def zpl:=znj ym jh
def yt:Qi8:=mkQ (l:=ki8) zgc.o zpl
theorem zDE(ym:Qi4)(jh:Nat->FT ziD->FT ziD->Nat->FT ziD)(F:Nat):HHz zgc ki8 (zpk ym F) zpj (zgd jh F) 116 (znj ym jh F):=hzz
theorem zDF(F:Nat)(a b c d e g h l:Int):KO0 (zpl F a b c d e g h l) (yt.ok F a b c d e g h l) (yt.i 0 F a b c d e g h l):=ko0 _
theorem zul(F:Nat):yc PP 116 (unS (zz zgc ki8 yt F)):=
 gzl (W:=zgd jh) F (zDE ym jh F) (zd (zuh F) zn) (jP [(0,zaK PP 116 0)] kfz (zd (jZ (zgd jh F) rfl (yn (fun _ k q=>Le.ofEq (zxB F k F q).symm) jY)) zn))
def zrD:Cfg:=⟨[0,1,2,3,4,6,7,8,9,23,31,35,42,58],[(0,[0,1,2,3,4,6,7,8,9,10,11,12,13,14,15,16,17,18,19,20,21,22,23,24,25,26,27,28,29,30,31,32,33,70])],[],[]⟩
def zmf:Sg:=⟨[.v (.agg [.i,.i,.i,.i]),.v (.agg [.i,.i,.i,.i]),.i],.v (.tup [.agg [.i,.i,.i,.i],.i])⟩
def zrE(yt:Qi8)(F:Nat):=zS [(116,zz zgc ki8 yt F)]
def zis:TS:=⟨[(0,.v (.agg [.i,.i,.i,.i])),(1,.v (.agg [.i,.i,.i,.i])),(2,.i),(3,.lp 0 (.lit 0)),(4,.lp 1 (.lit 0)),(6,.lp 2 (.lit 0)),(7,.i),(8,.lp 3 (.lit 0)),(9,.i)],[(0,⟨(.ex [.i,.i,.i,.i]),true⟩),(1,⟨(.ex [.i,.i,.i,.i]),true⟩),(2,⟨(.ex [.i,.i,.i,.i]),true⟩),(3,⟨.hole,true⟩)],4⟩
def zxC:TS:=zis
def zdm(F:Nat)(G I:FT zpC):FT zpC:=fun x y z f n r j A B C a l g m o b c d e p s t u h=>
 bif(decide (a<3))then(
  bif((decide (0<=a))&&(decide (a<3)))then(
   let L:Nat:=(0+((Int.toNat a)*1))
   bif((isI .i64 [.v (.i b),.v (.i c),.v (.i d),.v (.i e)][L]?)&&true)then(
    bif(decide ((iv [.v (.i b),.v (.i c),.v (.i d),.v (.i e)][L]?)>0))then(
     bif((decide (0<=a))&&(decide (a<3)))then(
      let M:Nat:=(0+((Int.toNat a)*1))
      bif((isI .i64 [.v (.i b),.v (.i c),.v (.i d),.v (.i e)][M]?)&&true)then(
       let N:Int:=(wrap .i64 ((iv [.v (.i b),.v (.i c),.v (.i d),.v (.i e)][M]?)-g))
       bif((decide (0<=a))&&(decide (a<3)))then(
        let J:Nat:=(0+((Int.toNat a)*1))
        bif(decide ((J+1)<=h.length))then(
         let H:List VV:=(h.take J++[.v (.i (if 0>N then 0 else N))]++h.drop (J+1))
         bif((decide (0<=a))&&(decide (a<3)))then(
          let O:Nat:=(0+((Int.toNat a)*1))
          bif((isI .i64 [.v (.i b),.v (.i c),.v (.i d),.v (.i e)][O]?)&&true)then(
           bif(decide ((iv [.v (.i b),.v (.i c),.v (.i d),.v (.i e)][O]?)<0))then(
            bif((decide (0<=a))&&(decide (a<3)))then(
             let P:Nat:=(0+((Int.toNat a)*1))
             bif((isI .i64 [.v (.i b),.v (.i c),.v (.i d),.v (.i e)][P]?)&&true)then(
              let Q:Int:=(wrap .i64 ((iv [.v (.i b),.v (.i c),.v (.i d),.v (.i e)][P]?)+g))
              bif((decide (0<=a))&&(decide (a<3)))then(
               let K:Nat:=(0+((Int.toNat a)*1))
               bif(decide ((K+1)<=H.length))then(
                G x y z f n r j A B C (wrap .i64 (a+1)) l g m o b c d e p s t u (H.take K++[.v (.i (if 0<Q then 0 else Q))]++H.drop (K+1)))else none)else none)else none)else none)
           else(
            G x y z f n r j A B C (wrap .i64 (a+1)) l g m o b c d e p s t u H))else none)else none)else none)else none)else none)else none)
    else(
     bif((decide (0<=a))&&(decide (a<3)))then(
      let T:Nat:=(0+((Int.toNat a)*1))
      bif((isI .i64 [.v (.i b),.v (.i c),.v (.i d),.v (.i e)][T]?)&&true)then(
       bif(decide ((iv [.v (.i b),.v (.i c),.v (.i d),.v (.i e)][T]?)<0))then(
        bif((decide (0<=a))&&(decide (a<3)))then(
         let D:Nat:=(0+((Int.toNat a)*1))
         bif((isI .i64 [.v (.i b),.v (.i c),.v (.i d),.v (.i e)][D]?)&&true)then(
          let E:Int:=(wrap .i64 ((iv [.v (.i b),.v (.i c),.v (.i d),.v (.i e)][D]?)+g))
          bif((decide (0<=a))&&(decide (a<3)))then(
           let w:Nat:=(0+((Int.toNat a)*1))
           bif(decide ((w+1)<=h.length))then(
            G x y z f n r j A B C (wrap .i64 (a+1)) l g m o b c d e p s t u (h.take w++[.v (.i (if 0<E then 0 else E))]++h.drop (w+1)))else none)else none)else none)else none)
       else(
        G x y z f n r j A B C (wrap .i64 (a+1)) l g m o b c d e p s t u h))else none)else none))else none)else none)
 else(
  I x y z f n r j A B C a l g m o b c d e p s t u h)
def yM(F:Nat)(a:FT zpC):Nat->FT zpC:=lY fun b=>zdm F b a
theorem zit{F n}{a}:yM F a (n+1)=zdm F (yM F a n) a:=rfl
def zjd(k:Exit->VS->R):FT zpC:=cQ _ fun q=>k (.exit 0) (fS zxC q)
def ziu(yM:Nat->FT zpC->Nat->FT zpC)(F:Nat):List LW:=[⟨0,zis,fun k q=>uQ _ (yM F (zjd k) F) q⟩]
theorem zzn(F:Nat)(k:Exit->VS->R):∀n q,iQ PP (zrE yt F) zrD (ziu yM F) [] 75 0 0 k n zis q=uQ _ (yM F (zjd k) n) q:=
 lG (fun _=>by kernel_rfl) ((hzz:∀(yt:Qi8) (yM:Nat->FT zpC->Nat->FT zpC),LH PP (zrE yt F) zrD (ziu yM F) [] 75 0 0 k zis (fun a=>zdm F a (zjd k))) yt yM)
def zpm(yt:Qi8)(yM:Nat->FT zpC->Nat->FT zpC)(F:Nat):FT ki9:=fun h l m g c d e b o=>bif(yt.ok F h l m g c d e b)then bif((yt.i 0 F h l m g c d e b) !=0)then some (.v (.tuple #[.agg #[.i 0,.i 0,.i 0,.i 0],.i 2]))else bif(decide (o<b))then some (.v (.tuple #[.agg #[.i 0,.i 0,.i 0,.i 0],.i 2]))else bif(decide (o>1099511627776))then some (.v (.tuple #[.agg #[.i 0,.i 0,.i 0,.i 0],.i 2]))else bif(decide ((wrap .i64 (o-b))<=g))then some (.v (.tuple #[.agg #[.i c,.i d,.i e,.i b],.i 0]))else yM F (fun p s t u w x y z f n r j A B C D E G H I J K L a=>bif((isI .i64 a[0]?)&&((isI .i64 a[1]?)&&((isI .i64 a[2]?)&&((isI .i64 a[3]?)&&true))))then some (.v (.tuple #[.agg #[.i (iv a[0]?),.i (iv a[1]?),.i (iv a[2]?),.i (iv a[3]?)],.i 0]))else none) F h l m g c d e b o 0 0 h l m g c d e b 0 0 0 0 ([.v (.i c),.v (.i d),.v (.i e),.v (.i b)])else none
def zmg:=zpm yt yM
def zbE:Qi9:=mkQ (l:=ki9) zmf.o zmg
theorem zHI(yt:Qi8)(yM:Nat->FT zpC->Nat->FT zpC)(F:Nat):HHz zmf ki9 (zrE yt F) zrD (ziu yM F) 75 (zpm yt yM F):=hzz
theorem zHJ(F:Nat)(a b c d e g h l m:Int):zRR (zmg F a b c d e g h l m) (zbE.ok F a b c d e g h l m) (zbE.i 0 F a b c d e g h l m) (zbE.i 1 F a b c d e g h l m) (zbE.i 2 F a b c d e g h l m) (zbE.i 3 F a b c d e g h l m) (zbE.i 4 F a b c d e g h l m):=zUk _
theorem zHK(F:Nat):yc PP 75 (unS (zz zmf ki9 zbE F)):=
 gzl (W:=ziu yM) F (zHI yt yM F) (zd (zul F) zn) (jP [(0,zaK PP 75 0)] kfz (zd (jZ (ziu yM F) rfl (yn (fun _ k q=>Le.ofEq (zzn F k F q).symm) jY)) zn))
def zrF:Cfg:=⟨[0,1,2,3,4,5,6,7,10,11,12,13,14,16,39,47],[(0,[0,1,2,3,4,5,6,7,10,11,12,13,18,19,20,21,22,23,24,25,26,27,28,29,30,31,32,33,34,35,36,37,38,39,40,41,42,43,44,92])],[],[]⟩
def zmh:Sg:=⟨[.v (.agg [.i,.i,.i,.i]),.v (.agg [.i,.i,.i,.i]),.v (.agg [.i,.i,.i]),.i,.i],.v (.tup [.agg [.i,.i,.i,.i],.i])⟩
def zrG(yt:Qi8)(zT:jQ)(jH:Qi3)(yq:jQ)(F:Nat):=zS [(116,zz zgc ki8 yt F),(79,zz zeK ki2 zT F),(117,zz zjI ki3 jH F),(77,zz zg1 ki2 yq F)]
def ziv:TS:=⟨[(0,.v (.agg [.i,.i,.i,.i])),(1,.v (.agg [.i,.i,.i,.i])),(2,.v (.agg [.i,.i,.i])),(3,.i),(4,.i),(5,.lp 0 (.lit 0)),(6,.lp 1 (.lit 0)),(7,.lp 2 (.lit 0)),(10,.lp 3 (.lit 0)),(11,.i),(12,.lp 4 (.lit 0)),(13,.i)],[(0,⟨(.ex [.i,.i,.i,.i]),true⟩),(1,⟨(.ex [.i,.i,.i,.i]),true⟩),(2,⟨(.ex [.i,.i,.i]),true⟩),(3,⟨(.ex [.i,.i,.i,.i]),true⟩),(4,⟨.hole,true⟩)],5⟩
def zxD:TS:=ziv
def zbn(zT:jQ)(jH:Qi3)(yq:jQ)(F:Nat)(Z A:FT zpB):FT zpB:=fun B C D E G H I J K L w s x y a t b c z d e g h l m o f n r j p=>bif(decide (a<s))then bif((decide (0<=a))&&(decide (a<3)))then let M:Nat:=0+((Int.toNat a)*1);bif((isI .i64 [.v (.i l),.v (.i m),.v (.i o)][M]?)&&true)then let N:Int:=iv [.v (.i l),.v (.i m),.v (.i o)][M]?;let O:Int:=wrap .i64 (0-t);bif(zT.ok F N O)then let P:Int:=zT.i 0 F N O;let Q:Int:=wrap .i64 (0-b);bif(jH.ok F P Q b)then let T:Int:=jH.i 0 F P Q b;bif((decide (0<=a))&&(decide (a<3)))then let U:Nat:=0+((Int.toNat a)*1);bif((isI .i64 [.v (.i d),.v (.i e),.v (.i g),.v (.i h)][U]?)&&true)then let V:Int:=iv [.v (.i d),.v (.i e),.v (.i g),.v (.i h)][U]?;bif(yq.ok F V T)then let X:Int:=yq.i 0 F V T;let Y:Int:=wrap .i64 (0-c);bif(jH.ok F X Y c)then bif((decide (0<=a))&&(decide (a<3)))then let u:Nat:=0+((Int.toNat a)*1);bif(decide ((u+1)<=p.length))then Z B C D E G H I J K L w s x y (wrap .i64 (a+1)) t b c z d e g h l m o f n r j (p.take u++[.v (.i (jH.i 0 F X Y c))]++p.drop (u+1))else none else none else none else none else none else none else none else none else none else none else A B C D E G H I J K L w s x y a t b c z d e g h l m o f n r j p
def zby:=zbn zT jH yq
def yU(F:Nat)(a:FT zpB):Nat->FT zpB:=lY fun b=>zby F b a
theorem zbX{F n}{a}:yU F a (n+1)=zby F (yU F a n) a:=rfl
def zje(k:Exit->VS->R):FT zpB:=cQ _ fun q=>k (.exit 0) (fS zxD q)
def ziw(yU:Nat->FT zpB->Nat->FT zpB)(F:Nat):List LW:=[⟨0,ziv,fun k q=>uQ _ (yU F (zje k) F) q⟩]
theorem zzo(F:Nat)(k:Exit->VS->R):∀n q,iQ PP (zrG yt zT jH yq F) zrF (ziw yU F) [] 74 0 0 k n ziv q=uQ _ (yU F (zje k) n) q:=
 lG (fun _=>by kernel_rfl) ((hzz:∀(yt:Qi8) (zT:jQ) (jH:Qi3) (yq:jQ) (yU:Nat->FT zpB->Nat->FT zpB),LH PP (zrG yt zT jH yq F) zrF (ziw yU F) [] 74 0 0 k ziv (fun a=>zbn zT jH yq F a (zje k))) yt zT jH yq yU)
def zpn(yt:Qi8)(yU:Nat->FT zpB->Nat->FT zpB)(F:Nat):FT zpz:=fun m o p s d e g h t u l c b=>bif(yt.ok F m o p s d e g h)then bif((yt.i 0 F m o p s d e g h) !=0)then some (.v (.tuple #[.agg #[.i 0,.i 0,.i 0,.i 0],.i 2]))else bif(decide (c<0))then some (.v (.tuple #[.agg #[.i 0,.i 0,.i 0,.i 0],.i 2]))else bif(decide (c>3))then some (.v (.tuple #[.agg #[.i 0,.i 0,.i 0,.i 0],.i 2]))else bif(decide (b<h))then some (.v (.tuple #[.agg #[.i 0,.i 0,.i 0,.i 0],.i 2]))else bif(decide (b>1099511627776))then some (.v (.tuple #[.agg #[.i 0,.i 0,.i 0,.i 0],.i 2]))else yU F (fun w x y z f n r j A B C D E G H I J K L M N O P Q T U V X Y Z a=>bif((isI .i64 a[0]?)&&((isI .i64 a[1]?)&&((isI .i64 a[2]?)&&((isI .i64 a[3]?)&&true))))then some (.v (.tuple #[.agg #[.i (iv a[0]?),.i (iv a[1]?),.i (iv a[2]?),.i (iv a[3]?)],.i 0]))else none) F m o p s d e g h t u l c b 0 0 m o p s d e g h t u l 0 0 0 0 ([.v (.i d),.v (.i e),.v (.i g),.v (.i b)])else none
def zmi:=zpn yt yU
def zbF:zUg:=mkQ (l:=zpz) zmh.o zmi
theorem zHL(yt:Qi8)(zT:jQ)(jH:Qi3)(yq:jQ)(yU:Nat->FT zpB->Nat->FT zpB)(F:Nat):HHz zmh zpz (zrG yt zT jH yq F) zrF (ziw yU F) 74 (zpn yt yU F):=hzz
theorem zHM(F:Nat)(d e g h l m o p s t a b c:Int):zRR (zmi F d e g h l m o p s t a b c) (zbF.ok F d e g h l m o p s t a b c) (zbF.i 0 F d e g h l m o p s t a b c) (zbF.i 1 F d e g h l m o p s t a b c) (zbF.i 2 F d e g h l m o p s t a b c) (zbF.i 3 F d e g h l m o p s t a b c) (zbF.i 4 F d e g h l m o p s t a b c):=zUk _
theorem zHN(F:Nat):yc PP 74 (unS (zz zmh zpz zbF F)):=
 gzl (W:=ziw yU) F (zHL yt zT jH yq yU F) (zd (zul F) (zd (zo9 F) (zd (zCv F) (zd (zsv F) zn)))) (jP [(0,zaK PP 74 0)] kfz (zd (jZ (ziw yU F) rfl (yn (fun _ k q=>Le.ofEq (zzo F k F q).symm) jY)) zn))
theorem ax1{n k p c:Int}(h:k<n):axV n k p c=p:=if_pos h
theorem ax0{n k p c:Int}(h: ¬k<n):axV n k p c=c:=if_neg h
theorem zPj{n:Int}(h0:0<=n)(h1:n<=3):n=0\/n=1\/n=2\/n=3:=zc
theorem zWR(F:Nat)(hF:200<=F){g s l h c0 c1 c2 o0 o1 o2 n:Int}(hr:zbw g s l h)(hs:zr s)(hl:zr l)(hc0:zr c0)(hc1:zr c1)(hc2:zr c2)(ho0:zr o0)(ho1:zr o1)(ho2:zr o2)(hn0:0<=n)(hn1:n<=3):
 zaX.ok F g s l h c0 c1 c2 o0 o1 o2 n=true/\zaX.i 0 F g s l h c0 c1 c2 o0 o1 o2 n=axV n 0 (ji g s l c0 o0) c0/\zaX.i 1 F g s l h c0 c1 c2 o0 o1 o2 n=axV n 1 (ji g s l c1 o1) c1/\zaX.i 2 F g s l h c0 c1 c2 o0 o1 o2 n=axV n 2 (ji g s l c2 o2) c2:=by
 have p0:=zA5 F (c:=c0) (off:=o0) hr hs hl hc0 ho0;have p1:=zA5 F (c:=c1) (off:=o1) hr hs hl hc1 ho1;have p2:=zA5 F (c:=c2) (off:=o2) hr hs hl hc2 ho2;rcases zPj hn0 hn1 with rfl|rfl|rfl|rfl
 ·rw [ax0 dcz,ax0 dcz,ax0 dcz];exact zoe F _ _ _ _ _ _ _ _ _ _ _ (zDf F hF)
 ·rw [ax1 dcz,ax0 dcz,ax0 dcz];exact zoe F _ _ _ _ _ _ _ _ _ _ _ (zDg F hF p0)
 ·rw [ax1 dcz,ax1 dcz,ax0 dcz];exact zoe F _ _ _ _ _ _ _ _ _ _ _ (zDh F hF p0 p1)
 ·rw [ax1 dcz,ax1 dcz,ax1 dcz];exact zoe F _ _ _ _ _ _ _ _ _ _ _ (zDi F hF p0 p1 p2)
theorem zTa(F:Nat)(hF:200<=F){g s l h c0 c1 c2:Int}(h0:0<=s)(hs:zr s)(hc0:zr c0)(hc1:zr c1)(hc2:zr c2):
 j5.ok F g s l h c0 c1 c2 0 0 0 3=true/\j5.i 0 F g s l h c0 c1 c2 0 0 0 3=zd1 s c0/\j5.i 1 F g s l h c0 c1 c2 0 0 0 3=zd1 s c1/\j5.i 2 F g s l h c0 c1 c2 0 0 0 3=zd1 s c2:=
 zC5 F _ _ _ _ _ _ _ _ _ _ _ (zzd F hF (zG5 F h0 hs hc0) (zG5 F h0 hs hc1) (zG5 F h0 hs hc2))
def zxE(g s l h c0 c1 c2 la n t:Int):Prop:=zbw g s l h/\zeS l c0 c1 c2 la/\(la<=t/\t<=1099511627776)/\0<=n/\n<=3
instance(g s l h c0 c1 c2 la n t:Int):Decidable (zxE g s l h c0 c1 c2 la n t):=by unfold zxE;infer_instance
theorem zvm{l c0 c1 c2 t:Int}(hl:zr l)(h:zeS l c0 c1 c2 t):zr c0/\zr c1/\zr c2:=by unfold zeS at h;unfold zr at*;omega
theorem zX1{a b c d e a' b' c' d' e':Int}(h1:a=a')(h2:b=b')(h3:c=c')(h4:d=d')(h5:e=e'):(some (VV.v (.tuple #[.agg #[.i a,.i b,.i c,.i d],.i e])):R)=some (.v (.tuple #[.agg #[.i a',.i b',.i c',.i d'],.i e'])):=by rw [h1,h2,h3,h4,h5]
theorem zN2(F:Nat)(hF:200<=F){g s l h c0 c1 c2 la o0 o1 o2 n t:Int}(hs:zr s)(hl:zr l)(ho0:zr o0)(ho1:zr o1)(ho2:zr o2)(hp:zxE g s l h c0 c1 c2 la n t):
 zop F g s l h c0 c1 c2 la o0 o1 o2 n t=some (.v (.tuple #[.agg #[.i (axV n 0 (ji g s l c0 o0) c0),.i (axV n 1 (ji g s l c1 o1) c1),.i (axV n 2 (ji g s l c2 o2) c2),.i t],.i 0])):=by
 obtain⟨hr,hc,ht,hn0,hn1⟩:=hp;obtain⟨i0,i1,i2⟩:=zvm hl hc;unfold zop zrC;obtain⟨m1,m2⟩:=zSL F hF (g:=g) (s:=s) (h:=h) (c0:=c0) (c1:=c1) (c2:=c2) (la:=la) (t:=t) hl;obtain⟨e0,e1,e2,e3⟩:=zWR F hF hr hs hl i0 i1 i2 ho0 ho1 ho2 hn0 hn1;refine bp m1 (bn (by rw [m2,dt ⟨hr,hc,ht⟩];rfl) (bn (df zc) (bn (df zc) (bp e0 (zX1 e1 e2 e3 rfl rfl)))))
def zxF(g s l h c0 c1 c2 la t:Int):Prop:=zbw g s l h/\zeS l c0 c1 c2 la/\(la<=t/\t<=1099511627776)
instance(g s l h c0 c1 c2 la t:Int):Decidable (zxF g s l h c0 c1 c2 la t):=by unfold zxF;infer_instance
def fdV(s h la t c:Int):Int:=if t-la<=h then c else zd1 s c
theorem zN3(F:Nat)(hF:200<=F){g s l h c0 c1 c2 la t:Int}(hs:zr s)(hl:zr l)(hp:zxF g s l h c0 c1 c2 la t):
 zon F g s l h c0 c1 c2 la t=some (.v (.tuple #[.agg #[.i (fdV s h la t c0),.i (fdV s h la t c1),.i (fdV s h la t c2),.i la],.i 0])):=by
 obtain⟨hr,hc,ht⟩:=hp;obtain⟨i0,i1,i2⟩:=zvm hl hc;unfold zon zrB;obtain⟨m1,m2⟩:=zSL F hF (g:=g) (s:=s) (h:=h) (c0:=c0) (c1:=c1) (c2:=c2) (la:=la) (t:=t) hl;obtain⟨e0,e1,e2,e3⟩:=zTa F hF (g:=g) (l:=l) (h:=h) hr.2.2.1 hs i0 i1 i2;refine bp m1 (bn (by rw [m2,dt ⟨hr,hc,ht⟩];rfl) ?_);have hla:=hc.1;rw [zH (by unfold zr;omega)];unfold fdV;by_cases h1:t-la<=h
 ·refine bp (dt h1) ?_
  rw [if_pos h1,if_pos h1,if_pos h1]
 ·refine bn (df h1) (bp e0 ?_)
  rw [if_neg h1,if_neg h1,if_neg h1];exact zX1 e1 e2 e3 rfl rfl
theorem zBl(F:Nat)(hF:200<=F){g s l h c0 c1 c2 t:Int}(hl:zr l):yt.ok F g s l h c0 c1 c2 t=true/\yt.i 0 F g s l h c0 c1 c2 t=zA3 (zbw g s l h/\zeS l c0 c1 c2 t):=by
 refine zDF F _ _ _ _ _ _ _ _ ?_;unfold zpl znj;obtain⟨k1,k2⟩:=zKX F g s l h;refine bp k1 ?_;rw [k2];by_cases hr:zbw g s l h
 ·rw [zvc hr]
  refine bn rfl ?_;by_cases h1:t<0
  ·exact bp (dt h1) (zb8 fun h=>by have:=h.2.1;omega)
  refine bn (df h1) ?_;by_cases h2:t>1099511627776
  ·exact bp (dt h2) (zb8 fun h=>by have:=h.2.1;omega)
  refine bn (df h2) ?_;obtain⟨G,hG⟩:∃G,F=G+4:=⟨F-4,zc⟩;have w0:wrap .i64 (0+1)=1:=dcz;have w1:wrap .i64 (1+1)=2:=dcz;have w2:wrap .i64 (2+1)=3:=dcz;have hn:wrap .i64 (0-l)= -l:=zdr hr.2.2.2.1 (by unfold zr at hl;omega);rw [show jh F _ _ F=jh F _ _ (G+4)from congrArg (jh F _ _) hG];rw [zgB];unfold zcN;dsimp only;refine bp rfl (bp rfl (bp rfl ?_));rw [show(iv [VV.v (.i c0),.v (.i c1),.v (.i c2),.v (.i t)][0+Int.toNat 0*1]?)=c0 from rfl,hn,w0];by_cases a0:c0>l
  ·exact bp (dt a0) (zb8 fun h=>by have:=h.2;unfold zeS at this;omega)
  refine bn (df a0) (bp rfl (bp rfl ?_));by_cases b0:c0< -l
  ·exact bp (dt b0) (zb8 fun h=>by have:=h.2;unfold zeS at this;omega)
  refine bn (df b0) ?_;rw [zgB];unfold zcN;dsimp only;refine bp rfl (bp rfl (bp rfl ?_));rw [show(iv [VV.v (.i c0),.v (.i c1),.v (.i c2),.v (.i t)][0+Int.toNat 1*1]?)=c1 from rfl,hn,w1];by_cases a1:c1>l
  ·exact bp (dt a1) (zb8 fun h=>by have:=h.2;unfold zeS at this;omega)
  refine bn (df a1) (bp rfl (bp rfl ?_));by_cases b1:c1< -l
  ·exact bp (dt b1) (zb8 fun h=>by have:=h.2;unfold zeS at this;omega)
  refine bn (df b1) ?_;rw [zgB];unfold zcN;dsimp only;refine bp rfl (bp rfl (bp rfl ?_));rw [show(iv [VV.v (.i c0),.v (.i c1),.v (.i c2),.v (.i t)][0+Int.toNat 2*1]?)=c2 from rfl,hn,w2];by_cases a2:c2>l
  ·exact bp (dt a2) (zb8 fun h=>by have:=h.2;unfold zeS at this;omega)
  refine bn (df a2) (bp rfl (bp rfl ?_));by_cases b2:c2< -l
  ·exact bp (dt b2) (zb8 fun h=>by have:=h.2;unfold zeS at this;omega)
  refine bn (df b2) ?_;rw [zgB];unfold zcN;dsimp only;exact bn rfl (zwg ⟨hr,by unfold zeS;omega⟩)
 ·rw [zA4 hr]
  exact bp rfl (zb8 fun h=>hr h.1)
theorem zN4(F:Nat)(hF:200<=F){g s l h c0 c1 c2 la o0 o1 o2 t:Int}(hr:zbw g s l h)(hs:zr s)(hl:zr l)(hc0:zr c0)(hc1:zr c1)(hc2:zr c2)(ho0:zr o0)(ho1:zr o1)(ho2:zr o2)(ex:List VV->R)(y0 y1 y2 y3 y4:Int)(G:Nat):∃x14:Int,∃l':List VV,l'=[.v (.i c0),.v (.i c1),.v (.i c2),.v (.i t)]/\
 yU F (fun _ _ _ _ _ _ _ _ _ _ _ _ _ _ _ _ _ _ _ _ _ _ _ _ _ _ _ _ _ _ q=>ex q) (G+4) g s l h c0 c1 c2 la o0 o1 o2 0 t y0 0 g s l h c0 c1 c2 la o0 o1 o2 y1 y2 y3 y4 [.v (.i c0),.v (.i c1),.v (.i c2),.v (.i t)]=ex l':=by
 have w0:wrap .i64 (0+1)=1:=dcz;have w1:wrap .i64 (1+1)=2:=dcz;have w2:wrap .i64 (2+1)=3:=dcz;obtain⟨r1,r2,r3,r4,_,_⟩:=hr;have hs2:s<=9223372036854775807:=by unfold zr at hs;omega
 have hl2:l<=9223372036854775807:=by unfold zr at hl;omega
 refine⟨0,_,rfl,?_⟩;rw [zbX];unfold zby zbn;dsimp only;exact bn rfl rfl
theorem zN5(F:Nat)(hF:200<=F){g s l h c0 c1 c2 la o0 o1 o2 t:Int}(hr:zbw g s l h)(hs:zr s)(hl:zr l)(hc0:zr c0)(hc1:zr c1)(hc2:zr c2)(ho0:zr o0)(ho1:zr o1)(ho2:zr o2)(ex:List VV->R)(y0 y1 y2 y3 y4:Int)(G:Nat):∃x14:Int,∃l':List VV,l'=[.v (.i (ji g s l c0 o0)),.v (.i c1),.v (.i c2),.v (.i t)]/\
 yU F (fun _ _ _ _ _ _ _ _ _ _ _ _ _ _ _ _ _ _ _ _ _ _ _ _ _ _ _ _ _ _ q=>ex q) (G+4) g s l h c0 c1 c2 la o0 o1 o2 1 t y0 0 g s l h c0 c1 c2 la o0 o1 o2 y1 y2 y3 y4 [.v (.i c0),.v (.i c1),.v (.i c2),.v (.i t)]=ex l':=by
 have w0:wrap .i64 (0+1)=1:=dcz;have w1:wrap .i64 (1+1)=2:=dcz;have w2:wrap .i64 (2+1)=3:=dcz;obtain⟨r1,r2,r3,r4,_,_⟩:=hr;have hs2:s<=9223372036854775807:=by unfold zr at hs;omega
 have hl2:l<=9223372036854775807:=by unfold zr at hl;omega
 refine⟨0,_,rfl,?_⟩;obtain⟨s0,t0,_⟩:=zeL F hF ho0 r1 r2;obtain⟨u0,v0,_⟩:=zgv F (a:=o0/2^g.toNat) r3;obtain⟨a0,b0,_⟩:=zrl F hF hc0 (zNI (a:=o0/2^g.toNat) r3 hs2);obtain⟨d0,e0,_⟩:=zgv F (a:=zh (c0+zoX (o0/2^g.toNat) s)) r4;rw [zbX];unfold zby zbn;dsimp only;refine bp rfl (bp rfl (bp rfl ?_));rw [show(iv [VV.v (.i o0),.v (.i o1),.v (.i o2)][0+Int.toNat 0*1]?)=o0 from rfl,zdr r1 zc,zdr r3 hs2,zdr r4 hl2];refine bp s0 ?_;rw [t0];refine bp u0 (bp rfl (bp rfl ?_));rw [v0,show(iv [VV.v (.i c0),.v (.i c1),.v (.i c2),.v (.i la)][0+Int.toNat 0*1]?)=c0 from rfl];refine bp a0 ?_;rw [b0];refine bp d0 (bp rfl (bp rfl ?_))
 rw [e0,w0];rw [zbX];unfold zby zbn;dsimp only;exact bn rfl rfl
theorem zN6(F:Nat)(hF:200<=F){g s l h c0 c1 c2 la o0 o1 o2 t:Int}(hr:zbw g s l h)(hs:zr s)(hl:zr l)(hc0:zr c0)(hc1:zr c1)(hc2:zr c2)(ho0:zr o0)(ho1:zr o1)(ho2:zr o2)(ex:List VV->R)(y0 y1 y2 y3 y4:Int)(G:Nat):∃x14:Int,∃l':List VV,l'=[.v (.i (ji g s l c0 o0)),.v (.i (ji g s l c1 o1)),.v (.i c2),.v (.i t)]/\
 yU F (fun _ _ _ _ _ _ _ _ _ _ _ _ _ _ _ _ _ _ _ _ _ _ _ _ _ _ _ _ _ _ q=>ex q) (G+4) g s l h c0 c1 c2 la o0 o1 o2 2 t y0 0 g s l h c0 c1 c2 la o0 o1 o2 y1 y2 y3 y4 [.v (.i c0),.v (.i c1),.v (.i c2),.v (.i t)]=ex l':=by
 have w0:wrap .i64 (0+1)=1:=dcz;have w1:wrap .i64 (1+1)=2:=dcz;have w2:wrap .i64 (2+1)=3:=dcz;obtain⟨r1,r2,r3,r4,_,_⟩:=hr;have hs2:s<=9223372036854775807:=by unfold zr at hs;omega
 have hl2:l<=9223372036854775807:=by unfold zr at hl;omega
 refine⟨0,_,rfl,?_⟩;obtain⟨s0,t0,_⟩:=zeL F hF ho0 r1 r2;obtain⟨u0,v0,_⟩:=zgv F (a:=o0/2^g.toNat) r3;obtain⟨a0,b0,_⟩:=zrl F hF hc0 (zNI (a:=o0/2^g.toNat) r3 hs2);obtain⟨d0,e0,_⟩:=zgv F (a:=zh (c0+zoX (o0/2^g.toNat) s)) r4;rw [zbX];unfold zby zbn;dsimp only;refine bp rfl (bp rfl (bp rfl ?_));rw [show(iv [VV.v (.i o0),.v (.i o1),.v (.i o2)][0+Int.toNat 0*1]?)=o0 from rfl,zdr r1 zc,zdr r3 hs2,zdr r4 hl2];refine bp s0 ?_;rw [t0];refine bp u0 (bp rfl (bp rfl ?_));rw [v0,show(iv [VV.v (.i c0),.v (.i c1),.v (.i c2),.v (.i la)][0+Int.toNat 0*1]?)=c0 from rfl];refine bp a0 ?_;rw [b0];refine bp d0 (bp rfl (bp rfl ?_))
 rw [e0,w0];obtain⟨s1,t1,_⟩:=zeL F hF ho1 r1 r2;obtain⟨u1,v1,_⟩:=zgv F (a:=o1/2^g.toNat) r3;obtain⟨a1,b1,_⟩:=zrl F hF hc1 (zNI (a:=o1/2^g.toNat) r3 hs2);obtain⟨d1,e1,_⟩:=zgv F (a:=zh (c1+zoX (o1/2^g.toNat) s)) r4;rw [zbX];unfold zby zbn;dsimp only;refine bp rfl (bp rfl (bp rfl ?_));rw [show(iv [VV.v (.i o0),.v (.i o1),.v (.i o2)][0+Int.toNat 1*1]?)=o1 from rfl,zdr r1 zc,zdr r3 hs2,zdr r4 hl2];refine bp s1 ?_;rw [t1];refine bp u1 (bp rfl (bp rfl ?_));rw [v1,show(iv [VV.v (.i c0),.v (.i c1),.v (.i c2),.v (.i la)][0+Int.toNat 1*1]?)=c1 from rfl];refine bp a1 ?_;rw [b1];refine bp d1 (bp rfl (bp rfl ?_))
 rw [e1,w1];rw [zbX];unfold zby zbn;dsimp only;exact bn rfl rfl
theorem zN7(F:Nat)(hF:200<=F){g s l h c0 c1 c2 la o0 o1 o2 t:Int}(hr:zbw g s l h)(hs:zr s)(hl:zr l)(hc0:zr c0)(hc1:zr c1)(hc2:zr c2)(ho0:zr o0)(ho1:zr o1)(ho2:zr o2)(ex:List VV->R)(y0 y1 y2 y3 y4:Int)(G:Nat):∃x14:Int,∃l':List VV,l'=[.v (.i (ji g s l c0 o0)),.v (.i (ji g s l c1 o1)),.v (.i (ji g s l c2 o2)),.v (.i t)]/\
 yU F (fun _ _ _ _ _ _ _ _ _ _ _ _ _ _ _ _ _ _ _ _ _ _ _ _ _ _ _ _ _ _ q=>ex q) (G+4) g s l h c0 c1 c2 la o0 o1 o2 3 t y0 0 g s l h c0 c1 c2 la o0 o1 o2 y1 y2 y3 y4 [.v (.i c0),.v (.i c1),.v (.i c2),.v (.i t)]=ex l':=by
 have w0:wrap .i64 (0+1)=1:=dcz;have w1:wrap .i64 (1+1)=2:=dcz;have w2:wrap .i64 (2+1)=3:=dcz;obtain⟨r1,r2,r3,r4,_,_⟩:=hr;have hs2:s<=9223372036854775807:=by unfold zr at hs;omega
 have hl2:l<=9223372036854775807:=by unfold zr at hl;omega
 refine⟨0,_,rfl,?_⟩;obtain⟨s0,t0,_⟩:=zeL F hF ho0 r1 r2;obtain⟨u0,v0,_⟩:=zgv F (a:=o0/2^g.toNat) r3;obtain⟨a0,b0,_⟩:=zrl F hF hc0 (zNI (a:=o0/2^g.toNat) r3 hs2);obtain⟨d0,e0,_⟩:=zgv F (a:=zh (c0+zoX (o0/2^g.toNat) s)) r4;rw [zbX];unfold zby zbn;dsimp only;refine bp rfl (bp rfl (bp rfl ?_));rw [show(iv [VV.v (.i o0),.v (.i o1),.v (.i o2)][0+Int.toNat 0*1]?)=o0 from rfl,zdr r1 zc,zdr r3 hs2,zdr r4 hl2];refine bp s0 ?_;rw [t0];refine bp u0 (bp rfl (bp rfl ?_));rw [v0,show(iv [VV.v (.i c0),.v (.i c1),.v (.i c2),.v (.i la)][0+Int.toNat 0*1]?)=c0 from rfl];refine bp a0 ?_;rw [b0];refine bp d0 (bp rfl (bp rfl ?_))
 rw [e0,w0];obtain⟨s1,t1,_⟩:=zeL F hF ho1 r1 r2;obtain⟨u1,v1,_⟩:=zgv F (a:=o1/2^g.toNat) r3;obtain⟨a1,b1,_⟩:=zrl F hF hc1 (zNI (a:=o1/2^g.toNat) r3 hs2);obtain⟨d1,e1,_⟩:=zgv F (a:=zh (c1+zoX (o1/2^g.toNat) s)) r4;rw [zbX];unfold zby zbn;dsimp only;refine bp rfl (bp rfl (bp rfl ?_));rw [show(iv [VV.v (.i o0),.v (.i o1),.v (.i o2)][0+Int.toNat 1*1]?)=o1 from rfl,zdr r1 zc,zdr r3 hs2,zdr r4 hl2];refine bp s1 ?_;rw [t1];refine bp u1 (bp rfl (bp rfl ?_));rw [v1,show(iv [VV.v (.i c0),.v (.i c1),.v (.i c2),.v (.i la)][0+Int.toNat 1*1]?)=c1 from rfl];refine bp a1 ?_;rw [b1];refine bp d1 (bp rfl (bp rfl ?_))
 rw [e1,w1];obtain⟨s2,t2,_⟩:=zeL F hF ho2 r1 r2;obtain⟨u2,v2,_⟩:=zgv F (a:=o2/2^g.toNat) r3;obtain⟨a2,b2,_⟩:=zrl F hF hc2 (zNI (a:=o2/2^g.toNat) r3 hs2);obtain⟨d2,e2,_⟩:=zgv F (a:=zh (c2+zoX (o2/2^g.toNat) s)) r4;rw [zbX];unfold zby zbn;dsimp only;refine bp rfl (bp rfl (bp rfl ?_));rw [show(iv [VV.v (.i o0),.v (.i o1),.v (.i o2)][0+Int.toNat 2*1]?)=o2 from rfl,zdr r1 zc,zdr r3 hs2,zdr r4 hl2];refine bp s2 ?_;rw [t2];refine bp u2 (bp rfl (bp rfl ?_));rw [v2,show(iv [VV.v (.i c0),.v (.i c1),.v (.i c2),.v (.i la)][0+Int.toNat 2*1]?)=c2 from rfl];refine bp a2 ?_;rw [b2];refine bp d2 (bp rfl (bp rfl ?_))
 rw [e2,w2];rw [zbX];unfold zby zbn;dsimp only;exact bn rfl rfl
theorem zN8(F:Nat)(hF:200<=F){g s l h c0 c1 c2 la o0 o1 o2 n t:Int}(hs:zr s)(hl:zr l)(ho0:zr o0)(ho1:zr o1)(ho2:zr o2)(hp:zxE g s l h c0 c1 c2 la n t):
 zmi F g s l h c0 c1 c2 la o0 o1 o2 n t=some (.v (.tuple #[.agg #[.i (axV n 0 (ji g s l c0 o0) c0),.i (axV n 1 (ji g s l c1 o1) c1),.i (axV n 2 (ji g s l c2 o2) c2),.i t],.i 0])):=by
 obtain⟨hr,hc,ht,hn0,hn1⟩:=hp;obtain⟨i0,i1,i2⟩:=zvm hl hc;unfold zmi zpn;obtain⟨m1,m2⟩:=zBl F hF (g:=g) (s:=s) (h:=h) (c0:=c0) (c1:=c1) (c2:=c2) (t:=la) hl;obtain⟨G,hG⟩:∃G,F=G+4:=⟨F-4,zc⟩;refine bp m1 (bn (by rw [m2,zvc ⟨hr,hc⟩];rfl) (bn (df zc) (bn (df zc) (bn (df zc) (bn (df zc) ?_)))));rw [show yU F _ F=yU F _ (G+4)from congrArg (yU F _) hG];rcases zPj hn0 hn1 with rfl|rfl|rfl|rfl
 ·obtain⟨_,l',hl',e⟩:=zN4 F hF (t:=t) (la:=la) hr hs hl i0 i1 i2 ho0 ho1 ho2 (fun v=>bif((isI .i64 v[0]?)&&((isI .i64 v[1]?)&&((isI .i64 v[2]?)&&((isI .i64 v[3]?)&&true))))then some (.v (.tuple #[.agg #[.i (iv v[0]?),.i (iv v[1]?),.i (iv v[2]?),.i (iv v[3]?)],.i 0]))else none) 0 0 0 0 0 G
  refine e.trans ?_;rw [ax0 dcz,ax0 dcz,ax0 dcz,hl'];rfl
 ·obtain⟨_,l',hl',e⟩:=zN5 F hF (t:=t) (la:=la) hr hs hl i0 i1 i2 ho0 ho1 ho2 (fun v=>bif((isI .i64 v[0]?)&&((isI .i64 v[1]?)&&((isI .i64 v[2]?)&&((isI .i64 v[3]?)&&true))))then some (.v (.tuple #[.agg #[.i (iv v[0]?),.i (iv v[1]?),.i (iv v[2]?),.i (iv v[3]?)],.i 0]))else none) 0 0 0 0 0 G
  refine e.trans ?_;rw [ax1 dcz,ax0 dcz,ax0 dcz,hl'];rfl
 ·obtain⟨_,l',hl',e⟩:=zN6 F hF (t:=t) (la:=la) hr hs hl i0 i1 i2 ho0 ho1 ho2 (fun v=>bif((isI .i64 v[0]?)&&((isI .i64 v[1]?)&&((isI .i64 v[2]?)&&((isI .i64 v[3]?)&&true))))then some (.v (.tuple #[.agg #[.i (iv v[0]?),.i (iv v[1]?),.i (iv v[2]?),.i (iv v[3]?)],.i 0]))else none) 0 0 0 0 0 G
  refine e.trans ?_;rw [ax1 dcz,ax1 dcz,ax0 dcz,hl'];rfl
 ·obtain⟨_,l',hl',e⟩:=zN7 F hF (t:=t) (la:=la) hr hs hl i0 i1 i2 ho0 ho1 ho2 (fun v=>bif((isI .i64 v[0]?)&&((isI .i64 v[1]?)&&((isI .i64 v[2]?)&&((isI .i64 v[3]?)&&true))))then some (.v (.tuple #[.agg #[.i (iv v[0]?),.i (iv v[1]?),.i (iv v[2]?),.i (iv v[3]?)],.i 0]))else none) 0 0 0 0 0 G
  refine e.trans ?_;rw [ax1 dcz,ax1 dcz,ax1 dcz,hl'];rfl
theorem zN9(F:Nat)(ex)(G:Nat){s c0 c1 c2 la:Int}(h0:0<=s)(hs:zr s)(hc:zr c0)(x0 x1 x2 x3 x4 x5 x6 x7 x8 x9 x11 x13 x14 x19 x20 x21 x22 q1 q2 q3:Int):
 yM F ex (G+1) x0 x1 x2 x3 x4 x5 x6 x7 x8 x9 0 x11 s x13 x14 c0 c1 c2 la x19 x20 x21 x22 [.v (.i c0),.v (.i q1),.v (.i q2),.v (.i q3)]=yM F ex G x0 x1 x2 x3 x4 x5 x6 x7 x8 x9 1 x11 s x13 x14 c0 c1 c2 la x19 x20 x21 x22 [.v (.i (zd1 s c0)),.v (.i q1),.v (.i q2),.v (.i q3)]:=by
 have w:wrap .i64 (0+1)=1:=dcz;rw [zit];unfold zdm;dsimp only;refine bp rfl (bp rfl (bp rfl ?_));rw [show(iv [VV.v (.i c0),.v (.i c1),.v (.i c2),.v (.i la)][0+Int.toNat 0*1]?)=c0 from rfl,w];unfold zr at*
 by_cases h1:c0>0
 ·refine bp (dt h1) (bp rfl (bp rfl (bp rfl (bp rfl (bp rfl (bp rfl (bn (df zc) ?_)))))))
  rw [zH (by unfold zr;omega)];have e:(if 0>c0-s then 0 else c0-s)=zd1 s c0:=by unfold zd1;rw [if_pos h1];split<;>omega
  rw [e];rfl
 ·refine bn (df h1) (bp rfl (bp rfl ?_))
  by_cases h2:c0<0
  ·refine bp (dt h2) (bp rfl (bp rfl (bp rfl (bp rfl ?_))))
   rw [zH (by unfold zr;omega)];have e:(if 0<c0+s then 0 else c0+s)=zd1 s c0:=by unfold zd1;rw [if_neg h1];split<;>omega
   rw [e];rfl
  ·refine bn (df h2) ?_
   have e:zd1 s c0=c0:=by unfold zd1;rw [if_neg h1];omega
   rw [e]
theorem zOa(F:Nat)(ex)(G:Nat){s c0 c1 c2 la:Int}(h0:0<=s)(hs:zr s)(hc:zr c1)(x0 x1 x2 x3 x4 x5 x6 x7 x8 x9 x11 x13 x14 x19 x20 x21 x22 q0 q2 q3:Int):
 yM F ex (G+1) x0 x1 x2 x3 x4 x5 x6 x7 x8 x9 1 x11 s x13 x14 c0 c1 c2 la x19 x20 x21 x22 [.v (.i q0),.v (.i c1),.v (.i q2),.v (.i q3)]=yM F ex G x0 x1 x2 x3 x4 x5 x6 x7 x8 x9 2 x11 s x13 x14 c0 c1 c2 la x19 x20 x21 x22 [.v (.i q0),.v (.i (zd1 s c1)),.v (.i q2),.v (.i q3)]:=by
 have w:wrap .i64 (1+1)=2:=dcz;rw [zit];unfold zdm;dsimp only;refine bp rfl (bp rfl (bp rfl ?_));rw [show(iv [VV.v (.i c0),.v (.i c1),.v (.i c2),.v (.i la)][0+Int.toNat 1*1]?)=c1 from rfl,w];unfold zr at*
 by_cases h1:c1>0
 ·refine bp (dt h1) (bp rfl (bp rfl (bp rfl (bp rfl (bp rfl (bp rfl (bn (df zc) ?_)))))))
  rw [zH (by unfold zr;omega)];have e:(if 0>c1-s then 0 else c1-s)=zd1 s c1:=by unfold zd1;rw [if_pos h1];split<;>omega
  rw [e];rfl
 ·refine bn (df h1) (bp rfl (bp rfl ?_))
  by_cases h2:c1<0
  ·refine bp (dt h2) (bp rfl (bp rfl (bp rfl (bp rfl ?_))))
   rw [zH (by unfold zr;omega)];have e:(if 0<c1+s then 0 else c1+s)=zd1 s c1:=by unfold zd1;rw [if_neg h1];split<;>omega
   rw [e];rfl
  ·refine bn (df h2) ?_
   have e:zd1 s c1=c1:=by unfold zd1;rw [if_neg h1];omega
   rw [e]
theorem zOb(F:Nat)(ex)(G:Nat){s c0 c1 c2 la:Int}(h0:0<=s)(hs:zr s)(hc:zr c2)(x0 x1 x2 x3 x4 x5 x6 x7 x8 x9 x11 x13 x14 x19 x20 x21 x22 q0 q1 q3:Int):
 yM F ex (G+1) x0 x1 x2 x3 x4 x5 x6 x7 x8 x9 2 x11 s x13 x14 c0 c1 c2 la x19 x20 x21 x22 [.v (.i q0),.v (.i q1),.v (.i c2),.v (.i q3)]=yM F ex G x0 x1 x2 x3 x4 x5 x6 x7 x8 x9 3 x11 s x13 x14 c0 c1 c2 la x19 x20 x21 x22 [.v (.i q0),.v (.i q1),.v (.i (zd1 s c2)),.v (.i q3)]:=by
 have w:wrap .i64 (2+1)=3:=dcz;rw [zit];unfold zdm;dsimp only;refine bp rfl (bp rfl (bp rfl ?_));rw [show(iv [VV.v (.i c0),.v (.i c1),.v (.i c2),.v (.i la)][0+Int.toNat 2*1]?)=c2 from rfl,w];unfold zr at*
 by_cases h1:c2>0
 ·refine bp (dt h1) (bp rfl (bp rfl (bp rfl (bp rfl (bp rfl (bp rfl (bn (df zc) ?_)))))))
  rw [zH (by unfold zr;omega)];have e:(if 0>c2-s then 0 else c2-s)=zd1 s c2:=by unfold zd1;rw [if_pos h1];split<;>omega
  rw [e];rfl
 ·refine bn (df h1) (bp rfl (bp rfl ?_))
  by_cases h2:c2<0
  ·refine bp (dt h2) (bp rfl (bp rfl (bp rfl (bp rfl ?_))))
   rw [zH (by unfold zr;omega)];have e:(if 0<c2+s then 0 else c2+s)=zd1 s c2:=by unfold zd1;rw [if_neg h1];split<;>omega
   rw [e];rfl
  ·refine bn (df h2) ?_
   have e:zd1 s c2=c2:=by unfold zd1;rw [if_neg h1];omega
   rw [e]
theorem zOc(F:Nat)(hF:200<=F){g s l h c0 c1 c2 la t:Int}(hs:zr s)(hl:zr l)(hp:zxF g s l h c0 c1 c2 la t):
 zmg F g s l h c0 c1 c2 la t=some (.v (.tuple #[.agg #[.i (fdV s h la t c0),.i (fdV s h la t c1),.i (fdV s h la t c2),.i la],.i 0])):=by
 obtain⟨hr,hc,ht⟩:=hp;obtain⟨i0,i1,i2⟩:=zvm hl hc;unfold zmg zpm;obtain⟨m1,m2⟩:=zBl F hF (g:=g) (s:=s) (h:=h) (c0:=c0) (c1:=c1) (c2:=c2) (t:=la) hl;refine bp m1 (bn (by rw [m2,zvc ⟨hr,hc⟩];rfl) (bn (df zc) (bn (df zc) ?_)));have hla:=hc.1;rw [zH (by unfold zr;omega)];unfold fdV;by_cases h1:t-la<=h
 ·refine bp (dt h1) ?_
  rw [if_pos h1,if_pos h1,if_pos h1]
 ·refine bn (df h1) ?_
  rw [if_neg h1,if_neg h1,if_neg h1];obtain⟨G,hG⟩:∃G,F=G+4:=⟨F-4,zc⟩;rw [show yM F _ F=yM F _ (G+4)from congrArg (yM F _) hG];rw [zN9 F _ (G+3) hr.2.2.1 hs i0,zOa F _ (G+2) hr.2.2.1 hs i1,zOb F _ (G+1) hr.2.2.1 hs i2,zit];unfold zdm;exact bn rfl (bp rfl rfl)
theorem hi0:hi 0=0:=dcz
end Go.Xv
namespace Go.Xv
open Go.RowKit
theorem zDG(F:Nat)(hF:200<=F){a0 a1 a2 a3 v0 v1 v2:Int}{c0 c1 c2:Bool}(h0:yi.ok F 0 a0 a1 a2 a3=true/\yi.i 0 F 0 a0 a1 a2 a3=v0/\yi.b 1 F 0 a0 a1 a2 a3=c0)(h1:yi.ok F 1 a0 a1 a2 a3=true/\yi.i 0 F 1 a0 a1 a2 a3=v1/\yi.b 1 F 1 a0 a1 a2 a3=c1)(h2:yi.ok F 2 a0 a1 a2 a3=true/\yi.i 0 F 2 a0 a1 a2 a3=v2/\yi.b 1 F 2 a0 a1 a2 a3=c2):
 zme F a0 a1 a2 a3=some (.v (.tuple #[.agg #[.i v0,.i v1,.i v2],.bool (c0||c1||c2)])):=by
 obtain⟨a1,a2,a3⟩:=h0;obtain⟨b1,b2,b3⟩:=h1;obtain⟨d1,d2,d3⟩:=h2;obtain⟨G,hG⟩:∃G,F=G+4:=⟨F-4,zc⟩;have w1:wrap .i64 (0+1)=1:=dcz;have w2:wrap .i64 (1+1)=2:=dcz;have w3:wrap .i64 (2+1)=3:=dcz;unfold zme zpg;rw [show jK F _ F=jK F _ (G+4)from congrArg (jK F _) hG,zdl];unfold zcm zb4;refine bp rfl (bp a1 (bn rfl (bp rfl (bp rfl ?_))));rw [a2,a3,w1,zdl];unfold zcm zb4;refine bp rfl (bp b1 ?_);rw [b2,b3,w2];cases c0
 ·refine bn rfl (bp rfl (bp rfl ?_))
  rw [zdl];unfold zcm zb4;refine bp rfl (bp d1 ?_);rw [d2,d3,w3];cases c1
  ·refine bn rfl (bp rfl (bp rfl ?_))
   rw [zdl];unfold zcm zb4;exact bn rfl (bp rfl rfl)
  ·refine bp rfl (bp rfl (bp rfl ?_))
   rw [zdl];unfold zcm zb4;exact bn rfl (bp rfl rfl)
 ·refine bp rfl (bp rfl (bp rfl ?_))
  rw [zdl];unfold zcm zb4;refine bp rfl (bp d1 ?_);rw [d2,w3];refine bp rfl (bp rfl (bp rfl ?_));rw [zdl];unfold zcm zb4;exact bn rfl (bp rfl (by rw [Bool.true_or,Bool.true_or];rfl))
theorem zUW(F:Nat){a0 a1 a2 g:Int}(h:zr a0)(h0:0<=g)(h1:g<=16):yi.ok F 0 a0 a1 a2 (-g)=true/\yi.i 0 F 0 a0 a1 a2 (-g)=a0/2^g.toNat/\yi.b 1 F 0 a0 a1 a2 (-g)=false:=by
 refine zpf F _ _ _ _ _ ?_;unfold zgb zfi;obtain⟨h1,h2,h3⟩:=zwh F h h0 h1;refine bp rfl (bp rfl (bp h1 ?_));exact congrArg some (show VV.v (.tuple #[.i (yS.i 0 F a0 (-g)),.bool (yS.b 1 F a0 (-g))])=_ by rw [h2,h3])
theorem zUX(F:Nat){a0 a1 a2 g:Int}(h:zr a1)(h0:0<=g)(h1:g<=16):yi.ok F 1 a0 a1 a2 (-g)=true/\yi.i 0 F 1 a0 a1 a2 (-g)=a1/2^g.toNat/\yi.b 1 F 1 a0 a1 a2 (-g)=false:=by
 refine zpf F _ _ _ _ _ ?_;unfold zgb zfi;obtain⟨h1,h2,h3⟩:=zwh F h h0 h1;refine bp rfl (bp rfl (bp h1 ?_));exact congrArg some (show VV.v (.tuple #[.i (yS.i 0 F a1 (-g)),.bool (yS.b 1 F a1 (-g))])=_ by rw [h2,h3])
theorem zUY(F:Nat){a0 a1 a2 g:Int}(h:zr a2)(h0:0<=g)(h1:g<=16):yi.ok F 2 a0 a1 a2 (-g)=true/\yi.i 0 F 2 a0 a1 a2 (-g)=a2/2^g.toNat/\yi.b 1 F 2 a0 a1 a2 (-g)=false:=by
 refine zpf F _ _ _ _ _ ?_;unfold zgb zfi;obtain⟨h1,h2,h3⟩:=zwh F h h0 h1;refine bp rfl (bp rfl (bp h1 ?_));exact congrArg some (show VV.v (.tuple #[.i (yS.i 0 F a2 (-g)),.bool (yS.b 1 F a2 (-g))])=_ by rw [h2,h3])
theorem zX2(F:Nat)(hF:200<=F){a0 a1 a2 g:Int}(i0:zr a0)(i1:zr a1)(i2:zr a2)(h0:0<=g)(h1:g<=16):zbp.ok F a0 a1 a2 (-g)=true/\zbp.i 0 F a0 a1 a2 (-g)=a0/2^g.toNat/\zbp.i 1 F a0 a1 a2 (-g)=a1/2^g.toNat/\zbp.i 2 F a0 a1 a2 (-g)=a2/2^g.toNat/\zbp.b 3 F a0 a1 a2 (-g)=false:=by
 refine zLa F _ _ _ _ ?_;unfold zs4 zry;obtain⟨e1,e2,e3,e4,e5⟩:=zHy F _ _ _ _ (zDG F hF (zUW F i0 h0 h1) (zUX F i1 h0 h1) (zUY F i2 h0 h1));refine bp e1 ?_;rw [e2,e3,e4,e5];rfl
theorem zOd{a b:Int}(ha:zr a)(hb:zr b)(w:World):Calls PP 83 #[.i a,.i b] w fun e w'=>e= .returned (.tuple #[.i (zh (a-b)),.bool (zw (a-b))])/\Below w.heap.size w w':=by
 refine yc.plain (zwW 200) [.i a,.i b] _ ?_ w;obtain⟨hq,q0,q1⟩:=zAB 200 ha hb;have e:zz zmn ki2 jl 200 [.v (.i a),.v (.i b)]=some (jl.ok 200 a b,.v (.tuple #[.i (jl.i 0 200 a b),.bool (jl.b 1 200 a b)])):=kfz;rw [hq,q0,q1]at e;exact zdE e
theorem zOe{a b:Int}(ha:zr a)(hb:zr b)(w:World):Calls PP 52 #[.i a,.i b] w fun e w'=>e= .returned (.tuple #[.i (zh (a+b)),.bool (zw (a+b))])/\Below w.heap.size w w':=by
 refine yc.plain (zwV 200) [.i a,.i b] _ ?_ w;obtain⟨hq,q0,q1⟩:=zAA 200 ha hb;have e:zz zmm ki2 jv 200 [.v (.i a),.v (.i b)]=some (jv.ok 200 a b,.v (.tuple #[.i (jv.i 0 200 a b),.bool (jv.b 1 200 a b)])):=kfz;rw [hq,q0,q1]at e;exact zdE e
theorem zRd(a b:Int)(w:World):Calls PP 38 #[.int .u32 a,.int .u32 b] w fun e w'=>e= .returned (.int .i32 (zee a b))/\Below w.heap.size w w':=by
 refine yc.plain (zNy 200) [.int .u32 a,.int .u32 b] _ ?_ w;obtain⟨hq,q0⟩:=zXQ 200 a b;have e:zz zq9 ki2 zff 200 [.v (.int .u32 a),.v (.int .u32 b)]=some (zff.ok 200 a b,.v (.int .i32 (zff.i 0 200 a b))):=kfz;rw [hq,q0]at e;exact zdE e
theorem zLD{x:Int}(h:I32 x)(w:World):Calls PP 40 #[.int .i32 x] w fun e w'=>e= .returned (.i (wid x))/\Below w.heap.size w w':=by
 refine yc.plain (zui 200) [.int .i32 x] _ ?_ w;obtain⟨hq,q0⟩:=znh 200 h;have e:zz zf9 ki jR 200 [.v (.int .i32 x)]=some (jR.ok 200 x,.v (.i (jR.i 0 200 x))):=kfz;rw [hq,q0]at e;exact zdE e
theorem zHP{a0 a1 a2 g:Int}(i0:zr a0)(i1:zr a1)(i2:zr a2)(h0:0<=g)(h1:g<=16)(w:World):Calls PP 50 #[.agg #[.i a0,.i a1,.i a2],.i (-g)] w fun e w'=>e= .returned (.tuple #[.agg #[.i (a0/2^g.toNat),.i (a1/2^g.toNat),.i (a2/2^g.toNat)],.bool false])/\Below w.heap.size w w':=by
 refine yc.plain (zLb 200) [.agg #[.i a0,.i a1,.i a2],.i (-g)] _ ?_ w;obtain⟨hq,q0,q1,q2,q3⟩:=zX2 200 (Nat.le_refl _) i0 i1 i2 h0 h1;have e:zz zoj ki4 zbp 200 [.v (.agg #[.i a0,.i a1,.i a2]),.v (.i (-g))]=some (zbp.ok 200 a0 a1 a2 (-g),.v (.tuple #[.agg #[.i (zbp.i 0 200 a0 a1 a2 (-g)),.i (zbp.i 1 200 a0 a1 a2 (-g)),.i (zbp.i 2 200 a0 a1 a2 (-g))],.bool (zbp.b 3 200 a0 a1 a2 (-g))])):=kfz;rw [hq,q0,q1,q2,q3]at e;exact zdE e
theorem zLE{g s l h c0 c1 c2 la o0 o1 o2 n t:Int}(hs:zr s)(hl:zr l)(ho0:zr o0)(ho1:zr o1)(ho2:zr o2)(hp:zxE g s l h c0 c1 c2 la n t)(w:World):Calls PP 47 #[.agg #[.i g,.i s,.i l,.i h],.agg #[.i c0,.i c1,.i c2,.i la],.agg #[.i o0,.i o1,.i o2],.i n,.i t] w fun e w'=>e= .returned (.tuple #[.agg #[.i (axV n 0 (ji g s l c0 o0) c0),.i (axV n 1 (ji g s l c1 o1) c1),.i (axV n 2 (ji g s l c2 o2) c2),.i t],.i 0])/\Below w.heap.size w w':=by
 refine yc.plain (zLC 200) [.agg #[.i g,.i s,.i l,.i h],.agg #[.i c0,.i c1,.i c2,.i la],.agg #[.i o0,.i o1,.i o2],.i n,.i t] _ ?_ w;obtain⟨hq,q0,q1,q2,q3,q4⟩:=zLB 200 _ _ _ _ _ _ _ _ _ _ _ _ _ (zN2 200 (Nat.le_refl _) hs hl ho0 ho1 ho2 hp);have e:zz zoo zpz zbR 200 [.v (.agg #[.i g,.i s,.i l,.i h]),.v (.agg #[.i c0,.i c1,.i c2,.i la]),.v (.agg #[.i o0,.i o1,.i o2]),.v (.i n),.v (.i t)]=some (zbR.ok 200 g s l h c0 c1 c2 la o0 o1 o2 n t,.v (.tuple #[.agg #[.i (zbR.i 0 200 g s l h c0 c1 c2 la o0 o1 o2 n t),.i (zbR.i 1 200 g s l h c0 c1 c2 la o0 o1 o2 n t),.i (zbR.i 2 200 g s l h c0 c1 c2 la o0 o1 o2 n t),.i (zbR.i 3 200 g s l h c0 c1 c2 la o0 o1 o2 n t)],.i (zbR.i 4 200 g s l h c0 c1 c2 la o0 o1 o2 n t)])):=kfz
 rw [hq,q0,q1,q2,q3,q4]at e;exact zdE e
theorem zLF{g s l h c0 c1 c2 la t:Int}(hs:zr s)(hl:zr l)(hp:zxF g s l h c0 c1 c2 la t)(w:World):Calls PP 48 #[.agg #[.i g,.i s,.i l,.i h],.agg #[.i c0,.i c1,.i c2,.i la],.i t] w fun e w'=>e= .returned (.tuple #[.agg #[.i (fdV s h la t c0),.i (fdV s h la t c1),.i (fdV s h la t c2),.i la],.i 0])/\Below w.heap.size w w':=by
 refine yc.plain (zLx 200) [.agg #[.i g,.i s,.i l,.i h],.agg #[.i c0,.i c1,.i c2,.i la],.i t] _ ?_ w;obtain⟨hq,q0,q1,q2,q3,q4⟩:=zLw 200 _ _ _ _ _ _ _ _ _ (zN3 200 (Nat.le_refl _) hs hl hp);have e:zz zom ki9 zbQ 200 [.v (.agg #[.i g,.i s,.i l,.i h]),.v (.agg #[.i c0,.i c1,.i c2,.i la]),.v (.i t)]=some (zbQ.ok 200 g s l h c0 c1 c2 la t,.v (.tuple #[.agg #[.i (zbQ.i 0 200 g s l h c0 c1 c2 la t),.i (zbQ.i 1 200 g s l h c0 c1 c2 la t),.i (zbQ.i 2 200 g s l h c0 c1 c2 la t),.i (zbQ.i 3 200 g s l h c0 c1 c2 la t)],.i (zbQ.i 4 200 g s l h c0 c1 c2 la t)])):=kfz;rw [hq,q0,q1,q2,q3,q4]at e;exact zdE e
structure PS where
 s:NS
 ts:List TK
structure zcO (w:World) (nb mb:Nat) (l:List (Int×Nat)) (p:PS):Prop where
 nav:jc w nb mb p.s
 map:znv w mb l
 trk:zxz w nb l p.ts
def zbH:List TK->Int->Option TK
 |[],_=>none
 |t::r,k=>if k=t.src then some t else zbH r k
theorem znk:∀{w:World} {nb:Nat} {l:List (Int×Nat)} {ts:List TK} {k:Int},zxz w nb l ts->zcS l k=none->zbH ts k=none
 |_,_,[],ts,k,h,_=>by
  cases ts with
  |nil=>rfl
  |cons t r=>have:=h.len;simp at this
 |w,nb,(s,b)::l,ts,k,h,hl=>by
  cases ts with
  |nil=>rfl
  |cons t r=>
   obtain⟨t',ht,hs,_⟩:=h.blk 0 s b rfl;cases ht;unfold zcS at hl;split at hl
   ·cases hl
   ·rename_i hk
    unfold zbH;rw [if_neg (hs▸hk)];have hn:=h.nodup;simp only [List.map_cons,List.nodup_cons]at hn
    exact znk (w:=w) (nb:=nb) ⟨by have:=h.len;simpa using this,fun i s b hi=>by
     obtain⟨t',h1,h2⟩:=h.blk (i+1) s b hi
     exact⟨t',h1,h2⟩,hn.2,fun p hp=>h.ne p (List.mem_cons_of_mem _ hp)⟩ hl
theorem zgW:∀{w:World} {nb:Nat} {l:List (Int×Nat)} {ts:List TK} {k:Int} {b:Nat},zxz w nb l ts->zcS l k=some b->∃t,zbH ts k=some t/\t.src=k/\w.heap[b]? =some (.cells (zcC t) 85 (0,0))/\b≠nb
 |_,_,[],_,_,_,_,hl=>by cases hl
 |w,nb,(s,b')::l,ts,k,b,h,hl=>by
  cases ts with
  |nil=>have:=h.len;simp at this
  |cons t r=>
   obtain⟨t',ht,hs,hb⟩:=h.blk 0 s b' rfl;cases ht;unfold zcS at hl;unfold zbH;split at hl
   ·rename_i hk
    cases hl;rw [if_pos (hs▸hk)];exact⟨t,rfl,by rw [hk,hs],hb,h.ne _ (List.mem_cons_self ..)⟩
   ·rename_i hk
    rw [if_neg (hs▸hk)];have hn:=h.nodup;simp only [List.map_cons,List.nodup_cons]at hn
    exact zgW (w:=w) (nb:=nb) ⟨by have:=h.len;simpa using this,fun i s b hi=>by
     obtain⟨t',h1,h2⟩:=h.blk (i+1) s b hi
     exact⟨t',h1,h2⟩,hn.2,fun p hp=>h.ne p (List.mem_cons_of_mem _ hp)⟩ hl
def zle(l:List (Int×Nat))(p:PS)(sr:Int)(right:TK->Bool):Option Nat×Int:=
 match zcS l sr,zbH p.ts sr with
 |some b,some t=>if right t=true then(if p.s.start= -1 then(none,7)else(some b,0))else(none,2)
 |_,_=>(none,2)
theorem zwp(w:World):Sem.run PP (binOp BinOp.eql 83 (Value.pointer none) (Value.pointer none)) w= .ok (.bool true) w:=kfz
theorem zOf(t:TK)(b xb:Nat)(kd:Int)(w:World)(hb:w.heap[b]? =some (.cells (zcC t) 85 (0,0)))(hx:w.cell? (.q xb 0)=some (.i kd)):
 Calls PP 36 #[ptB b,ptB xb] w fun e w'=>e= .returned (.bool (decide (t.kd=kd)))/\Below w.heap.size w w':=by
 go_enter Proofs.Tryz.func36,Proofs.Tryz.ntmps36
 have c1:=zi 1 hb rfl;have hd:Below w.heap.size w w.drew:=⟨rfl,rfl,rfl,Nat.le_refl _,fun _ _=>rfl⟩;go_wp2;go_region_held3(fun w'=>w'.cell? (.q b 1)=some (.i t.kd)/\w'.cell? (.q xb 0)=some (.i kd)) (exact⟨c1,hx⟩) (fail)
 go_wp2;go_ret;exact⟨by rfl,hd⟩
theorem zLG(b tb xb nb mb:Nat)(s:NS)(tk:Int)(w:World)(ht:w.cell? (.q tb 0)=some (.i tk))(hx:w.cell? (.q xb 0)=some (ptB nb))(hN:jc w nb mb s):
 Calls PP 46 #[ptB b,ptB tb,ptB xb] w fun e w'=>e= .returned (.bool (decide (s.now<=tk/\tk<=1099511627776)))/\Below w.heap.size w w':=by
 go_enter Proofs.Tryz.func46,Proofs.Tryz.ntmps46
 have c1:=zi 23 hN rfl;have hd:Below w.heap.size w w.drew:=⟨rfl,rfl,rfl,Nat.le_refl _,fun _ _=>rfl⟩;cases e1:decide (s.now<=tk)with
 |true=>
  have h1:s.now<=tk:=of_decide_eq_true e1;go_wp2;go_region_held3(fun w'=>w'.cell? (.q nb 23)=some (.i s.now)/\w'.cell? (.q tb 0)=some (.i tk)/\w'.cell? (.q xb 0)=some (.pointer (some (.q nb 0)))) (exact⟨c1,ht,hx⟩) (fail)
  go_wp2;go_ret;exact⟨by simp [h1],hd⟩
 |false=>
  have h1: ¬s.now<=tk:=of_decide_eq_false e1;have hf:(decide (s.now<=tk/\tk<=1099511627776))=false:=by simp [h1]
  rw [hf];have e2:Value.bool (decide (s.now<=tk))= .bool false:=by rw [e1]
  clear h1 e1 hf;go_wp2;refine wp_region_held_drew (S:=fun w'=>w'.cell? (.q nb 23)=some (.i s.now)/\w'.cell? (.q tb 0)=some (.i tk)/\w'.cell? (.q xb 0)=some (.pointer (some (.q nb 0)))) kfz ⟨c1,ht,hx⟩ (fun hHeld=> ?_);refine zag (i:=0) (oi:=⟨some 5,.load 3 (.tmp 1),3,"nav.go:205",#[],none⟩) ?_;try simp only [Act.put,sLz]
  refine zag (i:=1) (oi:=⟨some 6,.load 29 (.tmp 2),29,"nav.go:205",#[],none⟩) ?_;try simp only [Act.put,sLz]
  refine zag (i:=2) (oi:=⟨some 7,.nilCheck (.tmp 6),0,"nav.go:205",#[⟨1,.data⟩],none⟩) ?_;try simp only [Act.put,sLz]
  refine zag (i:=3) (oi:=⟨some 8,.fieldAddr 62 (.tmp 7) 8,0,"nav.go:205",#[⟨2,.data⟩],none⟩) ?_;try simp only [Act.put,sLz]
  refine zag (i:=4) (oi:=⟨some 9,.load 3 (.tmp 8),3,"nav.go:205",#[⟨3,.data⟩],none⟩) ?_;try simp only [Act.put,sLz]
  refine zag (i:=5) (oi:=⟨some 10,.binOp .geq 3 (.tmp 5) (.tmp 9) 3,4,"nav.go:205",#[⟨0,.data⟩,⟨4,.data⟩],none⟩) ?_;try simp only [Act.put,sLz]
  refine zag (i:=6) (oi:=⟨some 11,.move (.tmp 10),4,"nav.go:205",#[⟨5,.data⟩],none⟩) ?_;try simp only [Act.put,sLz]
  refine zaG (i:=7) (oi:=⟨some 12,.load 3 (.tmp 1),3,"nav.go:205",#[⟨6,.guard⟩],some (6,true)⟩) ?_;try simp only [Act.put,sLz]
  refine zaG (i:=8) (oi:=⟨some 13,.binOp .leq 3 (.tmp 12) (.const (.i 1099511627776)) 3,4,"nav.go:205",#[⟨7,.data⟩,⟨6,.guard⟩],some (6,true)⟩) ?_;try simp only [Act.put,sLz]
  refine zag (i:=9) (oi:=⟨some 14,.pick (.tmp 11) (.tmp 13) (.const (.bool false)),4,"nav.go:205",#[⟨6,.data⟩,⟨8,.data⟩],none⟩) ?_;try simp only [Act.put,sLz]
  refine zag (i:=10) (oi:=⟨some 4,.assign (.tmp 14),4,"nav.go:205",#[⟨9,.data⟩,⟨6,.chain⟩,⟨0,.phase⟩,⟨1,.phase⟩,⟨2,.phase⟩,⟨3,.phase⟩,⟨4,.phase⟩,⟨5,.phase⟩,⟨6,.phase⟩,⟨7,.phase⟩,⟨8,.phase⟩,⟨9,.phase⟩],none⟩) ?_;try simp only [Act.put,sLz]
  refine wpAnyH_done kfz ?_ _;go_wp2;go_ret;exact⟨rfl,hd⟩
theorem zkI(nb mb:Nat)(l:List (Int×Nat))(p:PS)(w:World)(hR:zcO w nb mb l p)(sr:Int)(xb:Nat)(kd:Int)(hx:w.cell? (.q xb 0)=some (.i kd)):
 Calls PP 35 #[ptB nb,.i sr,.func (.func 36) #[] #[ptB xb]] w fun e w'=>e= .returned (.tuple #[ptV (zle l p sr (fun t=>decide (t.kd=kd))).1,.i (zle l p sr (fun t=>decide (t.kd=kd))).2])/\Below w.heap.size w w':=by
 go_enter Proofs.Tryz.func35,Proofs.Tryz.ntmps35
 obtain⟨hN,hM,hT⟩:=hR;have c20:=zi 20 hN rfl;have hi:=zil nb mb p.s w hN;have hlk:=zio hM sr;have hpn:=zwp;unfold zle;cases hl:zcS l sr with
 |none=>
  rw [hl]at hlk;simp only [ptV]at hlk⊢;go_wp2_with(go_at_call 43;refine hi.mono ?_;clear hi;rintro e w' ⟨rfl,hw⟩;obtain rfl:=hw.symm)
  go_ret2;exact⟨rfl,Below.refl _ _⟩
 |some b=>
  obtain⟨t,htk,hsr,hb,hnb⟩:=zgW hT hl;rw [hl]at hlk;simp only [ptV,htk]at hlk⊢;have hcl:=zOf t b xb kd w hb hx;by_cases hc:decide (t.kd=kd)=true
  ·rw [if_pos hc]
   rw [hc]at hcl;by_cases h0:p.s.start= -1
   ·rw [if_pos h0]
    go_wp2_with(first
     |(go_at_call 43;refine hi.mono ?_;clear hi;rintro e w' ⟨rfl,hw⟩;obtain rfl:=hw.symm)
     |(go_at_call 36
       refine hcl.mono ?_;rintro e w1 ⟨rfl,hB1⟩;have hst:=zcY nb mb p.s w1 (hN.below hB1)
       rw [h0]at hst)
     |(go_at_call 54;refine hst.mono ?_;clear hst;rintro e w' ⟨rfl,hw⟩;obtain rfl:=hw.symm))
    go_ret2;exact⟨rfl,hB1⟩
   ·rw [if_neg h0]
    have h0b:(p.s.start== -1)=false:=by simpa using h0
    go_wp2_with(first
     |(go_at_call 43;refine hi.mono ?_;clear hi;rintro e w' ⟨rfl,hw⟩;obtain rfl:=hw.symm)
     |(go_at_call 36
       refine hcl.mono ?_;rintro e w1 ⟨rfl,hB1⟩;have hst:=zcY nb mb p.s w1 (hN.below hB1)
       rw [h0b]at hst)
     |(go_at_call 54;refine hst.mono ?_;clear hst;rintro e w' ⟨rfl,hw⟩;obtain rfl:=hw.symm))
    go_ret2;exact⟨rfl,hB1⟩
  ·rw [if_neg hc]
   rw [Bool.not_eq_true]at hc;rw [hc]at hcl
   go_wp2_with(first
    |(go_at_call 43;refine hi.mono ?_;clear hi;rintro e w' ⟨rfl,hw⟩;obtain rfl:=hw.symm)
    |(go_at_call 36;refine hcl.mono ?_;rintro e w1 ⟨rfl,hB1⟩))
   go_ret2;exact⟨rfl,hB1⟩
theorem zLH(nb mb:Nat)(l:List (Int×Nat))(p:PS)(w:World)(hR:zcO w nb mb l p)(sr:Int)(tb xb:Nat)(tk:Int)(ht:w.cell? (.q tb 0)=some (.i tk))(hx:w.cell? (.q xb 0)=some (ptB nb)):
 Calls PP 35 #[ptB nb,.i sr,.func (.func 46) #[] #[ptB tb,ptB xb]] w fun e w'=>e= .returned (.tuple #[ptV (zle l p sr (fun t=>decide (p.s.now<=tk/\tk<=1099511627776))).1,.i (zle l p sr (fun t=>decide (p.s.now<=tk/\tk<=1099511627776))).2])/\Below w.heap.size w w':=by
 go_enter Proofs.Tryz.func35,Proofs.Tryz.ntmps35
 obtain⟨hN,hM,hT⟩:=hR;have c20:=zi 20 hN rfl;have hi:=zil nb mb p.s w hN;have hlk:=zio hM sr;have hpn:=zwp;unfold zle;cases hl:zcS l sr with
 |none=>
  rw [hl]at hlk;simp only [ptV]at hlk⊢;go_wp2_with(go_at_call 43;refine hi.mono ?_;clear hi;rintro e w' ⟨rfl,hw⟩;obtain rfl:=hw.symm)
  go_ret2;exact⟨rfl,Below.refl _ _⟩
 |some b=>
  obtain⟨t,htk,hsr,hb,hnb⟩:=zgW hT hl;rw [hl]at hlk;simp only [ptV,htk]at hlk⊢;have hcl:=zLG b tb xb nb mb p.s tk w ht hx hN;by_cases hc:decide (p.s.now<=tk/\tk<=1099511627776)=true
  ·rw [if_pos hc]
   rw [hc]at hcl;by_cases h0:p.s.start= -1
   ·rw [if_pos h0]
    go_wp2_with(first
     |(go_at_call 43;refine hi.mono ?_;clear hi;rintro e w' ⟨rfl,hw⟩;obtain rfl:=hw.symm)
     |(go_at_call 46
       refine hcl.mono ?_;rintro e w1 ⟨rfl,hB1⟩;have hst:=zcY nb mb p.s w1 (hN.below hB1)
       rw [h0]at hst)
     |(go_at_call 54;refine hst.mono ?_;clear hst;rintro e w' ⟨rfl,hw⟩;obtain rfl:=hw.symm))
    go_ret2;exact⟨rfl,hB1⟩
   ·rw [if_neg h0]
    have h0b:(p.s.start== -1)=false:=by simpa using h0
    go_wp2_with(first
     |(go_at_call 43;refine hi.mono ?_;clear hi;rintro e w' ⟨rfl,hw⟩;obtain rfl:=hw.symm)
     |(go_at_call 46
       refine hcl.mono ?_;rintro e w1 ⟨rfl,hB1⟩;have hst:=zcY nb mb p.s w1 (hN.below hB1)
       rw [h0b]at hst)
     |(go_at_call 54;refine hst.mono ?_;clear hst;rintro e w' ⟨rfl,hw⟩;obtain rfl:=hw.symm))
    go_ret2;exact⟨rfl,hB1⟩
  ·rw [if_neg hc]
   rw [Bool.not_eq_true]at hc;rw [hc]at hcl
   go_wp2_with(first
    |(go_at_call 43;refine hi.mono ?_;clear hi;rintro e w' ⟨rfl,hw⟩;obtain rfl:=hw.symm)
    |(go_at_call 46;refine hcl.mono ?_;rintro e w1 ⟨rfl,hB1⟩))
   go_ret2;exact⟨rfl,hB1⟩
abbrev NS.k(s:NS)(b:Bool):NS:={s with cut:=s.cut||b}
theorem zeN(nb mb:Nat)(s:NS){a b:Int}(ha:zr a)(hb:zr b)(w:World)(hN:jc w nb mb s):
 Calls PP 37 #[ptB nb,.i a,.i b] w fun e w'=>e= .returned (.i (zh (a-b)))/\jc w' nb mb (s.k (zw (a-b)))/\Chg nb w w':=by
 go_enter Proofs.Tryz.func37,Proofs.Tryz.ntmps37
 have hs:=fun w=>zOd ha hb w
 go_wp2_with(first
  |(go_at_call 83
    refine(hs _).mono ?_;clear hs;rintro e w1 ⟨rfl,hB1⟩;have hN1:=hN.below hB1
    have hm:=zgU [zw (a-b)] jq w1.heap.size 1 nb mb s _ (zEm (ty:=4)) (hN1.below ((Below.refl _ w1).alloc (Nat.le_refl _) _)))
  |(go_at_call 53;refine hm.mono ?_;clear hm;rintro e w2 ⟨rfl,hN2,hC2⟩))
 go_ret;refine⟨rfl,?_,((Chg.of hB1).alloc _).trans hC2⟩;simpa using hN2
structure Rd where
 kd:Int
 gy:V3
 ac:V3
 ht:Int
 hd:Int
 sp:Int
 ps:V3
structure Rd.ok (r:Rd):Prop where
 gy:r.gy.W
 ac:r.ac.W
 ht:zr r.ht
 hd:U32 r.hd
 sp:I32 r.sp
 ps:r.ps.I
structure Rd2 (f:Nat->Value) (r:Rd):Prop where
 d:zUT f r.kd r.gy r.ac
 ht:f 7= .i r.ht
 hd:f 8= .int .u32 r.hd
 sp:f 9= .int .i32 r.sp
 px:f 13= .i r.ps.x
 py:f 14= .i r.ps.y
 pz:f 15= .i r.ps.z
def je(a b c:Int):Int:=zh (zh (a-b)-c)
def zb5(a b c:Int):Bool:=zw (a-b)||zw (zh (a-b)-c)
def hdV(s:NS)(c:Int):Int:=(zcQ s.a.m.a3 s.a.m.a0+c)%4294967296
def zds(s:NS)(t:TK)(r:Rd):V3:=
 if t.kd=2 then⟨je r.ht s.p2 t.c.x,0,0⟩
 else if t.kd=3 then⟨zee (hdV s t.c.x) r.hd,0,0⟩
 else if t.kd=4 then⟨je (wid r.sp) (zh (spZ s)) t.c.x,0,0⟩
 else if t.kd=5 then⟨je r.ps.x s.p0 t.c.x,je r.ps.y s.p1 t.c.y,je r.ps.z s.p2 t.c.z⟩
 else⟨0,0,0⟩
def zjf(s:NS)(t:TK)(r:Rd):Bool:=
 if t.kd=2 then zb5 r.ht s.p2 t.c.x
 else if t.kd=3 then false
 else if t.kd=4 then zw (spZ s)||zb5 (wid r.sp) (zh (spZ s)) t.c.x
 else if t.kd=5 then zb5 r.ps.x s.p0 t.c.x||zb5 r.ps.y s.p1 t.c.y||zb5 r.ps.z s.p2 t.c.z
 else false
def axN(k:Int):Int:=if k=5 then 3 else 1
def zaJ(p:PS)(sr:Int)(r:Rd):V3×Int×Int×PS:=
 match zbH p.ts sr with
 |none=>(⟨0,0,0⟩,0,2,p)
 |some t=>if t.kd=r.kd then(if p.s.start= -1 then(⟨0,0,0⟩,0,7,p)else(zds p.s t r,axN t.kd,0,⟨p.s.k (zjf p.s t r),p.ts⟩))else(⟨0,0,0⟩,0,2,p)
theorem zcO.chg{w w':World}{nb mb:Nat}{l:List (Int×Nat)}{p:PS}{s':NS}(h:zcO w nb mb l p)(hm:mb≠nb)(hn:jc w' nb mb s')(hc:Chg nb w w'):zcO w' nb mb l ⟨s',p.ts⟩:=
 ⟨hn,(hc.block mb (zy h.map) hm).trans h.map,h.trk.len,fun i s b hi=>by
  obtain⟨t,h1,h2,h3⟩:=h.trk.blk i s b hi
  exact⟨t,h1,h2,(hc.block b (zy h3) (h.trk.ne _ (List.mem_of_getElem? hi))).trans h3⟩,h.trk.nodup,h.trk.ne⟩
theorem zTb{w:World}{nb:Nat}{l:List (Int×Nat)}{p:PS}(hT:zxz w nb l p.ts)(sr:Int)(r:Rd):
 (∃c:Int,c≠0/\zle l p sr (fun t=>decide (t.kd=r.kd))=(none,c)/\zaJ p sr r=(⟨0,0,0⟩,0,c,p))\/
 ∃b t,zle l p sr (fun t=>decide (t.kd=r.kd))=(some b,0)/\zbH p.ts sr=some t/\t.kd=r.kd/\p.s.start≠ -1/\w.heap[b]? =some (.cells (zcC t) 85 (0,0))/\b≠nb:=by
 unfold zle zaJ;cases hl:zcS l sr with
 |none=>
  rw [znk hT hl];exact .inl ⟨2,dcz,rfl,rfl⟩
 |some b=>
  obtain⟨t,h1,h2,h3,h4⟩:=zgW hT hl;rw [h1];dsimp only;by_cases hk:t.kd=r.kd
  ·rw [if_pos (decide_eq_true hk),if_pos hk]
   by_cases h0:p.s.start= -1
   ·rw [if_pos h0,if_pos h0]
    exact .inl ⟨7,dcz,rfl,rfl⟩
   ·rw [if_neg h0,if_neg h0]
    exact .inr ⟨b,t,rfl,rfl,hk,h0,h3,h4⟩
  ·rw [if_neg (by simpa using hk),if_neg hk]
   exact .inl ⟨2,dcz,rfl,rfl⟩
theorem zYt{s:NS}(h:s.ok){b:Bool}:(s.k b).ok:=⟨h.g0,h.g1,h.g2,h.v0,h.v1,h.v2,h.p0,h.p1,h.p2,h.m,h.n⟩
theorem zVR(a b:Int):zr (zee a b):=by unfold zee zr;omega
theorem NS.k_k(s:NS)(a b:Bool):(s.k a).k b=s.k (a||b):=by simp [NS.k,Bool.or_assoc]
theorem ya{W:World}{b o x k:Nat}{v u:Value}(h:W.cell? (.q b o)=some v)(hn:b≠x):(W.setCell (.q x k) u).cell? (.q b o)=some v:=
 (World.cell?_of_block (w:=W) (a:=(.q b o)) (Below.heap_setCell W (.q x k) u b hn)).trans h
theorem jc.setNe{W:World}{nb mb x k:Nat}{s:NS}{u:Value}(h:jc W nb mb s)(hn:nb≠x):jc (W.setCell (.q x k) u) nb mb s:=
 (Below.heap_setCell W (.q x k) u nb hn).trans h
theorem Chg.setNew{nb x k:Nat}{w W:World}{u:Value}(h:Chg nb w W)(hx:w.heap.size<=x):Chg nb w (W.setCell (.q x k) u):=
 ⟨h.os,h.tape,h.output,by have:=h.size;simpa using this,fun i hi hn=>(Below.heap_setCell W (.q x k) u i (fun e=>by simp only at e;omega)).trans (h.block i hi hn)⟩
theorem zt{W:World}{b x k:Nat}{o:Option Obj}{u:Value}(h:W.heap[b]? =o)(hn:b≠x):(W.setCell (.q x k) u).heap[b]? =o:=
 (Below.heap_setCell W (.q x k) u b hn).trans h
theorem zWS(nb mb:Nat)(l:List (Int×Nat))(p:PS)(hm:mb≠nb)(hs:p.s.ok)(sr:Int)(r:Rd)(hr:r.ok)(f:Nat->Value)(hd:Rd2 f r)(w:World)(hR:zcO w nb mb l p)
 (b:Nat) (t:TK) (hfr:zle l p sr (fun t=>decide (t.kd=r.kd))=(some b,0)) (hb:w.heap[b]? =some (.cells (zcC t) 85 (0,0))) (hbn:b≠nb) (hc:t.c.I) (hk:t.kd=2):
 Calls PP 12 #[ptB nb,.i sr,.agg (rdA f)] w fun e w'=>e= .returned (.tuple #[.agg #[.i (zds p.s t r).x,.i (zds p.s t r).y,.i (zds p.s t r).z],.i (axN t.kd),.i 0])/\zcO w' nb mb l ⟨p.s.k (zjf p.s t r),p.ts⟩/\Chg nb w w':=by
 go_enter Proofs.Tryz.func12,Proofs.Tryz.ntmps12
 rw [show zds p.s t r=⟨zh (zh (r.ht-p.s.p2)-t.c.x),0,0⟩ by unfold zds;rw [if_pos hk];rfl,show zjf p.s t r=(zb5 r.ht p.s.p2 t.c.x) by unfold zjf;rw [if_pos hk]]
 have hb3:∀A B C,Below w.heap.size w (((w.alloc A).alloc B).alloc C):=fun A B C=>(((Below.refl _ w).alloc (Nat.le_refl _) A).alloc jq B).alloc (by first|(simp;done)|(simp;omega)) C
 have hRb:∀W,Below w.heap.size w W->zcO W nb mb l p:=fun W hW=>hR.chg hm (hR.nav.below hW) (Chg.of hW)
 have hxx:∀B C,(((w.alloc (.cells (rdA f) 50)).alloc B).alloc C).cell? (.q w.heap.size 0)=some (.i r.kd):=fun B C=>(za (((heap_alloc_old _ _ (by first|(simp;done)|(simp;omega))).trans (heap_alloc_old _ _ jq)).trans (heap_alloc_new w _))).trans ((za6 f 0 zc).trans (congrArg some hd.d.d0))
 have hf:=fun W (hW:Below w.heap.size w W) hx=>zkI nb mb l p W (hRb W hW) sr w.heap.size r.kd hx
 have hold:∀W:World,Below (((w.alloc (.cells (rdA f) 50)).alloc (.cells z3z 24)).alloc (.cells z3z 24)).heap.size (((w.alloc (.cells (rdA f) 50)).alloc (.cells z3z 24)).alloc (.cells z3z 24)) W->
  W.heap[w.heap.size+1]? =some (.cells z3z 24 (0,0))/\W.heap[w.heap.size+1+1]? =some (.cells z3z 24 (0,0)):=fun W hW=>
  ⟨(hW.block _ (by first|(simp;done)|(simp;omega))).trans ((heap_alloc_old _ _ jq).trans (heap_alloc2_new w _ _)),(hW.block _ (by first|(simp;done)|(simp;omega))).trans (by simpa using heap_alloc_new ((w.alloc (.cells (rdA f) 50)).alloc (.cells z3z 24)) _)⟩
 rw [hfr]at hf;simp only [ptV]at hf;have hax:axN t.kd=axN 2:=by rw [hk]
 rw [hax]
 go_wp2_with(first
  |(go_at_call 35
    refine(hf _ (hb3 _ _ _) (hxx _ _)).mono ?_;rintro e w4 ⟨rfl,hB4⟩;obtain⟨h6,h9⟩:=hold w4 hB4;have hn4:Below w.heap.size w w4:=(hb3 (.cells (rdA f) 50) (.cells z3z 24) (.cells z3z 24)).trans (hB4.mono (hb3 _ _ _).size);have hb4:w4.heap[b]? =some (.cells (zcC t) 85 (0,0)):=(hn4.block b (zy hb)).trans hb;have hx4:w4.heap[w.heap.size]? =some (.cells (rdA f) 50 (0,0)):=(hB4.block _ (by simp;omega)).trans (((heap_alloc_old _ _ (by simp;omega)).trans (heap_alloc_old _ _ jq)).trans (heap_alloc_new w _));have d0:w4.cell? (.q b 7)=some (.i t.c.x):=za hb4;have d1:w4.cell? (.q b 8)=some (.i t.c.y):=za hb4;have d2:w4.cell? (.q b 9)=some (.i t.c.z):=za hb4
    have hA5:Below w4.heap.size w4 (w4.alloc (.cells (v3z t.c) 24)):=(Below.refl _ w4).alloc (Nat.le_refl _) _;have hb5:(w4.alloc (.cells (v3z t.c) 24)).heap[b]? =some (.cells (zcC t) 85 (0,0)):=(hA5.block _ (zy hb4)).trans hb4
    have dk:(w4.alloc (.cells (v3z t.c) 24)).cell? (.q b 1)=some (.i 2):=hk▸za hb5))
 have h12:(w4.alloc (.cells (v3z t.c) 24)).heap[w4.heap.size]? =some (.cells (v3z t.c) 24 (0,0)):=heap_alloc_new w4 _;replace h6:(w4.alloc (.cells (v3z t.c) 24)).heap[w.heap.size+1]? =_:=(hA5.block _ (zy h6)).trans h6;replace h9:(w4.alloc (.cells (v3z t.c) 24)).heap[w.heap.size+1+1]? =_:=(hA5.block _ (zy h9)).trans h9;replace hx4:(w4.alloc (.cells (v3z t.c) 24)).heap[w.heap.size]? =_:=(hA5.block _ (zy hx4)).trans hx4;have hn5:Below w.heap.size w (w4.alloc (.cells (v3z t.c) 24)):=hn4.alloc hn4.size _;have hR5:=hRb _ hn5;have hnlt:nb<w.heap.size:=hR.nav.lt;have hblt:b<w.heap.size:=(zy hb);have h4s:w.heap.size+1+1<w4.heap.size:=by have:=hB4.size;simp at this;omega
 clear d0 d1 d2 hb4 hB4 hA5 hf hold hxx hb3 hfr hn4 dk;generalize w4.alloc (.cells (v3z t.c) 24)=w5 at*
 generalize w4.heap.size=x12 at*
 obtain⟨x0,hx0⟩:∃x,x=w.heap.size:=⟨_,rfl⟩;rw [<-hx0]at h6 h9 hx4 hnlt hblt h4s⊢;have hx0s:w.heap.size<=x0:=zc;clear hx0;have hS:∀(W:World) (q:Bool),jc W nb mb (p.s.k q)->W.heap[x0]? =some (.cells (rdA f) 50 (0,0))->W.heap[x12]? =some (.cells (v3z t.c) 24 (0,0))->W.cell? (.q nb 8)=some (.i p.s.p2)/\W.cell? (.q x0 7)=some (.i r.ht)/\W.cell? (.q x12 0)=some (.i t.c.x):=fun W q hn hx hc=>⟨za hn,(za hx).trans ((za6 f 7 zc).trans (congrArg some hd.ht)),za hc⟩
 have hT:∀(W:World) (k:Nat) (u:Value),(W.cell? (.q nb 8)=some (.i p.s.p2)/\W.cell? (.q x0 7)=some (.i r.ht)/\W.cell? (.q x12 0)=some (.i t.c.x))->(W.setCell (.q (x0+1+1) k) u).cell? (.q nb 8)=some (.i p.s.p2)/\(W.setCell (.q (x0+1+1) k) u).cell? (.q x0 7)=some (.i r.ht)/\(W.setCell (.q (x0+1+1) k) u).cell? (.q x12 0)=some (.i t.c.x):=fun W k u h=>⟨ya h.1 zc,ya h.2.1 zc,ya h.2.2 zc⟩
 have hN5:jc w5 nb mb (p.s.k false):=by simpa [NS.k]using hR5.nav
 have hd5:Chg nb w5 w5.drew:=Chg.of ⟨rfl,rfl,rfl,Nat.le_refl _,fun _ _=>rfl⟩;have hNd:jc w5.drew nb mb (p.s.k false):=hN5;have hxd:w5.drew.heap[x0]? =some (.cells (rdA f) 50 (0,0)):=hx4;have h12d:w5.drew.heap[x12]? =some (.cells (v3z t.c) 24 (0,0)):=h12;have hfr5:∀W,Chg nb w5 W->W.heap[x0]? =some (.cells (rdA f) 50 (0,0))/\W.heap[x12]? =some (.cells (v3z t.c) 24 (0,0))/\W.heap[x0+1]? =some (.cells z3z 24 (0,0))/\W.heap[x0+1+1]? =some (.cells z3z 24 (0,0))/\W.heap[b]? =some (.cells (zcC t) 85 (0,0)):=fun W h=>⟨(h.block _ (zy hx4) zc).trans hx4,(h.block _ (zy h12) zc).trans h12,(h.block _ (zy h6) zc).trans h6,(h.block _ (zy h9) zc).trans h9,(h.block _ (zy hb5) hbn).trans hb5⟩
 have ia:zr r.ht:=hr.ht;have ib:zr p.s.p2:=hs.p2;have ic:zr t.c.x:=hc.x;go_region_held3(fun w'=>w'.cell? (.q nb 8)=some (.i p.s.p2)/\w'.cell? (.q x0 7)=some (.i r.ht)/\w'.cell? (.q x12 0)=some (.i t.c.x))
  (first|(with_reducible exact hS _ false hNd hxd h12d)|(with_reducible exact hS _ _ hNb (hfr5 _ hC2).1 (hfr5 _ hC2).2.1)|(with_reducible exact hS _ _ hNa (hfr5 _ hC1).1 (hfr5 _ hC1).2.1)|(with_reducible exact hT _ _ _ (hS _ _ hNb (hfr5 _ hC2).1 (hfr5 _ hC2).2.1)))
  (first
    |(go_at_call 37
      refine(zeN nb mb _ (jk (r.ht-p.s.p2)) ic _ hNa).mono ?_;rintro e wb ⟨rfl,hNb,hCb⟩;rw [NS.k_k]at hNb;have hC2:=hC1.trans hCb;have z9:wb.cell? (.q (x0+1+1) 0)=some (.i 0):=za (hfr5 _ hC2).2.2.2.1
      have y9:wb.frozen? (.q (x0+1+1) 0)=false:=zE (hfr5 _ hC2).2.2.2.1 jq)
    |(go_at_call 37
      refine(zeN nb mb (p.s.k false) ia ib _ hNd).mono ?_;rintro e wa ⟨rfl,hNa,hCa⟩;rw [NS.k_k]at hNa
      have hC1:=hd5.trans hCa))
 have h9t:(wb.setCell (.q (x0+1+1) 0) (.i (zh (zh (r.ht-p.s.p2)-t.c.x)))).heap[x0+1+1]? =some (.cells #[.i (zh (zh (r.ht-p.s.p2)-t.c.x)),.i (0),.i (0)] 24 (0,0)):=by simpa using zf (o:=0) (v:=.i (zh (zh (r.ht-p.s.p2)-t.c.x))) (hfr5 _ hC2).2.2.2.1
 have h6t:(wb.setCell (.q (x0+1+1) 0) (.i (zh (zh (r.ht-p.s.p2)-t.c.x)))).heap[x0+1]? =some (.cells z3z 24 (0,0)):=zt (hfr5 _ hC2).2.2.1 zc;have hbt:(wb.setCell (.q (x0+1+1) 0) (.i (zh (zh (r.ht-p.s.p2)-t.c.x)))).heap[b]? =some (.cells (zcC t) 85 (0,0)):=zt (hfr5 _ hC2).2.2.2.2 zc;have hNt:jc (wb.setCell (.q (x0+1+1) 0) (.i (zh (zh (r.ht-p.s.p2)-t.c.x)))) nb mb (p.s.k (zb5 r.ht p.s.p2 t.c.x)):=(by simpa [zb5]using hNb:jc wb nb mb (p.s.k (zb5 r.ht p.s.p2 t.c.x))).setNe zc;have hCt:Chg nb w (wb.setCell (.q (x0+1+1) 0) (.i (zh (zh (r.ht-p.s.p2)-t.c.x)))):=((Chg.of hn5).trans hC2).setNew zc;generalize(wb.setCell (.q (x0+1+1) 0) (.i (zh (zh (r.ht-p.s.p2)-t.c.x))))=W at*
 clear hS hT;have dk:W.drew.cell? (.q b 1)=some (.i 2):=hk▸za hbt;have s0:W.drew.cell? (.q (x0+1+1) 0)=some (.i (zh (zh (r.ht-p.s.p2)-t.c.x))):=za h9t;have s1:W.drew.cell? (.q (x0+1+1) 1)=some (.i (0)):=za h9t;have s2:W.drew.cell? (.q (x0+1+1) 2)=some (.i (0)):=za h9t;have q0:W.cell? (.q (x0+1) 0)=some (.i 0):=za h6t;have f0:W.frozen? (.q (x0+1) 0)=false:=zE h6t jq;have q1:W.cell? (.q (x0+1) 1)=some (.i 0):=za h6t;have f1:W.frozen? (.q (x0+1) 1)=false:=zE h6t jq;have q2:W.cell? (.q (x0+1) 2)=some (.i 0):=za h6t;have f2:W.frozen? (.q (x0+1) 2)=false:=zE h6t jq;have hU:∀(W:World) (k:Nat) (u:Value),(W.cell? (.q b 1)=some (.i 2)/\W.cell? (.q (x0+1+1) 0)=some (.i (zh (zh (r.ht-p.s.p2)-t.c.x)))/\W.cell? (.q (x0+1+1) 1)=some (.i (0))/\W.cell? (.q (x0+1+1) 2)=some (.i (0)))->(W.setCell (.q (x0+1) k) u).cell? (.q b 1)=some (.i 2)/\(W.setCell (.q (x0+1) k) u).cell? (.q (x0+1+1) 0)=some (.i (zh (zh (r.ht-p.s.p2)-t.c.x)))/\(W.setCell (.q (x0+1) k) u).cell? (.q (x0+1+1) 1)=some (.i (0))/\(W.setCell (.q (x0+1) k) u).cell? (.q (x0+1+1) 2)=some (.i (0)):=fun W k u h=>⟨ya h.1 zc,ya h.2.1 zc,ya h.2.2.1 zc,ya h.2.2.2 zc⟩
 have hUd:(((W.setCell (.q (x0+1) 0) (.i (zh (zh (r.ht-p.s.p2)-t.c.x)))).setCell (.q (x0+1) 1) (.i (0))).setCell (.q (x0+1) 2) (.i (0))).drew.cell? (.q b 1)=some (.i 2)/\(((W.setCell (.q (x0+1) 0) (.i (zh (zh (r.ht-p.s.p2)-t.c.x)))).setCell (.q (x0+1) 1) (.i (0))).setCell (.q (x0+1) 2) (.i (0))).drew.cell? (.q (x0+1+1) 0)=some (.i (zh (zh (r.ht-p.s.p2)-t.c.x)))/\(((W.setCell (.q (x0+1) 0) (.i (zh (zh (r.ht-p.s.p2)-t.c.x)))).setCell (.q (x0+1) 1) (.i (0))).setCell (.q (x0+1) 2) (.i (0))).drew.cell? (.q (x0+1+1) 1)=some (.i (0))/\(((W.setCell (.q (x0+1) 0) (.i (zh (zh (r.ht-p.s.p2)-t.c.x)))).setCell (.q (x0+1) 1) (.i (0))).setCell (.q (x0+1) 2) (.i (0))).drew.cell? (.q (x0+1+1) 2)=some (.i (0)):=hU _ _ _ (hU _ _ _ (hU _ _ _ ⟨dk,s0,s1,s2⟩))
 have haxx:=zni 2;go_wp2;go_region_held3(fun w'=>w'.cell? (.q b 1)=some (.i 2)/\w'.cell? (.q (x0+1+1) 0)=some (.i (zh (zh (r.ht-p.s.p2)-t.c.x)))/\w'.cell? (.q (x0+1+1) 1)=some (.i (0))/\w'.cell? (.q (x0+1+1) 2)=some (.i (0)))
  (first|(with_reducible exact⟨dk,s0,s1,s2⟩)|(with_reducible exact hUd))
  (first|(go_at_call 42;refine(haxx _).mono ?_;clear haxx;rintro e w' ⟨rfl,hw⟩;obtain rfl:=hw.symm))
 go_wp2;have h6u:=zbi (x0:=.i (zh (zh (r.ht-p.s.p2)-t.c.x))) (x1:=.i (0)) (x2:=.i (0)) h6t;refine bodyPost_ret (zfI rfl _ _ (x0+1) 24 #[.i (zh (zh (r.ht-p.s.p2)-t.c.x)),.i (0),.i (0)] (0,0) rfl h6u (zaZ kfz) kfz) rfl ?_;have hCf:=((hCt.setNew (x:=x0+1) (k:=0) (u:=.i (zh (zh (r.ht-p.s.p2)-t.c.x))) zc).setNew (x:=x0+1) (k:=1) (u:=.i (0)) zc).setNew (x:=x0+1) (k:=2) (u:=.i (0)) zc;have hNf:jc (((W.setCell (.q (x0+1) 0) (.i (zh (zh (r.ht-p.s.p2)-t.c.x)))).setCell (.q (x0+1) 1) (.i (0))).setCell (.q (x0+1) 2) (.i (0))).drew nb mb _:=((hNt.setNe zc).setNe zc).setNe zc;exact⟨rfl,hR.chg hm hNf (Chg.drew hCf),Chg.drew hCf⟩
theorem zWT(nb mb:Nat)(l:List (Int×Nat))(p:PS)(hm:mb≠nb)(hs:p.s.ok)(sr:Int)(r:Rd)(hr:r.ok)(f:Nat->Value)(hd:Rd2 f r)(w:World)(hR:zcO w nb mb l p)
 (b:Nat) (t:TK) (hfr:zle l p sr (fun t=>decide (t.kd=r.kd))=(some b,0)) (hb:w.heap[b]? =some (.cells (zcC t) 85 (0,0))) (hbn:b≠nb) (hc:t.c.I) (hk:t.kd=3):
 Calls PP 12 #[ptB nb,.i sr,.agg (rdA f)] w fun e w'=>e= .returned (.tuple #[.agg #[.i (zds p.s t r).x,.i (zds p.s t r).y,.i (zds p.s t r).z],.i (axN t.kd),.i 0])/\zcO w' nb mb l ⟨p.s.k (zjf p.s t r),p.ts⟩/\Chg nb w w':=by
 go_enter Proofs.Tryz.func12,Proofs.Tryz.ntmps12
 rw [show zds p.s t r=⟨zee (hdV p.s t.c.x) r.hd,0,0⟩ by unfold zds;rw [if_neg zc,if_pos hk],show zjf p.s t r=(false) by unfold zjf;rw [if_neg zc,if_pos hk]]
 have hb3:∀A B C,Below w.heap.size w (((w.alloc A).alloc B).alloc C):=fun A B C=>(((Below.refl _ w).alloc (Nat.le_refl _) A).alloc jq B).alloc (by first|(simp;done)|(simp;omega)) C
 have hRb:∀W,Below w.heap.size w W->zcO W nb mb l p:=fun W hW=>hR.chg hm (hR.nav.below hW) (Chg.of hW)
 have hxx:∀B C,(((w.alloc (.cells (rdA f) 50)).alloc B).alloc C).cell? (.q w.heap.size 0)=some (.i r.kd):=fun B C=>(za (((heap_alloc_old _ _ (by first|(simp;done)|(simp;omega))).trans (heap_alloc_old _ _ jq)).trans (heap_alloc_new w _))).trans ((za6 f 0 zc).trans (congrArg some hd.d.d0))
 have hf:=fun W (hW:Below w.heap.size w W) hx=>zkI nb mb l p W (hRb W hW) sr w.heap.size r.kd hx
 have hold:∀W:World,Below (((w.alloc (.cells (rdA f) 50)).alloc (.cells z3z 24)).alloc (.cells z3z 24)).heap.size (((w.alloc (.cells (rdA f) 50)).alloc (.cells z3z 24)).alloc (.cells z3z 24)) W->
  W.heap[w.heap.size+1]? =some (.cells z3z 24 (0,0))/\W.heap[w.heap.size+1+1]? =some (.cells z3z 24 (0,0)):=fun W hW=>
  ⟨(hW.block _ (by first|(simp;done)|(simp;omega))).trans ((heap_alloc_old _ _ jq).trans (heap_alloc2_new w _ _)),(hW.block _ (by first|(simp;done)|(simp;omega))).trans (by simpa using heap_alloc_new ((w.alloc (.cells (rdA f) 50)).alloc (.cells z3z 24)) _)⟩
 rw [hfr]at hf;simp only [ptV]at hf;have hax:axN t.kd=axN 3:=by rw [hk]
 rw [hax]
 go_wp2_with(first
  |(go_at_call 35
    refine(hf _ (hb3 _ _ _) (hxx _ _)).mono ?_;rintro e w4 ⟨rfl,hB4⟩;obtain⟨h6,h9⟩:=hold w4 hB4;have hn4:Below w.heap.size w w4:=(hb3 (.cells (rdA f) 50) (.cells z3z 24) (.cells z3z 24)).trans (hB4.mono (hb3 _ _ _).size);have hb4:w4.heap[b]? =some (.cells (zcC t) 85 (0,0)):=(hn4.block b (zy hb)).trans hb;have hx4:w4.heap[w.heap.size]? =some (.cells (rdA f) 50 (0,0)):=(hB4.block _ (by simp;omega)).trans (((heap_alloc_old _ _ (by simp;omega)).trans (heap_alloc_old _ _ jq)).trans (heap_alloc_new w _));have d0:w4.cell? (.q b 7)=some (.i t.c.x):=za hb4;have d1:w4.cell? (.q b 8)=some (.i t.c.y):=za hb4;have d2:w4.cell? (.q b 9)=some (.i t.c.z):=za hb4
    have hA5:Below w4.heap.size w4 (w4.alloc (.cells (v3z t.c) 24)):=(Below.refl _ w4).alloc (Nat.le_refl _) _;have hb5:(w4.alloc (.cells (v3z t.c) 24)).heap[b]? =some (.cells (zcC t) 85 (0,0)):=(hA5.block _ (zy hb4)).trans hb4
    have dk:(w4.alloc (.cells (v3z t.c) 24)).cell? (.q b 1)=some (.i 3):=hk▸za hb5))
 have h12:(w4.alloc (.cells (v3z t.c) 24)).heap[w4.heap.size]? =some (.cells (v3z t.c) 24 (0,0)):=heap_alloc_new w4 _;replace h6:(w4.alloc (.cells (v3z t.c) 24)).heap[w.heap.size+1]? =_:=(hA5.block _ (zy h6)).trans h6;replace h9:(w4.alloc (.cells (v3z t.c) 24)).heap[w.heap.size+1+1]? =_:=(hA5.block _ (zy h9)).trans h9;replace hx4:(w4.alloc (.cells (v3z t.c) 24)).heap[w.heap.size]? =_:=(hA5.block _ (zy hx4)).trans hx4;have hn5:Below w.heap.size w (w4.alloc (.cells (v3z t.c) 24)):=hn4.alloc hn4.size _;have hR5:=hRb _ hn5;have hnlt:nb<w.heap.size:=hR.nav.lt;have hblt:b<w.heap.size:=(zy hb);have h4s:w.heap.size+1+1<w4.heap.size:=by have:=hB4.size;simp at this;omega
 clear d0 d1 d2 hb4 hB4 hA5 hf hold hxx hb3 hfr hn4 dk;generalize w4.alloc (.cells (v3z t.c) 24)=w5 at*
 generalize w4.heap.size=x12 at*
 obtain⟨x0,hx0⟩:∃x,x=w.heap.size:=⟨_,rfl⟩;rw [<-hx0]at h6 h9 hx4 hnlt hblt h4s⊢;have hx0s:w.heap.size<=x0:=zc;clear hx0;have hS:∀(W:World) (q:Bool),jc W nb mb (p.s.k q)->W.heap[x0]? =some (.cells (rdA f) 50 (0,0))->W.heap[x12]? =some (.cells (v3z t.c) 24 (0,0))->W.cell? (.q nb 10)=some (.i p.s.a.m.a0)/\W.cell? (.q nb 11)=some (.i p.s.a.m.a1)/\W.cell? (.q nb 12)=some (.i p.s.a.m.a2)/\W.cell? (.q nb 13)=some (.i p.s.a.m.a3)/\W.cell? (.q nb 14)=some (.i p.s.a.m.a4)/\W.cell? (.q nb 15)=some (.i p.s.a.m.a5)/\W.cell? (.q nb 16)=some (.i p.s.a.m.a6)/\W.cell? (.q nb 17)=some (.i p.s.a.m.a7)/\W.cell? (.q nb 18)=some (.i p.s.a.m.a8)/\W.cell? (.q nb 19)=some (.i p.s.a.n)/\W.cell? (.q x0 8)=some (.int .u32 r.hd)/\W.cell? (.q x12 0)=some (.i t.c.x):=fun W q hn hx hc=>⟨za hn,za hn,za hn,za hn,za hn,za hn,za hn,za hn,za hn,za hn,(za hx).trans ((za6 f 8 zc).trans (congrArg some hd.hd)),za hc⟩
 have hT:∀(W:World) (k:Nat) (u:Value),(W.cell? (.q nb 10)=some (.i p.s.a.m.a0)/\W.cell? (.q nb 11)=some (.i p.s.a.m.a1)/\W.cell? (.q nb 12)=some (.i p.s.a.m.a2)/\W.cell? (.q nb 13)=some (.i p.s.a.m.a3)/\W.cell? (.q nb 14)=some (.i p.s.a.m.a4)/\W.cell? (.q nb 15)=some (.i p.s.a.m.a5)/\W.cell? (.q nb 16)=some (.i p.s.a.m.a6)/\W.cell? (.q nb 17)=some (.i p.s.a.m.a7)/\W.cell? (.q nb 18)=some (.i p.s.a.m.a8)/\W.cell? (.q nb 19)=some (.i p.s.a.n)/\W.cell? (.q x0 8)=some (.int .u32 r.hd)/\W.cell? (.q x12 0)=some (.i t.c.x))->(W.setCell (.q (x0+1+1) k) u).cell? (.q nb 10)=some (.i p.s.a.m.a0)/\(W.setCell (.q (x0+1+1) k) u).cell? (.q nb 11)=some (.i p.s.a.m.a1)/\(W.setCell (.q (x0+1+1) k) u).cell? (.q nb 12)=some (.i p.s.a.m.a2)/\(W.setCell (.q (x0+1+1) k) u).cell? (.q nb 13)=some (.i p.s.a.m.a3)/\(W.setCell (.q (x0+1+1) k) u).cell? (.q nb 14)=some (.i p.s.a.m.a4)/\(W.setCell (.q (x0+1+1) k) u).cell? (.q nb 15)=some (.i p.s.a.m.a5)/\(W.setCell (.q (x0+1+1) k) u).cell? (.q nb 16)=some (.i p.s.a.m.a6)/\(W.setCell (.q (x0+1+1) k) u).cell? (.q nb 17)=some (.i p.s.a.m.a7)/\(W.setCell (.q (x0+1+1) k) u).cell? (.q nb 18)=some (.i p.s.a.m.a8)/\(W.setCell (.q (x0+1+1) k) u).cell? (.q nb 19)=some (.i p.s.a.n)/\(W.setCell (.q (x0+1+1) k) u).cell? (.q x0 8)=some (.int .u32 r.hd)/\(W.setCell (.q (x0+1+1) k) u).cell? (.q x12 0)=some (.i t.c.x):=fun W k u h=>⟨ya h.1 zc,ya h.2.1 zc,ya h.2.2.1 zc,ya h.2.2.2.1 zc,ya h.2.2.2.2.1 zc,ya h.2.2.2.2.2.1 zc,ya h.2.2.2.2.2.2.1 zc,ya h.2.2.2.2.2.2.2.1 zc,ya h.2.2.2.2.2.2.2.2.1 zc,ya h.2.2.2.2.2.2.2.2.2.1 zc,ya h.2.2.2.2.2.2.2.2.2.2.1 zc,ya h.2.2.2.2.2.2.2.2.2.2.2 zc⟩
 have hN5:jc w5 nb mb (p.s.k false):=by simpa [NS.k]using hR5.nav
 have hd5:Chg nb w5 w5.drew:=Chg.of ⟨rfl,rfl,rfl,Nat.le_refl _,fun _ _=>rfl⟩;have hNd:jc w5.drew nb mb (p.s.k false):=hN5;have hxd:w5.drew.heap[x0]? =some (.cells (rdA f) 50 (0,0)):=hx4;have h12d:w5.drew.heap[x12]? =some (.cells (v3z t.c) 24 (0,0)):=h12;have hfr5:∀W,Chg nb w5 W->W.heap[x0]? =some (.cells (rdA f) 50 (0,0))/\W.heap[x12]? =some (.cells (v3z t.c) 24 (0,0))/\W.heap[x0+1]? =some (.cells z3z 24 (0,0))/\W.heap[x0+1+1]? =some (.cells z3z 24 (0,0))/\W.heap[b]? =some (.cells (zcC t) 85 (0,0)):=fun W h=>⟨(h.block _ (zy hx4) zc).trans hx4,(h.block _ (zy h12) zc).trans h12,(h.block _ (zy h6) zc).trans h6,(h.block _ (zy h9) zc).trans h9,(h.block _ (zy hb5) hbn).trans hb5⟩
 have hw1:wrap .u32 (zcQ p.s.a.m.a3 p.s.a.m.a0+wrap .u32 t.c.x)=hdV p.s t.c.x:=by unfold hdV;simp [wrap,IntKind.signed,IntKind.bits]
 have hw2:wrap .i64 (zee (hdV p.s t.c.x) r.hd)=zee (hdV p.s t.c.x) r.hd:=zH (zVR _ _);have hh:=fun w=>zph hs.m (a:=p.s.a) w
 have hwy:=fun w=>zRd (hdV p.s t.c.x) r.hd w
 go_region_held3(fun w'=>w'.cell? (.q nb 10)=some (.i p.s.a.m.a0)/\w'.cell? (.q nb 11)=some (.i p.s.a.m.a1)/\w'.cell? (.q nb 12)=some (.i p.s.a.m.a2)/\w'.cell? (.q nb 13)=some (.i p.s.a.m.a3)/\w'.cell? (.q nb 14)=some (.i p.s.a.m.a4)/\w'.cell? (.q nb 15)=some (.i p.s.a.m.a5)/\w'.cell? (.q nb 16)=some (.i p.s.a.m.a6)/\w'.cell? (.q nb 17)=some (.i p.s.a.m.a7)/\w'.cell? (.q nb 18)=some (.i p.s.a.m.a8)/\w'.cell? (.q nb 19)=some (.i p.s.a.n)/\w'.cell? (.q x0 8)=some (.int .u32 r.hd)/\w'.cell? (.q x12 0)=some (.i t.c.x))
  (first|(with_reducible exact hS _ false hNd hxd h12d)|(with_reducible exact hS _ _ hNb (hfr5 _ hC2).1 (hfr5 _ hC2).2.1)|(with_reducible exact hS _ _ hNa (hfr5 _ hC1).1 (hfr5 _ hC1).2.1)|(with_reducible exact hT _ _ _ (hS _ _ hNb (hfr5 _ hC2).1 (hfr5 _ hC2).2.1)))
  (first
    |(go_at_call 38
      refine(hwy _).mono ?_;rintro e wb ⟨rfl,hBb⟩;have hNb:=hNa.below hBb;have hC2:=hC1.trans (Chg.of hBb);have z9:wb.cell? (.q (x0+1+1) 0)=some (.i 0):=za (hfr5 _ hC2).2.2.2.1
      have y9:wb.frozen? (.q (x0+1+1) 0)=false:=zE (hfr5 _ hC2).2.2.2.1 jq)
    |(go_at_call 39
      refine(hh _).mono ?_;rintro e wa ⟨rfl,hBa⟩;have hNa:=hNd.below hBa
      have hC1:=hd5.trans (Chg.of hBa)))
 have h9t:(wb.setCell (.q (x0+1+1) 0) (.i (zee (hdV p.s t.c.x) r.hd))).heap[x0+1+1]? =some (.cells #[.i (zee (hdV p.s t.c.x) r.hd),.i (0),.i (0)] 24 (0,0)):=by simpa using zf (o:=0) (v:=.i (zee (hdV p.s t.c.x) r.hd)) (hfr5 _ hC2).2.2.2.1
 have h6t:(wb.setCell (.q (x0+1+1) 0) (.i (zee (hdV p.s t.c.x) r.hd))).heap[x0+1]? =some (.cells z3z 24 (0,0)):=zt (hfr5 _ hC2).2.2.1 zc;have hbt:(wb.setCell (.q (x0+1+1) 0) (.i (zee (hdV p.s t.c.x) r.hd))).heap[b]? =some (.cells (zcC t) 85 (0,0)):=zt (hfr5 _ hC2).2.2.2.2 zc;have hNt:jc (wb.setCell (.q (x0+1+1) 0) (.i (zee (hdV p.s t.c.x) r.hd))) nb mb (p.s.k (false)):=hNb.setNe zc;have hCt:Chg nb w (wb.setCell (.q (x0+1+1) 0) (.i (zee (hdV p.s t.c.x) r.hd))):=((Chg.of hn5).trans hC2).setNew zc;generalize(wb.setCell (.q (x0+1+1) 0) (.i (zee (hdV p.s t.c.x) r.hd)))=W at*
 clear hS hT;have dk:W.drew.cell? (.q b 1)=some (.i 3):=hk▸za hbt;have s0:W.drew.cell? (.q (x0+1+1) 0)=some (.i (zee (hdV p.s t.c.x) r.hd)):=za h9t;have s1:W.drew.cell? (.q (x0+1+1) 1)=some (.i (0)):=za h9t;have s2:W.drew.cell? (.q (x0+1+1) 2)=some (.i (0)):=za h9t;have q0:W.cell? (.q (x0+1) 0)=some (.i 0):=za h6t;have f0:W.frozen? (.q (x0+1) 0)=false:=zE h6t jq;have q1:W.cell? (.q (x0+1) 1)=some (.i 0):=za h6t;have f1:W.frozen? (.q (x0+1) 1)=false:=zE h6t jq;have q2:W.cell? (.q (x0+1) 2)=some (.i 0):=za h6t;have f2:W.frozen? (.q (x0+1) 2)=false:=zE h6t jq;have hU:∀(W:World) (k:Nat) (u:Value),(W.cell? (.q b 1)=some (.i 3)/\W.cell? (.q (x0+1+1) 0)=some (.i (zee (hdV p.s t.c.x) r.hd))/\W.cell? (.q (x0+1+1) 1)=some (.i (0))/\W.cell? (.q (x0+1+1) 2)=some (.i (0)))->(W.setCell (.q (x0+1) k) u).cell? (.q b 1)=some (.i 3)/\(W.setCell (.q (x0+1) k) u).cell? (.q (x0+1+1) 0)=some (.i (zee (hdV p.s t.c.x) r.hd))/\(W.setCell (.q (x0+1) k) u).cell? (.q (x0+1+1) 1)=some (.i (0))/\(W.setCell (.q (x0+1) k) u).cell? (.q (x0+1+1) 2)=some (.i (0)):=fun W k u h=>⟨ya h.1 zc,ya h.2.1 zc,ya h.2.2.1 zc,ya h.2.2.2 zc⟩
 have hUd:(((W.setCell (.q (x0+1) 0) (.i (zee (hdV p.s t.c.x) r.hd))).setCell (.q (x0+1) 1) (.i (0))).setCell (.q (x0+1) 2) (.i (0))).drew.cell? (.q b 1)=some (.i 3)/\(((W.setCell (.q (x0+1) 0) (.i (zee (hdV p.s t.c.x) r.hd))).setCell (.q (x0+1) 1) (.i (0))).setCell (.q (x0+1) 2) (.i (0))).drew.cell? (.q (x0+1+1) 0)=some (.i (zee (hdV p.s t.c.x) r.hd))/\(((W.setCell (.q (x0+1) 0) (.i (zee (hdV p.s t.c.x) r.hd))).setCell (.q (x0+1) 1) (.i (0))).setCell (.q (x0+1) 2) (.i (0))).drew.cell? (.q (x0+1+1) 1)=some (.i (0))/\(((W.setCell (.q (x0+1) 0) (.i (zee (hdV p.s t.c.x) r.hd))).setCell (.q (x0+1) 1) (.i (0))).setCell (.q (x0+1) 2) (.i (0))).drew.cell? (.q (x0+1+1) 2)=some (.i (0)):=hU _ _ _ (hU _ _ _ (hU _ _ _ ⟨dk,s0,s1,s2⟩))
 have haxx:=zni 3;go_wp2;go_region_held3(fun w'=>w'.cell? (.q b 1)=some (.i 3)/\w'.cell? (.q (x0+1+1) 0)=some (.i (zee (hdV p.s t.c.x) r.hd))/\w'.cell? (.q (x0+1+1) 1)=some (.i (0))/\w'.cell? (.q (x0+1+1) 2)=some (.i (0)))
  (first|(with_reducible exact⟨dk,s0,s1,s2⟩)|(with_reducible exact hUd))
  (first|(go_at_call 42;refine(haxx _).mono ?_;clear haxx;rintro e w' ⟨rfl,hw⟩;obtain rfl:=hw.symm))
 go_wp2;have h6u:=zbi (x0:=.i (zee (hdV p.s t.c.x) r.hd)) (x1:=.i (0)) (x2:=.i (0)) h6t;refine bodyPost_ret (zfI rfl _ _ (x0+1) 24 #[.i (zee (hdV p.s t.c.x) r.hd),.i (0),.i (0)] (0,0) rfl h6u (zaZ kfz) kfz) rfl ?_;have hCf:=((hCt.setNew (x:=x0+1) (k:=0) (u:=.i (zee (hdV p.s t.c.x) r.hd)) zc).setNew (x:=x0+1) (k:=1) (u:=.i (0)) zc).setNew (x:=x0+1) (k:=2) (u:=.i (0)) zc;have hNf:jc (((W.setCell (.q (x0+1) 0) (.i (zee (hdV p.s t.c.x) r.hd))).setCell (.q (x0+1) 1) (.i (0))).setCell (.q (x0+1) 2) (.i (0))).drew nb mb _:=((hNt.setNe zc).setNe zc).setNe zc;exact⟨rfl,hR.chg hm hNf (Chg.drew hCf),Chg.drew hCf⟩
theorem zWU(nb mb:Nat)(l:List (Int×Nat))(p:PS)(hm:mb≠nb)(hs:p.s.ok)(sr:Int)(r:Rd)(hr:r.ok)(f:Nat->Value)(hd:Rd2 f r)(w:World)(hR:zcO w nb mb l p)
 (b:Nat) (t:TK) (hfr:zle l p sr (fun t=>decide (t.kd=r.kd))=(some b,0)) (hb:w.heap[b]? =some (.cells (zcC t) 85 (0,0))) (hbn:b≠nb) (hc:t.c.I) (hk:t.kd=4):
 Calls PP 12 #[ptB nb,.i sr,.agg (rdA f)] w fun e w'=>e= .returned (.tuple #[.agg #[.i (zds p.s t r).x,.i (zds p.s t r).y,.i (zds p.s t r).z],.i (axN t.kd),.i 0])/\zcO w' nb mb l ⟨p.s.k (zjf p.s t r),p.ts⟩/\Chg nb w w':=by
 go_enter Proofs.Tryz.func12,Proofs.Tryz.ntmps12
 rw [show zds p.s t r=⟨zh (zh (wid r.sp-zh (spZ p.s))-t.c.x),0,0⟩ by unfold zds;rw [if_neg zc,if_neg zc,if_pos hk];rfl,show zjf p.s t r=(zw (spZ p.s)||zb5 (wid r.sp) (zh (spZ p.s)) t.c.x) by unfold zjf;rw [if_neg zc,if_neg zc,if_pos hk]]
 have hb3:∀A B C,Below w.heap.size w (((w.alloc A).alloc B).alloc C):=fun A B C=>(((Below.refl _ w).alloc (Nat.le_refl _) A).alloc jq B).alloc (by first|(simp;done)|(simp;omega)) C
 have hRb:∀W,Below w.heap.size w W->zcO W nb mb l p:=fun W hW=>hR.chg hm (hR.nav.below hW) (Chg.of hW)
 have hxx:∀B C,(((w.alloc (.cells (rdA f) 50)).alloc B).alloc C).cell? (.q w.heap.size 0)=some (.i r.kd):=fun B C=>(za (((heap_alloc_old _ _ (by first|(simp;done)|(simp;omega))).trans (heap_alloc_old _ _ jq)).trans (heap_alloc_new w _))).trans ((za6 f 0 zc).trans (congrArg some hd.d.d0))
 have hf:=fun W (hW:Below w.heap.size w W) hx=>zkI nb mb l p W (hRb W hW) sr w.heap.size r.kd hx
 have hold:∀W:World,Below (((w.alloc (.cells (rdA f) 50)).alloc (.cells z3z 24)).alloc (.cells z3z 24)).heap.size (((w.alloc (.cells (rdA f) 50)).alloc (.cells z3z 24)).alloc (.cells z3z 24)) W->
  W.heap[w.heap.size+1]? =some (.cells z3z 24 (0,0))/\W.heap[w.heap.size+1+1]? =some (.cells z3z 24 (0,0)):=fun W hW=>
  ⟨(hW.block _ (by first|(simp;done)|(simp;omega))).trans ((heap_alloc_old _ _ jq).trans (heap_alloc2_new w _ _)),(hW.block _ (by first|(simp;done)|(simp;omega))).trans (by simpa using heap_alloc_new ((w.alloc (.cells (rdA f) 50)).alloc (.cells z3z 24)) _)⟩
 rw [hfr]at hf;simp only [ptV]at hf;have hax:axN t.kd=axN 4:=by rw [hk]
 rw [hax]
 go_wp2_with(first
  |(go_at_call 35
    refine(hf _ (hb3 _ _ _) (hxx _ _)).mono ?_;rintro e w4 ⟨rfl,hB4⟩;obtain⟨h6,h9⟩:=hold w4 hB4;have hn4:Below w.heap.size w w4:=(hb3 (.cells (rdA f) 50) (.cells z3z 24) (.cells z3z 24)).trans (hB4.mono (hb3 _ _ _).size);have hb4:w4.heap[b]? =some (.cells (zcC t) 85 (0,0)):=(hn4.block b (zy hb)).trans hb;have hx4:w4.heap[w.heap.size]? =some (.cells (rdA f) 50 (0,0)):=(hB4.block _ (by simp;omega)).trans (((heap_alloc_old _ _ (by simp;omega)).trans (heap_alloc_old _ _ jq)).trans (heap_alloc_new w _));have d0:w4.cell? (.q b 7)=some (.i t.c.x):=za hb4;have d1:w4.cell? (.q b 8)=some (.i t.c.y):=za hb4;have d2:w4.cell? (.q b 9)=some (.i t.c.z):=za hb4
    have hA5:Below w4.heap.size w4 (w4.alloc (.cells (v3z t.c) 24)):=(Below.refl _ w4).alloc (Nat.le_refl _) _;have hb5:(w4.alloc (.cells (v3z t.c) 24)).heap[b]? =some (.cells (zcC t) 85 (0,0)):=(hA5.block _ (zy hb4)).trans hb4
    have dk:(w4.alloc (.cells (v3z t.c) 24)).cell? (.q b 1)=some (.i 4):=hk▸za hb5))
 have h12:(w4.alloc (.cells (v3z t.c) 24)).heap[w4.heap.size]? =some (.cells (v3z t.c) 24 (0,0)):=heap_alloc_new w4 _;replace h6:(w4.alloc (.cells (v3z t.c) 24)).heap[w.heap.size+1]? =_:=(hA5.block _ (zy h6)).trans h6;replace h9:(w4.alloc (.cells (v3z t.c) 24)).heap[w.heap.size+1+1]? =_:=(hA5.block _ (zy h9)).trans h9;replace hx4:(w4.alloc (.cells (v3z t.c) 24)).heap[w.heap.size]? =_:=(hA5.block _ (zy hx4)).trans hx4;have hn5:Below w.heap.size w (w4.alloc (.cells (v3z t.c) 24)):=hn4.alloc hn4.size _;have hR5:=hRb _ hn5;have hnlt:nb<w.heap.size:=hR.nav.lt;have hblt:b<w.heap.size:=(zy hb);have h4s:w.heap.size+1+1<w4.heap.size:=by have:=hB4.size;simp at this;omega
 clear d0 d1 d2 hb4 hB4 hA5 hf hold hxx hb3 hfr hn4 dk;generalize w4.alloc (.cells (v3z t.c) 24)=w5 at*
 generalize w4.heap.size=x12 at*
 obtain⟨x0,hx0⟩:∃x,x=w.heap.size:=⟨_,rfl⟩;rw [<-hx0]at h6 h9 hx4 hnlt hblt h4s⊢;have hx0s:w.heap.size<=x0:=zc;clear hx0;have hS:∀(W:World) (q:Bool),jc W nb mb (p.s.k q)->W.heap[x0]? =some (.cells (rdA f) 50 (0,0))->W.heap[x12]? =some (.cells (v3z t.c) 24 (0,0))->W.cell? (.q x0 9)=some (.int .i32 r.sp)/\W.cell? (.q x12 0)=some (.i t.c.x):=fun W q hn hx hc=>⟨(za hx).trans ((za6 f 9 zc).trans (congrArg some hd.sp)),za hc⟩
 have hT:∀(W:World) (k:Nat) (u:Value),(W.cell? (.q x0 9)=some (.int .i32 r.sp)/\W.cell? (.q x12 0)=some (.i t.c.x))->(W.setCell (.q (x0+1+1) k) u).cell? (.q x0 9)=some (.int .i32 r.sp)/\(W.setCell (.q (x0+1+1) k) u).cell? (.q x12 0)=some (.i t.c.x):=fun W k u h=>⟨ya h.1 zc,ya h.2 zc⟩
 have hN5:jc w5 nb mb (p.s.k false):=by simpa [NS.k]using hR5.nav
 have hd5:Chg nb w5 w5.drew:=Chg.of ⟨rfl,rfl,rfl,Nat.le_refl _,fun _ _=>rfl⟩;have hNd:jc w5.drew nb mb (p.s.k false):=hN5;have hxd:w5.drew.heap[x0]? =some (.cells (rdA f) 50 (0,0)):=hx4;have h12d:w5.drew.heap[x12]? =some (.cells (v3z t.c) 24 (0,0)):=h12;have hfr5:∀W,Chg nb w5 W->W.heap[x0]? =some (.cells (rdA f) 50 (0,0))/\W.heap[x12]? =some (.cells (v3z t.c) 24 (0,0))/\W.heap[x0+1]? =some (.cells z3z 24 (0,0))/\W.heap[x0+1+1]? =some (.cells z3z 24 (0,0))/\W.heap[b]? =some (.cells (zcC t) 85 (0,0)):=fun W h=>⟨(h.block _ (zy hx4) zc).trans hx4,(h.block _ (zy h12) zc).trans h12,(h.block _ (zy h6) zc).trans h6,(h.block _ (zy h9) zc).trans h9,(h.block _ (zy hb5) hbn).trans hb5⟩
 have ic:zr t.c.x:=hc.x;have hwd:=fun w=>zLD hr.sp w
 go_region_held3(fun w'=>w'.cell? (.q x0 9)=some (.int .i32 r.sp)/\w'.cell? (.q x12 0)=some (.i t.c.x))
  (first|(with_reducible exact hS _ false hNd hxd h12d)|(with_reducible exact hS _ _ hNe (hfr5 _ hC4).1 (hfr5 _ hC4).2.1)|(with_reducible exact hS _ _ hNc (hfr5 _ hC3).1 (hfr5 _ hC3).2.1)|(with_reducible exact hS _ _ hNb (hfr5 _ hC2).1 (hfr5 _ hC2).2.1)|(with_reducible exact hS _ _ hNa (hfr5 _ hC1).1 (hfr5 _ hC1).2.1)|(with_reducible exact hT _ _ _ (hS _ _ hNe (hfr5 _ hC4).1 (hfr5 _ hC4).2.1)))
  (first
    |(go_at_call 37
      refine(zeN nb mb _ (jk (wid r.sp-zh (spZ p.s))) ic _ hNc).mono ?_;rintro e we ⟨rfl,hNe,hCe⟩;rw [NS.k_k]at hNe;have hC4:=hC3.trans hCe;have z9:we.cell? (.q (x0+1+1) 0)=some (.i 0):=za (hfr5 _ hC4).2.2.2.1
      have y9:we.frozen? (.q (x0+1+1) 0)=false:=zE (hfr5 _ hC4).2.2.2.1 jq)
    |(go_at_call 37
      refine(zeN nb mb _ (zoh hr.sp) (jk (spZ p.s)) _ hNb).mono ?_;rintro e wc ⟨rfl,hNc,hCc⟩;rw [NS.k_k]at hNc
      have hC3:=hC2.trans hCc)
    |(go_at_call 41
      refine(zs5 nb mb (p.s.k false) (zYt hs) _ hNa).mono ?_;rintro e wb ⟨rfl,hNb,hCb⟩;replace hNb:jc wb nb mb (p.s.k (false||zw (spZ p.s))):=by simpa [NS.k]using hNb
      have hC2:=hC1.trans hCb)
    |(go_at_call 40
      refine(hwd _).mono ?_;rintro e wa ⟨rfl,hBa⟩;have hNa:=hNd.below hBa
      have hC1:=hd5.trans (Chg.of hBa)))
 have h9t:(we.setCell (.q (x0+1+1) 0) (.i (zh (zh (wid r.sp-zh (spZ p.s))-t.c.x)))).heap[x0+1+1]? =some (.cells #[.i (zh (zh (wid r.sp-zh (spZ p.s))-t.c.x)),.i (0),.i (0)] 24 (0,0)):=by simpa using zf (o:=0) (v:=.i (zh (zh (wid r.sp-zh (spZ p.s))-t.c.x))) (hfr5 _ hC4).2.2.2.1
 have h6t:(we.setCell (.q (x0+1+1) 0) (.i (zh (zh (wid r.sp-zh (spZ p.s))-t.c.x)))).heap[x0+1]? =some (.cells z3z 24 (0,0)):=zt (hfr5 _ hC4).2.2.1 zc;have hbt:(we.setCell (.q (x0+1+1) 0) (.i (zh (zh (wid r.sp-zh (spZ p.s))-t.c.x)))).heap[b]? =some (.cells (zcC t) 85 (0,0)):=zt (hfr5 _ hC4).2.2.2.2 zc;have hNt:jc (we.setCell (.q (x0+1+1) 0) (.i (zh (zh (wid r.sp-zh (spZ p.s))-t.c.x)))) nb mb (p.s.k (zw (spZ p.s)||zb5 (wid r.sp) (zh (spZ p.s)) t.c.x)):=(by simpa [zb5,Bool.or_assoc]using hNe:jc we nb mb (p.s.k (zw (spZ p.s)||zb5 (wid r.sp) (zh (spZ p.s)) t.c.x))).setNe zc;have hCt:Chg nb w (we.setCell (.q (x0+1+1) 0) (.i (zh (zh (wid r.sp-zh (spZ p.s))-t.c.x)))):=((Chg.of hn5).trans hC4).setNew zc
 generalize(we.setCell (.q (x0+1+1) 0) (.i (zh (zh (wid r.sp-zh (spZ p.s))-t.c.x))))=W at*
 clear hS hT;have dk:W.drew.cell? (.q b 1)=some (.i 4):=hk▸za hbt;have s0:W.drew.cell? (.q (x0+1+1) 0)=some (.i (zh (zh (wid r.sp-zh (spZ p.s))-t.c.x))):=za h9t;have s1:W.drew.cell? (.q (x0+1+1) 1)=some (.i (0)):=za h9t;have s2:W.drew.cell? (.q (x0+1+1) 2)=some (.i (0)):=za h9t;have q0:W.cell? (.q (x0+1) 0)=some (.i 0):=za h6t;have f0:W.frozen? (.q (x0+1) 0)=false:=zE h6t jq;have q1:W.cell? (.q (x0+1) 1)=some (.i 0):=za h6t;have f1:W.frozen? (.q (x0+1) 1)=false:=zE h6t jq;have q2:W.cell? (.q (x0+1) 2)=some (.i 0):=za h6t;have f2:W.frozen? (.q (x0+1) 2)=false:=zE h6t jq;have hU:∀(W:World) (k:Nat) (u:Value),(W.cell? (.q b 1)=some (.i 4)/\W.cell? (.q (x0+1+1) 0)=some (.i (zh (zh (wid r.sp-zh (spZ p.s))-t.c.x)))/\W.cell? (.q (x0+1+1) 1)=some (.i (0))/\W.cell? (.q (x0+1+1) 2)=some (.i (0)))->(W.setCell (.q (x0+1) k) u).cell? (.q b 1)=some (.i 4)/\(W.setCell (.q (x0+1) k) u).cell? (.q (x0+1+1) 0)=some (.i (zh (zh (wid r.sp-zh (spZ p.s))-t.c.x)))/\(W.setCell (.q (x0+1) k) u).cell? (.q (x0+1+1) 1)=some (.i (0))/\(W.setCell (.q (x0+1) k) u).cell? (.q (x0+1+1) 2)=some (.i (0)):=fun W k u h=>⟨ya h.1 zc,ya h.2.1 zc,ya h.2.2.1 zc,ya h.2.2.2 zc⟩
 have hUd:(((W.setCell (.q (x0+1) 0) (.i (zh (zh (wid r.sp-zh (spZ p.s))-t.c.x)))).setCell (.q (x0+1) 1) (.i (0))).setCell (.q (x0+1) 2) (.i (0))).drew.cell? (.q b 1)=some (.i 4)/\(((W.setCell (.q (x0+1) 0) (.i (zh (zh (wid r.sp-zh (spZ p.s))-t.c.x)))).setCell (.q (x0+1) 1) (.i (0))).setCell (.q (x0+1) 2) (.i (0))).drew.cell? (.q (x0+1+1) 0)=some (.i (zh (zh (wid r.sp-zh (spZ p.s))-t.c.x)))/\(((W.setCell (.q (x0+1) 0) (.i (zh (zh (wid r.sp-zh (spZ p.s))-t.c.x)))).setCell (.q (x0+1) 1) (.i (0))).setCell (.q (x0+1) 2) (.i (0))).drew.cell? (.q (x0+1+1) 1)=some (.i (0))/\(((W.setCell (.q (x0+1) 0) (.i (zh (zh (wid r.sp-zh (spZ p.s))-t.c.x)))).setCell (.q (x0+1) 1) (.i (0))).setCell (.q (x0+1) 2) (.i (0))).drew.cell? (.q (x0+1+1) 2)=some (.i (0)):=hU _ _ _ (hU _ _ _ (hU _ _ _ ⟨dk,s0,s1,s2⟩))
 have haxx:=zni 4;go_wp2;go_region_held3(fun w'=>w'.cell? (.q b 1)=some (.i 4)/\w'.cell? (.q (x0+1+1) 0)=some (.i (zh (zh (wid r.sp-zh (spZ p.s))-t.c.x)))/\w'.cell? (.q (x0+1+1) 1)=some (.i (0))/\w'.cell? (.q (x0+1+1) 2)=some (.i (0)))
  (first|(with_reducible exact⟨dk,s0,s1,s2⟩)|(with_reducible exact hUd))
  (first|(go_at_call 42;refine(haxx _).mono ?_;clear haxx;rintro e w' ⟨rfl,hw⟩;obtain rfl:=hw.symm))
 go_wp2;have h6u:=zbi (x0:=.i (zh (zh (wid r.sp-zh (spZ p.s))-t.c.x))) (x1:=.i (0)) (x2:=.i (0)) h6t;refine bodyPost_ret (zfI rfl _ _ (x0+1) 24 #[.i (zh (zh (wid r.sp-zh (spZ p.s))-t.c.x)),.i (0),.i (0)] (0,0) rfl h6u (zaZ kfz) kfz) rfl ?_;have hCf:=((hCt.setNew (x:=x0+1) (k:=0) (u:=.i (zh (zh (wid r.sp-zh (spZ p.s))-t.c.x))) zc).setNew (x:=x0+1) (k:=1) (u:=.i (0)) zc).setNew (x:=x0+1) (k:=2) (u:=.i (0)) zc;have hNf:jc (((W.setCell (.q (x0+1) 0) (.i (zh (zh (wid r.sp-zh (spZ p.s))-t.c.x)))).setCell (.q (x0+1) 1) (.i (0))).setCell (.q (x0+1) 2) (.i (0))).drew nb mb _:=((hNt.setNe zc).setNe zc).setNe zc
 exact⟨rfl,hR.chg hm hNf (Chg.drew hCf),Chg.drew hCf⟩
def zs7(p:PS)(t:TK)(r:Rd)(j:Nat):Array Value:=match j with
 |0=>#[.i 0,.i 0,.i 0]
 |1=>#[.i (je r.ps.x p.s.p0 t.c.x),.i 0,.i 0]
 |2=>#[.i (je r.ps.x p.s.p0 t.c.x),.i (je r.ps.y p.s.p1 t.c.y),.i 0]
 |_=>#[.i (je r.ps.x p.s.p0 t.c.x),.i (je r.ps.y p.s.p1 t.c.y),.i (je r.ps.z p.s.p2 t.c.z)]
def zix(p:PS)(t:TK)(r:Rd)(j:Nat):Bool:=match j with
 |0=>false
 |1=>zb5 r.ps.x p.s.p0 t.c.x
 |2=>zb5 r.ps.x p.s.p0 t.c.x||zb5 r.ps.y p.s.p1 t.c.y
 |_=>zb5 r.ps.x p.s.p0 t.c.x||zb5 r.ps.y p.s.p1 t.c.y||zb5 r.ps.z p.s.p2 t.c.z
theorem zWV(nb mb:Nat)(l:List (Int×Nat))(p:PS)(hm:mb≠nb)(hs:p.s.ok)(sr:Int)(r:Rd)(hr:r.ok)(f:Nat->Value)(hd:Rd2 f r)(w:World)(hR:zcO w nb mb l p)
 (b:Nat) (t:TK) (hfr:zle l p sr (fun t=>decide (t.kd=r.kd))=(some b,0)) (hb:w.heap[b]? =some (.cells (zcC t) 85 (0,0))) (hbn:b≠nb) (hc:t.c.I) (hk:t.kd=5):
 Calls PP 12 #[ptB nb,.i sr,.agg (rdA f)] w fun e w'=>e= .returned (.tuple #[.agg #[.i (zds p.s t r).x,.i (zds p.s t r).y,.i (zds p.s t r).z],.i (axN t.kd),.i 0])/\zcO w' nb mb l ⟨p.s.k (zjf p.s t r),p.ts⟩/\Chg nb w w':=by
 go_enter Proofs.Tryz.func12,Proofs.Tryz.ntmps12
 rw [show zds p.s t r=⟨je r.ps.x p.s.p0 t.c.x,je r.ps.y p.s.p1 t.c.y,je r.ps.z p.s.p2 t.c.z⟩ by unfold zds;rw [if_neg zc,if_neg zc,if_neg zc,if_pos hk],show zjf p.s t r=(zb5 r.ps.x p.s.p0 t.c.x||zb5 r.ps.y p.s.p1 t.c.y||zb5 r.ps.z p.s.p2 t.c.z) by unfold zjf;rw [if_neg zc,if_neg zc,if_neg zc,if_pos hk]]
 have hb3:∀A B C,Below w.heap.size w (((w.alloc A).alloc B).alloc C):=fun A B C=>(((Below.refl _ w).alloc (Nat.le_refl _) A).alloc jq B).alloc (by first|(simp;done)|(simp;omega)) C
 have hRb:∀W,Below w.heap.size w W->zcO W nb mb l p:=fun W hW=>hR.chg hm (hR.nav.below hW) (Chg.of hW)
 have hxx:∀B C,(((w.alloc (.cells (rdA f) 50)).alloc B).alloc C).cell? (.q w.heap.size 0)=some (.i r.kd):=fun B C=>(za (((heap_alloc_old _ _ (by first|(simp;done)|(simp;omega))).trans (heap_alloc_old _ _ jq)).trans (heap_alloc_new w _))).trans ((za6 f 0 zc).trans (congrArg some hd.d.d0))
 have hf:=fun W (hW:Below w.heap.size w W) hx=>zkI nb mb l p W (hRb W hW) sr w.heap.size r.kd hx
 have hold:∀W:World,Below (((w.alloc (.cells (rdA f) 50)).alloc (.cells z3z 24)).alloc (.cells z3z 24)).heap.size (((w.alloc (.cells (rdA f) 50)).alloc (.cells z3z 24)).alloc (.cells z3z 24)) W->
  W.heap[w.heap.size+1]? =some (.cells z3z 24 (0,0))/\W.heap[w.heap.size+1+1]? =some (.cells z3z 24 (0,0)):=fun W hW=>
  ⟨(hW.block _ (by first|(simp;done)|(simp;omega))).trans ((heap_alloc_old _ _ jq).trans (heap_alloc2_new w _ _)),(hW.block _ (by first|(simp;done)|(simp;omega))).trans (by simpa using heap_alloc_new ((w.alloc (.cells (rdA f) 50)).alloc (.cells z3z 24)) _)⟩
 rw [hfr]at hf;simp only [ptV]at hf;have hax:axN t.kd=axN 5:=by rw [hk]
 rw [hax]
 go_wp2_with(first
  |(go_at_call 35
    refine(hf _ (hb3 _ _ _) (hxx _ _)).mono ?_;rintro e w4 ⟨rfl,hB4⟩;obtain⟨h6,h9⟩:=hold w4 hB4;have hn4:Below w.heap.size w w4:=(hb3 (.cells (rdA f) 50) (.cells z3z 24) (.cells z3z 24)).trans (hB4.mono (hb3 _ _ _).size);have hb4:w4.heap[b]? =some (.cells (zcC t) 85 (0,0)):=(hn4.block b (zy hb)).trans hb;have hx4:w4.heap[w.heap.size]? =some (.cells (rdA f) 50 (0,0)):=(hB4.block _ (by simp;omega)).trans (((heap_alloc_old _ _ (by simp;omega)).trans (heap_alloc_old _ _ jq)).trans (heap_alloc_new w _));have d0:w4.cell? (.q b 7)=some (.i t.c.x):=za hb4;have d1:w4.cell? (.q b 8)=some (.i t.c.y):=za hb4;have d2:w4.cell? (.q b 9)=some (.i t.c.z):=za hb4
    have hA5:Below w4.heap.size w4 (w4.alloc (.cells (v3z t.c) 24)):=(Below.refl _ w4).alloc (Nat.le_refl _) _;have hb5:(w4.alloc (.cells (v3z t.c) 24)).heap[b]? =some (.cells (zcC t) 85 (0,0)):=(hA5.block _ (zy hb4)).trans hb4
    have dk:(w4.alloc (.cells (v3z t.c) 24)).cell? (.q b 1)=some (.i 5):=hk▸za hb5))
 have h12:(w4.alloc (.cells (v3z t.c) 24)).heap[w4.heap.size]? =some (.cells (v3z t.c) 24 (0,0)):=heap_alloc_new w4 _;replace h6:(w4.alloc (.cells (v3z t.c) 24)).heap[w.heap.size+1]? =_:=(hA5.block _ (zy h6)).trans h6;replace h9:(w4.alloc (.cells (v3z t.c) 24)).heap[w.heap.size+1+1]? =_:=(hA5.block _ (zy h9)).trans h9;replace hx4:(w4.alloc (.cells (v3z t.c) 24)).heap[w.heap.size]? =_:=(hA5.block _ (zy hx4)).trans hx4;have hn5:Below w.heap.size w (w4.alloc (.cells (v3z t.c) 24)):=hn4.alloc hn4.size _;have hR5:=hRb _ hn5;have hnlt:nb<w.heap.size:=hR.nav.lt;have hblt:b<w.heap.size:=(zy hb);have h4s:w.heap.size+1+1<w4.heap.size:=by have:=hB4.size;simp at this;omega
 clear d0 d1 d2 hb4 hB4 hA5 hf hold hxx hb3 hfr hn4 dk;generalize w4.alloc (.cells (v3z t.c) 24)=w5 at*
 generalize w4.heap.size=x12 at*
 obtain⟨x0,hx0⟩:∃x,x=w.heap.size:=⟨_,rfl⟩;rw [<-hx0]at h6 h9 hx4 hnlt hblt h4s⊢;have hx0s:w.heap.size<=x0:=zc;clear hx0;have hNq:jc w5 nb mb (p.s.k false):=by simpa [NS.k]using hR5.nav
 have hC5:Chg nb w w5:=Chg.of hn5;clear hR5 hn5;go_loopw [83] (fun v W=>∃j:Nat,j<=3/\v= .i j/\jc W nb mb (p.s.k (zix p t r j))/\W.heap[x0]? =some (.cells (rdA f) 50 (0,0))/\W.heap[x12]? =some (.cells (v3z t.c) 24 (0,0))/\W.heap[x0+1]? =some (.cells z3z 24 (0,0))/\W.heap[x0+1+1]? =some (.cells (zs7 p t r j) 24 (0,0))/\W.heap[b]? =some (.cells (zcC t) 85 (0,0))/\Chg nb w W) (fun v _=>3-(intOf v).toNat)
 case atStart=>exact⟨0,zc,rfl,hNq,hx4,h12,h6,h9,hb5,hC5⟩
 case round=>
  clear hNq hx4 h12 h6 h9 hb5 hC5;obtain⟨j,hj,rfl,hNq,hx4,h12,h6,h9,hb5,hC5⟩:=hrel;rcases j with _|_|_|_|j
  ·have hC0:Chg nb wr wr.drew:=Chg.of ⟨rfl,rfl,rfl,Nat.le_refl _,fun _ _=>rfl⟩
   have hNd:jc wr.drew nb mb (p.s.k (zix p t r 0)):=hNq;have hfr:∀W,Chg nb wr W->W.heap[x0]? =some (.cells (rdA f) 50 (0,0))/\W.heap[x12]? =some (.cells (v3z t.c) 24 (0,0))/\W.heap[x0+1]? =some (.cells z3z 24 (0,0))/\W.heap[x0+1+1]? =some (.cells (zs7 p t r 0) 24 (0,0))/\W.heap[b]? =some (.cells (zcC t) 85 (0,0)):=fun W h=>⟨(h.block _ (zy hx4) zc).trans hx4,(h.block _ (zy h12) zc).trans h12,(h.block _ (zy h6) zc).trans h6,(h.block _ (zy h9) zc).trans h9,(h.block _ (zy hb5) hbn).trans hb5⟩
   have hS:∀(W:World) (q:Bool),jc W nb mb (p.s.k q)->Chg nb wr W->W.cell? (.q nb 6)=some (.i p.s.p0)/\W.cell? (.q x0 13)=some (.i r.ps.x)/\W.cell? (.q x12 0)=some (.i t.c.x):=fun W q hn h=>⟨za hn,(za (hfr W h).1).trans ((za6 f 13 zc).trans (congrArg some hd.px)),za (hfr W h).2.1⟩
   have hT:∀(W:World) (k:Nat) (u:Value),(W.cell? (.q nb 6)=some (.i p.s.p0)/\W.cell? (.q x0 13)=some (.i r.ps.x)/\W.cell? (.q x12 0)=some (.i t.c.x))->(W.setCell (.q (x0+1+1) k) u).cell? (.q nb 6)=some (.i p.s.p0)/\(W.setCell (.q (x0+1+1) k) u).cell? (.q x0 13)=some (.i r.ps.x)/\(W.setCell (.q (x0+1+1) k) u).cell? (.q x12 0)=some (.i t.c.x):=fun W k u h=>⟨ya h.1 zc,ya h.2.1 zc,ya h.2.2 zc⟩
   go_wp2;go_region_held3(fun w'=>w'.cell? (.q nb 6)=some (.i p.s.p0)/\w'.cell? (.q x0 13)=some (.i r.ps.x)/\w'.cell? (.q x12 0)=some (.i t.c.x))
    (first|(with_reducible exact hS _ _ hNd hC0)|(with_reducible exact hS _ _ hNb hC2)|(with_reducible exact hS _ _ hNa hC1)|(with_reducible exact hT _ _ _ (hS _ _ hNb hC2)))
    (first
      |(go_at_call 37
        refine(zeN nb mb _ (jk (r.ps.x-p.s.p0)) hc.x _ hNa).mono ?_;rintro e wb ⟨rfl,hNb,hCb⟩;rw [NS.k_k]at hNb;have hC2:=hC1.trans hCb;have z9:wb.cell? (.q (x0+1+1) 0)=some (.i 0):=za (hfr _ hC2).2.2.2.1
        have y9:wb.frozen? (.q (x0+1+1) 0)=false:=zE (hfr _ hC2).2.2.2.1 (by simp [zs7]))
      |(go_at_call 37
        refine(zeN nb mb (p.s.k (zix p t r 0)) hr.ps.x hs.p0 _ hNd).mono ?_;rintro e wa ⟨rfl,hNa,hCa⟩;rw [NS.k_k]at hNa
        have hC1:=hC0.trans hCa))
   go_wp2;obtain⟨f1,f2,f3,f4,f5⟩:=hfr _ hC2;refine⟨⟨1,zc,jq,?_,zt f1 zc,zt f2 zc,zt f3 zc,?_,zt f5 zc,(hC5.trans hC2).setNew zc⟩,by simp [intOf]⟩
   ·exact(by simpa [zb5,zix,Bool.or_assoc]using hNb:jc wb nb mb (p.s.k (zix p t r 1))).setNe zc
   ·simpa [zs7,je]using zf (o:=0) (v:=.i (je r.ps.x p.s.p0 t.c.x)) f4
  ·have hC0:Chg nb wr wr.drew:=Chg.of ⟨rfl,rfl,rfl,Nat.le_refl _,fun _ _=>rfl⟩
   have hNd:jc wr.drew nb mb (p.s.k (zix p t r 1)):=hNq;have hfr:∀W,Chg nb wr W->W.heap[x0]? =some (.cells (rdA f) 50 (0,0))/\W.heap[x12]? =some (.cells (v3z t.c) 24 (0,0))/\W.heap[x0+1]? =some (.cells z3z 24 (0,0))/\W.heap[x0+1+1]? =some (.cells (zs7 p t r 1) 24 (0,0))/\W.heap[b]? =some (.cells (zcC t) 85 (0,0)):=fun W h=>⟨(h.block _ (zy hx4) zc).trans hx4,(h.block _ (zy h12) zc).trans h12,(h.block _ (zy h6) zc).trans h6,(h.block _ (zy h9) zc).trans h9,(h.block _ (zy hb5) hbn).trans hb5⟩
   have hS:∀(W:World) (q:Bool),jc W nb mb (p.s.k q)->Chg nb wr W->W.cell? (.q nb 7)=some (.i p.s.p1)/\W.cell? (.q x0 14)=some (.i r.ps.y)/\W.cell? (.q x12 1)=some (.i t.c.y):=fun W q hn h=>⟨za hn,(za (hfr W h).1).trans ((za6 f 14 zc).trans (congrArg some hd.py)),za (hfr W h).2.1⟩
   have hT:∀(W:World) (k:Nat) (u:Value),(W.cell? (.q nb 7)=some (.i p.s.p1)/\W.cell? (.q x0 14)=some (.i r.ps.y)/\W.cell? (.q x12 1)=some (.i t.c.y))->(W.setCell (.q (x0+1+1) k) u).cell? (.q nb 7)=some (.i p.s.p1)/\(W.setCell (.q (x0+1+1) k) u).cell? (.q x0 14)=some (.i r.ps.y)/\(W.setCell (.q (x0+1+1) k) u).cell? (.q x12 1)=some (.i t.c.y):=fun W k u h=>⟨ya h.1 zc,ya h.2.1 zc,ya h.2.2 zc⟩
   go_wp2;go_region_held3(fun w'=>w'.cell? (.q nb 7)=some (.i p.s.p1)/\w'.cell? (.q x0 14)=some (.i r.ps.y)/\w'.cell? (.q x12 1)=some (.i t.c.y))
    (first|(with_reducible exact hS _ _ hNd hC0)|(with_reducible exact hS _ _ hNb hC2)|(with_reducible exact hS _ _ hNa hC1)|(with_reducible exact hT _ _ _ (hS _ _ hNb hC2)))
    (first
      |(go_at_call 37
        refine(zeN nb mb _ (jk (r.ps.y-p.s.p1)) hc.y _ hNa).mono ?_;rintro e wb ⟨rfl,hNb,hCb⟩;rw [NS.k_k]at hNb;have hC2:=hC1.trans hCb;have z9:wb.cell? (.q (x0+1+1) 1)=some (.i 0):=za (hfr _ hC2).2.2.2.1
        have y9:wb.frozen? (.q (x0+1+1) 1)=false:=zE (hfr _ hC2).2.2.2.1 (by simp [zs7]))
      |(go_at_call 37
        refine(zeN nb mb (p.s.k (zix p t r 1)) hr.ps.y hs.p1 _ hNd).mono ?_;rintro e wa ⟨rfl,hNa,hCa⟩;rw [NS.k_k]at hNa
        have hC1:=hC0.trans hCa))
   go_wp2;obtain⟨f1,f2,f3,f4,f5⟩:=hfr _ hC2;refine⟨⟨2,zc,jq,?_,zt f1 zc,zt f2 zc,zt f3 zc,?_,zt f5 zc,(hC5.trans hC2).setNew zc⟩,by simp [intOf]⟩
   ·exact(by simpa [zb5,zix,Bool.or_assoc]using hNb:jc wb nb mb (p.s.k (zix p t r 2))).setNe zc
   ·simpa [zs7,je]using zf (o:=1) (v:=.i (je r.ps.y p.s.p1 t.c.y)) f4
  ·have hC0:Chg nb wr wr.drew:=Chg.of ⟨rfl,rfl,rfl,Nat.le_refl _,fun _ _=>rfl⟩
   have hNd:jc wr.drew nb mb (p.s.k (zix p t r 2)):=hNq;have hfr:∀W,Chg nb wr W->W.heap[x0]? =some (.cells (rdA f) 50 (0,0))/\W.heap[x12]? =some (.cells (v3z t.c) 24 (0,0))/\W.heap[x0+1]? =some (.cells z3z 24 (0,0))/\W.heap[x0+1+1]? =some (.cells (zs7 p t r 2) 24 (0,0))/\W.heap[b]? =some (.cells (zcC t) 85 (0,0)):=fun W h=>⟨(h.block _ (zy hx4) zc).trans hx4,(h.block _ (zy h12) zc).trans h12,(h.block _ (zy h6) zc).trans h6,(h.block _ (zy h9) zc).trans h9,(h.block _ (zy hb5) hbn).trans hb5⟩
   have hS:∀(W:World) (q:Bool),jc W nb mb (p.s.k q)->Chg nb wr W->W.cell? (.q nb 8)=some (.i p.s.p2)/\W.cell? (.q x0 15)=some (.i r.ps.z)/\W.cell? (.q x12 2)=some (.i t.c.z):=fun W q hn h=>⟨za hn,(za (hfr W h).1).trans ((za6 f 15 zc).trans (congrArg some hd.pz)),za (hfr W h).2.1⟩
   have hT:∀(W:World) (k:Nat) (u:Value),(W.cell? (.q nb 8)=some (.i p.s.p2)/\W.cell? (.q x0 15)=some (.i r.ps.z)/\W.cell? (.q x12 2)=some (.i t.c.z))->(W.setCell (.q (x0+1+1) k) u).cell? (.q nb 8)=some (.i p.s.p2)/\(W.setCell (.q (x0+1+1) k) u).cell? (.q x0 15)=some (.i r.ps.z)/\(W.setCell (.q (x0+1+1) k) u).cell? (.q x12 2)=some (.i t.c.z):=fun W k u h=>⟨ya h.1 zc,ya h.2.1 zc,ya h.2.2 zc⟩
   go_wp2;go_region_held3(fun w'=>w'.cell? (.q nb 8)=some (.i p.s.p2)/\w'.cell? (.q x0 15)=some (.i r.ps.z)/\w'.cell? (.q x12 2)=some (.i t.c.z))
    (first|(with_reducible exact hS _ _ hNd hC0)|(with_reducible exact hS _ _ hNb hC2)|(with_reducible exact hS _ _ hNa hC1)|(with_reducible exact hT _ _ _ (hS _ _ hNb hC2)))
    (first
      |(go_at_call 37
        refine(zeN nb mb _ (jk (r.ps.z-p.s.p2)) hc.z _ hNa).mono ?_;rintro e wb ⟨rfl,hNb,hCb⟩;rw [NS.k_k]at hNb;have hC2:=hC1.trans hCb;have z9:wb.cell? (.q (x0+1+1) 2)=some (.i 0):=za (hfr _ hC2).2.2.2.1
        have y9:wb.frozen? (.q (x0+1+1) 2)=false:=zE (hfr _ hC2).2.2.2.1 (by simp [zs7]))
      |(go_at_call 37
        refine(zeN nb mb (p.s.k (zix p t r 2)) hr.ps.z hs.p2 _ hNd).mono ?_;rintro e wa ⟨rfl,hNa,hCa⟩;rw [NS.k_k]at hNa
        have hC1:=hC0.trans hCa))
   go_wp2;obtain⟨f1,f2,f3,f4,f5⟩:=hfr _ hC2;refine⟨⟨3,zc,jq,?_,zt f1 zc,zt f2 zc,zt f3 zc,?_,zt f5 zc,(hC5.trans hC2).setNew zc⟩,by simp [intOf]⟩
   ·exact(by simpa [zb5,zix,Bool.or_assoc]using hNb:jc wb nb mb (p.s.k (zix p t r 3))).setNe zc
   ·simpa [zs7,je]using zf (o:=2) (v:=.i (je r.ps.z p.s.p2 t.c.z)) f4
  ·skip
   have h9t:wr.heap[x0+1+1]? =some (.cells #[.i (je r.ps.x p.s.p0 t.c.x),.i (je r.ps.y p.s.p1 t.c.y),.i (je r.ps.z p.s.p2 t.c.z)] 24 (0,0)):=h9;have h6t:wr.heap[x0+1]? =some (.cells z3z 24 (0,0)):=h6;have hbt:wr.heap[b]? =some (.cells (zcC t) 85 (0,0)):=hb5;have hNt:jc wr nb mb (p.s.k (zb5 r.ps.x p.s.p0 t.c.x||zb5 r.ps.y p.s.p1 t.c.y||zb5 r.ps.z p.s.p2 t.c.z)):=hNq;have hCt:Chg nb w wr:=hC5;obtain⟨W,hW⟩:∃x,x=wr:=⟨_,rfl⟩;rw [<-hW]at h9t h6t hbt hNt hCt⊢;clear hW;have dk:W.drew.cell? (.q b 1)=some (.i 5):=hk▸za hbt;have s0:W.drew.cell? (.q (x0+1+1) 0)=some (.i (je r.ps.x p.s.p0 t.c.x)):=za h9t;have s1:W.drew.cell? (.q (x0+1+1) 1)=some (.i (je r.ps.y p.s.p1 t.c.y)):=za h9t
   have s2:W.drew.cell? (.q (x0+1+1) 2)=some (.i (je r.ps.z p.s.p2 t.c.z)):=za h9t;have q0:W.cell? (.q (x0+1) 0)=some (.i 0):=za h6t;have f0:W.frozen? (.q (x0+1) 0)=false:=zE h6t jq;have q1:W.cell? (.q (x0+1) 1)=some (.i 0):=za h6t;have f1:W.frozen? (.q (x0+1) 1)=false:=zE h6t jq;have q2:W.cell? (.q (x0+1) 2)=some (.i 0):=za h6t;have f2:W.frozen? (.q (x0+1) 2)=false:=zE h6t jq;have hU:∀(W:World) (k:Nat) (u:Value),(W.cell? (.q b 1)=some (.i 5)/\W.cell? (.q (x0+1+1) 0)=some (.i (je r.ps.x p.s.p0 t.c.x))/\W.cell? (.q (x0+1+1) 1)=some (.i (je r.ps.y p.s.p1 t.c.y))/\W.cell? (.q (x0+1+1) 2)=some (.i (je r.ps.z p.s.p2 t.c.z)))->(W.setCell (.q (x0+1) k) u).cell? (.q b 1)=some (.i 5)/\(W.setCell (.q (x0+1) k) u).cell? (.q (x0+1+1) 0)=some (.i (je r.ps.x p.s.p0 t.c.x))/\(W.setCell (.q (x0+1) k) u).cell? (.q (x0+1+1) 1)=some (.i (je r.ps.y p.s.p1 t.c.y))/\(W.setCell (.q (x0+1) k) u).cell? (.q (x0+1+1) 2)=some (.i (je r.ps.z p.s.p2 t.c.z)):=fun W k u h=>⟨ya h.1 zc,ya h.2.1 zc,ya h.2.2.1 zc,ya h.2.2.2 zc⟩
   have hUd:(((W.setCell (.q (x0+1) 0) (.i (je r.ps.x p.s.p0 t.c.x))).setCell (.q (x0+1) 1) (.i (je r.ps.y p.s.p1 t.c.y))).setCell (.q (x0+1) 2) (.i (je r.ps.z p.s.p2 t.c.z))).drew.cell? (.q b 1)=some (.i 5)/\(((W.setCell (.q (x0+1) 0) (.i (je r.ps.x p.s.p0 t.c.x))).setCell (.q (x0+1) 1) (.i (je r.ps.y p.s.p1 t.c.y))).setCell (.q (x0+1) 2) (.i (je r.ps.z p.s.p2 t.c.z))).drew.cell? (.q (x0+1+1) 0)=some (.i (je r.ps.x p.s.p0 t.c.x))/\(((W.setCell (.q (x0+1) 0) (.i (je r.ps.x p.s.p0 t.c.x))).setCell (.q (x0+1) 1) (.i (je r.ps.y p.s.p1 t.c.y))).setCell (.q (x0+1) 2) (.i (je r.ps.z p.s.p2 t.c.z))).drew.cell? (.q (x0+1+1) 1)=some (.i (je r.ps.y p.s.p1 t.c.y))/\(((W.setCell (.q (x0+1) 0) (.i (je r.ps.x p.s.p0 t.c.x))).setCell (.q (x0+1) 1) (.i (je r.ps.y p.s.p1 t.c.y))).setCell (.q (x0+1) 2) (.i (je r.ps.z p.s.p2 t.c.z))).drew.cell? (.q (x0+1+1) 2)=some (.i (je r.ps.z p.s.p2 t.c.z)):=hU _ _ _ (hU _ _ _ (hU _ _ _ ⟨dk,s0,s1,s2⟩))
   have haxx:=zni 5;go_wp2;go_region_held3(fun w'=>w'.cell? (.q b 1)=some (.i 5)/\w'.cell? (.q (x0+1+1) 0)=some (.i (je r.ps.x p.s.p0 t.c.x))/\w'.cell? (.q (x0+1+1) 1)=some (.i (je r.ps.y p.s.p1 t.c.y))/\w'.cell? (.q (x0+1+1) 2)=some (.i (je r.ps.z p.s.p2 t.c.z)))
    (first|(with_reducible exact⟨dk,s0,s1,s2⟩)|(with_reducible exact hUd))
    (first|(go_at_call 42;refine(haxx _).mono ?_;clear haxx;rintro e w' ⟨rfl,hw⟩;obtain rfl:=hw.symm))
   go_wp2;have h6u:=zbi (x0:=.i (je r.ps.x p.s.p0 t.c.x)) (x1:=.i (je r.ps.y p.s.p1 t.c.y)) (x2:=.i (je r.ps.z p.s.p2 t.c.z)) h6t;refine bodyPost_ret (zfI rfl _ _ (x0+1) 24 #[.i (je r.ps.x p.s.p0 t.c.x),.i (je r.ps.y p.s.p1 t.c.y),.i (je r.ps.z p.s.p2 t.c.z)] (0,0) rfl h6u (zaZ kfz) kfz) rfl ?_;have hCf:=((hCt.setNew (x:=x0+1) (k:=0) (u:=.i (je r.ps.x p.s.p0 t.c.x)) zc).setNew (x:=x0+1) (k:=1) (u:=.i (je r.ps.y p.s.p1 t.c.y)) zc).setNew (x:=x0+1) (k:=2) (u:=.i (je r.ps.z p.s.p2 t.c.z)) zc;have hNf:jc (((W.setCell (.q (x0+1) 0) (.i (je r.ps.x p.s.p0 t.c.x))).setCell (.q (x0+1) 1) (.i (je r.ps.y p.s.p1 t.c.y))).setCell (.q (x0+1) 2) (.i (je r.ps.z p.s.p2 t.c.z))).drew nb mb _:=((hNt.setNe zc).setNe zc).setNe zc
   exact⟨rfl,hR.chg hm hNf (Chg.drew hCf),Chg.drew hCf⟩
  ·omega
structure TK.ok (t:TK):Prop where
 src:0<=t.src/\t.src<=7
 kd:2<=t.kd/\t.kd<=5
 wt:0<=t.wt/\t.wt<=16
 rule:zbw t.gain t.step t.limit t.hor
 st:zr t.step
 lim:zr t.limit
 corr:zeS t.limit t.c.x t.c.y t.c.z t.last
theorem TK.ok.cI{t:TK}(h:t.ok):t.c.I:=⟨(zvm h.lim h.corr).1,(zvm h.lim h.corr).2.1,(zvm h.lim h.corr).2.2⟩
theorem zcM:∀{ts:List TK} {k:Int} {t:TK},zbH ts k=some t->t∈ts
 |[],_,_,h=>by cases h
 |a::r,k,t,h=>by
  unfold zbH at h;split at h
  ·cases h;exact List.mem_cons_self ..
  ·exact List.mem_cons_of_mem _ (zcM h)
theorem zRe(nb mb:Nat)(l:List (Int×Nat))(p:PS)(hm:mb≠nb)(hs:p.s.ok)(hp:∀t∈p.ts,t.ok)(sr:Int)(r:Rd)(hr:r.ok)(f:Nat->Value)(hd:Rd2 f r)(w:World)(hR:zcO w nb mb l p):
 Calls PP 12 #[ptB nb,.i sr,.agg (rdA f)] w fun e w'=>e= .returned (.tuple #[.agg #[.i (zaJ p sr r).1.x,.i (zaJ p sr r).1.y,.i (zaJ p sr r).1.z],.i (zaJ p sr r).2.1,.i (zaJ p sr r).2.2.1])/\zcO w' nb mb l (zaJ p sr r).2.2.2/\Chg nb w w':=by
 rcases zTb hR.trk sr r with⟨c,hc0,hfr,hof⟩|⟨b,t,hfr,htk,hkd,hst,hb,hbn⟩
 ·rw [hof]
  go_enter Proofs.Tryz.func12,Proofs.Tryz.ntmps12
  have hb3:∀A B C,Below w.heap.size w (((w.alloc A).alloc B).alloc C):=fun A B C=>(((Below.refl _ w).alloc (Nat.le_refl _) A).alloc jq B).alloc (by first|(simp;done)|(simp;omega)) C
  have hRb:∀W,Below w.heap.size w W->zcO W nb mb l p:=fun W hW=>hR.chg hm (hR.nav.below hW) (Chg.of hW)
  have hxx:∀B C,(((w.alloc (.cells (rdA f) 50)).alloc B).alloc C).cell? (.q w.heap.size 0)=some (.i r.kd):=fun B C=>(za (((heap_alloc_old _ _ (by first|(simp;done)|(simp;omega))).trans (heap_alloc_old _ _ jq)).trans (heap_alloc_new w _))).trans ((za6 f 0 zc).trans (congrArg some hd.d.d0))
  have hf:=fun W (hW:Below w.heap.size w W) hx=>zkI nb mb l p W (hRb W hW) sr w.heap.size r.kd hx
  have hold:∀W:World,Below (((w.alloc (.cells (rdA f) 50)).alloc (.cells z3z 24)).alloc (.cells z3z 24)).heap.size (((w.alloc (.cells (rdA f) 50)).alloc (.cells z3z 24)).alloc (.cells z3z 24)) W->
   W.heap[w.heap.size+1]? =some (.cells z3z 24 (0,0))/\W.heap[w.heap.size+1+1]? =some (.cells z3z 24 (0,0)):=fun W hW=>
   ⟨(hW.block _ (by first|(simp;done)|(simp;omega))).trans ((heap_alloc_old _ _ jq).trans (heap_alloc2_new w _ _)),(hW.block _ (by first|(simp;done)|(simp;omega))).trans (by simpa using heap_alloc_new ((w.alloc (.cells (rdA f) 50)).alloc (.cells z3z 24)) _)⟩
  rw [hfr]at hf;simp only [ptV]at hf;have hc1:(c==0)=false:=by simpa using hc0
  go_wp2_with(first
   |(go_at_call 35
     refine(hf _ (hb3 _ _ _) (hxx _ _)).mono ?_;rintro e w4 ⟨rfl,hB4⟩;obtain⟨h6,h9⟩:=hold w4 hB4;have z0:=zi 0 h9 rfl;have y0:=zi 0 h6 rfl;have g0:=zC 0 h6;have z1:=zi 1 h9 rfl;have y1:=zi 1 h6 rfl;have g1:=zC 1 h6;have z2:=zi 2 h9 rfl;have y2:=zi 2 h6 rfl;have g2:=zC 2 h6
     have hn4:=(hb3 (.cells (rdA f) 50) (.cells z3z 24) (.cells z3z 24)).trans (hB4.mono (hb3 _ _ _).size)))
  have h6':=zbi (x0:=.i 0) (x1:=.i 0) (x2:=.i 0) h6;have hn4':=zay (x0:=.i 0) (x1:=.i 0) (x2:=.i 0) hn4 (b:=w.heap.size+1) zc;refine bodyPost_ret (zfI rfl _ _ (w.heap.size+1) 24 #[.i 0,.i 0,.i 0] (0,0) rfl h6' (zaZ kfz) kfz) rfl ?_;exact⟨rfl,hRb _ hn4',Chg.of hn4'⟩
 ·have hto:=hp t (zcM htk)
  have e:zaJ p sr r=(zds p.s t r,axN t.kd,0,⟨p.s.k (zjf p.s t r),p.ts⟩):=by
   unfold zaJ;rw [htk];dsimp only;rw [if_pos hkd,if_neg hst]
  rw [e];have h4:t.kd=2\/t.kd=3\/t.kd=4\/t.kd=5:=by have:=hto.kd;omega
  rcases h4 with hk|hk|hk|hk
  ·exact zWS nb mb l p hm hs sr r hr f hd w hR b t hfr hb hbn hto.cI hk
  ·exact zWT nb mb l p hm hs sr r hr f hd w hR b t hfr hb hbn hto.cI hk
  ·exact zWU nb mb l p hm hs sr r hr f hd w hR b t hfr hb hbn hto.cI hk
  ·exact zWV nb mb l p hm hs sr r hr f hd w hR b t hfr hb hbn hto.cI hk
noncomputable def zs8(t:TK)(o:V3)(tk:Int):TK:=
 {t with c:=⟨axV (axN t.kd) 0 (ji t.gain t.step t.limit t.c.x o.x) t.c.x,axV (axN t.kd) 1 (ji t.gain t.step t.limit t.c.y o.y) t.c.y,axV (axN t.kd) 2 (ji t.gain t.step t.limit t.c.z o.z) t.c.z⟩,last:=tk,pulled:=true}
def zk9(f:TK->TK):List TK->Int->List TK
 |[],_=>[]
 |t::r,k=>if k=t.src then f t::r else t::zk9 f r k
noncomputable def zkJ(p:PS)(sr:Int)(o:V3)(tk:Int):Int×PS:=
 match zbH p.ts sr with
 |none=>(2,p)
 |some _=>if p.s.now<=tk/\tk<=1099511627776 then(if p.s.start= -1 then(7,p)else(0,⟨{p.s with now:=tk},zk9 (zs8 · o tk) p.ts sr⟩))else(2,p)
theorem zPk:∀{w w':World} {nb:Nat} {l:List (Int×Nat)} {ts:List TK} {k:Int} {b:Nat} {t:TK} {f:TK->TK},zxz w nb l ts->zcS l k=some b->zbH ts k=some t->(f t).src=t.src->
 w'.heap[b]? =some (.cells (zcC (f t)) 85 (0,0))->(∀p∈l,p.2≠b->w'.heap[p.2]? =w.heap[p.2]?)->zxz w' nb l (zk9 f ts k)
 |_,_,_,[],_,_,_,_,_,_,h,_,_,_,_=>by cases h
 |w,w',nb,(s,b')::l,ts,k,b,t,f,hT,h,ht,hf,hb,hs=>by
  cases ts with
  |nil=>cases ht
  |cons t0 r=>
   obtain⟨t',ht',hs',hb'⟩:=hT.blk 0 s b' rfl;cases ht';have hn:=hT.nodup;simp only [List.map_cons,List.nodup_cons]at hn;have hlen:=hT.len;unfold zcS at h;unfold zbH at ht;unfold zk9;by_cases hk:k=s
   ·rw [if_pos hk]at h
    cases h;rw [if_pos (hs'▸hk)]at ht⊢;cases ht;refine⟨by simpa using hlen,fun i s2 b2 hi=> ?_,hT.nodup,hT.ne⟩;match i,hi with
    |0,hi=>cases hi;exact⟨_,rfl,hs'.trans hf.symm,hb⟩
    |i+1,hi=>
     obtain⟨t2,h1,h2,h3⟩:=hT.blk (i+1) s2 b2 hi;have hm:(s2,b2)∈l:=List.mem_of_getElem? (show l[i]? =some (s2,b2)from hi);have hne:b2≠b':=fun e=>hn.1 (List.mem_map.2 ⟨(s2,b2),hm,e⟩)
     exact⟨t2,h1,h2,(hs (s2,b2) (List.mem_cons_of_mem _ hm) hne).trans h3⟩
   ·rw [if_neg hk]at h
    rw [if_neg (hs'▸hk)]at ht⊢;obtain⟨i0,hi0⟩:=zxA h;have hbl:b∈l.map (·.2):=List.mem_map.2 ⟨(k,b),List.mem_of_getElem? hi0,rfl⟩;have hb0:b'≠b:=fun e=>hn.1 (e▸hbl)
    have ih:=zPk (w:=w) (w':=w') (nb:=nb) (l:=l) (ts:=r) (k:=k) (b:=b) (t:=t) (f:=f)
     ⟨by simpa using hlen,fun i s b hi=>by
      obtain⟨t',h1,h2⟩:=hT.blk (i+1) s b hi
      exact⟨t',h1,h2⟩,hn.2,fun p hp=>hT.ne p (List.mem_cons_of_mem _ hp)⟩ h ht hf hb (fun p hp hne=>hs p (List.mem_cons_of_mem _ hp) hne)
    refine⟨by have:=ih.len;simp [this],fun i s2 b2 hi=> ?_,hT.nodup,hT.ne⟩
    match i,hi with
    |0,hi=>cases hi;exact⟨t0,rfl,hs',(hs (s,b') (List.mem_cons_self ..) hb0).trans hb'⟩
    |i+1,hi=>exact ih.blk i s2 b2 hi
theorem zEs{W:World}{b:Nat}{t:TK}{u:V3}{tk:Int}(h:W.heap[b]? =some (.cells (zcC t) 85 (0,0))):((((W.setCell (.q b 7) (.i u.x)).setCell (.q b 8) (.i u.y)).setCell (.q b 9) (.i u.z)).setCell (.q b 10) (.i tk)).heap[b]? =some (.cells (zcC {t with c:=u,last:=tk}) 85 (0,0)):=by
 replace h:=zf (o:=7) (v:=.i u.x) h;simp only [sLz]at h;replace h:=zf (o:=8) (v:=.i u.y) h;simp only [sLz]at h;replace h:=zf (o:=9) (v:=.i u.z) h;simp only [sLz]at h;replace h:=zf (o:=10) (v:=.i tk) h;simp only [sLz]at h;exact h
theorem zOg{W:World}{b:Nat}{t:TK}(h:W.heap[b]? =some (.cells (zcC t) 85 (0,0))):(W.setCell (.q b 11) (.bool true)).heap[b]? =some (.cells (zcC {t with pulled:=true}) 85 (0,0)):=by
 replace h:=zf (o:=11) (v:=.bool true) h;simp only [sLz]at h;exact h
def Own(nb:Nat)(l:List (Int×Nat))(k:Nat):Prop:=k=nb\/k∈l.map (·.2)
theorem jj.set{D:Nat->Prop}{w W:World}{x k:Nat}{u:Value}(h:jj D w W)(hx:D x\/w.heap.size<=x):jj D w (W.setCell (.q x k) u):=
 ⟨h.os,h.tape,h.output,by have:=h.size;simpa using this,fun i hi hn=>(Below.heap_setCell W (.q x k) u i (fun e=>by
  simp only at e;rcases hx with hx|hx
  ·exact hn (e▸hx)
  ·omega)).trans (h.block i hi hn)⟩
theorem jj.drew{D:Nat->Prop}{w W:World}(h:jj D w W):jj D w W.drew:=⟨h.os,h.tape,h.output,h.size,h.block⟩
theorem zVS(k:Int):0<=axN k/\axN k<=3:=by unfold axN;split<;>omega
theorem zRf{w:World}{nb:Nat}{l:List (Int×Nat)}{p:PS}{o:V3}{tk:Int}(hT:zxz w nb l p.ts)(sr:Int):
 (∃c:Int,c≠0/\zle l p sr (fun t=>decide (p.s.now<=tk/\tk<=1099511627776))=(none,c)/\zkJ p sr o tk=(c,p))\/
 ∃b t,zcS l sr=some b/\zle l p sr (fun t=>decide (p.s.now<=tk/\tk<=1099511627776))=(some b,0)/\zbH p.ts sr=some t/\w.heap[b]? =some (.cells (zcC t) 85 (0,0))/\b≠nb/\p.s.now<=tk/\tk<=1099511627776/\p.s.start≠ -1/\zkJ p sr o tk=(0,⟨{p.s with now:=tk},zk9 (zs8 · o tk) p.ts sr⟩):=by
 unfold zle zkJ;cases hl:zcS l sr with
 |none=>
  rw [znk hT hl];exact .inl ⟨2,dcz,rfl,rfl⟩
 |some b=>
  obtain⟨t,h1,h2,h3,h4⟩:=zgW hT hl;rw [h1];dsimp only;by_cases hk:p.s.now<=tk/\tk<=1099511627776
  ·rw [if_pos (decide_eq_true hk),if_pos hk]
   by_cases h0:p.s.start= -1
   ·rw [if_pos h0,if_pos h0]
    exact .inl ⟨7,dcz,rfl,rfl⟩
   ·rw [if_neg h0,if_neg h0]
    exact .inr ⟨b,t,rfl,rfl,rfl,h3,h4,hk.1,hk.2,h0,rfl⟩
  ·rw [if_neg (by rw [decide_eq_true_iff];exact hk),if_neg hk]
   exact .inl ⟨2,dcz,rfl,rfl⟩
theorem zOh(nb mb:Nat)(l:List (Int×Nat))(p:PS)(hm:mb≠nb)(hp:∀t∈p.ts,t.ok)(hla:∀t∈p.ts,t.last<=p.s.now)(sr:Int)(o:V3)(ho:o.I)(tk:Int)(w:World)(hR:zcO w nb mb l p):
 Calls PP 14 #[ptB nb,.i sr,.agg #[.i o.x,.i o.y,.i o.z],.i tk] w fun e w'=>e= .returned (.i (zkJ p sr o tk).1)/\zcO w' nb mb l (zkJ p sr o tk).2/\jj (Own nb l) w w':=by
 go_enter Proofs.Tryz.func14,Proofs.Tryz.ntmps14
 have hb3:∀A B C,Below w.heap.size w (((w.alloc A).alloc B).alloc C):=fun A B C=>(((Below.refl _ w).alloc (Nat.le_refl _) A).alloc (by first|(simp;done)|(simp;omega)) B).alloc (by first|(simp;done)|(simp;omega)) C
 have hRb:∀W,Below w.heap.size w W->zcO W nb mb l p:=fun W hW=>hR.chg hm (hR.nav.below hW) (Chg.of hW)
 have h0:(((w.alloc (.cells #[ptB nb] 29)).alloc (.cells (v3z o) 24)).alloc (.cells #[.i tk] 3)).heap[w.heap.size]? =some (.cells #[ptB nb] 29 (0,0)):=((heap_alloc_old _ _ (by first|(simp;done)|(simp;omega))).trans (heap_alloc_old _ _ jq)).trans (heap_alloc_new w _);have h1:(((w.alloc (.cells #[ptB nb] 29)).alloc (.cells (v3z o) 24)).alloc (.cells #[.i tk] 3)).heap[w.heap.size+1]? =some (.cells (v3z o) 24 (0,0)):=(heap_alloc_old _ _ jq).trans (heap_alloc2_new w _ _);have h2:(((w.alloc (.cells #[ptB nb] 29)).alloc (.cells (v3z o) 24)).alloc (.cells #[.i tk] 3)).heap[w.heap.size+1+1]? =some (.cells #[.i tk] 3 (0,0)):=by simpa using heap_alloc_new ((w.alloc (.cells #[ptB nb] 29)).alloc (.cells (v3z o) 24)) (.cells #[.i tk] 3)
 have hf:=zLH nb mb l p _ (hRb _ (hb3 (.cells #[ptB nb] 29) (.cells (v3z o) 24) (.cells #[.i tk] 3))) sr (w.heap.size+1+1) w.heap.size tk (za h2) (za h0);have cA:=zi 0 h0 rfl;have hn3:=hb3 (.cells #[ptB nb] 29) (.cells (v3z o) 24) (.cells #[.i tk] 3);clear hb3;rcases zRf (o:=o) (tk:=tk) hR.trk sr with⟨c,hc0,hfr,hof⟩|⟨b,t,hl,hfr,htk,hb,hbn,ht0,ht1,hst,hof⟩
 ·rw [hof]
  rw [hfr]at hf;simp only [ptV]at hf;have hc1:(c==0)=false:=by simpa using hc0
  go_wp2_with(go_at_call 35;refine hf.mono ?_;clear hf;rintro e w4 ⟨rfl,hB4⟩)
  go_ret;have hn4:Below w.heap.size w w4:=hn3.trans (hB4.mono hn3.size);exact⟨rfl,hRb _ hn4,jj.of hn4⟩
 ·rw [hof]
  rw [hfr]at hf;simp only [ptV]at hf
  go_wp2_with(first
   |(go_at_call 35
     refine hf.mono ?_;clear hf;rintro e w4 ⟨rfl,hB4⟩;have hn4:Below w.heap.size w w4:=hn3.trans (hB4.mono hn3.size);have k0:w4.heap[w.heap.size]? =some (.cells #[ptB nb] 29 (0,0)):=(hB4.block _ (zy h0)).trans h0;have k1:w4.heap[w.heap.size+1]? =some (.cells (v3z o) 24 (0,0)):=(hB4.block _ (zy h1)).trans h1;have k2:w4.heap[w.heap.size+1+1]? =some (.cells #[.i tk] 3 (0,0)):=(hB4.block _ (zy h2)).trans h2;have hR4:=hRb _ hn4;have d0:=zi 0 k0 rfl;have d2:=zi 0 k2 rfl;have c23:=zi 23 hR4.nav rfl
     have f23:=zC 23 hR4.nav))
  have hto:=hp t (zcM htk);have hlt:=hla t (zcM htk);have hblt:b<w.heap.size:=(zy hb);have hnlt:nb<w.heap.size:=hR.nav.lt;have hb4:w4.heap[b]? =some (.cells (zcC t) 85 (0,0)):=(hn4.block b hblt).trans hb;have hK4:jj (Own nb l) w w4:=jj.of hn4;have hb5:(w4.setCell (.q nb 23) (.i tk)).heap[b]? =some (.cells (zcC t) 85 (0,0)):=zt hb4 hbn;have k15:(w4.setCell (.q nb 23) (.i tk)).heap[w.heap.size+1]? =some (.cells (v3z o) 24 (0,0)):=zt k1 zc;have k25:(w4.setCell (.q nb 23) (.i tk)).heap[w.heap.size+1+1]? =some (.cells #[.i tk] 3 (0,0)):=zt k2 zc;have hN5:jc (w4.setCell (.q nb 23) (.i tk)) nb mb {p.s with now:=tk}:=zf hR4.nav
  have hK5:jj (Own nb l) w (w4.setCell (.q nb 23) (.i tk)):=hK4.set (.inl (.inl rfl));have hL5:∀q,q<w.heap.size->q≠nb->(w4.setCell (.q nb 23) (.i tk)).heap[q]? =w.heap[q]? :=fun q hq hqn=>zt (hn4.block q hq) hqn
  clear hn3 h0 h1 h2 hRb hB4 hn4 k0 k1 k2 hR4 d0 d2 c23 f23 hb4 hK4 cA;generalize w4.setCell (.q nb 23) (.i tk)=w5 at*
  obtain⟨x0,hx0⟩:∃x,x=w.heap.size:=⟨_,rfl⟩;rw [<-hx0]at k15 k25 hblt hnlt⊢;have hx0s:w.heap.size<=x0:=zc;have hx0t:x0<=w.heap.size:=zc;have hL5':∀q,q<x0->q≠nb->w5.heap[q]? =w.heap[q]? :=fun q hq=>hL5 q zc
  clear hx0 hL5;have haxx:∀w,Calls PP 42 #[.i t.kd] w fun e w'=>e= .returned (.i (axN t.kd))/\w'=w:=fun w=>zni t.kd w
  have hpl:=fun w=>zLE hto.st hto.lim ho.x ho.y ho.z (g:=t.gain) (h:=t.hor) (c0:=t.c.x) (c1:=t.c.y) (c2:=t.c.z) (la:=t.last) (n:=axN t.kd) (t:=tk) ⟨hto.rule,hto.corr,⟨Int.le_trans hlt ht0,ht1⟩,zVS t.kd⟩ w
  have hS:∀(W:World) (u:V3) (k:Int),W.heap[b]? =some (.cells (zcC {t with c:=u,last:=k}) 85 (0,0))->W.heap[x0+1]? =some (.cells (v3z o) 24 (0,0))->W.heap[x0+1+1]? =some (.cells #[.i tk] 3 (0,0))->W.cell? (.q b 1)=some (.i t.kd)/\W.cell? (.q b 3)=some (.i t.gain)/\W.cell? (.q b 4)=some (.i t.step)/\W.cell? (.q b 5)=some (.i t.limit)/\W.cell? (.q b 6)=some (.i t.hor)/\W.cell? (.q (x0+1) 0)=some (.i o.x)/\W.cell? (.q (x0+1) 1)=some (.i o.y)/\W.cell? (.q (x0+1) 2)=some (.i o.z)/\W.cell? (.q (x0+1+1) 0)=some (.i tk):=fun W u k hb h1 h2=>⟨za hb,za hb,za hb,za hb,za hb,za h1,za h1,za h1,za h2⟩
  have hbd:w5.drew.heap[b]? =some (.cells (zcC {t with c:=t.c,last:=t.last}) 85 (0,0)):=hb5;have k1d:w5.drew.heap[x0+1]? =some (.cells (v3z o) 24 (0,0)):=k15;have k2d:w5.drew.heap[x0+1+1]? =some (.cells #[.i tk] 3 (0,0)):=k25;have e7:=zi 7 hb5 rfl;have e8:=zi 8 hb5 rfl;have e9:=zi 9 hb5 rfl;have e10:=zi 10 hb5 rfl;rw [show Op.load 75 (.tmp 34)=ldq 75 (.tmp 34)from rfl];go_region_held3(fun w'=>w'.cell? (.q b 1)=some (.i t.kd)/\w'.cell? (.q b 3)=some (.i t.gain)/\w'.cell? (.q b 4)=some (.i t.step)/\w'.cell? (.q b 5)=some (.i t.limit)/\w'.cell? (.q b 6)=some (.i t.hor)/\w'.cell? (.q (x0+1) 0)=some (.i o.x)/\w'.cell? (.q (x0+1) 1)=some (.i o.y)/\w'.cell? (.q (x0+1) 2)=some (.i o.z)/\w'.cell? (.q (x0+1+1) 0)=some (.i tk))
   (first|(with_reducible exact hS _ _ _ hbd k1d k2d)|(with_reducible exact hS _ _ _ hbp k1p k2p)|(with_reducible exact hS _ _ _ hbs k1s k2s))
   (first
     |(go_at_call 47
       refine(hpl _).mono ?_;rintro e wp ⟨rfl,hBp⟩;have hbp:wp.heap[b]? =some (.cells (zcC {t with c:=t.c,last:=t.last}) 85 (0,0)):=(hBp.block b (zy hbd)).trans hbd;have k1p:wp.heap[x0+1]? =some (.cells (v3z o) 24 (0,0)):=(hBp.block _ (zy k1d)).trans k1d;have k2p:wp.heap[x0+1+1]? =some (.cells #[.i tk] 3 (0,0)):=(hBp.block _ (zy k2d)).trans k2d;have g7:=zi 7 hbp rfl;have g8:=zi 8 hbp rfl;have g9:=zi 9 hbp rfl;have g10:=zi 10 hbp rfl;have r7:=zC 7 hbp;have r8:=zC 8 hbp;have r9:=zC 9 hbp;have r10:=zC 10 hbp;have hbs:=zEs (t:={t with c:=t.c,last:=t.last}) (u:=⟨axV (axN t.kd) 0 (ji t.gain t.step t.limit t.c.x o.x) t.c.x,axV (axN t.kd) 1 (ji t.gain t.step t.limit t.c.y o.y) t.c.y,axV (axN t.kd) 2 (ji t.gain t.step t.limit t.c.z o.z) t.c.z⟩) (tk:=tk) hbp
       have k1s:((((wp.setCell (.q b 7) (.i (axV (axN t.kd) 0 (ji t.gain t.step t.limit t.c.x o.x) t.c.x))).setCell (.q b 8) (.i (axV (axN t.kd) 1 (ji t.gain t.step t.limit t.c.y o.y) t.c.y))).setCell (.q b 9) (.i (axV (axN t.kd) 2 (ji t.gain t.step t.limit t.c.z o.z) t.c.z))).setCell (.q b 10) (.i tk)).heap[x0+1]? =some (.cells (v3z o) 24 (0,0)):=zt (zt (zt (zt k1p zc) zc) zc) zc
       have k2s:((((wp.setCell (.q b 7) (.i (axV (axN t.kd) 0 (ji t.gain t.step t.limit t.c.x o.x) t.c.x))).setCell (.q b 8) (.i (axV (axN t.kd) 1 (ji t.gain t.step t.limit t.c.y o.y) t.c.y))).setCell (.q b 9) (.i (axV (axN t.kd) 2 (ji t.gain t.step t.limit t.c.z o.z) t.c.z))).setCell (.q b 10) (.i tk)).heap[x0+1+1]? =some (.cells #[.i tk] 3 (0,0)):=zt (zt (zt (zt k2p zc) zc) zc) zc)
     |(go_at_call 42;refine(haxx _).mono ?_;rintro e w' ⟨rfl,hw⟩;obtain rfl:=hw.symm))
  all_goals
   have hbl:b∈l.map (·.2):=by
    obtain⟨i0,hi0⟩:=zxA hl;exact List.mem_map.2 ⟨(sr,b),List.mem_of_getElem? hi0,rfl⟩
   have hNp:jc wp nb mb {p.s with now:=tk}:=(show jc w5.drew nb mb {p.s with now:=tk}from hN5).below hBp;have hNs:jc ((((wp.setCell (.q b 7) (.i (axV (axN t.kd) 0 (ji t.gain t.step t.limit t.c.x o.x) t.c.x))).setCell (.q b 8) (.i (axV (axN t.kd) 1 (ji t.gain t.step t.limit t.c.y o.y) t.c.y))).setCell (.q b 9) (.i (axV (axN t.kd) 2 (ji t.gain t.step t.limit t.c.z o.z) t.c.z))).setCell (.q b 10) (.i tk)) nb mb {p.s with now:=tk}:=(((hNp.setNe hbn.symm).setNe hbn.symm).setNe hbn.symm).setNe hbn.symm;have hKp:jj (Own nb l) w wp:=(jj.drew hK5).trans (jj.of hBp);have hKs:jj (Own nb l) w ((((wp.setCell (.q b 7) (.i (axV (axN t.kd) 0 (ji t.gain t.step t.limit t.c.x o.x) t.c.x))).setCell (.q b 8) (.i (axV (axN t.kd) 1 (ji t.gain t.step t.limit t.c.y o.y) t.c.y))).setCell (.q b 9) (.i (axV (axN t.kd) 2 (ji t.gain t.step t.limit t.c.z o.z) t.c.z))).setCell (.q b 10) (.i tk)):=(((hKp.set (.inl (.inr hbl))).set (.inl (.inr hbl))).set (.inl (.inr hbl))).set (.inl (.inr hbl))
   have hLs:∀q,q<x0->q≠nb->q≠b->((((wp.setCell (.q b 7) (.i (axV (axN t.kd) 0 (ji t.gain t.step t.limit t.c.x o.x) t.c.x))).setCell (.q b 8) (.i (axV (axN t.kd) 1 (ji t.gain t.step t.limit t.c.y o.y) t.c.y))).setCell (.q b 9) (.i (axV (axN t.kd) 2 (ji t.gain t.step t.limit t.c.z o.z) t.c.z))).setCell (.q b 10) (.i tk)).heap[q]? =w.heap[q]? :=fun q hq hqn hqb=>
    zt (zt (zt (zt ((hBp.block q (Nat.lt_of_lt_of_le hq (by have:=(zy k2d);omega))).trans (hL5' q hq hqn)) hqb) hqb) hqb) hqb
   clear k1s k2s;generalize((((wp.setCell (.q b 7) (.i (axV (axN t.kd) 0 (ji t.gain t.step t.limit t.c.x o.x) t.c.x))).setCell (.q b 8) (.i (axV (axN t.kd) 1 (ji t.gain t.step t.limit t.c.y o.y) t.c.y))).setCell (.q b 9) (.i (axV (axN t.kd) 2 (ji t.gain t.step t.limit t.c.z o.z) t.c.z))).setCell (.q b 10) (.i tk))=W at*
   have c11:=zi 11 hbs rfl;have f11:=zC 11 hbs;go_wp2;go_ret;have hmb:mb≠b:=fun e=>by have h1:=hR.map;unfold znv at h1;rw [e,hb]at h1;cases h1
   have hmx:mb<x0:=by
    have:=(zy hR.map);omega
   refine⟨rfl,⟨hNs.setNe hbn.symm,(zt (hLs mb hmx hm hmb) hmb).trans hR.map,zPk hR.trk hl htk rfl (zOg hbs) fun q hq hqb=>zt (hLs q.2 ?_ (hR.trk.ne q hq) hqb) hqb⟩,hKs.set (.inl (.inr hbl))⟩;obtain⟨i,hi⟩:=List.getElem?_of_mem hq;obtain⟨t',h1,h2,h3⟩:=hR.trk.blk i q.1 q.2 hi;have:=(zy h3);omega
def zUZ(tk fr:Int):Int:=max tk fr-fr
def zTc(p:PS)(sr tk:Int):Int:=
 if p.s.start= -1 then 0 else match zbH p.ts sr with
  |none=>0
  |some t=>zUZ tk (if t.pulled=true then t.last else p.s.start)
theorem zoq(tk fr:Int):(if tk<fr then fr else tk)=max tk fr:=zc
theorem zpX{tk fr:Int}(ht:zr tk)(h0:0<=fr)(h1:fr<=1099511627776):wrap .i64 (max tk fr-fr)=max tk fr-fr:=zH (by unfold zr at*;omega)
theorem zRg(nb mb:Nat)(l:List (Int×Nat))(p:PS)(hp:∀t∈p.ts,t.ok)(hst:p.s.start= -1\/(0<=p.s.start/\p.s.start<=1099511627776))(sr tk:Int)(hk:zr tk)(w:World)(hR:zcO w nb mb l p):
 Calls PP 18 #[ptB nb,.i sr,.i tk] w fun e w'=>e= .returned (.i (zTc p sr tk))/\w'=w:=by
 go_enter Proofs.Tryz.func18,Proofs.Tryz.ntmps18
 have c20:=zi 20 hR.nav rfl;have c21:=zi 21 hR.nav rfl;have hs:=zcY nb mb p.s w hR.nav;have hlk:=zio hR.map sr;have hpn:=zwp;unfold zTc;by_cases h0:p.s.start= -1
 ·rw [if_pos h0]
  rw [h0]at hs;go_wp2_with(go_at_call 54;refine hs.mono ?_;clear hs;rintro e w' ⟨rfl,hw⟩;obtain rfl:=hw.symm)
  go_ret;simp
 ·rw [if_neg h0]
  have h0b:(p.s.start== -1)=false:=by simpa using h0
  rw [h0b]at hs;have hs1:=hst.resolve_left h0;cases hl:zcS l sr with
  |none=>
   rw [znk hR.trk hl];rw [hl]at hlk;simp only [ptV]at hlk⊢;go_wp2_with(go_at_call 54;refine hs.mono ?_;clear hs;rintro e w' ⟨rfl,hw⟩;obtain rfl:=hw.symm)
   go_ret;simp
  |some b=>
   obtain⟨t,h1,h2,h3,h4⟩:=zgW hR.trk hl;rw [h1];rw [hl]at hlk;simp only [ptV]at hlk⊢;have c11:=zi 11 h3 rfl;have c10:=zi 10 h3 rfl;have hto:=hp t (zcM h1);have hlast:0<=t.last/\t.last<=1099511627776:=hto.corr.1;cases hpu:t.pulled with
   |true=>
    rw [hpu]at c11;rw [if_pos rfl];unfold zUZ;have hmx:=zoq tk t.last;have hwr:=zpX hk hlast.1 hlast.2;go_wp2_with(go_at_call 54;refine hs.mono ?_;clear hs;rintro e w' ⟨rfl,hw⟩;obtain rfl:=hw.symm)
    go_ret;exact⟨rfl,rfl⟩
   |false=>
    rw [hpu]at c11;rw [if_neg jq];unfold zUZ;have hmx:=zoq tk p.s.start;have hwr:=zpX hk hs1.1 hs1.2;go_wp2_with(go_at_call 54;refine hs.mono ?_;clear hs;rintro e w' ⟨rfl,hw⟩;obtain rfl:=hw.symm)
    go_ret;exact⟨rfl,rfl⟩
def zyu(p:PS)(sr:Int):V3×Int:=match zbH p.ts sr with
 |none=>(⟨0,0,0⟩,0)
 |some t=>(t.c,t.last)
theorem zOi(nb mb:Nat)(l:List (Int×Nat))(p:PS)(sr:Int)(w:World)(hR:zcO w nb mb l p)(hm:mb≠nb):
 Calls PP 21 #[ptB nb,.i sr] w fun e w'=>e= .returned (.agg #[.i (zyu p sr).1.x,.i (zyu p sr).1.y,.i (zyu p sr).1.z,.i (zyu p sr).2])/\Below w.heap.size w w':=by
 go_enter Proofs.Tryz.func21,Proofs.Tryz.ntmps21
 have hA0:Below w.heap.size w (w.alloc (.cells #[.i 0,.i 0,.i 0,.i 0] 75)):=(Below.refl _ w).alloc (Nat.le_refl _) _;have hb0:(w.alloc (.cells #[.i 0,.i 0,.i 0,.i 0] 75)).heap[w.heap.size]? =some (.cells #[.i 0,.i 0,.i 0,.i 0] 75 (0,0)):=heap_alloc_new w _;have hR0:zcO (w.alloc (.cells #[.i 0,.i 0,.i 0,.i 0] 75)) nb mb l p:=hR.chg hm (hR.nav.below hA0) (Chg.of hA0);have c20:=zi 20 hR0.nav rfl;have hi:=zil nb mb p.s _ hR0.nav;have hlk:=zio hR0.map sr;have hpn:=zwp;unfold zyu;cases hl:zcS l sr with
 |none=>
  rw [znk hR.trk hl];rw [hl]at hlk;simp only [ptV]at hlk⊢;go_wp2_with(go_at_call 43;refine hi.mono ?_;clear hi;rintro e w' ⟨rfl,hw⟩;obtain rfl:=hw.symm)
  refine bodyPost_ret (zim rfl _ _ w.heap.size 75 #[.i 0,.i 0,.i 0,.i 0] (0,0) rfl (heap_alloc_new w _) (zaZ kfz) kfz) rfl ?_;exact⟨rfl,hA0⟩
 |some b=>
  obtain⟨t,h1,h2,h3,h4⟩:=zgW hR0.trk hl;rw [h1];rw [hl]at hlk;simp only [ptV]at hlk⊢;have c7:=zi 7 h3 rfl;have c8:=zi 8 h3 rfl;have c9:=zi 9 h3 rfl;have c10:=zi 10 h3 rfl;go_wp2_with(go_at_call 43;refine hi.mono ?_;clear hi;rintro e w' ⟨rfl,hw⟩;obtain rfl:=hw.symm)
  refine bodyPost_ret (zim rfl _ _ w.heap.size 75 #[.i t.c.x,.i t.c.y,.i t.c.z,.i t.last] (0,0) rfl (heap_alloc_new w _) (zaZ kfz) kfz) rfl ?_;exact⟨rfl,(Below.refl _ w).alloc (Nat.le_refl _) _⟩
end Go.Xv
namespace Go.Xv
open Go.RowKit Go.ChangeMaps
theorem zOj:∀{l:List (Int×Nat)} {j:Nat} {e:MapEntry},e∈EL j l->∃(i:Nat) (s:Int) (b:Nat),l[i]? =some (s,b)/\e={key:=.i s,val:=ptB b,born:=j+i}
 |[],_,_,h=>by cases h
 |(s,b)::r,j,e,h=>by
  unfold EL at h;rcases List.mem_cons.1 h with rfl|h
  ·exact⟨0,s,b,rfl,rfl⟩
  ·obtain⟨i,s',b',h1,h2⟩:=zOj h
   exact⟨i+1,s',b',h1,by rw [h2];congr 1;omega⟩
theorem zVT:∀{l:List (Int×Nat)} {j i:Nat} {s:Int} {b:Nat},l[i]? =some (s,b)->({key:=.i s,val:=ptB b,born:=j+i}:MapEntry)∈EL j l
 |[],_,_,_,_,h=>by simp at h
 |(s0,b0)::r,j,i,s,b,h=>by
  unfold EL;cases i with
  |zero=>cases h;exact List.mem_cons_self ..
  |succ i=>
   refine List.mem_cons_of_mem _ ?_;have:=zVT (l:=r) (j:=j+1) (i:=i) (s:=s) (b:=b) h;rwa [show j+1+i=j+(i+1)from zc]at this
theorem zPl:∀(l:List (Int×Nat)) (j:Nat),(EL j l).map (·.born)=(List.range' j l.length)
 |[],_=>rfl
 |(s,b)::r,j=>by
  unfold EL;simp only [List.map_cons,List.length_cons,List.range'_succ];rw [zPl r (j+1)]
theorem zLI{W:World}{r mb:Nat}{l:List (Int×Nat)}{seen:Array Nat}(hr:W.heap[r]? =some (.mapIter (some mb) l.length seen l.length))(hm:znv W mb l)(hne:r≠mb)(ty:TypeId):
 ((∀i,i<l.length->seen.contains i=true)/\(Instr.next (ptB r) false ty).run PP W= .ok (.tuple #[.bool false]) W)\/
 ∃(i:Nat) (s:Int) (b:Nat) (W':World),l[i]? =some (s,b)/\seen.contains i=false/\(Instr.next (ptB r) false ty).run PP W= .ok (.tuple #[.bool true,.i s,ptB b]) W'/\
  W'.heap[r]? =some (.mapIter (some mb) l.length (seen.push i) l.length)/\(∀q,q≠r->W'.heap[q]? =W.heap[q]?)/\W'.heap.size=W.heap.size/\W'.os=W.os/\W'.tape=W.tape/\W'.output=W.output/\
  (Instr.entry (ptB r)).run PP W'= .ok (.tuple #[.i s,ptB b]) W'/\(leftOf (EL 0 l).toArray (seen.push i)).size<(leftOf (EL 0 l).toArray seen).size:=by
 have hold:∀x∈(EL 0 l).toArray.toList,x.born<l.length:=by
  intro x hx;obtain⟨i,s,b,h1,rfl⟩:=zOj (j:=0) (by simpa using hx);have:=(List.getElem?_eq_some_iff.1 h1).1;simpa using this
 have hnd:((EL 0 l).toArray.toList.map (·.born)).Nodup:=by
  rw [List.toList_toArray,zPl];exact List.nodup_range'
 rcases run_next_at (P:=PP) W ty r mb l.length l.length seen (EL 0 l).toArray l.length hr hm hold (Nat.le_refl _)with⟨h0,hrun⟩|⟨e,he,w1,hal,hrun⟩
 ·refine .inl ⟨fun i hi=> ?_,hrun⟩
  have hg:=List.getElem?_eq_getElem hi;have hx:=zVT (l:=l) (j:=0) (i:=i) (s:=l[i].1) (b:=l[i].2) hg;simpa using all_seen _ seen h0 _ (by simpa using hx)
 ·obtain⟨hem,hes⟩:=mem_left he
  obtain⟨i,s,b,h1,rfl⟩:=zOj (j:=0) (by simpa using hem);rw [Nat.zero_add]at he hem hes hrun;have hr1:w1.heap[r]? =some (.mapIter (some mb) l.length seen l.length):=by rcases hal with rfl|rfl<;>exact hr
  have hb1:w1.heap[mb]? =some (.map (EL 0 l).toArray l.length):=by rcases hal with rfl|rfl<;>exact hm
  have hset:=MapKept.heap_set (o':=.mapIter (some mb) l.length (seen.push i) l.length) hr1;have hb':(setBlock w1 r (.mapIter (some mb) l.length (seen.push i) l.length)).heap[mb]? =some (.map (EL 0 l).toArray l.length):=(hset.2 mb (fun e1=>hne e1.symm)).trans hb1;refine .inr ⟨i,s,b,_,h1,hes,hrun,hset.1,fun q hq=>(hset.2 q hq).trans ?_,?_,?_,?_,?_,run_entry_at _ r mb l.length seen (EL 0 l).toArray l.length _ hset.1 hb' hem hnd,left_shrinks _ seen _ he⟩
  ·rcases hal with rfl|rfl<;>rfl
  ·rcases hal with rfl|rfl<;>simp [setBlock]
  ·rcases hal with rfl|rfl<;>rfl
  ·rcases hal with rfl|rfl<;>rfl
  ·rcases hal with rfl|rfl<;>rfl
def znl(tk:Int)(t:TK):TK:={t with c:=⟨fdV t.step t.hor t.last tk t.c.x,fdV t.step t.hor t.last tk t.c.y,fdV t.step t.hor t.last tk t.c.z⟩}
def zwq(tk:Int)(seen:Array Nat)(ts:List TK):List TK:=ts.mapIdx fun i t=>if seen.contains i=true then znl tk t else t
def zor(p:PS)(tk:Int):Int×PS:=
 if p.s.now<=tk/\tk<=1099511627776 then(0,⟨{p.s with now:=tk},p.ts.map (znl tk)⟩)else(2,p)
theorem ztF(tk:Int)(seen:Array Nat)(ts:List TK)(i:Nat):(zwq tk seen ts)[i]? =(ts[i]?).map fun t=>if seen.contains i=true then znl tk t else t:=by
 unfold zwq;rw [List.getElem?_mapIdx]
theorem zOk(tk:Int)(ts:List TK):zwq tk #[] ts=ts:=by
 refine List.ext_getElem? fun i=> ?_
 rw [ztF];cases ts[i]? <;>simp
theorem zRh{tk:Int}{seen:Array Nat}{ts:List TK}(h:∀i,i<ts.length->seen.contains i=true):zwq tk seen ts=ts.map (znl tk):=by
 refine List.ext_getElem? fun i=> ?_
 rw [ztF,List.getElem?_map];cases hi:ts[i]? with
 |none=>rfl
 |some t=>exact congrArg some (if_pos (h i (List.getElem?_eq_some_iff.1 hi).1))
theorem zOl{w w':World}{nb:Nat}{l:List (Int×Nat)}{ts:List TK}{tk:Int}{seen:Array Nat}{i:Nat}{s:Int}{b:Nat}{t:TK}(hT:zxz w nb l (zwq tk seen ts))(hl:l[i]? =some (s,b))(ht:ts[i]? =some t)
 (hb:w'.heap[b]? =some (.cells (zcC (znl tk t)) 85 (0,0))) (hs:∀p∈l,p.2≠b->w'.heap[p.2]? =w.heap[p.2]?):zxz w' nb l (zwq tk (seen.push i) ts):=by
 refine⟨by have:=hT.len;unfold zwq at*;simpa using this,fun j s2 b2 hj=> ?_,hT.nodup,hT.ne⟩;obtain⟨t2,h1,h2,h3⟩:=hT.blk j s2 b2 hj;rw [ztF]at h1⊢;by_cases hji:j=i
 ·subst hji
  rw [hl]at hj;cases hj;rw [ht]at h1⊢;refine⟨znl tk t,jq,?_,hb⟩;simp only [Option.map_some,Option.some.injEq]at h1;rw [h2, <-h1];split<;>rfl
 ·have hne:b2≠b:=by
   intro e;have hnd:=hT.nodup;have e1:(l.map (·.2))[j]? =some b2:=by rw [List.getElem?_map,hj];rfl
   have e2:(l.map (·.2))[i]? =some b:=by rw [List.getElem?_map,hl];rfl
   exact hji ((List.getElem?_inj (List.getElem?_eq_some_iff.1 e1).1 hnd).1 (by rw [e1,e2,e]))
  refine⟨t2,?_,h2,(hs (s2,b2) (List.mem_of_getElem? hj) hne).trans h3⟩;rw [<-h1];have hc:(seen.push i).contains j=seen.contains j:=by
   rw [Array.contains_push];simp [hji]
  rw [hc]
theorem zOm(nb mb:Nat)(l:List (Int×Nat))(p:PS)(hm:mb≠nb)(hp:∀t∈p.ts,t.ok)(hla:∀t∈p.ts,t.last<=p.s.now)(tk:Int)(w:World)(hR:zcO w nb mb l p):
 Calls PP 15 #[ptB nb,.i tk] w fun e w'=>e= .returned (.i (zor p tk).1)/\zcO w' nb mb l (zor p tk).2/\jj (Own nb l) w w':=by
 go_enter Proofs.Tryz.func15,Proofs.Tryz.ntmps15
 have ha:=zLf nb mb p.s tk w hR.nav;unfold zor;by_cases ht:p.s.now<=tk/\tk<=1099511627776
 ·rw [if_pos ht]
  replace ha:=ha.mono (R':=fun e w'=>e= .returned (.i 0)/\jc w' nb mb {p.s with now:=tk}/\Chg nb w w') fun e w' h=>by
   rcases h with h|h
   ·exact absurd ht h.1
   ·obtain⟨_,rfl,rfl⟩:=h
    exact⟨rfl,zf hR.nav,(Chg.refl nb _).setCell 23 _⟩
  go_wp2_with(go_at_call 44
              refine ha.mono ?_;clear ha;rintro e w1 ⟨rfl,hN1,hC1⟩;have hR1:zcO w1 nb mb l ⟨{p.s with now:=tk},p.ts⟩:=hR.chg hm hN1 hC1;have c20:=zi 20 hN1 rfl
              have hrg:=run_range_map (P:=PP) w1 60 3 83 mb (EL 0 l).toArray l.length zmp hR1.map)
  have hAx:Below w1.heap.size w1 (w1.alloc (.mapIter (some mb) l.length #[] l.length)):=(Below.refl _ _).alloc (Nat.le_refl _) _;have hit:(w1.alloc (.mapIter (some mb) l.length #[] l.length)).heap[w1.heap.size]? =some (.mapIter (some mb) l.length #[] l.length):=heap_alloc_new w1 _;have hR2:zcO (w1.alloc (.mapIter (some mb) l.length #[] l.length)) nb mb l ⟨{p.s with now:=tk},p.ts⟩:=hR1.chg hm (hN1.below hAx) (Chg.of hAx);have hK2:jj (Own nb l) w (w1.alloc (.mapIter (some mb) l.length #[] l.length)):=(jj.chg hC1 (.inl rfl)).trans (jj.of hAx);have hsz:w.heap.size<=w1.heap.size:=hC1.size;have hnlt:nb<w1.heap.size:=hN1.lt
  have hmlt:mb<w1.heap.size:=(zy hR1.map);have hblt:∀q∈l,q.2<w1.heap.size:=fun q hq=>by
   obtain⟨i,hi⟩:=List.getElem?_of_mem hq;obtain⟨t',h1,h2,h3⟩:=hR1.trk.blk i q.1 q.2 hi;exact(zy h3)
  clear hrg c20 hR1 hN1 hC1 hAx;generalize w1.alloc (.mapIter (some mb) l.length #[] l.length)=w2 at*
  generalize w1.heap.size=x at*
  go_loopw [7] (fun _ wr=>∃seen:Array Nat,wr.heap[x]? =some (.mapIter (some mb) l.length seen l.length)/\jc wr nb mb {p.s with now:=tk}/\znv wr mb l/\zxz wr nb l (zwq tk seen p.ts)/\jj (Own nb l) w wr) (fun _ wr=>wr.rangeLeft mb x)
  case atStart=>exact⟨#[],hit,hR2.nav,hR2.map,by rw [zOk];exact hR2.trk,hK2⟩
  case round=>
   clear hit hR2 hK2;obtain⟨seen,hit,hN,hM,hT,hK⟩:=hrel;have hlen:l.length=p.ts.length:=by rw [hT.len];unfold zwq;simp
   rcases zLI hit hM zc 0 with⟨hall,hnx⟩|⟨i,sr,b,W',hli,hsi,hnx,hit',hot,hws,ho1,ho2,ho3,hen,hle⟩
   ·replace hnx:(Instr.next (.pointer (some (.q x 0))) false 0).run PP wr= .ok (.tuple #[.bool false]) wr:=hnx
    rw [zRh (fun i hi=>hall i zc)]at hT;go_wp2;go_ret;exact⟨rfl,⟨hN,hM,hT⟩,hK⟩
   ·replace hnx:(Instr.next (.pointer (some (.q x 0))) false 0).run PP wr= .ok (.tuple #[.bool true,.i sr,ptB b]) W':=hnx
    replace hen:(Instr.entry (.pointer (some (.q x 0)))).run PP W'= .ok (.tuple #[.i sr,ptB b]) W':=hen;go_wp2;obtain⟨t,ht1,ht2,ht3⟩:=hT.blk i sr b hli;have hti:p.ts[i]? =some t:=by
     rw [ztF]at ht1;cases hq:p.ts[i]? with
     |none=>rw [hq]at ht1;cases ht1
     |some t'=>
      rw [hq]at ht1;simp only [Option.map_some,Option.some.injEq]at ht1;rw [if_neg (by rw [hsi];simp)]at ht1;rw [ht1]
    have htm:t∈p.ts:=List.mem_of_getElem? hti;have hto:=hp t htm;have hlt:=hla t htm;have hbm:(sr,b)∈l:=List.mem_of_getElem? hli;have hbx:b<x:=hblt _ hbm;have hbn:b≠nb:=hT.ne _ hbm;have hbl:b∈l.map (·.2):=List.mem_map.2 ⟨(sr,b),hbm,rfl⟩;have hmb:mb≠b:=fun e=>by unfold znv at hM;rw [e,ht3]at hM;cases hM
    have hb':W'.heap[b]? =some (.cells (zcC t) 85 (0,0)):=(hot b zc).trans ht3;have hN':jc W' nb mb {p.s with now:=tk}:=(hot nb zc).trans hN;have hM':znv W' mb l:=(hot mb zc).trans hM;have hK':jj (Own nb l) w W':=⟨ho1.trans hK.os,ho2.trans hK.tape,ho3.trans hK.output,by rw [hws];exact hK.size,fun q hq hqd=>(hot q zc).trans (hK.block q hq hqd)⟩
    have hoth:∀q,q∈l->W'.heap[q.2]? =wr.heap[q.2]? :=fun q hq=>hot q.2 (by have:=hblt q hq;omega)
    have hxl:x<W'.heap.size:=(zy hit');have hfd:=fun w=>zLF hto.st hto.lim (g:=t.gain) (h:=t.hor) (c0:=t.c.x) (c1:=t.c.y) (c2:=t.c.z) (la:=t.last) (t:=tk) ⟨hto.rule,hto.corr,⟨Int.le_trans hlt ht.1,ht.2⟩⟩ w
    have hS:∀(W:World) (u:V3) (k:Int),W.heap[b]? =some (.cells (zcC {t with c:=u,last:=k}) 85 (0,0))->W.cell? (.q b 3)=some (.i t.gain)/\W.cell? (.q b 4)=some (.i t.step)/\W.cell? (.q b 5)=some (.i t.limit)/\W.cell? (.q b 6)=some (.i t.hor):=fun W u k hb=>⟨za hb,za hb,za hb,za hb⟩
    have hbd:W'.drew.heap[b]? =some (.cells (zcC {t with c:=t.c,last:=t.last}) 85 (0,0)):=hb';have e7:=zi 7 hb' rfl;have e8:=zi 8 hb' rfl;have e9:=zi 9 hb' rfl;have e10:=zi 10 hb' rfl;have hmw:wr.rangeLeft mb x=(leftOf (EL 0 l).toArray seen).size:=by unfold World.rangeLeft;unfold znv at hM;rw [hM,hit]
    clear hnx hen ht1 hN hM hK;rw [show Op.load 75 (.tmp 32)=ldq 75 (.tmp 32)from rfl];go_region_held3(fun w'=>w'.cell? (.q b 3)=some (.i t.gain)/\w'.cell? (.q b 4)=some (.i t.step)/\w'.cell? (.q b 5)=some (.i t.limit)/\w'.cell? (.q b 6)=some (.i t.hor))
     (first|(with_reducible exact hS _ _ _ hbd)|(with_reducible exact hS _ _ _ hbp)|(with_reducible exact hS _ _ _ hbs))
     (first
       |(go_at_call 48
         refine(hfd _).mono ?_;rintro e wp ⟨rfl,hBp⟩;have hbp:wp.heap[b]? =some (.cells (zcC {t with c:=t.c,last:=t.last}) 85 (0,0)):=(hBp.block b (zy hbd)).trans hbd;have g7:=zi 7 hbp rfl;have g8:=zi 8 hbp rfl;have g9:=zi 9 hbp rfl;have g10:=zi 10 hbp rfl;have r7:=zC 7 hbp;have r8:=zC 8 hbp;have r9:=zC 9 hbp;have r10:=zC 10 hbp
         have hbs:=zEs (t:={t with c:=t.c,last:=t.last}) (u:=⟨fdV t.step t.hor t.last tk t.c.x,fdV t.step t.hor t.last tk t.c.y,fdV t.step t.hor t.last tk t.c.z⟩) (tk:=t.last) hbp))
    have hLp:∀q,q<W'.heap.size->q≠b->((((wp.setCell (.q b 7) (.i (fdV t.step t.hor t.last tk t.c.x))).setCell (.q b 8) (.i (fdV t.step t.hor t.last tk t.c.y))).setCell (.q b 9) (.i (fdV t.step t.hor t.last tk t.c.z))).setCell (.q b 10) (.i t.last)).heap[q]? =W'.heap[q]? :=fun q hq hqb=>zt (zt (zt (zt (hBp.block q hq) hqb) hqb) hqb) hqb
    have hKs:jj (Own nb l) w ((((wp.setCell (.q b 7) (.i (fdV t.step t.hor t.last tk t.c.x))).setCell (.q b 8) (.i (fdV t.step t.hor t.last tk t.c.y))).setCell (.q b 9) (.i (fdV t.step t.hor t.last tk t.c.z))).setCell (.q b 10) (.i t.last)):=(((((jj.drew hK').trans (jj.of hBp)).set (.inl (.inr hbl))).set (.inl (.inr hbl))).set (.inl (.inr hbl))).set (.inl (.inr hbl));generalize((((wp.setCell (.q b 7) (.i (fdV t.step t.hor t.last tk t.c.x))).setCell (.q b 8) (.i (fdV t.step t.hor t.last tk t.c.y))).setCell (.q b 9) (.i (fdV t.step t.hor t.last tk t.c.z))).setCell (.q b 10) (.i t.last))=W at*
    go_wp2;have hW1:W.heap[x]? =some (.mapIter (some mb) l.length (seen.push i) l.length):=(hLp x hxl zc).trans hit';have hW2:znv W mb l:=(hLp mb zc hmb).trans hM';refine⟨⟨seen.push i,hW1,(hLp nb zc hbn.symm).trans hN',hW2,zOl hT hli hti hbs (fun q hq hqb=>(hLp q.2 (by have:=hblt q hq;omega) hqb).trans (hoth q hq)),hKs⟩,?_⟩;rw [hmw];unfold World.rangeLeft;unfold znv at hW2;rw [hW2,hW1];exact hle
 ·rw [if_neg ht]
  replace ha:=ha.mono (R':=fun e w'=>e= .returned (.i 2)/\w'=w) fun e w' h=>by
   rcases h with h|h
   ·exact h.2
   ·exact absurd h.1 ht
  go_wp2_with(go_at_call 44;refine ha.mono ?_;clear ha;rintro e w' ⟨rfl,hw⟩;obtain rfl:=hw.symm)
  go_ret;exact⟨rfl,hR,jj.of (Below.refl _ _)⟩
def ziy(s:NS)(tk:Int)(t:TK):Bool:=t.pulled&&decide (max tk s.start-t.last<=t.hor)
def zLJ(p:PS)(tk:Int):Int:=if p.s.start= -1 then 0 else if p.ts.any (ziy p.s tk)=true then 2 else 1
theorem zOn(nb mb:Nat)(l:List (Int×Nat))(p:PS)(hm:mb≠nb)(hp:∀t∈p.ts,t.ok)(hst:p.s.start= -1\/(0<=p.s.start/\p.s.start<=1099511627776))(tk:Int)(hk:zr tk)(w:World)(hR:zcO w nb mb l p):
 Calls PP 17 #[ptB nb,.i tk] w fun e w'=>e= .returned (.i (zLJ p tk))/\Below w.heap.size w w':=by
 go_enter Proofs.Tryz.func17,Proofs.Tryz.ntmps17
 have hs:=zcY nb mb p.s w hR.nav;have c20:w.cell? (.q nb 20)=some (.map (some mb)):=za hR.nav;have c21:w.cell? (.q nb 21)=some (.i p.s.start):=za hR.nav;unfold zLJ;by_cases h0:p.s.start= -1
 ·rw [if_pos h0]
  rw [h0]at hs;go_wp2_with(go_at_call 54;refine hs.mono ?_;clear hs;rintro e w' ⟨rfl,hw⟩;obtain rfl:=hw.symm)
  go_ret;exact⟨rfl,Below.refl _ _⟩
 ·rw [if_neg h0]
  have h0b:(p.s.start== -1)=false:=by simpa using h0
  rw [h0b]at hs;have hs1:=hst.resolve_left h0;have hrg:=run_range_map (P:=PP) w 60 3 83 mb (EL 0 l).toArray l.length zmp hR.map;have hmx:=zoq tk p.s.start;have hmb:0<=max tk p.s.start/\max tk p.s.start<=9223372036854775807:=by unfold zr at hk;omega
  go_wp2_with(go_at_call 54;refine hs.mono ?_;clear hs;rintro e w' ⟨rfl,hw⟩;obtain rfl:=hw.symm)
  have hAx:Below w.heap.size w (w.alloc (.mapIter (some mb) l.length #[] l.length)):=(Below.refl _ _).alloc (Nat.le_refl _) _;have hit:(w.alloc (.mapIter (some mb) l.length #[] l.length)).heap[w.heap.size]? =some (.mapIter (some mb) l.length #[] l.length):=heap_alloc_new w _;have hmlt:mb<w.heap.size:=(zy hR.map);clear hrg c20 c21 hmx;generalize w.alloc (.mapIter (some mb) l.length #[] l.length)=w2 at*
  obtain⟨x,hx⟩:∃x,x=w.heap.size:=⟨_,rfl⟩;rw [<-hx]at hit hmlt⊢;have hxs:w.heap.size<=x:=zc;have hxt:x<=w.heap.size:=zc;clear hx;go_loopw [6] (fun _ wr=>∃seen:Array Nat,wr.heap[x]? =some (.mapIter (some mb) l.length seen l.length)/\Below w.heap.size w wr/\∀i t,seen.contains i=true->p.ts[i]? =some t->ziy p.s tk t=false) (fun _ wr=>wr.rangeLeft mb x)
  case atStart=>exact⟨#[],hit,hAx,fun i t hi=>by simp at hi⟩
  case round=>
   clear hit hAx;obtain⟨seen,hit,hB,hal⟩:=hrel;have hR1:zcO wr nb mb l p:=hR.chg hm (hR.nav.below hB) (Chg.of hB);have hlen:=hR1.trk.len;rcases zLI hit hR1.map zc 0 with⟨hall,hnx⟩|⟨i,sr,b,W',hli,hsi,hnx,hit',hot,hws,ho1,ho2,ho3,hen,hle⟩
   ·replace hnx:(Instr.next (.pointer (some (.q x 0))) false 0).run PP wr= .ok (.tuple #[.bool false]) wr:=hnx
    have hany: ¬p.ts.any (ziy p.s tk)=true:=by
     intro h;obtain⟨t,h1,h2⟩:=List.any_eq_true.1 h;obtain⟨i,hi⟩:=List.getElem?_of_mem h1;rw [hal i t (hall i (by have:=(List.getElem?_eq_some_iff.1 hi).1;omega)) hi]at h2;cases h2
    go_wp2;go_ret;exact⟨rfl,hB⟩
   ·replace hnx:(Instr.next (.pointer (some (.q x 0))) false 0).run PP wr= .ok (.tuple #[.bool true,.i sr,ptB b]) W':=hnx
    replace hen:(Instr.entry (.pointer (some (.q x 0)))).run PP W'= .ok (.tuple #[.i sr,ptB b]) W':=hen;obtain⟨t,hti,ht2,ht3⟩:=hR1.trk.blk i sr b hli;have htm:t∈p.ts:=List.mem_of_getElem? hti;have hlast:0<=t.last/\t.last<=1099511627776:=(hp t htm).corr.1;have hbx:b≠x:=fun e=>by rw [e,hit]at ht3;cases ht3
    have hb':W'.heap[b]? =some (.cells (zcC t) 85 (0,0)):=(hot b hbx).trans ht3;have hB':Below w.heap.size w W':=⟨ho1.trans hB.os,ho2.trans hB.tape,ho3.trans hB.output,by rw [hws];exact hB.size,fun q hq=>(hot q zc).trans (hB.block q hq)⟩
    have hBd:Below w.heap.size w W'.drew:=⟨hB'.os,hB'.tape,hB'.output,hB'.size,hB'.block⟩;have hmw:wr.rangeLeft mb x=(leftOf (EL 0 l).toArray seen).size:=by unfold World.rangeLeft;have:=hR1.map;unfold znv at this;rw [this,hit]
    have hM':W'.drew.heap[mb]? =some (.map (EL 0 l).toArray l.length):=(hot mb zc).trans hR1.map;have hnext:ziy p.s tk t=false->(∃seen:Array Nat,W'.drew.heap[x]? =some (.mapIter (some mb) l.length seen l.length)/\Below w.heap.size w W'.drew/\∀i t,seen.contains i=true->p.ts[i]? =some t->ziy p.s tk t=false)/\W'.drew.rangeLeft mb x<wr.rangeLeft mb x:=fun ha=>by
     refine⟨⟨seen.push i,hit',hBd,fun j u hj hu=> ?_⟩,?_⟩
     ·by_cases hji:j=i
      ·subst hji
       rw [hti]at hu;cases hu;exact ha
      ·rw [Array.contains_push]at hj
       have hc:seen.contains j=true:=by simpa [hji]using hj
       exact hal j u hc hu
     ·rw [hmw]
      unfold World.rangeLeft;rw [hM',show W'.drew.heap[x]? =_ from hit'];exact hle
    have c10:W'.drew.cell? (.q b 10)=some (.i t.last):=za hb';have c6:W'.drew.cell? (.q b 6)=some (.i t.hor):=za hb';have hwr:wrap .i64 (max tk p.s.start-t.last)=max tk p.s.start-t.last:=zH (by unfold zr;omega);have ha:ziy p.s tk t=(t.pulled&&decide (max tk p.s.start-t.last<=t.hor)):=rfl;clear hal hR1 hle hot hM';cases hpu:t.pulled with
    |false=>
     have c11:W'.drew.cell? (.q b 11)=some (.bool false):=hpu▸za hb';have hnx2:=hnext (by rw [ha,hpu];rfl);clear ha hnext;go_wp2;refine wp_region_held_drew (S:=fun w'=>w'.cell? (.q b 11)=some (.bool false)/\w'.cell? (.q b 10)=some (.i t.last)/\w'.cell? (.q b 6)=some (.i t.hor)) kfz ⟨c11,c10,c6⟩ (fun hHeld=> ?_);refine zag (i:=0) (oi:=⟨some 25,.move (.tmp 6),83,"nav.go:271",#[],none⟩) ?_;try simp only [Act.put,sLz]
     refine zag (i:=1) (oi:=⟨some 26,.nilCheck (.tmp 25),0,"nav.go:271",#[⟨0,.data⟩],none⟩) ?_;try simp only [Act.put,sLz]
     refine zag (i:=2) (oi:=⟨some 27,.fieldAddr 85 (.tmp 26) 2,0,"nav.go:271",#[⟨1,.data⟩],none⟩) ?_;try simp only [Act.put,sLz]
     refine zag (i:=3) (oi:=⟨some 28,.load 4 (.tmp 27),4,"nav.go:271",#[⟨2,.data⟩],none⟩) ?_;try simp only [Act.put,sLz]
     refine zag (i:=4) (oi:=⟨some 29,.move (.tmp 28),4,"nav.go:271",#[⟨3,.data⟩],none⟩) ?_;try simp only [Act.put,sLz]
     refine zaG (i:=5) (oi:=⟨some 30,.move (.tmp 1),3,"nav.go:271",#[⟨4,.guard⟩],some (4,true)⟩) ?_;try simp only [Act.put,sLz]
     refine zaG (i:=6) (oi:=⟨some 31,.move (.tmp 6),83,"nav.go:271",#[⟨4,.guard⟩],some (4,true)⟩) ?_;try simp only [Act.put,sLz]
     refine zaG (i:=7) (oi:=⟨some 32,.nilCheck (.tmp 31),0,"nav.go:271",#[⟨6,.data⟩,⟨4,.guard⟩],some (4,true)⟩) ?_;try simp only [Act.put,sLz]
     refine zaG (i:=8) (oi:=⟨some 33,.fieldAddr 85 (.tmp 32) 1,0,"nav.go:271",#[⟨7,.data⟩,⟨4,.guard⟩],some (4,true)⟩) ?_;try simp only [Act.put,sLz]
     refine zaG (i:=9) (oi:=⟨some 34,.fieldAddr 75 (.tmp 33) 1,0,"nav.go:271",#[⟨8,.data⟩,⟨4,.guard⟩],some (4,true)⟩) ?_;try simp only [Act.put,sLz]
     refine zaG (i:=10) (oi:=⟨some 35,.load 3 (.tmp 34),3,"nav.go:271",#[⟨9,.data⟩,⟨4,.guard⟩],some (4,true)⟩) ?_;try simp only [Act.put,sLz]
     refine zaG (i:=11) (oi:=⟨some 36,.binOp .sub 3 (.tmp 30) (.tmp 35) 3,3,"nav.go:271",#[⟨5,.data⟩,⟨10,.data⟩,⟨4,.guard⟩],some (4,true)⟩) ?_;try simp only [Act.put,sLz]
     refine zaG (i:=12) (oi:=⟨some 37,.move (.tmp 6),83,"nav.go:271",#[⟨4,.guard⟩],some (4,true)⟩) ?_;try simp only [Act.put,sLz]
     refine zaG (i:=13) (oi:=⟨some 38,.nilCheck (.tmp 37),0,"nav.go:271",#[⟨12,.data⟩,⟨4,.guard⟩],some (4,true)⟩) ?_;try simp only [Act.put,sLz]
     refine zaG (i:=14) (oi:=⟨some 39,.fieldAddr 85 (.tmp 38) 0,0,"nav.go:271",#[⟨13,.data⟩,⟨4,.guard⟩],some (4,true)⟩) ?_;try simp only [Act.put,sLz]
     refine zaG (i:=15) (oi:=⟨some 40,.fieldAddr 82 (.tmp 39) 3,0,"nav.go:271",#[⟨14,.data⟩,⟨4,.guard⟩],some (4,true)⟩) ?_;try simp only [Act.put,sLz]
     refine zaG (i:=16) (oi:=⟨some 41,.fieldAddr 80 (.tmp 40) 3,0,"nav.go:271",#[⟨15,.data⟩,⟨4,.guard⟩],some (4,true)⟩) ?_;try simp only [Act.put,sLz]
     refine zaG (i:=17) (oi:=⟨some 42,.load 3 (.tmp 41),3,"nav.go:271",#[⟨16,.data⟩,⟨4,.guard⟩],some (4,true)⟩) ?_;try simp only [Act.put,sLz]
     refine zaG (i:=18) (oi:=⟨some 43,.binOp .leq 3 (.tmp 36) (.tmp 42) 3,4,"nav.go:271",#[⟨11,.data⟩,⟨17,.data⟩,⟨4,.guard⟩],some (4,true)⟩) ?_;try simp only [Act.put,sLz]
     refine zag (i:=19) (oi:=⟨some 44,.pick (.tmp 29) (.tmp 43) (.const (.bool false)),4,"nav.go:271",#[⟨4,.data⟩,⟨18,.data⟩],none⟩) ?_;try simp only [Act.put,sLz]
     refine wpAnyH_done kfz ?_ _;go_wp2;exact hnx2
    |true=>
     have c11:W'.drew.cell? (.q b 11)=some (.bool true):=hpu▸za hb';by_cases hlh:max tk p.s.start-t.last<=t.hor
     ·have hany:p.ts.any (ziy p.s tk)=true:=List.any_eq_true.2 ⟨t,htm,by rw [ha,hpu];simpa using hlh⟩
      have e2:Value.bool (decide (max tk p.s.start-t.last<=t.hor))= .bool true:=by rw [decide_eq_true hlh]
      clear ha hnext hlh;go_wp2;go_region_held3(fun w'=>w'.cell? (.q b 11)=some (.bool true)/\w'.cell? (.q b 10)=some (.i t.last)/\w'.cell? (.q b 6)=some (.i t.hor)) (first|(with_reducible exact⟨c11,c10,c6⟩)) (fail)
      go_wp2;go_ret;exact⟨rfl,hBd⟩
     ·have hnx2:=hnext (by rw [ha,hpu];simpa using hlh)
      have e2:Value.bool (decide (max tk p.s.start-t.last<=t.hor))= .bool false:=by rw [decide_eq_false hlh]
      clear ha hnext hlh;go_wp2;go_region_held3(fun w'=>w'.cell? (.q b 11)=some (.bool true)/\w'.cell? (.q b 10)=some (.i t.last)/\w'.cell? (.q b 6)=some (.i t.hor)) (first|(with_reducible exact⟨c11,c10,c6⟩)) (fail)
      go_wp2;exact hnx2
def ztP(l:List (Int×Nat)):Nat->List Nat
 |0=>[]
 |j+1=>ztP l j++(match zcS l j with|some b=>[b]|none=>[])
theorem zBm(l:List (Int×Nat)):∀j,(ztP l j).length<=j
 |0=>Nat.le_refl _
 |j+1=>by
  have:=zBm l j;unfold ztP;split<;>simp<;>omega
theorem zTd:(PP.info? 83).map (fun i=>(i.zero,i.size,i.bytes))=some (some (.pointer none),1,8):=kfz
theorem zRi:PP.underlying 111=some (.slice 83):=kfz
theorem zRj(nb mb:Nat)(l:List (Int×Nat))(p:PS)(hm:mb≠nb)(w:World)(hR:zcO w nb mb l p):
 Calls PP 49 #[ptB nb] w fun e w'=>∃v,e= .returned v/\w'.ownsRow w.heap.size 83 1 v (ztP l 8).length ((ztP l 8).map ptB)/\Below w.heap.size w w':=by
 go_enter Proofs.Tryz.func49,Proofs.Tryz.ntmps49
 obtain⟨i0,hi0,hz0,hz1,hz2⟩:=info_parts zTd;have hpn:=zWJ;go_wp2;go_loopw [3,6] (fun v k wr=>∃j:Nat,j<=8/\k= .i j/\wr.ownsRow w.heap.size 83 1 v (ztP l j).length ((ztP l j).map ptB)/\Below w.heap.size w wr) (fun _ k _=>8-(intOf k).toNat)
 case atStart=>exact⟨0,zc,rfl,World.ownsRow_nil _ _ _ _,Below.refl _ _⟩
 case round=>
  obtain⟨j,hj,rfl,hown,hB⟩:=hrel;by_cases hlt:j<8
  ·have hR1:zcO wr nb mb l p:=hR.chg hm (hR.nav.below hB) (Chg.of hB)
   have c20:=zi 20 hR1.nav rfl;have hlk:=zio hR1.map (j:Int);have hlen:=zBm l j;cases hl:zcS l (j:Int)with
   |none=>
    rw [hl]at hlk;simp only [ptV]at hlk;have e:ztP l (j+1)=ztP l j:=by
     show ztP l j++_=_;rw [hl];simp
    go_wp2;exact⟨⟨j+1,zc,jq,by rw [e];exact hown,hB⟩,by simp [intOf];omega⟩
   |some b=>
    rw [hl]at hlk;simp only [ptV]at hlk;have e:ztP l (j+1)=ztP l j++[b]:=by
     show ztP l j++_=_;rw [hl]
    go_wp2_with(at_builtin
                refine wpList_append_own_at _ rfl _ _ 111 rfl w.heap.size 83 i0 (.pointer none) 1 8 zRi hi0 hz0 hz1 hz2 rfl dcz _ _ _ rfl (hown.alloc _) (.q wr.heap.size 0) 1 1 [ptB b] rfl rfl (cell_one_new _ _ _) (fun u hu=>by rw [List.mem_singleton.1 hu];rfl) (by simp only [maxLen];omega) zc (by have:=hB.size;simp;omega) ?_
                intro v' w1 hown' hgrow hnil hloc)
    have hBa:Below w.heap.size w (wr.alloc (.cells #[ptB b] 83)):=hB.alloc hB.size _
    have hBn:Below w.heap.size w w1:=⟨hgrow.os.trans hBa.os,hgrow.tape.trans hBa.tape,hgrow.output.trans hBa.output,Nat.le_trans hBa.size hgrow.size,fun k hk=>(hgrow.block k (Nat.lt_of_lt_of_le hk hBa.size) (fun hq=>by
     have:=(hown.lt k hq.symm).1
     omega)).trans (hBa.block k hk)⟩
    exact⟨⟨j+1,zc,jq,by rw [e];simpa using hown',hBn⟩,by simp [intOf];omega⟩
  ·obtain rfl:j=8:=zc
   go_wp2;go_ret;exact⟨_,rfl,hown,hB⟩
end Go.Xv
namespace Go.Xv
open Go.RowKit
theorem zTe{a:Int}(ha:zr a)(w:World):Calls PP 102 #[.i a] w fun e w'=>e= .returned (.agg #[.i (hi a),.int .u64 (lo a)])/\Below w.heap.size w w':=by
 refine yc.plain (zAz 200) [.i a] _ ?_ w;obtain⟨hq,q0,q1⟩:=zSe 200 ha;have e:zz zpL ki zaE 200 [.v (.i a)]=some (zaE.ok 200 a,.v (.agg #[.i (zaE.i 0 200 a),.int .u64 (zaE.i 1 200 a)])):=kfz;rw [hq,q0,q1]at e;exact zdE e
theorem zOo(x y:Int)(w:World):Calls PP 101 #[.agg #[.i (hi x),.int .u64 (lo x)],.agg #[.i (hi y),.int .u64 (lo y)]] w fun e w'=>e= .returned (.agg #[.i (hi (x+y)),.int .u64 (lo (x+y))])/\Below w.heap.size w w':=by
 refine yc.plain (zgI 200) [.agg #[.i (hi x),.int .u64 (lo x)],.agg #[.i (hi y),.int .u64 (lo y)]] _ ?_ w;obtain⟨hq,q0,q1⟩:=zt2 200 x y;have e:zz zdS ki4 zv 200 [.v (.agg #[.i (hi x),.int .u64 (lo x)]),.v (.agg #[.i (hi y),.int .u64 (lo y)])]=some (zv.ok 200 (hi x) (lo x) (hi y) (lo y),.v (.agg #[.i (zv.i 0 200 (hi x) (lo x) (hi y) (lo y)),.int .u64 (zv.i 1 200 (hi x) (lo x) (hi y) (lo y))])):=kfz;rw [hq,q0,q1]at e;exact zdE e
theorem zOp{x:Int}(hx:zcr x)(w:World):Calls PP 103 #[.agg #[.i (hi x),.int .u64 (lo x)]] w fun e w'=>e= .returned (.tuple #[.i (zh x),.bool (zw x)])/\Below w.heap.size w w':=by
 refine yc.plain (zqr 200) [.agg #[.i (hi x),.int .u64 (lo x)]] _ ?_ w;obtain⟨hq,q0,q1⟩:=zzA 200 hx;have e:zz zgN ki2 yw 200 [.v (.agg #[.i (hi x),.int .u64 (lo x)])]=some (yw.ok 200 (hi x) (lo x),.v (.tuple #[.i (yw.i 0 200 (hi x) (lo x)),.bool (yw.b 1 200 (hi x) (lo x))])):=kfz;rw [hq,q0,q1]at e;exact zdE e
theorem zYu:hi 0=0:=dcz
theorem zYv:lo 0=0:=dcz
theorem zTf{zs:List Int}{j:Nat}(h:j<zs.length):(zs.take (j+1)).sum=(zs.take j).sum+zs[j]:=by
 rw [List.take_succ_eq_append_getElem h,List.sum_append];simp
theorem zOq:∀(zs:List Int),(∀n∈zs,zr n)-> -9223372036854775808*(zs.length:Int)<=zs.sum/\zs.sum<=9223372036854775807*(zs.length:Int)
 |[],_=>by simp
 |a::r,h=>by
  have ih:=zOq r fun n hn=>h n (List.mem_cons_of_mem _ hn)
  have ha:=h a (List.mem_cons_self ..);unfold zr at ha;simp only [List.sum_cons,List.length_cons];push_cast;omega
theorem zRk(zs:List Int)(hz:∀n∈zs,zr n)(hn:zs.length<=100)(b cap:Nat)(w:World)(hb:∀i (h:i<zs.length),w.cell? (.q b i)=some (.i zs[i])):
 Calls PP 55 #[.slice (some (.q b 0)) zs.length cap] w fun e w'=>e= .returned (.tuple #[.i (zh zs.sum),.bool (zw zs.sum)])/\Below w.heap.size w w':=by
 go_enter Proofs.Tryz.func55,Proofs.Tryz.ntmps55
 have hA:Below w.heap.size w (w.alloc (.cells #[.i 0,.int .u64 0] 139)):=(Below.refl _ _).alloc (Nat.le_refl _) _;have h4:(w.alloc (.cells #[.i 0,.int .u64 0] 139)).heap[w.heap.size]? =some (.cells #[.i (hi ((zs.take 0).sum)),.int .u64 (lo ((zs.take 0).sum))] 139 (0,0)):=by
  rw [show(zs.take 0).sum=0 from jq,zYu,zYv];exact heap_alloc_new w _
 go_wp2;generalize w.alloc (.cells #[.i 0,.int .u64 0] 139)=w2 at*
 obtain⟨x,hx⟩:∃x,x=w.heap.size:=⟨_,rfl⟩;rw [<-hx]at h4⊢;have hx1:w.heap.size<=x:=zc;have hx2:x<=w.heap.size:=zc;clear hx;go_loopw [9] (fun v wr=>∃j:Nat,j<=zs.length/\v= .i j/\wr.heap[x]? =some (.cells #[.i (hi ((zs.take j).sum)),.int .u64 (lo ((zs.take j).sum))] 139 (0,0))/\Below w.heap.size w wr) (fun v _=>zs.length-(intOf v).toNat)
 case atStart=>exact⟨0,zc,rfl,h4,hA⟩
 case round=>
  clear h4 hA;obtain⟨j,hj,rfl,h4,hB⟩:=hrel;by_cases hlt:j<zs.length
  ·have hcb:=hb j hlt
   have hblt:b<w.heap.size:=World.block_lt_of_cell? w _ hcb;have hc:wr.cell? (.q b j)=some (.i zs[j]):=(hB.cell (p:=(.q b _)) hblt).trans hcb;have hzj:=hz zs[j] (List.getElem_mem _);have hof:=fun w=>zTe hzj w
   have had:=fun w=>zOo (zs.take j).sum zs[j] w
   rw [<-zTf hlt]at had;have z0:=zi 0 h4 rfl;have z1:=zi 1 h4 rfl;have hBd:Below w.heap.size w wr.drew:=⟨hB.os,hB.tape,hB.output,hB.size,hB.block⟩;go_wp2;rw [show Op.load 139 (.tmp 4)=ldq 139 (.tmp 4)from rfl];go_region_held3(fun _=>True) (first|trivial)
    (first
      |(go_at_call 102
        refine(hof _).mono ?_;rintro e wa ⟨rfl,hBa⟩;have h5:wa.heap[x]? =some (.cells #[.i (hi ((zs.take j).sum)),.int .u64 (lo ((zs.take j).sum))] 139 (0,0)):=(hBa.block x (zy h4)).trans h4;have y0:=zi 0 h5 rfl
        have y1:=zi 1 h5 rfl)
      |(go_at_call 101
        refine(had _).mono ?_;rintro e wb ⟨rfl,hBb⟩;have h6:wb.heap[x]? =some (.cells #[.i (hi ((zs.take j).sum)),.int .u64 (lo ((zs.take j).sum))] 139 (0,0)):=(hBb.block x (zy h5)).trans h5;have u0:=zi 0 h6 rfl;have u1:=zi 1 h6 rfl;have r0:=zC 0 h6
        have r1:=zC 1 h6))
   all_goals
    go_wp2;have hBB:Below w.heap.size w wb:=(hBd.trans (hBa.mono hBd.size)).trans (hBb.mono (Nat.le_trans hBd.size hBa.size));refine⟨⟨j+1,zc,jq,?_,(hBB.setCell hx1 _).setCell hx1 _⟩,by simp [intOf];omega⟩;have h7:=zf (o:=1) (v:=.int .u64 (lo (zs.take (j+1)).sum)) (zf (o:=0) (v:=.i (hi (zs.take (j+1)).sum)) h6);simpa using h7
  ·obtain rfl:j=zs.length:=zc
   rw [List.take_length]at h4;have hbd:=zOq zs hz;have hcl:=fun w=>zOp (x:=zs.sum) (by unfold zcr;omega) w
   have z0:=zi 0 h4 rfl;have z1:=zi 1 h4 rfl;go_wp2_with(go_at_call 103;refine(hcl _).mono ?_;clear hcl;rintro e w5 ⟨rfl,hB5⟩)
   go_ret2;exact⟨rfl,hB.trans (hB5.mono hB.size)⟩
def Srt(l:List (Int×Nat)):Prop:=l.Pairwise (fun a b=>a.1<b.1)/\∀p∈l,0<=p.1/\p.1<=7
theorem zLK:∀{l:List (Int×Nat)} {k:Int},(∀p∈l,k<p.1)->zcS l k=none
 |[],_,_=>rfl
 |(s,b)::r,k,h=>by
  have:=h (s,b) (List.mem_cons_self ..);unfold zcS;rw [if_neg (by simp only at this;omega)];exact zLK fun p hp=>h p (List.mem_cons_of_mem _ hp)
theorem zHQ{l:List (Int×Nat)}{k:Int}(h:∀p∈l,k<=p.1):l.filter (fun p=>decide (p.1<k))=[]:=by
 rw [List.filter_eq_nil_iff];intro p hp;have:=h p hp;simp;omega
theorem zLL:∀{l:List (Int×Nat)} (k:Int),l.Pairwise (fun a b=>a.1<b.1)->
 (l.filter (fun p=>decide (p.1<k+1))).map (·.2)=(l.filter (fun p=>decide (p.1<k))).map (·.2)++(match zcS l k with|some b=>[b]|none=>[])
 |[],_,_=>rfl
 |(s,b)::r,k,h=>by
  obtain⟨h1,h2⟩:=List.pairwise_cons.1 h;by_cases hs:s<k
  ·rw [List.filter_cons_of_pos (by simp;omega),List.filter_cons_of_pos (by simpa using hs)]
   unfold zcS;rw [if_neg zc];simp only [List.map_cons,List.cons_append];rw [zLL k h2]
  ·rw [List.filter_cons_of_neg (p:=fun p:Int×Nat=>decide (p.1<k)) (by simpa using hs),zHQ (l:=r) (k:=k) fun p hp=>by have:=h1 p hp;simp only at this;omega]
   by_cases he:k=s
   ·subst he
    rw [List.filter_cons_of_pos (by simp;omega),zHQ (l:=r) (k:=k+1) fun p hp=>by have:=h1 p hp;simp only at this;omega];unfold zcS;rw [if_pos rfl];rfl
   ·rw [zHQ (l:=(s,b)::r) (k:=k+1) fun p hp=>by
     rcases List.mem_cons.1 hp with rfl|hp
     ·show k+1<=s
      omega
     ·have:=h1 p hp;simp only at this;omega]
    rw [zLK (l:=(s,b)::r) fun p hp=>by
     rcases List.mem_cons.1 hp with rfl|hp
     ·show k<s
      omega
     ·have:=h1 p hp;simp only at this;omega]
    rfl
theorem zLM{l:List (Int×Nat)}(h:Srt l):∀j:Nat,ztP l j=(l.filter (fun p=>decide (p.1<(j:Int)))).map (·.2)
 |0=>by
  rw [zHQ (k:=((0:Nat):Int)) fun p hp=>by have:=(h.2 p hp).1;simpa using this];rfl
 |j+1=>by
  show ztP l j++_=_;rw [zLM h j,Int.natCast_add,Int.natCast_one,zLL _ h.1]<;>rfl
theorem zLN{l:List (Int×Nat)}(h:Srt l):ztP l 8=l.map (·.2):=by
 rw [zLM h];congr 1
 rw [List.filter_eq_self];intro p hp;have:=(h.2 p hp).2;simp;omega
structure OS where
 p:V3
 hd:Int
 sp:Int
def shT(t:TK):V3:=⟨t.c.x/2^t.wt.toNat,t.c.y/2^t.wt.toNat,t.c.z/2^t.wt.toNat⟩
def zkK(o:OS)(t:TK):OS:=
 if t.kd=2 then{o with p:=⟨o.p.x,o.p.y,zh (o.p.z+(shT t).x)⟩}else if t.kd=3 then{o with hd:=(o.hd+(shT t).x)%4294967296}
 else if t.kd=4 then{o with sp:=zh (o.sp+(shT t).x)}else{o with p:=zwl o.p (shT t)}
def zla(o:OS)(t:TK):Bool:=
 if t.kd=2 then zw (o.p.z+(shT t).x)else if t.kd=3 then false else if t.kd=4 then zw (o.sp+(shT t).x)else zeg o.p (shT t)
def zDH(o:OS)(ts:List TK):OS:=ts.foldl zkK o
def zpY:OS->List TK->Bool
 |_,[]=>false
 |o,t::r=>zla o t||zpY (zkK o t) r
theorem zpZ(o:OS)(ts:List TK)(t:TK):zDH o (ts++[t])=zkK (zDH o ts) t:=by simp [zDH]
theorem zjg:∀(o:OS) (ts:List TK) (t:TK),zpY o (ts++[t])=(zpY o ts||zla (zDH o ts) t)
 |o,[],t=>by simp [zpY,zDH]
 |o,u::r,t=>by
  show(zla o u||zpY (zkK o u) (r++[t]))=(zla o u||zpY (zkK o u) r||_);rw [zjg (zkK o u) r t,Bool.or_assoc];rfl
structure OS.ok (o:OS):Prop where
 p:o.p.I
 sp:zr o.sp
theorem zVU{t:TK}(h:t.c.I):(shT t).I:=by
 have d:∀{a:Int},zr a->zr (a/2^t.wt.toNat):=fun{a} ha=>by
  have hp:(0:Int)<2^t.wt.toNat:=Int.pow_pos zc;generalize(2:Int)^t.wt.toNat=x at*
  unfold zr at*
  rcases(show a<0\/0<=a from zc)with h0|h0
  ·have h1:=Int.mul_nonneg (show 0<= -a from zc) (show 0<=x-1 from zc)
   rw [Int.mul_sub,Int.neg_mul,Int.mul_one]at h1;have h2:a<=a/x:=(Int.le_ediv_iff_mul_le hp).2 zc;have h3:a/x<1:=(Int.ediv_lt_iff_lt_mul hp).2 zc;omega
  ·have h1:=Int.ediv_nonneg h0 (Int.le_of_lt hp)
   have h2:=Int.ediv_le_self x h0;omega
 exact⟨d h.x,d h.y,d h.z⟩
theorem zTh{o:OS}{t:TK}(h:o.ok)(_ht:t.c.I):(zkK o t).ok:=by
 unfold zkK;split
 ·exact⟨⟨h.p.x,h.p.y,jk _⟩,h.sp⟩
 ·split
  ·exact⟨h.p,h.sp⟩
  ·split
   ·exact⟨h.p,jk _⟩
   ·exact⟨zfH _ _,h.sp⟩
theorem zPm{o:OS}{ts:List TK}(h:o.ok)(ht:∀t∈ts,t.c.I):(zDH o ts).ok:=by
 induction ts generalizing o with
 |nil=>exact h
 |cons t r ih=>exact ih (zTh h (ht t (List.mem_cons_self ..))) fun u hu=>ht u (List.mem_cons_of_mem _ hu)
def zBn(s:NS):OS:=⟨s.p,zcQ s.a.m.a3 s.a.m.a0,zh (spZ s)⟩
theorem zPn{s:NS}(h:s.ok):(zBn s).ok:=⟨⟨h.p0,h.p1,h.p2⟩,jk _⟩
def zct(p:PS):OS×PS:=(zDH (zBn p.s) p.ts,⟨p.s.k (zw (spZ p.s)||zpY (zBn p.s) p.ts),p.ts⟩)
abbrev oC(s:NS)(o:OS):Array Value:=#[.i o.p.x,.i o.p.y,.i o.p.z,.i s.v0,.i s.v1,.i s.v2,.int .u32 o.hd,.i o.sp]
theorem zbI{ts:List TK}{j:Nat}{t:TK}(h:ts[j]? =some t):ts.take (j+1)=ts.take j++[t]:=by
 obtain⟨h1,h2⟩:=List.getElem?_eq_some_iff.1 h;rw [List.take_succ_eq_append_getElem h1,h2]
end Go.Xv
