/- A navigator answers, whatever the inertial sensor and the aids tell, what the document says: the law returns true for every input, and leaves its arguments as they were. -/
import Derived.Test.YtdchhmffiiedmaaGreatLNavPlays
import Derived.Test.YtdchhmffiiedmaaGreatLNavPlays10
set_option linter.unusedVariables false
set_option linter.unusedSimpArgs false
set_option maxRecDepth 100000
set_option maxHeartbeats 64000000
open Go.IntKind (wrap)
namespace Go.Xv
open Go.RowKit
structure AtB (nb mb:Nat) (l:List (Int×Nat)) (rb:Nat) (rp:Option Addr) (cap x:Nat) (A:Obj) (w:World) (p1 p2:PS):Prop where
 nav:zcO w nb mb l p1
 ref:zaz w rb rp cap p2
 blk:w.heap[x]? =some A
section
variable{nb mb:Nat}{l:List (Int×Nat)}{rb:Nat}{rp:Option Addr}{cap x:Nat}{A:Obj}
theorem AtB.real{w w':World}{p1 p2 p1':PS}(hS:Sep nb mb l rb rp)(hx: ¬zeI nb l rb x)(h:AtB nb mb l rb rp cap x A w p1 p2)(hN:zcO w' nb mb l p1')(hK:jj (Own nb l) w w'):AtB nb mb l rb rp cap x A w' p1' p2:=
 ⟨hN,zMa hS h.ref hK,(hK.block x (zy h.blk) fun ho=>hx (.inl ho)).trans h.blk⟩
theorem AtB.rf{w w':World}{p1 p2 p2':PS}(hS:Sep nb mb l rb rp)(hx:x≠rb)(h:AtB nb mb l rb rp cap x A w p1 p2)(hR:zaz w' rb rp cap p2')(hC:Chg rb w w'):AtB nb mb l rb rp cap x A w' p1 p2':=
 ⟨zPu hS h.nav hC,hR,(hC.block x (zy h.blk) hx).trans h.blk⟩
theorem AtB.below{w w':World}{p1 p2:PS}(hS:Sep nb mb l rb rp)(h:AtB nb mb l rb rp cap x A w p1 p2)(hB:Below w.heap.size w w'):AtB nb mb l rb rp cap x A w' p1 p2:=
 ⟨zfJ hS.m h.nav hB,h.ref.below hB,(hB.block x (zy h.blk)).trans h.blk⟩
theorem zVf{w:World}{p1 p2:PS}(h:zcO w nb mb l p1)(h2:zaz w rb rp cap p2):∀k,zeI nb l rb k->k<w.heap.size:=by
 intro k hk;rcases hk with(rfl|hk)|rfl
 ·exact h.nav.lt
 ·obtain⟨q,hq,rfl⟩:=List.mem_map.1 hk
  obtain⟨i,hi⟩:=List.getElem?_of_mem hq;obtain⟨t,_,_,h3⟩:=h.trk.blk i q.1 q.2 hi;exact(zy h3)
 ·exact h2.lt
theorem zW4(hS:Sep nb mb l rb rp)(hx: ¬zeI nb l rb x){p1 p2:PS}(hI:Inv p1)(tk:Int)(r:Rd)(hr:r.ok)(f:Nat->Value)(hd:Rd2 f r)(W:World)(h:AtB nb mb l rb rp cap x A W p1 p2):
 Calls PP 13 #[ptB nb,.i tk,.agg (rdA f)] W fun e w'=>e= .returned (.i (zr4 p1.s tk r.kd))/\AtB nb mb l rb rp cap x A w' (⟨zpi p1.s tk r.kd r.gy r.ac,p1.ts⟩) p2/\jj (zeI nb l rb) W w':=by
 refine(zxx nb mb p1.s hI.s hI.st3 tk r.kd r.gy r.ac hr.gy hr.ac f hd.d W h.nav.nav).mono ?_;rintro e w' ⟨rfl,hN,hC⟩;replace hN:=h.nav.chg hS.m hN hC;replace hC:jj (Own nb l) W w':=zzK hC;exact⟨rfl,h.real hS hx hN hC,ztc hC⟩
theorem zVg(hx:x≠rb)(hS:Sep nb mb l rb rp){p1 p2:PS}(hI:Inv p2)(tk:Int)(r:Rd)(hr:r.ok)(f:Nat->Value)(hd:Rd2 f r)(W:World)(h:AtB nb mb l rb rp cap x A W p1 p2):
 Calls PP 27 #[ptB rb,.i tk,.agg (rdA f)] W fun e w'=>e= .returned (.i (zr4 p2.s tk r.kd))/\AtB nb mb l rb rp cap x A w' p1 (⟨zpi p2.s tk r.kd r.gy r.ac,p2.ts⟩)/\jj (zeI nb l rb) W w':=by
 refine(zOC rb rp cap p2 hI.s hI.st2 hI.nw.1 tk r.kd r.gy r.ac hr.gy hr.ac f hd.d W h.ref).mono ?_;rintro e w' ⟨rfl,hR,hC⟩;exact⟨rfl,h.rf hS hx hR hC,ztd hC⟩
theorem zW5(hS:Sep nb mb l rb rp)(hx: ¬zeI nb l rb x){p1 p2:PS}(hI:Inv p1)(sr:Int)(r:Rd)(hr:r.ok)(f:Nat->Value)(hd:Rd2 f r)(W:World)(h:AtB nb mb l rb rp cap x A W p1 p2):
 Calls PP 12 #[ptB nb,.i sr,.agg (rdA f)] W fun e w'=>e= .returned (.tuple #[.agg #[.i (zaJ p1 sr r).1.x,.i (zaJ p1 sr r).1.y,.i (zaJ p1 sr r).1.z],.i (zaJ p1 sr r).2.1,.i (zaJ p1 sr r).2.2.1])/\AtB nb mb l rb rp cap x A w' ((zaJ p1 sr r).2.2.2) p2/\jj (zeI nb l rb) W w':=by
 refine(zRe nb mb l p1 hS.m hI.s hI.t sr r hr f hd W h.nav).mono ?_;rintro e w' ⟨rfl,hN,hC⟩;replace hC:jj (Own nb l) W w':=zzK hC;exact⟨rfl,h.real hS hx hN hC,ztc hC⟩
theorem zVh(hx:x≠rb)(hS:Sep nb mb l rb rp){p1 p2:PS}(hI:Inv p2)(sr:Int)(r:Rd)(hr:r.ok)(f:Nat->Value)(hd:Rd2 f r)(W:World)(h:AtB nb mb l rb rp cap x A W p1 p2):
 Calls PP 28 #[ptB rb,.i sr,.agg (rdA f)] W fun e w'=>e= .returned (.tuple #[.agg #[.i (zaJ p2 sr r).1.x,.i (zaJ p2 sr r).1.y,.i (zaJ p2 sr r).1.z],.i (zaJ p2 sr r).2.1,.i (zaJ p2 sr r).2.2.1])/\AtB nb mb l rb rp cap x A w' p1 ((zaJ p2 sr r).2.2.2)/\jj (zeI nb l rb) W w':=by
 refine(zOD rb rp cap p2 hI.len hI.t hI.s hI.st4 sr r hr f hd W h.ref).mono ?_;rintro e w' ⟨rfl,hR,hC⟩;exact⟨rfl,h.rf hS hx hR hC,ztd hC⟩
theorem zPv(hS:Sep nb mb l rb rp)(hx: ¬zeI nb l rb x){p1 p2:PS}(hI:Inv p1)(sr:Int)(o:V3)(ho:o.I)(tk:Int)(W:World)(h:AtB nb mb l rb rp cap x A W p1 p2):
 Calls PP 14 #[ptB nb,.i sr,.agg #[.i o.x,.i o.y,.i o.z],.i tk] W fun e w'=>e= .returned (.i (zkJ p1 sr o tk).1)/\AtB nb mb l rb rp cap x A w' ((zkJ p1 sr o tk).2) p2/\jj (zeI nb l rb) W w':=by
 refine(zOh nb mb l p1 hS.m hI.t hI.la sr o ho tk W h.nav).mono ?_;rintro e w' ⟨rfl,hN,hC⟩;skip
 exact⟨rfl,h.real hS hx hN hC,ztc hC⟩
theorem zMc(hx:x≠rb)(hS:Sep nb mb l rb rp){p1 p2:PS}(hI:Inv p2)(sr:Int)(o:V3)(ho:o.I)(tk:Int)(W:World)(h:AtB nb mb l rb rp cap x A W p1 p2):
 Calls PP 29 #[ptB rb,.i sr,.agg #[.i o.x,.i o.y,.i o.z],.i tk] W fun e w'=>e= .returned (.i (zkJ p2 sr o tk).1)/\AtB nb mb l rb rp cap x A w' p1 ((zkJ p2 sr o tk).2)/\jj (zeI nb l rb) W w':=by
 refine(zL8 rb rp cap p2 hI.len hI.t hI.la hI.st4 sr o ho tk W h.ref).mono ?_;rintro e w' ⟨rfl,hR,hC⟩;exact⟨rfl,h.rf hS hx hR hC,ztd hC⟩
theorem zVi(hS:Sep nb mb l rb rp)(hx: ¬zeI nb l rb x){p1 p2:PS}(hI:Inv p1)(tk:Int)(W:World)(h:AtB nb mb l rb rp cap x A W p1 p2):
 Calls PP 15 #[ptB nb,.i tk] W fun e w'=>e= .returned (.i (zor p1 tk).1)/\AtB nb mb l rb rp cap x A w' ((zor p1 tk).2) p2/\jj (zeI nb l rb) W w':=by
 refine(zOm nb mb l p1 hS.m hI.t hI.la tk W h.nav).mono ?_;rintro e w' ⟨rfl,hN,hC⟩;skip
 exact⟨rfl,h.real hS hx hN hC,ztc hC⟩
theorem zTA(hx:x≠rb)(hS:Sep nb mb l rb rp){p1 p2:PS}(hI:Inv p2)(tk:Int)(W:World)(h:AtB nb mb l rb rp cap x A W p1 p2):
 Calls PP 30 #[ptB rb,.i tk] W fun e w'=>e= .returned (.i (zor p2 tk).1)/\AtB nb mb l rb rp cap x A w' p1 ((zor p2 tk).2)/\jj (zeI nb l rb) W w':=by
 refine(zL9 rb rp cap p2 hI.len hI.t hI.la hI.srt tk W h.ref).mono ?_;rintro e w' ⟨rfl,hR,hC⟩;exact⟨rfl,h.rf hS hx hR hC,ztd hC⟩
end
end Go.Xv
