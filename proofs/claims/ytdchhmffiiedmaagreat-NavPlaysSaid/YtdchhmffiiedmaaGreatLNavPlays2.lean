/- A navigator answers, whatever the inertial sensor and the aids tell, what the document says: the law returns true for every input, and leaves its arguments as they were. -/
import Derived.Test.YtdchhmffiiedmaaGreatLNavPlays
set_option linter.unusedVariables false
set_option linter.unusedSimpArgs false
set_option maxRecDepth 100000
set_option maxHeartbeats 64000000
open Go.IntKind (wrap)
namespace Go.Xv
abbrev ki4:List Ki:=[.i,.i,.i,.i]
abbrev Qi4:=Qn (Int->Int->Int->Int->Bool) (Int->Int->Int->Int->Int) (Int->Int->Int->Int->Nat) (Int->Int->Int->Int->List VV)
abbrev ki7:List Ki:=[.i,.i,.i,.i,.i,.i,.i]
abbrev Qi7:=Qn (Int->Int->Int->Int->Int->Int->Int->Bool) (Int->Int->Int->Int->Int->Int->Int->Int) (Int->Int->Int->Int->Int->Int->Int->Nat) (Int->Int->Int->Int->Int->Int->Int->List VV)
abbrev zpy:List Ki:=[.i,.i,.i,.i,.i,.i,.i,.i,.i,.i,.c]
abbrev k0:List Ki:=[]
abbrev Q0:=Qn (Bool) (Int) (Nat) (List VV)
abbrev ki2:List Ki:=[.i,.i]
abbrev jQ:=Qn (Int->Int->Bool) (Int->Int->Int) (Int->Int->Nat) (Int->Int->List VV)
abbrev ki:List Ki:=[.i]
abbrev Qi:=Qn (Int->Bool) (Int->Int) (Int->Nat) (Int->List VV)
abbrev ki6:List Ki:=[.i,.i,.i,.i,.i,.i]
abbrev Qi6:=Qn (Int->Int->Int->Int->Int->Int->Bool) (Int->Int->Int->Int->Int->Int->Int) (Int->Int->Int->Int->Int->Int->Nat) (Int->Int->Int->Int->Int->Int->List VV)
abbrev zPT:List Ki:=[.i,.i,.i,.b]
abbrev zBH:=Qn (Int->Int->Int->Bool->Bool) (Int->Int->Int->Bool->Int) (Int->Int->Int->Bool->Nat) (Int->Int->Int->Bool->List VV)
abbrev ziC:List Ki:=[.i,.i,.i,.i,.i,.i,.i,.i,.i,.i,.i,.i,.i,.i,.i,.i,.i,.i,.i,.i,.i,.i,.i,.i,.i,.i,.i,.i,.i,.i,.i,.i,.i,.i,.i,.i,.i]
abbrev ki9:List Ki:=[.i,.i,.i,.i,.i,.i,.i,.i,.i]
abbrev Qi9:=Qn (Int->Int->Int->Int->Int->Int->Int->Int->Int->Bool) (Int->Int->Int->Int->Int->Int->Int->Int->Int->Int) (Int->Int->Int->Int->Int->Int->Int->Int->Int->Nat) (Int->Int->Int->Int->Int->Int->Int->Int->Int->List VV)
abbrev zmy:List Ki:=[.i,.i,.i,.i,.i,.i,.i,.i,.i,.i]
abbrev zXo:=Qn (Int->Int->Int->Int->Int->Int->Int->Int->Int->Int->Bool) (Int->Int->Int->Int->Int->Int->Int->Int->Int->Int->Int) (Int->Int->Int->Int->Int->Int->Int->Int->Int->Int->Nat) (Int->Int->Int->Int->Int->Int->Int->Int->Int->Int->List VV)
abbrev ki3:List Ki:=[.i,.i,.i]
abbrev Qi3:=Qn (Int->Int->Int->Bool) (Int->Int->Int->Int) (Int->Int->Int->Nat) (Int->Int->Int->List VV)
abbrev zuB:List Ki:=[.i,.i,.i,.i,.i,.i,.i,.i,.i,.i,.i,.i,.i,.i,.i,.i,.i,.i,.i,.i,.i,.i,.i,.i,.i,.i,.i,.i,.i,.i,.i,.i,.i,.i,.i,.i,.i,.i,.i,.i,.i]
abbrev zer:List Ki:=[.i,.i,.i,.i,.i,.i,.i,.i,.i,.i,.i,.i,.i,.i,.i,.i,.i,.i,.i,.i,.i,.i,.i,.i,.i,.i,.i,.i,.i,.i,.i,.i,.i,.i,.i,.i,.i,.i,.i,.i,.i,.i,.c,.i,.i,.i]
abbrev zmz:List Ki:=[.i,.i,.i,.i,.i,.i,.i,.i,.i,.i,.i,.i,.i,.i,.i,.i,.i,.i,.i,.i,.i,.i,.i,.i,.i,.i,.i,.i,.i,.i,.i,.i,.i,.i,.i,.i,.i,.c]
abbrev ziO:List Ki:=[.i,.i,.i,.i,.i,.i,.i,.b,.i,.i,.i,.i,.i,.i,.i,.i,.i]
abbrev zcx:List Ki:=[.i,.i,.i,.i,.i,.i,.i,.i,.i,.i,.i,.i,.b,.b,.i,.i,.i,.i,.i,.i,.i,.i,.i,.i,.i,.i,.i,.i,.i,.i,.i,.i,.i,.i,.i,.i,.i,.i,.i,.c]
abbrev zyF:List Ki:=[.i,.i,.i,.i,.i,.i,.i,.i,.i,.i,.i,.i]
abbrev ztM:=Qn (Int->Int->Int->Int->Int->Int->Int->Int->Int->Int->Int->Int->Bool) (Int->Int->Int->Int->Int->Int->Int->Int->Int->Int->Int->Int->Int) (Int->Int->Int->Int->Int->Int->Int->Int->Int->Int->Int->Int->Nat) (Int->Int->Int->Int->Int->Int->Int->Int->Int->Int->Int->Int->List VV)
abbrev zbL:List Ki:=[.i,.i,.i,.i,.i,.i,.i,.i,.i,.i,.i,.i,.i,.i,.i,.i,.i,.i,.b,.b,.i,.i,.i,.i,.i,.i,.i,.i,.i,.i,.i,.i,.i,.i,.i,.i,.i,.i,.i,.i,.i,.i,.i,.i,.i,.i,.i,.i,.i,.i,.i,.i,.i,.i,.i,.i,.i,.c,.i,.i,.i,.i,.i,.i,.i,.i,.i]
abbrev ziD:List Ki:=[.i,.i,.i,.i,.i,.i,.i,.i,.i,.i,.i,.i,.i,.i,.i,.i,.i,.i]
abbrev zBI:=Qn (Int->Int->Int->Int->Int->Int->Int->Int->Int->Int->Int->Int->Int->Int->Int->Int->Int->Int->Bool) (Int->Int->Int->Int->Int->Int->Int->Int->Int->Int->Int->Int->Int->Int->Int->Int->Int->Int->Int) (Int->Int->Int->Int->Int->Int->Int->Int->Int->Int->Int->Int->Int->Int->Int->Int->Int->Int->Nat) (Int->Int->Int->Int->Int->Int->Int->Int->Int->Int->Int->Int->Int->Int->Int->Int->Int->Int->List VV)
abbrev zc1:List Ki:=[.i,.i,.i,.i,.i,.i,.i,.i,.i,.i,.i,.i,.i,.i,.b,.b,.i,.i,.i,.i,.i,.i,.i,.i,.i,.i,.i,.i,.i,.i,.i,.i,.i,.i,.i,.i,.i,.i,.i,.i,.i,.i,.i,.i,.i,.i,.i,.i,.i,.i,.i,.i]
abbrev zhe:List Ki:=[.i,.i,.i,.i,.b,.i,.i,.i,.i,.i,.i,.i,.i,.i]
abbrev zqa:List Ki:=[.i,.i,.i,.i,.b,.i,.i,.i,.i,.i,.i,.i,.i,.i,.i]
abbrev ziP:List Ki:=[.i,.i,.i,.b,.i,.i,.i,.i]
abbrev ki5:List Ki:=[.i,.i,.i,.i,.i]
abbrev Qi5:=Qn (Int->Int->Int->Int->Int->Bool) (Int->Int->Int->Int->Int->Int) (Int->Int->Int->Int->Int->Nat) (Int->Int->Int->Int->Int->List VV)
abbrev yR:List Ki:=[.i,.i,.i,.i,.b,.b,.i,.i,.i,.i,.c]
abbrev j6:List Ki:=[.i,.i,.i,.i,.i,.i,.b,.b,.i,.i,.i,.i,.c]
abbrev zBJ:List Ki:=[.i,.i,.i,.i,.i,.i,.i,.i,.i,.i,.i,.i,.i,.i]
abbrev zXp:=Qn (Int->Int->Int->Int->Int->Int->Int->Int->Int->Int->Int->Int->Int->Int->Bool) (Int->Int->Int->Int->Int->Int->Int->Int->Int->Int->Int->Int->Int->Int->Int) (Int->Int->Int->Int->Int->Int->Int->Int->Int->Int->Int->Int->Int->Int->Nat) (Int->Int->Int->Int->Int->Int->Int->Int->Int->Int->Int->Int->Int->Int->List VV)
abbrev zc2:List Ki:=[.i,.i,.i,.i,.i,.i,.i,.i,.i,.i,.i,.i,.i,.b,.i,.i,.i,.i,.i,.i,.i,.i,.i,.i,.i,.i,.i,.i,.i,.i,.i,.i,.i,.i,.c]
abbrev zpz:List Ki:=[.i,.i,.i,.i,.i,.i,.i,.i,.i,.i,.i,.i,.i]
abbrev zUg:=Qn (Int->Int->Int->Int->Int->Int->Int->Int->Int->Int->Int->Int->Int->Bool) (Int->Int->Int->Int->Int->Int->Int->Int->Int->Int->Int->Int->Int->Int) (Int->Int->Int->Int->Int->Int->Int->Int->Int->Int->Int->Int->Int->Nat) (Int->Int->Int->Int->Int->Int->Int->Int->Int->Int->Int->Int->Int->List VV)
abbrev zpA:List Ki:=[.i,.i,.i,.i,.i,.i,.i,.i,.i,.i,.i]
abbrev zBK:=Qn (Int->Int->Int->Int->Int->Int->Int->Int->Int->Int->Int->Bool) (Int->Int->Int->Int->Int->Int->Int->Int->Int->Int->Int->Int) (Int->Int->Int->Int->Int->Int->Int->Int->Int->Int->Int->Nat) (Int->Int->Int->Int->Int->Int->Int->Int->Int->Int->Int->List VV)
abbrev ki8:List Ki:=[.i,.i,.i,.i,.i,.i,.i,.i]
abbrev Qi8:=Qn (Int->Int->Int->Int->Int->Int->Int->Int->Bool) (Int->Int->Int->Int->Int->Int->Int->Int->Int) (Int->Int->Int->Int->Int->Int->Int->Int->Nat) (Int->Int->Int->Int->Int->Int->Int->Int->List VV)
abbrev zel:List Ki:=[.i,.i,.i,.i,.i,.i,.i,.i,.i,.i,.i,.i,.i,.i,.i,.i,.i,.i,.i,.i,.i,.i,.i,.i,.c]
abbrev zes:List Ki:=[.i,.i,.n,.i,.i,.i,.i,.c]
abbrev zet:List Ki:=[.i,.i,.n,.i,.i,.i,.i,.i,.i,.c]
abbrev zc3:List Ki:=[.i,.i,.i,.i,.n,.n,.n,.i,.i,.i,.i,.i,.i,.i,.i,.c,.c,.c]
abbrev zmA:List Ki:=[.c,.n,.i,.i,.i,.i,.i,.i]
abbrev zmB:List Ki:=[.c,.n,.i,.i,.i,.i,.i,.i,.i]
abbrev kcn:List Ki:=[.c,.n]
abbrev Qcn:=Qn (List VV->Nat->Bool) (List VV->Nat->Int) (List VV->Nat->Nat) (List VV->Nat->List VV)
abbrev zfm:List Ki:=[.i,.i,.n,.i,.i,.i,.i,.i,.i,.i,.c]
abbrev zfn:List Ki:=[.i,.i,.n,.i,.i,.i,.i,.i,.c]
abbrev zcy:List Ki:=[.i,.i,.i,.i,.b,.i,.n,.i,.i,.i,.i,.i,.i,.i,.i,.c,.c]
abbrev zfo:List Ki:=[.i,.i,.i,.n,.i,.i,.i,.i,.i,.i,.c]
abbrev zc4:List Ki:=[.i,.i,.i,.i,.i,.i,.i,.i,.i,.i,.i,.i,.i,.i,.b,.b,.i,.i,.i,.i,.i,.i,.i,.i,.i,.i,.i,.i,.i,.i,.i,.i,.i,.i,.i,.i,.i,.i,.i,.i,.i,.i,.i,.i,.i,.i,.i,.i,.i]
abbrev ziQ:List Ki:=[.i,.n,.i,.i,.i,.i,.i,.i,.i,.c]
abbrev zeR:List Ki:=[.i,.i,.i,.i,.b,.i,.i,.i,.i,.i,.i]
abbrev ziR:List Ki:=[.i,.i,.i,.b,.i,.i,.i,.i,.i]
abbrev zpB:List Ki:=[.i,.i,.i,.i,.i,.i,.i,.i,.i,.i,.i,.i,.i,.i,.i,.i,.i,.i,.i,.i,.i,.i,.i,.i,.i,.i,.i,.i,.i,.i,.c]
abbrev zpC:List Ki:=[.i,.i,.i,.i,.i,.i,.i,.i,.i,.i,.i,.i,.i,.i,.i,.i,.i,.i,.i,.i,.i,.i,.i,.c]
abbrev zbO:List Ki:=[.i,.i,.i,.i,.c,.n,.n,.i,.i,.i,.i,.i,.i,.c,.n,.n]
abbrev zdR:List Ki:=[.i,.i,.i,.i,.c,.n,.n,.i,.i,.i,.i,.i,.i,.c,.n,.n,.i,.i,.i,.i,.i,.i,.i]
abbrev zwQ:List Ki:=[.i,.i,.i,.i,.c,.n,.n]
abbrev zWa:=Qn (Int->Int->Int->Int->List VV->Nat->Nat->Bool) (Int->Int->Int->Int->List VV->Nat->Nat->Int) (Int->Int->Int->Int->List VV->Nat->Nat->Nat) (Int->Int->Int->Int->List VV->Nat->Nat->List VV)
abbrev KO0(r:R)(k:Bool)(o0:Int):Prop:=∀{z0:Int},r=some (.v (.i z0))->k=true/\o0=z0
theorem ko0(r:R){k:Bool}{o0:Int}(h:(fun s:TV=>(okT s r,atI (nth (jV s r) 0))) (.i)=(k,o0):=by kernel_rfl):KO0 r k o0:=by
 intro z0 e;rw [e]at h;dsimp only at h;cases h;refine⟨?_,?_⟩<;>kernel_rfl
abbrev KO1(r:R)(k o0:Bool):Prop:=∀{z0:Bool},r=some (.v (.bool z0))->k=true/\o0=z0
theorem ko1(r:R){k o0:Bool}(h:(fun s:TV=>(okT s r,atB (nth (jV s r) 0))) (.v (.bool))=(k,o0):=by kernel_rfl):KO1 r k o0:=by
 intro z0 e;rw [e]at h;dsimp only at h;cases h;refine⟨?_,?_⟩<;>kernel_rfl
abbrev KO2(r:R)(k:Bool)(o0 o1 o2 o3 o4 o5 o6 o7 o8:Int):Prop:=∀{z0:Int} {z1:Int} {z2:Int} {z3:Int} {z4:Int} {z5:Int} {z6:Int} {z7:Int} {z8:Int},r=some (.v (.agg #[.i z0,.i z1,.i z2,.i z3,.i z4,.i z5,.i z6,.i z7,.i z8]))->k=true/\o0=z0/\o1=z1/\o2=z2/\o3=z3/\o4=z4/\o5=z5/\o6=z6/\o7=z7/\o8=z8
theorem ko2(r:R){k:Bool}{o0 o1 o2 o3 o4 o5 o6 o7 o8:Int}(h:(fun s:TV=>(okT s r,atI (nth (jV s r) 0),atI (nth (jV s r) 1),atI (nth (jV s r) 2),atI (nth (jV s r) 3),atI (nth (jV s r) 4),atI (nth (jV s r) 5),atI (nth (jV s r) 6),atI (nth (jV s r) 7),atI (nth (jV s r) 8))) (.v (.agg [.i,.i,.i,.i,.i,.i,.i,.i,.i]))=(k,o0,o1,o2,o3,o4,o5,o6,o7,o8):=by kernel_rfl):KO2 r k o0 o1 o2 o3 o4 o5 o6 o7 o8:=by
 intro z0 z1 z2 z3 z4 z5 z6 z7 z8 e;rw [e]at h;dsimp only at h;cases h;refine⟨?_,?_,?_,?_,?_,?_,?_,?_,?_,?_⟩<;>kernel_rfl
abbrev KO3(r:R)(k:Bool)(o0 o1 o2 o3 o4 o5 o6 o7 o8 o9:Int):Prop:=∀{z0:Int} {z1:Int} {z2:Int} {z3:Int} {z4:Int} {z5:Int} {z6:Int} {z7:Int} {z8:Int} {z9:Int},r=some (.v (.agg #[.i z0,.i z1,.i z2,.i z3,.i z4,.i z5,.i z6,.i z7,.i z8,.i z9]))->k=true/\o0=z0/\o1=z1/\o2=z2/\o3=z3/\o4=z4/\o5=z5/\o6=z6/\o7=z7/\o8=z8/\o9=z9
theorem ko3(r:R){k:Bool}{o0 o1 o2 o3 o4 o5 o6 o7 o8 o9:Int}(h:(fun s:TV=>(okT s r,atI (nth (jV s r) 0),atI (nth (jV s r) 1),atI (nth (jV s r) 2),atI (nth (jV s r) 3),atI (nth (jV s r) 4),atI (nth (jV s r) 5),atI (nth (jV s r) 6),atI (nth (jV s r) 7),atI (nth (jV s r) 8),atI (nth (jV s r) 9))) (.v (.agg [.i,.i,.i,.i,.i,.i,.i,.i,.i,.i]))=(k,o0,o1,o2,o3,o4,o5,o6,o7,o8,o9):=by kernel_rfl):KO3 r k o0 o1 o2 o3 o4 o5 o6 o7 o8 o9:=by
 intro z0 z1 z2 z3 z4 z5 z6 z7 z8 z9 e;rw [e]at h;dsimp only at h;cases h;refine⟨?_,?_,?_,?_,?_,?_,?_,?_,?_,?_,?_⟩<;>kernel_rfl
abbrev KO4(r:R)(k:Bool)(o0:Int)(o1:Bool):Prop:=∀{z0:Int} {z1:Bool},r=some (.v (.tuple #[.i z0,.bool z1]))->k=true/\o0=z0/\o1=z1
theorem ko4(r:R){k:Bool}{o0:Int}{o1:Bool}(h:(fun s:TV=>(okT s r,atI (nth (jV s r) 0),atB (nth (jV s r) 1))) (.v (.tup [.i,.bool]))=(k,o0,o1):=by kernel_rfl):KO4 r k o0 o1:=by
 intro z0 z1 e;rw [e]at h;dsimp only at h;cases h;refine⟨?_,?_,?_⟩<;>kernel_rfl
abbrev KO5(r:R)(k:Bool)(o0 o1:Int):Prop:=∀{z0:Int} {z1:Int},r=some (.v (.agg #[.i z0,.i z1]))->k=true/\o0=z0/\o1=z1
theorem ko5(r:R){k:Bool}{o0 o1:Int}(h:(fun s:TV=>(okT s r,atI (nth (jV s r) 0),atI (nth (jV s r) 1))) (.v (.agg [.i,.i]))=(k,o0,o1):=by kernel_rfl):KO5 r k o0 o1:=by
 intro z0 z1 e;rw [e]at h;dsimp only at h;cases h;refine⟨?_,?_,?_⟩<;>kernel_rfl
abbrev KO6(r:R)(k:Bool)(o0:Int):Prop:=∀{z0:Int},r=some (.v (.int .u64 z0))->k=true/\o0=z0
theorem ko6(r:R){k:Bool}{o0:Int}(h:(fun s:TV=>(okT s r,atI (nth (jV s r) 0))) (.v (.int .u64))=(k,o0):=by kernel_rfl):KO6 r k o0:=by
 intro z0 e;rw [e]at h;dsimp only at h;cases h;refine⟨?_,?_⟩<;>kernel_rfl
abbrev KO7(r:R)(k:Bool)(o0 o1 o2 o3 o4 o5 o6 o7 o8 o9 o10 o11 o12 o13 o14 o15 o16 o17 o18 o19 o20 o21 o22 o23 o24 o25 o26 o27 o28 o29:Int):Prop:=∀{z0:Int} {z1:Int} {z2:Int} {z3:Int} {z4:Int} {z5:Int} {z6:Int} {z7:Int} {z8:Int} {z9:Int} {z10:Int} {z11:Int} {z12:Int} {z13:Int} {z14:Int} {z15:Int} {z16:Int} {z17:Int} {z18:Int} {z19:Int} {z20:Int} {z21:Int} {z22:Int} {z23:Int} {z24:Int} {z25:Int} {z26:Int} {z27:Int} {z28:Int} {z29:Int},r=some (.v (.agg #[.i z0,.i z1,.i z2,.i z3,.i z4,.i z5,.i z6,.i z7,.i z8,.i z9,.i z10,.i z11,.i z12,.i z13,.i z14,.i z15,.i z16,.i z17,.i z18,.i z19,.i z20,.i z21,.i z22,.i z23,.i z24,.i z25,.i z26,.i z27,.i z28,.i z29]))->k=true/\o0=z0/\o1=z1/\o2=z2/\o3=z3/\o4=z4/\o5=z5/\o6=z6/\o7=z7/\o8=z8/\o9=z9/\o10=z10/\o11=z11/\o12=z12/\o13=z13/\o14=z14/\o15=z15/\o16=z16/\o17=z17/\o18=z18/\o19=z19/\o20=z20/\o21=z21/\o22=z22/\o23=z23/\o24=z24/\o25=z25/\o26=z26/\o27=z27/\o28=z28/\o29=z29
theorem ko7(r:R){k:Bool}{o0 o1 o2 o3 o4 o5 o6 o7 o8 o9 o10 o11 o12 o13 o14 o15 o16 o17 o18 o19 o20 o21 o22 o23 o24 o25 o26 o27 o28 o29:Int}(h:(fun s:TV=>(okT s r,atI (nth (jV s r) 0),atI (nth (jV s r) 1),atI (nth (jV s r) 2),atI (nth (jV s r) 3),atI (nth (jV s r) 4),atI (nth (jV s r) 5),atI (nth (jV s r) 6),atI (nth (jV s r) 7),atI (nth (jV s r) 8),atI (nth (jV s r) 9),atI (nth (jV s r) 10),atI (nth (jV s r) 11),atI (nth (jV s r) 12),atI (nth (jV s r) 13),atI (nth (jV s r) 14),atI (nth (jV s r) 15),atI (nth (jV s r) 16),atI (nth (jV s r) 17),atI (nth (jV s r) 18),atI (nth (jV s r) 19),atI (nth (jV s r) 20),atI (nth (jV s r) 21),atI (nth (jV s r) 22),atI (nth (jV s r) 23),atI (nth (jV s r) 24),atI (nth (jV s r) 25),atI (nth (jV s r) 26),atI (nth (jV s r) 27),atI (nth (jV s r) 28),atI (nth (jV s r) 29))) (.v (.agg [.i,.i,.i,.i,.i,.i,.i,.i,.i,.i,.i,.i,.i,.i,.i,.i,.i,.i,.i,.i,.i,.i,.i,.i,.i,.i,.i,.i,.i,.i]))=(k,o0,o1,o2,o3,o4,o5,o6,o7,o8,o9,o10,o11,o12,o13,o14,o15,o16,o17,o18,o19,o20,o21,o22,o23,o24,o25,o26,o27,o28,o29):=by kernel_rfl):KO7 r k o0 o1 o2 o3 o4 o5 o6 o7 o8 o9 o10 o11 o12 o13 o14 o15 o16 o17 o18 o19 o20 o21 o22 o23 o24 o25 o26 o27 o28 o29:=by
 intro z0 z1 z2 z3 z4 z5 z6 z7 z8 z9 z10 z11 z12 z13 z14 z15 z16 z17 z18 z19 z20 z21 z22 z23 z24 z25 z26 z27 z28 z29 e;rw [e]at h;dsimp only at h;cases h;refine⟨?_,?_,?_,?_,?_,?_,?_,?_,?_,?_,?_,?_,?_,?_,?_,?_,?_,?_,?_,?_,?_,?_,?_,?_,?_,?_,?_,?_,?_,?_,?_⟩<;>kernel_rfl
abbrev KO8(r:R)(k:Bool)(o0:Int):Prop:=∀{z0:Int},r=some (.v (.int .u32 z0))->k=true/\o0=z0
theorem ko8(r:R){k:Bool}{o0:Int}(h:(fun s:TV=>(okT s r,atI (nth (jV s r) 0))) (.v (.int .u32))=(k,o0):=by kernel_rfl):KO8 r k o0:=by
 intro z0 e;rw [e]at h;dsimp only at h;cases h;refine⟨?_,?_⟩<;>kernel_rfl
abbrev KO9(r:R)(k:Bool)(o0 o1:Int):Prop:=∀{z0:Int} {z1:Int},r=some (.v (.agg #[.i z0,.int .u64 z1]))->k=true/\o0=z0/\o1=z1
theorem ko9(r:R){k:Bool}{o0 o1:Int}(h:(fun s:TV=>(okT s r,atI (nth (jV s r) 0),atI (nth (jV s r) 1))) (.v (.agg [.i,.int .u64]))=(k,o0,o1):=by kernel_rfl):KO9 r k o0 o1:=by
 intro z0 z1 e;rw [e]at h;dsimp only at h;cases h;refine⟨?_,?_,?_⟩<;>kernel_rfl
abbrev zXt(r:R)(k:Bool)(o0 o1 o2:Int):Prop:=∀{z0:Int} {z1:Int} {z2:Int},r=some (.v (.tuple #[.agg #[.i z0,.int .u64 z1],.int .u64 z2]))->k=true/\o0=z0/\o1=z1/\o2=z2
theorem zYi(r:R){k:Bool}{o0 o1 o2:Int}(h:(fun s:TV=>(okT s r,atI (nth (jV s r) 0),atI (nth (jV s r) 1),atI (nth (jV s r) 2))) (.v (.tup [.agg [.i,.int .u64],.int .u64]))=(k,o0,o1,o2):=by kernel_rfl):zXt r k o0 o1 o2:=by
 intro z0 z1 z2 e;rw [e]at h;dsimp only at h;cases h;refine⟨?_,?_,?_,?_⟩<;>kernel_rfl
abbrev zWb(r:R)(k:Bool)(o0 o1 o2:Int)(o3:Bool):Prop:=∀{z0:Int} {z1:Int} {z2:Int} {z3:Bool},r=some (.v (.tuple #[.agg #[.i z0,.int .u64 z1],.i z2,.bool z3]))->k=true/\o0=z0/\o1=z1/\o2=z2/\o3=z3
theorem zXu(r:R){k:Bool}{o0 o1 o2:Int}{o3:Bool}(h:(fun s:TV=>(okT s r,atI (nth (jV s r) 0),atI (nth (jV s r) 1),atI (nth (jV s r) 2),atB (nth (jV s r) 3))) (.v (.tup [.agg [.i,.int .u64],.i,.bool]))=(k,o0,o1,o2,o3):=by kernel_rfl):zWb r k o0 o1 o2 o3:=by
 intro z0 z1 z2 z3 e;rw [e]at h;dsimp only at h;cases h;refine⟨?_,?_,?_,?_,?_⟩<;>kernel_rfl
abbrev zWc(r:R)(k:Bool)(o0 o1:Int):Prop:=∀{z0:Int} {z1:Int},r=some (.v (.tuple #[.i z0,.i z1]))->k=true/\o0=z0/\o1=z1
theorem zXv(r:R){k:Bool}{o0 o1:Int}(h:(fun s:TV=>(okT s r,atI (nth (jV s r) 0),atI (nth (jV s r) 1))) (.v (.tup [.i,.i]))=(k,o0,o1):=by kernel_rfl):zWc r k o0 o1:=by
 intro z0 z1 e;rw [e]at h;dsimp only at h;cases h;refine⟨?_,?_,?_⟩<;>kernel_rfl
abbrev zWd(r:R)(k:Bool)(o0 o1 o2 o3 o4 o5 o6 o7 o8 o9:Int):Prop:=∀{z0:Int} {z1:Int} {z2:Int} {z3:Int} {z4:Int} {z5:Int} {z6:Int} {z7:Int} {z8:Int} {z9:Int},r=some (.v (.tuple #[.agg #[.i z0,.i z1,.i z2,.i z3,.i z4,.i z5,.i z6,.i z7,.i z8],.i z9]))->k=true/\o0=z0/\o1=z1/\o2=z2/\o3=z3/\o4=z4/\o5=z5/\o6=z6/\o7=z7/\o8=z8/\o9=z9
theorem zXw(r:R){k:Bool}{o0 o1 o2 o3 o4 o5 o6 o7 o8 o9:Int}(h:(fun s:TV=>(okT s r,atI (nth (jV s r) 0),atI (nth (jV s r) 1),atI (nth (jV s r) 2),atI (nth (jV s r) 3),atI (nth (jV s r) 4),atI (nth (jV s r) 5),atI (nth (jV s r) 6),atI (nth (jV s r) 7),atI (nth (jV s r) 8),atI (nth (jV s r) 9))) (.v (.tup [.agg [.i,.i,.i,.i,.i,.i,.i,.i,.i],.i]))=(k,o0,o1,o2,o3,o4,o5,o6,o7,o8,o9):=by kernel_rfl):zWd r k o0 o1 o2 o3 o4 o5 o6 o7 o8 o9:=by
 intro z0 z1 z2 z3 z4 z5 z6 z7 z8 z9 e;rw [e]at h;dsimp only at h;cases h;refine⟨?_,?_,?_,?_,?_,?_,?_,?_,?_,?_,?_⟩<;>kernel_rfl
abbrev zkR(r:R)(k:Bool)(o0 o1 o2:Int)(o3:Bool):Prop:=∀{z0:Int} {z1:Int} {z2:Int} {z3:Bool},r=some (.v (.tuple #[.agg #[.i z0,.i z1,.i z2],.bool z3]))->k=true/\o0=z0/\o1=z1/\o2=z2/\o3=z3
theorem zll(r:R){k:Bool}{o0 o1 o2:Int}{o3:Bool}(h:(fun s:TV=>(okT s r,atI (nth (jV s r) 0),atI (nth (jV s r) 1),atI (nth (jV s r) 2),atB (nth (jV s r) 3))) (.v (.tup [.agg [.i,.i,.i],.bool]))=(k,o0,o1,o2,o3):=by kernel_rfl):zkR r k o0 o1 o2 o3:=by
 intro z0 z1 z2 z3 e;rw [e]at h;dsimp only at h;cases h;refine⟨?_,?_,?_,?_,?_⟩<;>kernel_rfl
abbrev zRP(r:R)(k:Bool)(o0 o1 o2 o3 o4 o5 o6 o7 o8:Int)(o9:Bool):Prop:=∀{z0:Int} {z1:Int} {z2:Int} {z3:Int} {z4:Int} {z5:Int} {z6:Int} {z7:Int} {z8:Int} {z9:Bool},r=some (.v (.tuple #[.agg #[.i z0,.i z1,.i z2,.i z3,.i z4,.i z5,.i z6,.i z7,.i z8],.bool z9]))->k=true/\o0=z0/\o1=z1/\o2=z2/\o3=z3/\o4=z4/\o5=z5/\o6=z6/\o7=z7/\o8=z8/\o9=z9
theorem zUi(r:R){k:Bool}{o0 o1 o2 o3 o4 o5 o6 o7 o8:Int}{o9:Bool}(h:(fun s:TV=>(okT s r,atI (nth (jV s r) 0),atI (nth (jV s r) 1),atI (nth (jV s r) 2),atI (nth (jV s r) 3),atI (nth (jV s r) 4),atI (nth (jV s r) 5),atI (nth (jV s r) 6),atI (nth (jV s r) 7),atI (nth (jV s r) 8),atB (nth (jV s r) 9))) (.v (.tup [.agg [.i,.i,.i,.i,.i,.i,.i,.i,.i],.bool]))=(k,o0,o1,o2,o3,o4,o5,o6,o7,o8,o9):=by kernel_rfl):zRP r k o0 o1 o2 o3 o4 o5 o6 o7 o8 o9:=by
 intro z0 z1 z2 z3 z4 z5 z6 z7 z8 z9 e;rw [e]at h;dsimp only at h;cases h;refine⟨?_,?_,?_,?_,?_,?_,?_,?_,?_,?_,?_⟩<;>kernel_rfl
abbrev zWe(r:R)(k:Bool)(o0:Int)(o1:Bool):Prop:=∀{z0:Int} {z1:Bool},r=some (.v (.tuple #[.int .u64 z0,.bool z1]))->k=true/\o0=z0/\o1=z1
theorem zXx(r:R){k:Bool}{o0:Int}{o1:Bool}(h:(fun s:TV=>(okT s r,atI (nth (jV s r) 0),atB (nth (jV s r) 1))) (.v (.tup [.int .u64,.bool]))=(k,o0,o1):=by kernel_rfl):zWe r k o0 o1:=by
 intro z0 z1 e;rw [e]at h;dsimp only at h;cases h;refine⟨?_,?_,?_⟩<;>kernel_rfl
abbrev zWf(r:R)(k:Bool)(o0 o1 o2 o3 o4 o5 o6 o7 o8 o9:Int)(o10:Bool):Prop:=∀{z0:Int} {z1:Int} {z2:Int} {z3:Int} {z4:Int} {z5:Int} {z6:Int} {z7:Int} {z8:Int} {z9:Int} {z10:Bool},r=some (.v (.tuple #[.agg #[.i z0,.i z1,.i z2,.i z3,.i z4,.i z5,.i z6,.i z7,.i z8,.i z9],.bool z10]))->k=true/\o0=z0/\o1=z1/\o2=z2/\o3=z3/\o4=z4/\o5=z5/\o6=z6/\o7=z7/\o8=z8/\o9=z9/\o10=z10
theorem zXy(r:R){k:Bool}{o0 o1 o2 o3 o4 o5 o6 o7 o8 o9:Int}{o10:Bool}(h:(fun s:TV=>(okT s r,atI (nth (jV s r) 0),atI (nth (jV s r) 1),atI (nth (jV s r) 2),atI (nth (jV s r) 3),atI (nth (jV s r) 4),atI (nth (jV s r) 5),atI (nth (jV s r) 6),atI (nth (jV s r) 7),atI (nth (jV s r) 8),atI (nth (jV s r) 9),atB (nth (jV s r) 10))) (.v (.tup [.agg [.i,.i,.i,.i,.i,.i,.i,.i,.i,.i],.bool]))=(k,o0,o1,o2,o3,o4,o5,o6,o7,o8,o9,o10):=by kernel_rfl):zWf r k o0 o1 o2 o3 o4 o5 o6 o7 o8 o9 o10:=by
 intro z0 z1 z2 z3 z4 z5 z6 z7 z8 z9 z10 e;rw [e]at h;dsimp only at h;cases h;refine⟨?_,?_,?_,?_,?_,?_,?_,?_,?_,?_,?_,?_⟩<;>kernel_rfl
abbrev zRQ(r:R)(k:Bool)(o0 o1 o2:Int):Prop:=∀{z0:Int} {z1:Int} {z2:Int},r=some (.v (.agg #[.i z0,.i z1,.i z2]))->k=true/\o0=z0/\o1=z1/\o2=z2
theorem zUj(r:R){k:Bool}{o0 o1 o2:Int}(h:(fun s:TV=>(okT s r,atI (nth (jV s r) 0),atI (nth (jV s r) 1),atI (nth (jV s r) 2))) (.v (.agg [.i,.i,.i]))=(k,o0,o1,o2):=by kernel_rfl):zRQ r k o0 o1 o2:=by
 intro z0 z1 z2 e;rw [e]at h;dsimp only at h;cases h;refine⟨?_,?_,?_,?_⟩<;>kernel_rfl
abbrev zWg(r:R)(k:Bool)(o0:Int):Prop:=∀{z0:Int},r=some (.v (.int .i32 z0))->k=true/\o0=z0
theorem zXz(r:R){k:Bool}{o0:Int}(h:(fun s:TV=>(okT s r,atI (nth (jV s r) 0))) (.v (.int .i32))=(k,o0):=by kernel_rfl):zWg r k o0:=by
 intro z0 e;rw [e]at h;dsimp only at h;cases h;refine⟨?_,?_⟩<;>kernel_rfl
abbrev zRR(r:R)(k:Bool)(o0 o1 o2 o3 o4:Int):Prop:=∀{z0:Int} {z1:Int} {z2:Int} {z3:Int} {z4:Int},r=some (.v (.tuple #[.agg #[.i z0,.i z1,.i z2,.i z3],.i z4]))->k=true/\o0=z0/\o1=z1/\o2=z2/\o3=z3/\o4=z4
theorem zUk(r:R){k:Bool}{o0 o1 o2 o3 o4:Int}(h:(fun s:TV=>(okT s r,atI (nth (jV s r) 0),atI (nth (jV s r) 1),atI (nth (jV s r) 2),atI (nth (jV s r) 3),atI (nth (jV s r) 4))) (.v (.tup [.agg [.i,.i,.i,.i],.i]))=(k,o0,o1,o2,o3,o4):=by kernel_rfl):zRR r k o0 o1 o2 o3 o4:=by
 intro z0 z1 z2 z3 z4 e;rw [e]at h;dsimp only at h;cases h;refine⟨?_,?_,?_,?_,?_,?_⟩<;>kernel_rfl
abbrev zXA(r:R)(k:Bool)(o0:List VV)(o1:Nat):Prop:=∀{z0:List VV} {z1:Nat},r=some (.fs z0 0 z1 1)->k=true/\o0=z0/\o1=z1
theorem zYj(r:R){k:Bool}{o0:List VV}{o1:Nat}(h:(fun s:TV=>(okT s r,atC (nth (jV s r) 0),atN (nth (jV s r) 1))) (.fs (.lit 0) .hole 1)=(k,o0,o1):=by kernel_rfl):zXA r k o0 o1:=by
 intro z0 z1 e;rw [e]at h;dsimp only at h;cases h;refine⟨?_,?_,?_⟩<;>kernel_rfl
abbrev HHz(d:Sg)(l:List Ki)(S:FuncId->List VV->Option (Bool×VV))(C:Cfg)(W:List LW)(f:Nat)(g:Fn l R):Prop:=aQ l fun q=>zPJ PP S C (zwO C W) (zES []) f (fTs d.i q).1=uQ _ g q
theorem gzz{C:Cfg}{f:Nat}{d:Sg}{l:List Ki}{g:Nat->Fn l R}{L:List (FuncId×(List VV->Option (Bool×VV)))}(F:Nat)(h:HHz d l (zS L) C [] f (g F))(hS:∀p∈L,yc PP p.1 (unS p.2))(hf:PP.follows .mixedOrders=true:=by kernel_rfl)
 (hname:(PP.funcs[f]?).all (fun fn=> !(fn.name== "runtime.NumGoroutine"))=true:=by kernel_rfl) (hl:zjj PP f=[]:=by kernel_rfl) (hj:zli PP C f=[]:=by kernel_rfl)
 (hi:∀q,(fTs d.i (nQ l q)).1=(fTs d.i q).1:=by intro _;kernel_rfl) (ho:∀q,(fT d.o (nQ (kT d.o) q)).1=(fT d.o q).1:=by intro _;kernel_rfl):yc PP f (unS (zz d l (mkQ d.o g) F)):=
 gG (S:=zS L) (C:=C) (W:=fun _=>[]) (V:=fun _=>[]) (g:=g) F (zuz hS) hf hname (jP [] hl zn) (zIA [] hj zn) hi ho h
theorem gzl{C:Cfg}{f:Nat}{d:Sg}{l:List Ki}{g:Nat->Fn l R}{L:List (FuncId×(List VV->Option (Bool×VV)))}{W:Nat->List LW}(F:Nat)(h:HHz d l (zS L) C (W F) f (g F))(hS:∀p∈L,yc PP p.1 (unS p.2))(hl:∀p∈zjj PP f,zp8 PP (zS L) C F (zwO C (W F)) (zES []) p)(hf:PP.follows .mixedOrders=true:=by kernel_rfl)
 (hname:(PP.funcs[f]?).all (fun fn=> !(fn.name== "runtime.NumGoroutine"))=true:=by kernel_rfl) (hj:zli PP C f=[]:=by kernel_rfl)
 (hi:∀q,(fTs d.i (nQ l q)).1=(fTs d.i q).1:=by intro _;kernel_rfl) (ho:∀q,(fT d.o (nQ (kT d.o) q)).1=(fT d.o q).1:=by intro _;kernel_rfl):yc PP f (unS (zz d l (mkQ d.o g) F)):=
 gG (S:=zS L) (C:=C) (W:=W) (V:=fun _=>[]) (g:=g) F (zuz hS) hf hname hl (zIA [] hj zn) hi ho h
theorem zdE{g:List VV->Option (Bool×VV)}{l:List VV}{r:VV}(e:g l=some (true,r)):unS g l=some r:=by unfold unS;rw [e]
def zMK:Cfg:=⟨[0,1,2,3,4,5,6,22],[],[],[]⟩
def zdS:Sg:=⟨[.v (.agg [.i,.int .u64]),.v (.agg [.i,.int .u64])],.v (.agg [.i,.int .u64])⟩
def zML(F:Nat):=zS []
def zmC(F:Nat):FT ki4:=fun d b e g=>let a:Int:=wrap .u64 (b+g);let c:Int:=wrap .u64 ((wrap .u64 d)+(wrap .u64 e));bif(decide (a<b))then some (.v (.agg #[.i (wrap .i64 (wrap .u64 (c+1))),.int .u64 a]))else some (.v (.agg #[.i (wrap .i64 c),.int .u64 a]))
def zv:Qi4:=mkQ (l:=ki4) zdS.o zmC
theorem zMM(F:Nat):HHz zdS ki4 (zML F) zMK [] 101 (zmC F):=hzz
theorem zqb(F:Nat)(a b c d:Int):KO9 (zmC F a b c d) (zv.ok F a b c d) (zv.i 0 F a b c d) (zv.i 1 F a b c d):=ko9 _
theorem zgI(F:Nat):yc PP 101 (unS (zz zdS ki4 zv F)):=
 gzz F (zMM F) (zn)
def zIJ:Cfg:=⟨[0,2,4],[],[],[]⟩
def zj8:Sg:=⟨[.i],.v (.int .u64)⟩
def zIK(F:Nat):=zS []
def zj9(F:Nat):FT ki:=fun a=>bif(decide (a<0))then some (.v (.int .u64 (wrap .u64 (0-(wrap .u64 a)))))else some (.v (.int .u64 (wrap .u64 a)))
def jT:Qi:=mkQ (l:=ki) zj8.o zj9
theorem zIL(F:Nat):HHz zj8 ki (zIK F) zIJ [] 160 (zj9 F):=hzz
theorem zse(F:Nat)(a:Int):KO6 (zj9 F a) (jT.ok F a) (jT.i 0 F a):=ko6 _
theorem zx0(F:Nat):yc PP 160 (unS (zz zj8 ki jT F)):=
 gzz F (zIL F) (zn)
def zAh:Cfg:=⟨[0,1,4,5,6,7,8,9,10],[],[],[]⟩
def zhf:Sg:=⟨[.v (.int .u64),.v (.int .u64)],.v (.agg [.i,.int .u64])⟩
def zAi(F:Nat):=zS []
def ze0(F:Nat):FT ki2:=fun c d=>
 let e:Int:=(Int.fdiv c (4294967296))
 let a:Int:=(zmw .u64 c 4294967295)
 let g:Int:=(Int.fdiv d (4294967296))
 let b:Int:=(zmw .u64 d 4294967295)
 let h:Int:=(wrap .u64 ((wrap .u64 (e*b))+(Int.fdiv (wrap .u64 (a*b)) (4294967296))))
 let l:Int:=(wrap .u64 ((zmw .u64 h 4294967295)+(wrap .u64 (a*g))))
 some (.v (.agg #[.i (wrap .i64 (wrap .u64 ((wrap .u64 ((wrap .u64 (e*g))+(Int.fdiv h (4294967296))))+(Int.fdiv l (4294967296))))),.int .u64 (orI .u64 (wrap .u64 (l*4294967296)) (zmw .u64 (wrap .u64 (a*b)) 4294967295))]))
def za0:jQ:=mkQ (l:=ki2) zhf.o ze0
theorem zAj(F:Nat):HHz zhf ki2 (zAi F) zAh [] 175 (ze0 F):=hzz
theorem zAk(F:Nat)(a b:Int):KO9 (ze0 F a b) (za0.ok F a b) (za0.i 0 F a b) (za0.i 1 F a b):=ko9 _
theorem zAl(F:Nat):yc PP 175 (unS (zz zhf ki2 za0 F)):=
 gzz F (zAj F) (zn)
def zMN:Cfg:=⟨[0,1,2],[],[],[]⟩
def ziS:Sg:=⟨[.v (.agg [.i,.int .u64])],.v (.agg [.i,.int .u64])⟩
def zMO(zv:Qi4)(F:Nat):=zS [(101,zz zdS ki4 zv F)]
def zsf(zv:Qi4)(F:Nat):FT ki2:=fun c d=>let a:Int:=zpx .i64 (-1) c;let b:Int:=zpx .u64 18446744073709551615 d;bif(zv.ok F a b 0 1)then some (.v (.agg #[.i (zv.i 0 F a b 0 1),.int .u64 (zv.i 1 F a b 0 1)]))else none
def zqc:=zsf zv
def yl:jQ:=mkQ (l:=ki2) ziS.o zqc
theorem zMP(zv:Qi4)(F:Nat):HHz ziS ki2 (zMO zv F) zMN [] 158 (zsf zv F):=hzz
theorem zuC(F:Nat)(a b:Int):KO9 (zqc F a b) (yl.ok F a b) (yl.i 0 F a b) (yl.i 1 F a b):=ko9 _
theorem zuD(F:Nat):yc PP 158 (unS (zz ziS ki2 yl F)):=
 gzz F (zMP zv F) (zd (zgI F) zn)
def zMQ:Cfg:=⟨[0,1,4,5,15],[],[7,9],[]⟩
def zmD:Sg:=⟨[.i,.i],.v (.agg [.i,.int .u64])⟩
def zMR(jT:Qi)(za0 yl:jQ)(F:Nat):=zS [(160,zz zj8 ki jT F),(175,zz zhf ki2 za0 F),(158,zz ziS ki2 yl F)]
def zsg(jT:Qi)(za0 yl:jQ)(F:Nat):FT ki2:=fun c d=>bif(jT.ok F c)then let e:Int:=jT.i 0 F c;bif(jT.ok F d)then let g:Int:=jT.i 0 F d;bif(za0.ok F e g)then let a:Int:=za0.i 0 F e g;let b:Int:=za0.i 1 F e g;bif(!((decide (c<0))==(decide (d<0))))then bif(yl.ok F a b)then some (.v (.agg #[.i (yl.i 0 F a b),.int .u64 (yl.i 1 F a b)]))else none else some (.v (.agg #[.i a,.int .u64 b]))else none else none else none
def zqd:=zsg jT za0 yl
def j7:jQ:=mkQ (l:=ki2) zmD.o zqd
theorem zMS(jT:Qi)(za0 yl:jQ)(F:Nat):HHz zmD ki2 (zMR jT za0 yl F) zMQ [] 157 (zsg jT za0 yl F):=hzz
theorem zMT(F:Nat)(a b:Int):KO9 (zqd F a b) (j7.ok F a b) (j7.i 0 F a b) (j7.i 1 F a b):=ko9 _
theorem zAm(F:Nat):yc PP 157 (unS (zz zmD ki2 j7 F)):=
 gzz F (zMS jT za0 yl F) (zd (zx0 F) (zd (zAl F) (zd (zuD F) zn)))
theorem bp{α:Type}{c:Bool}{a b x:α}(h:c=true)(h2:a=x):(bif c then a else b)=x:=by rw [h];exact h2
theorem bn{α:Type}{c:Bool}{a b x:α}(h:c=false)(h2:b=x):(bif c then a else b)=x:=by rw [h];exact h2
theorem dt{p:Prop} [Decidable p](h:p):decide p=true:=decide_eq_true h
theorem df{p:Prop} [Decidable p](h: ¬p):decide p=false:=decide_eq_false h
theorem zdF(a:Int){b:Int}(h:0<=b):Int.fdiv a b=a/b:=Int.fdiv_eq_ediv_of_nonneg a h
theorem zd6{k:IntKind}{a b:Int}(h:a=b):(some (VV.v (.int k a)):R)=some (.v (.int k b)):=by rw [h]
theorem zcT{a b z:Int}(h:a=hi z)(k:b=lo z):(some (VV.v (.agg #[.i a,.int .u64 b])):R)=some (wd z):=by rw [h,k];rfl
theorem zMU(F:Nat){a:Int}(h:zr a):zj9 F a=some (.v (.int .u64 (if a<0 then-a else a))):=by
 unfold zj9;unfold zr at h;by_cases h0:a<0
 ·refine bp (dt h0) (zd6 ?_)
  rw [if_pos h0,zd2,zd2];omega
 ·refine bn (df h0) (zd6 ?_)
  rw [if_neg h0,zd2];omega
theorem zPV(F:Nat){a b:Int}(ha:U64 a)(hb:U64 b):ze0 F a b=some (wd (a*b)):=by
 unfold ze0;unfold U64 at ha hb;have ea:a=a/4294967296*4294967296+a%4294967296:=zc;have eb:b=b/4294967296*4294967296+b%4294967296:=zc;have hp:0<=a/4294967296/\a/4294967296<=4294967295:=zc;have hq:0<=a%4294967296/\a%4294967296<=4294967295:=zc;have hr:0<=b/4294967296/\b/4294967296<=4294967295:=zc;have hs:0<=b%4294967296/\b%4294967296<=4294967295:=zc;have hab:a*b=(a/4294967296)*(b/4294967296)*18446744073709551616+((a/4294967296)*(b%4294967296)+(a%4294967296)*(b/4294967296))*4294967296+(a%4294967296)*(b%4294967296):=by
  generalize a/4294967296=p at*
  generalize a%4294967296=q at*
  generalize b/4294967296=r at*
  generalize b%4294967296=s at*
  subst ea eb;simp only [Int.add_mul,Int.mul_add];have:p*4294967296*(r*4294967296)=p*r*18446744073709551616:=by
   rw [show(18446744073709551616:Int)=4294967296*4294967296 from dcz];simp only [Int.mul_comm,Int.mul_assoc,Int.mul_left_comm]
  have:p*4294967296*s=p*s*4294967296:=by simp only [Int.mul_comm,Int.mul_assoc,Int.mul_left_comm]
  have:q*(r*4294967296)=q*r*4294967296:=by simp only [Int.mul_assoc]
  omega
 have bd:∀x y:Int,(0<=x/\x<=4294967295)->(0<=y/\y<=4294967295)->0<=x*y/\x*y<=18446744065119617025:=by
  intro x y hx hy;have h1:=Int.mul_nonneg hx.1 hy.1;have h2:x*y<=4294967295*4294967295:=Int.mul_le_mul hx.2 hy.2 hy.1 dcz;exact⟨h1,by simpa using h2⟩
 have b1:=bd _ _ hp hr;have b2:=bd _ _ hp hs;have b3:=bd _ _ hq hr;have b4:=bd _ _ hq hs;have m1:∀x,U64 x->zmw .u64 x 4294967295=x%4294967296:=fun x hx=>zAe hx
 simp only [zdF _ (show(0:Int)<=4294967296 from dcz)];rw [m1 a ha,m1 b hb];rw [hab];clear hab ea eb;generalize a/4294967296*(b/4294967296)=pr at*
 generalize a/4294967296*(b%4294967296)=ps at*
 generalize a%4294967296*(b/4294967296)=qr at*
 generalize a%4294967296*(b%4294967296)=qs at*
 rw [zbz (x:=qs) (by unfold U64;omega),zbz (x:=ps) (by unfold U64;omega),zbz (x:=qr) (by unfold U64;omega),zbz (x:=pr) (by unfold U64;omega)];rw [zbz (x:=ps+qs/4294967296) (by unfold U64;omega)];rw [m1 _ (show U64 (ps+qs/4294967296) by unfold U64;omega),m1 qs (by unfold U64;omega)];rw [zbz (x:=(ps+qs/4294967296)%4294967296+qr) (by unfold U64;omega)];have e:wrap .u64 (((ps+qs/4294967296)%4294967296+qr)*4294967296)=(((ps+qs/4294967296)%4294967296+qr)%4294967296)*(2^32:Nat):=by
  rw [zd2];omega
 rw [e,ziN 32 zc zc zc zc];refine zcT ?_ ?_
 ·simp only [zd2,zlj];unfold hi;omega
 ·unfold lo;omega
theorem zOV(F:Nat){a b c d:Int}(hb:U64 b)(hd:U64 d):zmC F a b c d=some (wd (val a b+val c d)):=by
 unfold zmC;unfold U64 at hb hd;simp only [zd2,zlj];by_cases h:(b+d)%18446744073709551616<b
 ·refine bp (dt h) (zcT ?_ ?_)
  ·unfold hi val;omega
  ·unfold lo val;omega
 ·refine bn (df h) (zcT ?_ ?_)
  ·unfold hi val;omega
  ·unfold lo val;omega
theorem zRS(F:Nat){a b:Int}(ha:zr a)(hb:U64 b):zqc F a b=some (wd (-val a b)):=by
 unfold zqc zsf;rw [zUc ha,zUb hb];unfold U64 at hb;obtain⟨h1,h2,h3⟩:=zqb F _ _ _ _ (zOV F (a:= -1-a) (b:=18446744073709551615-b) (c:=0) (d:=1) (by unfold U64;omega) (by unfold U64;omega));refine bp h1 ?_;rw [h2,h3];refine zcT (zhc ?_) (zhb ?_)
 all_goals unfold Eqv val;omega
theorem zXB(F:Nat){a b:Int}(ha:zr a)(hb:zr b):zqd F a b=some (wd (a*b)):=by
 unfold zqd zsg;obtain⟨h1,h2⟩:=zse F a (zMU F ha);obtain⟨h3,h4⟩:=zse F b (zMU F hb);unfold zr at ha hb;refine bp h1 (bp h3 ?_);simp only [h2,h4];obtain⟨p1,p2,p3⟩:=zAk F _ _ (zPV F (a:=if a<0 then-a else a) (b:=if b<0 then-b else b) (by unfold U64;split<;>omega) (by unfold U64;split<;>omega));refine bp p1 ?_;simp only [p2,p3];have neg:∀z:Int,(bif yl.ok F (hi z) (lo z)then(some (.v (.agg #[.i (yl.i 0 F (hi z) (lo z)),.int .u64 (yl.i 1 F (hi z) (lo z))])):R)else none)=some (wd (-z)):=by
  intro z;obtain⟨n1,n2,n3⟩:=zuC F _ _ (zRS F (zwP z) (zeZ z));refine bp n1 ?_;rw [n2,n3,zce];exact zcT (zhc (zhd z).neg) (zhb (zhd z).neg)
 by_cases h0:a<0<;>by_cases k0:b<0
 ·simp only [h0,k0,decide_true,if_true,BEq.rfl,Bool.not_true,cond_false,Int.neg_mul_neg];rfl
 ·simp only [h0,k0,decide_true,decide_false,if_true,if_false]
  refine bp dcz ?_;rw [neg,Int.neg_mul,Int.neg_neg]
 ·simp only [h0,k0,decide_true,decide_false,if_true,if_false]
  refine bp dcz ?_;rw [neg,Int.mul_neg,Int.neg_neg]
 ·simp only [h0,k0,decide_false,if_false,BEq.rfl,Bool.not_true,cond_false];rfl
def zMV:Cfg:=⟨[0,2,4],[],[],[]⟩
def zc8:Sg:=⟨[.i],.v (.agg [.i,.int .u64])⟩
def zMW(F:Nat):=zS []
def zmE(F:Nat):FT ki:=fun a=>bif(decide (a<0))then some (.v (.agg #[.i (-1),.int .u64 (wrap .u64 a)]))else some (.v (.agg #[.i 0,.int .u64 (wrap .u64 a)]))
def zo:Qi:=mkQ (l:=ki) zc8.o zmE
theorem zMX(F:Nat):HHz zc8 ki (zMW F) zMV [] 81 (zmE F):=hzz
theorem zAn(F:Nat)(a:Int):KO9 (zmE F a) (zo.ok F a) (zo.i 0 F a) (zo.i 1 F a):=ko9 _
theorem ze1(F:Nat):yc PP 81 (unS (zz zc8 ki zo F)):=
 gzz F (zMX F) (zn)
def zIM:Cfg:=⟨[0,1,2,4,7,11],[],[],[]⟩
def ze2:Sg:=⟨[.v (.agg [.i,.int .u64]),.i],.v (.agg [.i,.int .u64])⟩
def zIN(F:Nat):=zS []
def zka(F:Nat):FT ki3:=fun g b c=>let a:Int:=if 0>c then 0 else c;bif(decide (a>=128))then some (.v (.agg #[.i 0,.int .u64 0]))else bif(decide (a>=64))then let d:Int:=wrap .i64 (a-64);bif(!(decide (d<0)))then some (.v (.agg #[.i (wrap .i64 (wrap .u64 (b*2^(min (Int.toNat d) 64)))),.int .u64 0]))else none else bif(!(decide (a<0)))then let e:Int:=wrap .i64 (64-a);bif(!(decide (e<0)))then bif(!(decide (a<0)))then some (.v (.agg #[.i (wrap .i64 (orI .u64 (wrap .u64 ((wrap .u64 g)*2^(min (Int.toNat a) 64))) (Int.fdiv b (2^(min (Int.toNat e) 64))))),.int .u64 (wrap .u64 (b*2^(min (Int.toNat a) 64)))]))else none else none else none
def zN:Qi3:=mkQ (l:=ki3) ze2.o zka
theorem zIO(F:Nat):HHz ze2 ki3 (zIN F) zIM [] 129 (zka F):=hzz
theorem zx1(F:Nat)(a b c:Int):KO9 (zka F a b c) (zN.ok F a b c) (zN.i 0 F a b c) (zN.i 1 F a b c):=ko9 _
theorem znA(F:Nat):yc PP 129 (unS (zz ze2 ki3 zN F)):=
 gzz F (zIO F) (zn)
def zIP:Cfg:=⟨[0,1,2,3,4,9],[],[],[]⟩
def znB:Sg:=⟨[.v (.agg [.i,.int .u64]),.v (.agg [.i,.int .u64])],.v (.bool)⟩
def zIQ(F:Nat):=zS []
def zkb(F:Nat):FT ki4:=fun a c b d=>bif(a !=b)then some (.v (.bool (decide (a<b))))else some (.v (.bool (decide (c<d))))
def zbo:Qi4:=mkQ (l:=ki4) znB.o zkb
theorem zIR(F:Nat):HHz znB ki4 (zIQ F) zIP [] 188 (zkb F):=hzz
theorem zIS(F:Nat)(a c d e:Int):KO1 (zkb F a c d e) (zbo.ok F a c d e) (zbo.b 0 F a c d e):=ko1 _
theorem zIT(F:Nat):yc PP 188 (unS (zz znB ki4 zbo F)):=
 gzz F (zIR F) (zn)
def zPW:Cfg:=⟨[0,2],[],[],[]⟩
def zml:Sg:=⟨[.i],.v (.agg [.i,.int .u64])⟩
def zPX(F:Nat):=zS []
def zpE(F:Nat):FT ki:=fun a=>
 some (.v (.agg #[.i (Int.fdiv a (9223372036854775808)),.int .u64 (wrap .u64 a)]))
def jf:Qi:=mkQ (l:=ki) zml.o zpE
theorem zPY(F:Nat):HHz zml ki (zPX F) zPW [] 142 (zpE F):=hzz
theorem zD8(F:Nat)(a:Int):KO9 (zpE F a) (jf.ok F a) (jf.i 0 F a) (jf.i 1 F a):=ko9 _
theorem zwR(F:Nat):yc PP 142 (unS (zz zml ki jf F)):=
 gzz F (zPY F) (zn)
def zE1:Cfg:=⟨[0,1,2,4,8],[],[],[]⟩
def zlm:Sg:=⟨[.v (.agg [.i,.int .u64]),.i],.v (.agg [.i,.int .u64])⟩
def zE2(jf:Qi)(F:Nat):=zS [(142,zz zml ki jf F)]
def zow(jf:Qi)(F:Nat):FT ki3:=fun b l d=>let e:Int:=if 0>d then 0 else d;let a:Int:=if 127<e then 127 else e;bif(decide (a>=64))then let g:Int:=wrap .i64 (a-64);bif(!(decide (g<0)))then let c:Int:=Int.fdiv b (2^(min (Int.toNat g) 64));bif(jf.ok F c)then some (.v (.agg #[.i (jf.i 0 F c),.int .u64 (jf.i 1 F c)]))else none else none else bif(!(decide (a<0)))then bif(!(decide (a<0)))then let h:Int:=wrap .i64 (64-a);bif(!(decide (h<0)))then some (.v (.agg #[.i (Int.fdiv b (2^(min (Int.toNat a) 64))),.int .u64 (orI .u64 (Int.fdiv l (2^(min (Int.toNat a) 64))) (wrap .u64 ((wrap .u64 b)*2^(min (Int.toNat h) 64))))]))else none else none else none
def zln:=zow jf
def zbc:Qi3:=mkQ (l:=ki3) zlm.o zln
theorem zE3(jf:Qi)(F:Nat):HHz zlm ki3 (zE2 jf F) zE1 [] 174 (zow jf F):=hzz
theorem zvC(F:Nat)(a b c:Int):KO9 (zln F a b c) (zbc.ok F a b c) (zbc.i 0 F a b c) (zbc.i 1 F a b c):=ko9 _
theorem zE4(F:Nat):yc PP 174 (unS (zz zlm ki3 zbc F)):=
 gzz F (zE3 jf F) (zd (zwR F) zn)
def zIU:Cfg:=⟨[0,1,2,4,8],[],[12],[]⟩
def zkc:Sg:=⟨[.v (.agg [.i,.int .u64]),.i],.v (.agg [.i,.int .u64])⟩
def zIV(zbc:Qi3)(zv:Qi4)(F:Nat):=zS [(174,zz zlm ki3 zbc F),(101,zz zdS ki4 zv F)]
def zqe(zbc:Qi3)(zv:Qi4)(F:Nat):FT ki3:=fun a b h=>let c:Int:=if 127<h then 127 else h;bif(decide (c<=0))then some (.v (.agg #[.i a,.int .u64 b]))else bif(zbc.ok F a b c)then let d:Int:=zbc.i 0 F a b c;let e:Int:=zbc.i 1 F a b c;let l:Int:=wrap .i64 (c-1);bif(zbc.ok F a b l)then let g:Int:=zmw .u64 (zbc.i 1 F a b l) 1;bif(zv.ok F d e 0 g)then some (.v (.agg #[.i (zv.i 0 F d e 0 g),.int .u64 (zv.i 1 F d e 0 g)]))else none else none else none
def znC:=zqe zbc zv
def jy:Qi3:=mkQ (l:=ki3) zkc.o znC
theorem zIW(zbc:Qi3)(zv:Qi4)(F:Nat):HHz zkc ki3 (zIV zbc zv F) zIU [] 156 (zqe zbc zv F):=hzz
theorem zIX(F:Nat)(a b c:Int):KO9 (znC F a b c) (jy.ok F a b c) (jy.i 0 F a b c) (jy.i 1 F a b c):=ko9 _
theorem zx2(F:Nat):yc PP 156 (unS (zz zkc ki3 jy F)):=
 gzz F (zIW zbc zv F) (zd (zE4 F) (zd (zgI F) zn))
def zIY:Cfg:=⟨[0,1,2,3,7],[],[],[]⟩
def znD:Sg:=⟨[.v (.agg [.i,.int .u64])],.i⟩
def zIZ(F:Nat):=zS []
def zkd(F:Nat):FT ki2:=fun a b=>bif(decide (a<0))then some (.v (.i (-1)))else bif((a==0)&&(b==0))then some (.v (.i 0))else some (.v (.i 1))
def zbd:jQ:=mkQ (l:=ki2) znD.o zkd
theorem zI0(F:Nat):HHz znD ki2 (zIZ F) zIY [] 186 (zkd F):=hzz
theorem zI1(F:Nat)(a b:Int):KO0 (zkd F a b) (zbd.ok F a b) (zbd.i 0 F a b):=ko0 _
theorem zI2(F:Nat):yc PP 186 (unS (zz znD ki2 zbd F)):=
 gzz F (zI0 F) (zn)
theorem zeJ{a b:Bool}(h:a=b):(some (VV.v (.bool a)):R)=some (.v (.bool b)):=by rw [h]
theorem nn(k:Nat):(!decide ((k:Int)<0))=true:=by rw [df zc];rfl
theorem zD9{m:Nat}(h:m<=64):min (Int.toNat (m:Int)) 64=m:=zc
theorem zXC(F:Nat){n:Int}(h:zr n):zpE F n=some (wd n):=by
 unfold zpE;unfold zr at h;refine zcT ?_ ?_
 ·rw [zdF _ dcz];unfold hi;omega
 ·rw [zd2];rfl
theorem zVE(F:Nat){n:Int}(h:zr n):zmE F n=some (wd n):=by
 unfold zmE;unfold zr at h;by_cases h0:n<0
 ·refine bp (dt h0) (zcT ?_ ?_)
  ·unfold hi;omega
  ·rw [zd2];rfl
 ·refine bn (df h0) (zcT ?_ ?_)
  ·unfold hi;omega
  ·rw [zd2];rfl
def cl(n:Int):Nat:=(if 127<(if 0>n then 0 else n)then 127 else(if 0>n then 0 else n)).toNat
theorem zOW(F:Nat){a b n:Int}(ha:zr a)(hb:U64 b):zln F a b n=some (wd (val a b/2^cl n)):=by
 unfold zln zow cl;dsimp only;generalize hv:(if 127<(if 0>n then 0 else n)then(127:Int)else(if 0>n then 0 else n))=v;have hv2:0<=v/\v<=127:=by
  subst hv;split<;>split<;>omega
 obtain⟨m,rfl⟩:=Int.eq_ofNat_of_zero_le hv2.1;simp only [Int.toNat_natCast];by_cases h:64<=m
 ·refine bp (dt zc) ?_
  rw [zH (x:=(m:Int)-64) (by unfold zr;omega),show(m:Int)-64=((m-64:Nat):Int)from zc];refine bp (nn _) ?_;rw [zD9 zc,zdF _ (Int.le_of_lt (zb9 _))];obtain⟨h1,h2,h3⟩:=zD8 F _ (zXC F (zOS ha (zb9 (m-64))));refine bp h1 ?_;rw [h2,h3, <-zPQ hb h];rfl
 ·refine bn (df zc) ?_
  refine bp (nn _) (bp (nn _) ?_);rw [zH (x:=64-(m:Int)) (by unfold zr;omega),show 64-(m:Int)=((64-m:Nat):Int)from zc];refine bp (nn _) ?_;rw [zdF _ (Int.le_of_lt (zb9 _)),zdF _ (Int.le_of_lt (zb9 _)),show min m 64=m from zc,zD9 zc,zd2,zd2];obtain⟨h1,h2⟩:=zPP ha hb (show m<64 from zc);exact zcT h1 h2
theorem zRT(F:Nat){a b n:Int}(hb:U64 b):zka F a b n=some (wd (val a b*2^n.toNat)):=by
 unfold zka;have hv:(if 0>n then 0 else n)=((n.toNat:Nat):Int):=by split<;>omega
 rw [hv];generalize n.toNat=m;simp only [Int.toNat_natCast];by_cases h:128<=m
 ·refine bp (dt zc) ?_
  obtain⟨h1,h2⟩:=zEW (h:=a) (l:=b) h;exact zcT h1 h2
 ·refine bn (df zc) ?_
  by_cases h:64<=m
  ·refine bp (dt zc) ?_
   rw [zH (x:=(m:Int)-64) (by unfold zr;omega),show(m:Int)-64=((m-64:Nat):Int)from zc];refine bp (nn _) ?_;rw [zD9 zc,zd2];obtain⟨h1,h2⟩:=zPS (h:=a) (l:=b) h;exact zcT h1 h2
  ·refine bn (df zc) ?_
   refine bp (nn _) ?_;rw [zH (x:=64-(m:Int)) (by unfold zr;omega),show 64-(m:Int)=((64-m:Nat):Int)from zc];refine bp (nn _) (bp (nn _) ?_);rw [zdF _ (Int.le_of_lt (zb9 _)),show min m 64=m from zc,zD9 zc,zd2,zd2,zd2];obtain⟨h1,h2⟩:=zPR (h:=a) hb (show m<64 from zc);exact zcT h1 h2
def znu(z:Int)(m:Nat):Int:=if m=0 then z else z/2^m+z/2^(m-1)%2
theorem zUl{n:Int}(h:0<n)(h2:n<=127):cl (n-1)=cl n-1:=by
 unfold cl;rw [if_neg (show¬0>n from zc),if_neg (show¬0>n-1 from zc),if_neg zc,if_neg zc];omega
theorem zUm(z:Int):lo z%2=z%2:=by unfold lo;omega
theorem zWh(F:Nat){a b n:Int}(ha:zr a)(hb:U64 b):znC F a b n=some (wd (znu (val a b) (cl n))):=by
 unfold znC zqe;by_cases h:n<=0
 ·rw [if_neg (show¬127<n from zc)]
  refine bp (dt h) ?_;have:cl n=0:=by
   unfold cl;rw [if_neg]
   ·split<;>omega
   ·split<;>omega
  rw [this];exact zcT (zEV ha hb).symm (zAf hb).symm
 ·generalize hv:(if 127<n then 127 else n)=v
  have hc:cl n=cl v:=by
   subst hv;unfold cl;by_cases hn:127<n
   ·rw [if_pos hn,if_neg (show¬0>n from zc),if_pos hn];decide
   ·rw [if_neg hn]
  have hv1:0<v/\v<=127:=by subst hv;split<;>omega
  refine bn (df zc) ?_;obtain⟨h1,h2,h3⟩:=zvC F _ _ _ (zOW F (n:=v) ha hb);refine bp h1 ?_;rw [zH (x:=v-1) (by unfold zr;omega)];obtain⟨g1,g2,g3⟩:=zvC F _ _ _ (zOW F (n:=v-1) ha hb);refine bp g1 ?_;rw [h2,h3,g3,zPO (zeZ _),zUm,zUl hv1.1 hv1.2, <-hc];have hm:cl n≠0:=by
   rw [hc];unfold cl;rw [if_neg (show¬0>v from zc),if_neg zc];omega
  obtain⟨k1,k2,k3⟩:=zqb F _ _ _ _ (zOV F (a:=hi (val a b/2^cl n)) (c:=0) (d:=val a b/2^(cl n-1)%2) (zeZ (val a b/2^cl n)) (by unfold U64;omega));refine bp k1 ?_;rw [k2,k3,zce];unfold znu;rw [if_neg hm];refine zcT (zhc ?_) (zhb ?_)
  all_goals exact(zhd _).add (show Eqv (val 0 _) _ by unfold val;rw [Int.zero_mul,Int.zero_add];exact rfl)
theorem zWi(F:Nat){a b:Int}(hb:U64 b):zkd F a b=some (.v (.i (if val a b<0 then-1 else if val a b=0 then 0 else 1))):=by
 unfold zkd val;unfold U64 at hb;by_cases h:a<0
 ·refine bp (dt h) (zd6 ?_)
  rw [if_pos zc]
 ·refine bn (df h) ?_
  by_cases h2:a=0/\b=0
  ·refine bp (by simp [h2]) (zd6 ?_)
   rw [if_neg zc,if_pos zc]
  ·refine bn (by simp;omega) (zd6 ?_)
   rw [if_neg zc,if_neg zc]
theorem zWj(F:Nat){a b c d:Int}(hb:U64 b)(hd:U64 d):zkb F a b c d=some (.v (.bool (decide (val a b<val c d)))):=by
 unfold zkb val;unfold U64 at hb hd;by_cases h:a=c
 ·refine bn (by simp [h]) (zeJ ?_)
  rw [decide_eq_decide];omega
 ·refine bp (by simp [h]) (zeJ ?_)
  rw [decide_eq_decide];omega
def ze3:Cfg:=⟨[0,1,2,3,4,5,6,7,12,27],[(0,[0,1,2,3,4,5,6,7,8,9,10,23,24,25,26,27,28,29,30,31,32,33,34,35,36,37,38]),(2,[0,1,2,3,4,5,6,7,8,9,10,11,12,13,14,15,16,17,18,19,20,21,22,23,24,25,38])],[19,34],[]⟩
def zbU:Sg:=⟨[.v (.agg [.i,.int .u64])],.fs (.lit 0) .hole 1⟩
def ze4(F:Nat):=zS []
def zfp:TS:=⟨[(0,.v (.agg [.i,.int .u64])),(1,.lp 0 (.lit 0)),(2,.v (.nils)),(3,.ls 1 (.lit 0) .hole 1),(4,.v (.int .u64)),(5,.i)],[(0,⟨(.ex [.i,.v (.int .u64)]),true⟩),(1,⟨.hole,true⟩)],2⟩
def zuE:TS:=zfp
def zd7(F:Nat)(o b:FT zes):FT zes:=fun g h a c d l m e=>
 bif(decide (d<64))then(
  bif(((decide ((0+(a*1))<=e.length))&&true)&&(decide ((a+1)*9<=zg9)))then(
   o g h (a+1) (wrap .u64 (Int.tdiv c 2)) (wrap .i64 (d+1)) l m (((e.drop 0).take (a*1))++[.v (.i (wrap .i64 (Int.tmod c 2)))]))else none)
 else(
  b g h a c d l m e)
def yA(F:Nat)(a:FT zes):Nat->FT zes:=lY fun b=>zd7 F b a
theorem zpF{F n}{a}:yA F a (n+1)=zd7 F (yA F a n) a:=rfl
def zgJ(k:Exit->VS->R):FT zes:=cQ _ fun q=>k (.exit 0) (fS zuE q)
def zfq:TS:=⟨[(0,.v (.agg [.i,.int .u64])),(1,.lp 0 (.lit 0)),(2,.v (.nils)),(3,.ls 1 (.lit 0) .hole 1),(4,.v (.int .u64)),(5,.i),(6,.v (.int .u64)),(7,.i)],[(0,⟨(.ex [.i,.v (.int .u64)]),true⟩),(1,⟨.hole,true⟩)],2⟩
def zuF:TS:=zfq
def zd8(F:Nat)(s b:FT zet):FT zet:=fun g h a l m c d o p e=>
 bif(decide (d<64))then(
  bif(((decide ((0+(a*1))<=e.length))&&true)&&(decide ((a+1)*9<=zg9)))then(
   s g h (a+1) l m (wrap .u64 (Int.tdiv c 2)) (wrap .i64 (d+1)) o p (((e.drop 0).take (a*1))++[.v (.i (wrap .i64 (Int.tmod c 2)))]))else none)
 else(
  b g h a l m c d o p e)
def yB(F:Nat)(a:FT zet):Nat->FT zet:=lY fun b=>zd8 F b a
theorem zpG{F n}{a}:yB F a (n+1)=zd8 F (yB F a n) a:=rfl
def zgK(k:Exit->VS->R):FT zet:=cQ _ fun q=>k (.exit 2) (fS zuF q)
def zcD(yA:Nat->FT zes->Nat->FT zes)(yB:Nat->FT zet->Nat->FT zet)(F:Nat):List LW:=[⟨0,zfp,fun k q=>uQ _ (yA F (zgJ k) F) q⟩,⟨2,zfq,fun k q=>uQ _ (yB F (zgK k) F) q⟩]
theorem zvD(F:Nat)(k:Exit->VS->R):∀n q,iQ PP (ze4 F) ze3 (zcD yA yB F) [] 118 0 0 k n zfp q=uQ _ (yA F (zgJ k) n) q:=
 lG (fun _=>by kernel_rfl) ((hzz:∀(yA:Nat->FT zes->Nat->FT zes) (yB:Nat->FT zet->Nat->FT zet),LH PP (ze4 F) ze3 (zcD yA yB F) [] 118 0 0 k zfp (fun a=>zd7 F a (zgJ k))) yA yB)
theorem zvE(F:Nat)(k:Exit->VS->R):∀n q,iQ PP (ze4 F) ze3 (zcD yA yB F) [] 118 1 2 k n zfq q=uQ _ (yB F (zgK k) n) q:=
 lG (fun _=>by kernel_rfl) ((hzz:∀(yA:Nat->FT zes->Nat->FT zes) (yB:Nat->FT zet->Nat->FT zet),LH PP (ze4 F) ze3 (zcD yA yB F) [] 118 1 2 k zfq (fun a=>zd8 F a (zgK k))) yA yB)
def zkS(yA:Nat->FT zes->Nat->FT zes)(yB:Nat->FT zet->Nat->FT zet)(F:Nat):FT ki2:=fun d a=>
 yA F (fun g h l m o e p s=>
  yB F (fun z f b t u v w x y c=>
   some (.fs c 0 b 1)) F g h l m o (wrap .u64 e) 0 e p s) F d a 0 a 0 d a []
def zhg:=zkS yA yB
def zg:jQ:=mkQ (l:=ki2) zbU.o zhg
theorem zAo(yA:Nat->FT zes->Nat->FT zes)(yB:Nat->FT zet->Nat->FT zet)(F:Nat):HHz zbU ki2 (ze4 F) ze3 (zcD yA yB F) 118 (zkS yA yB F):=hzz
theorem zcf(F:Nat)(a b:Int):zXA (zhg F a b) (zg.ok F a b) (zg.c 0 F a b) (zg.n 1 F a b):=zYj _
theorem zc9(F:Nat):yc PP 118 (unS (zz zbU ki2 zg F)):=
 gzl (W:=zcD yA yB) F (zAo yA yB F) (zn) (jP [(0,zaK PP 118 0),(2,zaK PP 118 1)] kfz (zd (jZ (zcD yA yB F) rfl (yn (fun _ k q=>Le.ofEq (zvD F k F q).symm) (yn (fun h=>absurd h dcz) jY))) (zd (jZ (zcD yA yB F) rfl (yn (fun h=>absurd h dcz) (yn (fun _ k q=>Le.ofEq (zvE F k F q).symm) jY))) zn)))
def ze5:Cfg:=⟨[0,2,3,4,5,6,7,15,36],[(0,[0,2,3,4,5,6,7,29,30,31,32,33,34,35,36,37,38,39,40,41,42,43,44,45,46,47,48,49,50,51,52,53]),(2,[0,2,3,4,5,6,7,8,9,10,11,12,13,14,15,16,17,18,19,20,21,22,23,24,25,26,27,28,50,51,52,53])],[],[]⟩
def zda:Sg:=⟨[.fs (.lit 0) .hole 1],.v (.agg [.i,.int .u64])⟩
def ze6(F:Nat):=zS []
def zfr:TS:=⟨[(0,.fs (.lit 0) .hole 1),(2,.lp 0 (.lit 0)),(3,.v (.int .u64)),(4,.v (.int .u64)),(5,.v (.int .u64)),(6,.i)],[(0,⟨(.ex [.i,.v (.int .u64)]),true⟩)],1⟩
def zuG:TS:=zfr
def zd9(F:Nat)(p b:FT zmA):FT zmA:=fun c d g h e a l m=>
 bif(decide (a<64))then(
  bif(decide (a<((d:Nat):Int)))then(
   bif((decide (0<=a))&&(decide (a<((d:Nat):Int))))then(
    let o:Nat:=(0+((Int.toNat a)*1))
    bif((isI .i64 c[o]?)&&true)then(
     p c d (wrap .u64 (g+(wrap .u64 ((wrap .u64 (iv c[o]?))*e)))) h (wrap .u64 (2*e)) (wrap .i64 (a+1)) l m)else none)else none)
  else(
   b c d g h e a l m))
 else(
  b c d g h e a l m)
def yC(F:Nat)(a:FT zmA):Nat->FT zmA:=lY fun b=>zd9 F b a
theorem zpH{F n}{a}:yC F a (n+1)=zd9 F (yC F a n) a:=rfl
def zgL(k:Exit->VS->R):FT zmA:=cQ _ fun q=>k (.exit 0) (fS zuG q)
def zfs:TS:=⟨[(0,.fs (.lit 0) .hole 1),(2,.lp 0 (.lit 0)),(3,.v (.int .u64)),(4,.v (.int .u64)),(5,.v (.int .u64)),(6,.i),(7,.i)],[(0,⟨(.ex [.i,.v (.int .u64)]),true⟩)],1⟩
def zuH:TS:=zfs
def zea(F:Nat)(s b:FT zmB):FT zmB:=fun c d g h e l a m o=>
 bif(decide (a<128))then(
  bif(decide (a<((d:Nat):Int)))then(
   bif((decide (0<=a))&&(decide (a<((d:Nat):Int))))then(
    let p:Nat:=(0+((Int.toNat a)*1))
    bif((isI .i64 c[p]?)&&true)then(
     s c d g (wrap .u64 (h+(wrap .u64 ((wrap .u64 (iv c[p]?))*e)))) (wrap .u64 (2*e)) l (wrap .i64 (a+1)) m o)else none)else none)
  else(
   b c d g h e l a m o))
 else(
  b c d g h e l a m o)
def yD(F:Nat)(a:FT zmB):Nat->FT zmB:=lY fun b=>zea F b a
theorem zpI{F n}{a}:yD F a (n+1)=zea F (yD F a n) a:=rfl
def zgM(k:Exit->VS->R):FT zmB:=cQ _ fun q=>k (.exit 2) (fS zuH q)
def zcE(yC:Nat->FT zmA->Nat->FT zmA)(yD:Nat->FT zmB->Nat->FT zmB)(F:Nat):List LW:=[⟨0,zfr,fun k q=>uQ _ (yC F (zgL k) F) q⟩,⟨2,zfs,fun k q=>uQ _ (yD F (zgM k) F) q⟩]
theorem zvF(F:Nat)(k:Exit->VS->R):∀n q,iQ PP (ze6 F) ze5 (zcE yC yD F) [] 122 0 0 k n zfr q=uQ _ (yC F (zgL k) n) q:=
 lG (fun _=>by kernel_rfl) ((hzz:∀(yC:Nat->FT zmA->Nat->FT zmA) (yD:Nat->FT zmB->Nat->FT zmB),LH PP (ze6 F) ze5 (zcE yC yD F) [] 122 0 0 k zfr (fun a=>zd9 F a (zgL k))) yC yD)
theorem zvG(F:Nat)(k:Exit->VS->R):∀n q,iQ PP (ze6 F) ze5 (zcE yC yD F) [] 122 1 2 k n zfs q=uQ _ (yD F (zgM k) n) q:=
 lG (fun _=>by kernel_rfl) ((hzz:∀(yC:Nat->FT zmA->Nat->FT zmA) (yD:Nat->FT zmB->Nat->FT zmB),LH PP (ze6 F) ze5 (zcE yC yD F) [] 122 1 2 k zfs (fun a=>zea F a (zgM k))) yC yD)
def zkT(yC:Nat->FT zmA->Nat->FT zmA)(yD:Nat->FT zmB->Nat->FT zmB)(F:Nat):FT kcn:=fun c d=>
 yC F (fun e g h l f m o p=>
  yD F (fun s t a b u w x y z=>
   some (.v (.agg #[.i (wrap .i64 b),.int .u64 a]))) F e g h l 1 m 64 o p) F c d 0 0 1 0 0 0
def zhh:=zkT yC yD
def zp:Qcn:=mkQ (l:=kcn) zda.o zhh
theorem zAp(yC:Nat->FT zmA->Nat->FT zmA)(yD:Nat->FT zmB->Nat->FT zmB)(F:Nat):HHz zda kcn (ze6 F) ze5 (zcE yC yD F) 122 (zkT yC yD F):=hzz
theorem zdb(F:Nat)(a:List VV)(b:Nat):KO9 (zhh F a b) (zp.ok F a b) (zp.i 0 F a b) (zp.i 1 F a b):=ko9 _
theorem zhi(F:Nat):yc PP 122 (unS (zz zda kcn zp F)):=
 gzl (W:=zcE yC yD) F (zAp yC yD F) (zn) (jP [(0,zaK PP 122 0),(2,zaK PP 122 1)] kfz (zd (jZ (zcE yC yD F) rfl (yn (fun _ k q=>Le.ofEq (zvF F k F q).symm) (yn (fun h=>absurd h dcz) jY))) (zd (jZ (zcE yC yD F) rfl (yn (fun h=>absurd h dcz) (yn (fun _ k q=>Le.ofEq (zvG F k F q).symm) jY))) zn)))
theorem zOX(z:Int)(i:Nat):wrap .u64 (Int.tdiv (lo z/2^i) 2)=lo z/2^(i+1):=by
 have h:=zeZ z;unfold U64 at h;have h1:=Int.ediv_nonneg h.1 (Int.le_of_lt (zb9 i));have h2:=Int.ediv_le_self (2^i) h.1;rw [Int.tdiv_eq_ediv_of_nonneg h1,zxZ,zbz];have h3:=Int.ediv_nonneg h.1 (Int.le_of_lt (zb9 (i+1)));have h4:=Int.ediv_le_self (2^(i+1)) h.1;unfold U64;omega
theorem zRU(z:Int){i:Nat}(h:i<64):wrap .i64 (Int.tmod (lo z/2^i) 2)=dg z i:=by
 have h0:=zeZ z;unfold U64 at h0;have h1:=Int.ediv_nonneg h0.1 (Int.le_of_lt (zb9 i));rw [Int.tmod_eq_emod_of_nonneg h1,zVz z h,zH];have:=zsd z i;unfold zr;omega
theorem zMY(z:Int)(i:Nat)(h:i<1000):(((decide ((0+(i*1))<=(ds z i).length))&&true)&&(decide ((i+1)*9<=zg9)))=true:=by
 rw [zd5,dt zc,dt (show(i+1)*9<=zg9 by unfold zg9;omega)];rfl
theorem zx3(F:Nat)(ex)(z x0 x1 x5 x6:Int):∀(k n i:Nat) (x3 x4:Int) (x7:List VV),i+k=64->k<n->x3=lo z/2^i->x4=i->x7=ds z i->
 yA F ex n x0 x1 i x3 x4 x5 x6 x7=ex x0 x1 64 (lo z/2^64) 64 x5 x6 (ds z 64)
 |_,0,_,_,_,_,_,h,_,_,_=>absurd h zc
 |0,n+1,i,_,_,_,h,_,rfl,rfl,rfl=>by
  obtain rfl:i=64:=zc;rw [zpF];unfold zd7;exact bn (df zc) rfl
 |k+1,n+1,i,_,_,_,h,hn,rfl,rfl,rfl=>by
  rw [zpF];unfold zd7;refine bp (dt zc) (bp (zMY z _ zc) ?_);refine zx3 F ex z x0 x1 x5 x6 k n (i+1) _ _ _ zc zc (zOX z i) ?_ ?_
  ·rw [zH (by unfold zr;omega)];push_cast;rfl
  ·rw [zEX,zRU z zc, <-zzy]
def up(z:Int):Int:=z/18446744073709551616%18446744073709551616
theorem zx4(F:Nat)(ex)(z x0 x1 x3 x4 x7 x8:Int):∀(k n i j:Nat) (x5 x6:Int) (x9:List VV),i+k=64->j=64+i->k<n->x5=up z/2^i->x6=i->x9=ds z j->
 yB F ex n x0 x1 j x3 x4 x5 x6 x7 x8 x9=ex x0 x1 128 x3 x4 (up z/2^64) 64 x7 x8 (ds z 128)
 |_,0,_,_,_,_,_,_,_,h,_,_,_=>absurd h zc
 |0,n+1,i,j,_,_,_,h,hj,_,rfl,rfl,rfl=>by
  obtain rfl:i=64:=zc;obtain rfl:j=128:=zc;rw [zpG];unfold zd8;exact bn (df zc) rfl
 |k+1,n+1,i,j,_,_,_,h,hj,hn,rfl,rfl,rfl=>by
  rw [zpG];unfold zd8;refine bp (dt zc) (bp (zMY z _ zc) ?_);have e:up z=lo (z/18446744073709551616):=rfl;refine zx4 F ex z x0 x1 x3 x4 x7 x8 k n (i+1) (j+1) _ _ _ zc zc zc ?_ ?_ ?_
  ·rw [e,zOX]
  ·rw [zH (by unfold zr;omega)];push_cast;rfl
  ·rw [zEX,e,zRU _ zc, <-zVz _ zc, <-e]
   unfold up;rw [zXn z zc, <-hj, <-zzy]
theorem zhj(F:Nat)(hF:200<=F){a b:Int}(hb:U64 b):zhg F a b=some (.fs (ds (val a b) 128) 0 128 1):=by
 unfold zhg zkS;have hl:=zAf (h:=a) hb;rw [zx3 F _ (val a b) a b a b 64 F 0 b 0 [] zc zc (by rw [hl];simp) rfl rfl];rw [zx4 F _ (val a b) a b _ _ _ _ 64 F 0 64 _ 0 _ zc zc zc ?_ rfl rfl];rw [zd2];unfold up val;unfold U64 at hb;simp only [Int.pow_zero];omega
theorem zRV(l:List VV)(i:Nat)(b:Int)(h:l[i]? =some (.v (.i b))):isI .i64 l[i]? =true/\iv l[i]? =b:=by
 rw [h];exact⟨rfl,rfl⟩
theorem zBM(i:Nat):(0+((Int.toNat (i:Int))*1))=i:=by simp
theorem zx5(F:Nat)(ex)(z:Int)(l:List VV)(x1:Nat)(x3 x6 x7:Int)(h1:64<=x1)(hl:∀i:Nat,i<64->l[i]? =some (.v (.i (dg z i)))):∀(k n i:Nat) (x2 x4 x5:Int),i+k=64->k<n->x2=num z i->x4=(2^i)%18446744073709551616->x5=i->
 yC F ex n l x1 x2 x3 x4 x5 x6 x7=ex l x1 (num z 64) x3 0 64 x6 x7
 |_,0,_,_,_,_,_,h,_,_,_=>absurd h zc
 |0,n+1,i,_,_,_,h,_,rfl,rfl,rfl=>by
  obtain rfl:i=64:=zc;rw [zpH];unfold zd9;exact bn (df zc) rfl
 |k+1,n+1,i,_,_,_,h,hn,rfl,rfl,rfl=>by
  have hi:i<64:=zc;obtain⟨g1,g2⟩:=zRV l i _ (hl i hi);have hd:=zsd z i;have hp:=zb9 i;have hp2:=zOT hi;have hb:=zEY z i;rw [zpH];unfold zd9;refine bp (dt zc) (bp (dt zc) (bp (by simp;omega) (bp (by rw [zBM,g1];rfl) ?_)));rw [zBM,g2,zbz (x:=dg z i) (by unfold U64;omega)];refine zx5 F ex z l x1 x3 x6 x7 h1 hl k n (i+1) _ _ _ zc zc ?_ ?_ ?_
  ·rw [zj6]
   generalize(2:Int)^i=P at*
   rw [Int.emod_eq_of_lt (a:=P) zc zc];have:0<=dg z i*P/\dg z i*P<=P:=by
    rcases(show dg z i=0\/dg z i=1 from zc)with h|h<;>rw [h]<;>omega
   rw [zbz (x:=dg z i*P) (by unfold U64;omega),zbz (by unfold U64;omega)]
  ·rw [zd2,Int.pow_succ]
   omega
  ·rw [zH (by unfold zr;omega)];push_cast;rfl
theorem zx6(F:Nat)(ex)(z:Int)(l:List VV)(x1:Nat)(x2 x5 x7 x8:Int)(h1:128<=x1)(hl:∀i:Nat,i<64->l[64+i]? =some (.v (.i (dg z i)))):∀(k n i:Nat) (x3 x4 x6:Int),i+k=64->k<n->x3=num z i->x4=(2^i)%18446744073709551616->x6=64+i->
 yD F ex n l x1 x2 x3 x4 x5 x6 x7 x8=ex l x1 x2 (num z 64) 0 x5 128 x7 x8
 |_,0,_,_,_,_,_,h,_,_,_=>absurd h zc
 |0,n+1,i,_,_,_,h,_,rfl,rfl,rfl=>by
  obtain rfl:i=64:=zc;rw [zpI];unfold zea;exact bn (df zc) rfl
 |k+1,n+1,i,_,_,_,h,hn,rfl,rfl,rfl=>by
  have hi:i<64:=zc;obtain⟨g1,g2⟩:=zRV l (64+i) _ (hl i hi);have hd:=zsd z i;have hp:=zb9 i;have hp2:=zOT hi;have hb:=zEY z i;have zm:(0+((Int.toNat (64+(i:Int)))*1))=64+i:=zc;rw [zpI];unfold zea;refine bp (dt zc) (bp (dt zc) (bp (by simp;omega) (bp (by rw [zm,g1];rfl) ?_)));rw [zm,g2,zbz (x:=dg z i) (by unfold U64;omega)];refine zx6 F ex z l x1 x2 x5 x7 x8 h1 hl k n (i+1) _ _ _ zc zc ?_ ?_ ?_
  ·rw [zj6]
   generalize(2:Int)^i=P at*
   rw [Int.emod_eq_of_lt (a:=P) zc zc];have:0<=dg z i*P/\dg z i*P<=P:=by
    rcases(show dg z i=0\/dg z i=1 from zc)with h|h<;>rw [h]<;>omega
   rw [zbz (x:=dg z i*P) (by unfold U64;omega),zbz (by unfold U64;omega)]
  ·rw [zd2,Int.pow_succ]
   omega
  ·rw [zH (by unfold zr;omega)];push_cast;omega
theorem zXD(z:Int)(i:Nat):dg z (64+i)=dg (z/18446744073709551616) i:=by
 unfold dg;rw [show(18446744073709551616:Int)=2^64 from dcz,Int.ediv_ediv_of_nonneg dcz,ztV]
theorem zmF(F:Nat)(hF:200<=F)(z:Int):zhh F (ds z 128) 128=some (wd z):=by
 unfold zhh zkT;rw [zx5 F _ z (ds z 128) 128 0 0 0 zc (fun i hi=>zmx z zc) 64 F 0 0 1 0 zc zc (zj5 z).symm dcz rfl];rw [zx6 F _ (z/18446744073709551616) (ds z 128) 128 _ _ _ _ zc (fun i hi=>by rw [zmx z zc,zXD]) 64 F 0 0 1 64 zc zc (zj5 _).symm dcz rfl];refine zcT ?_ ?_
 ·rw [zlj];unfold num hi
  rw [show(2:Int)^64=18446744073709551616 from dcz];omega
 ·unfold num lo
  rw [show(2:Int)^64=18446744073709551616 from dcz]
def zsh:Cfg:=⟨[0,1,2,3,4,5,6,7,8,9,10,17],[(0,[0,1,2,3,4,5,6,7,8,9,11,12,13,14,15,38,39])],[34],[]⟩
def zbP:Sg:=⟨[.v (.agg [.i,.int .u64]),.v (.agg [.i,.int .u64])],.v (.agg [.i,.int .u64])⟩
def zsi(zg:jQ)(zp:Qcn)(F:Nat):=zS [(118,zz zbU ki2 zg F),(122,zz zda kcn zp F)]
def zjl:TS:=⟨[(0,.v (.agg [.i,.int .u64])),(1,.v (.agg [.i,.int .u64])),(2,.lp 0 (.lit 0)),(3,.lp 1 (.lit 0)),(4,.lp 2 (.lit 0)),(5,.ls 3 (.lit 0) .hole 1),(6,.ls 4 (.lit 0) .hole 1),(7,.ls 5 (.lit 0) .hole 1),(8,.i),(9,.i)],[(0,⟨(.ex [.i,.v (.int .u64)]),true⟩),(1,⟨(.ex [.i,.v (.int .u64)]),true⟩),(2,⟨(.ex [.i,.v (.int .u64)]),true⟩),(3,⟨.hole,true⟩),(4,⟨.hole,true⟩),(5,⟨.hole,true⟩)],6⟩
def zyG:TS:=zjl
def zfR(F:Nat)(A p:FT zc3):FT zc3:=fun u w x y s t e z a f g h l m o b c d=>
 bif(decide (a<128))then(
  bif((decide (0<=a))&&(decide (a<((s:Nat):Int))))then(
   let n:Nat:=(0+((Int.toNat a)*1))
   bif((isI .i64 b[n]?)&&true)then(
    bif((decide (0<=a))&&(decide (a<((t:Nat):Int))))then(
     let r:Nat:=(0+((Int.toNat a)*1))
     bif((isI .i64 c[r]?)&&true)then(
      let j:Int:=(wrap .i64 ((wrap .i64 ((iv b[n]?)+(iv c[r]?)))+z))
      bif(((decide ((0+(e*1))<=d.length))&&true)&&(decide ((e+1)*9<=zg9)))then(
       A u w x y s t (e+1) (wrap .i64 (Int.tdiv j 2)) (wrap .i64 (a+1)) f g h l m o b c (((d.drop 0).take (e*1))++[.v (.i (Int.tmod j 2))]))else none)else none)else none)else none)else none)
 else(
  p u w x y s t e z a f g h l m o b c d)
def zap(F:Nat)(a:FT zc3):Nat->FT zc3:=lY fun b=>zfR F b a
theorem ztZ{F n}{a}:zap F a (n+1)=zfR F (zap F a n) a:=rfl
def zkU(k:Exit->VS->R):FT zc3:=cQ _ fun q=>k (.exit 0) (fS zyG q)
def zke(zap:Nat->FT zc3->Nat->FT zc3)(F:Nat):List LW:=[⟨0,zjl,fun k q=>uQ _ (zap F (zkU k) F) q⟩]
theorem zAq(F:Nat)(k:Exit->VS->R):∀n q,iQ PP (zsi zg zp F) zsh (zke zap F) [] 80 0 0 k n zjl q=uQ _ (zap F (zkU k) n) q:=
 lG (fun _=>by kernel_rfl) ((hzz:∀(zg:jQ) (zp:Qcn) (zap:Nat->FT zc3->Nat->FT zc3),LH PP (zsi zg zp F) zsh (zke zap F) [] 80 0 0 k zjl (fun a=>zfR F a (zkU k))) zg zp zap)
def zqf(zg:jQ)(zp:Qcn)(zap:Nat->FT zc3->Nat->FT zc3)(F:Nat):FT ki4:=fun b d e g=>bif(zg.ok F b d)then bif(zg.ok F e g)then zap F (fun z f r j A B h l m o p s t u w x y a=>bif(zp.ok F a h)then some (.v (.agg #[.i (zp.i 0 F a h),.int .u64 (zp.i 1 F a h)]))else none) F b d e g (zg.n 1 F b d) (zg.n 1 F e g) 0 0 0 b d e g 0 0 (zg.c 0 F b d) (zg.c 0 F e g) []else none else none
def znE:=zqf zg zp zap
def ze:Qi4:=mkQ (l:=ki4) zbP.o znE
theorem zI3(zg:jQ)(zp:Qcn)(zap:Nat->FT zc3->Nat->FT zc3)(F:Nat):HHz zbP ki4 (zsi zg zp F) zsh (zke zap F) 80 (zqf zg zp zap F):=hzz
theorem zx7(F:Nat)(a b c d:Int):KO9 (znE F a b c d) (ze.ok F a b c d) (ze.i 0 F a b c d) (ze.i 1 F a b c d):=ko9 _
theorem zcF(F:Nat):yc PP 80 (unS (zz zbP ki4 ze F)):=
 gzl (W:=zke zap) F (zI3 zg zp zap F) (zd (zc9 F) (zd (zhi F) zn)) (jP [(0,zaK PP 80 0)] kfz (zd (jZ (zke zap F) rfl (yn (fun _ k q=>Le.ofEq (zAq F k F q).symm) jY)) zn))
def zsj:Cfg:=⟨[0,1,2,3,4,8],[(0,[0,1,2,3,4,5,6,19,20,21,22])],[20,21],[]⟩
def ze7:Sg:=⟨[.v (.agg [.i,.int .u64])],.v (.agg [.i,.int .u64])⟩
def zsk(zg:jQ)(zp:Qcn)(zo:Qi)(ze:Qi4)(F:Nat):=zS [(118,zz zbU ki2 zg F),(122,zz zda kcn zp F),(81,zz zc8 ki zo F),(80,zz zbP ki4 ze F)]
def zjm:TS:=⟨[(0,.v (.agg [.i,.int .u64])),(1,.lp 0 (.lit 0)),(2,.lp 1 (.lit 0)),(3,.ls 2 (.lit 0) .hole 1),(4,.i)],[(0,⟨(.ex [.i,.v (.int .u64)]),true⟩),(1,⟨(.ex [.i,.v (.int .u64)]),true⟩),(2,⟨.hole,true⟩)],3⟩
def zyH:TS:=zjm
def zfS(F:Nat)(t d:FT zfn):FT zfn:=fun g h c a l m o p b=>
 bif(decide (a<128))then(
  bif((decide (0<=a))&&(decide (a<((c:Nat):Int))))then(
   let s:Nat:=(0+((Int.toNat a)*1))
   bif((isI .i64 b[s]?)&&true)then(
    bif((decide (0<=a))&&(decide (a<((c:Nat):Int))))then(
     let e:Nat:=(0+((Int.toNat a)*1))
     bif(decide ((e+1)<=b.length))then(
      t g h c (wrap .i64 (a+1)) l m o p (b.take e++[.v (.i (wrap .i64 (1-(iv b[s]?))))]++b.drop (e+1)))else none)else none)else none)else none)
 else(
  d g h c a l m o p b)
def zaq(F:Nat)(a:FT zfn):Nat->FT zfn:=lY fun b=>zfS F b a
theorem zt0{F n}{a}:zaq F a (n+1)=zfS F (zaq F a n) a:=rfl
def zkV(k:Exit->VS->R):FT zfn:=cQ _ fun q=>k (.exit 0) (fS zyH q)
def zkf(zaq:Nat->FT zfn->Nat->FT zfn)(F:Nat):List LW:=[⟨0,zjm,fun k q=>uQ _ (zaq F (zkV k) F) q⟩]
theorem zAr(F:Nat)(k:Exit->VS->R):∀n q,iQ PP (zsk zg zp zo ze F) zsj (zkf zaq F) [] 119 0 0 k n zjm q=uQ _ (zaq F (zkV k) n) q:=
 lG (fun _=>by kernel_rfl) ((hzz:∀(zg:jQ) (zp:Qcn) (zo:Qi) (ze:Qi4) (zaq:Nat->FT zfn->Nat->FT zfn),LH PP (zsk zg zp zo ze F) zsj (zkf zaq F) [] 119 0 0 k zjm (fun a=>zfS F a (zkV k))) zg zp zo ze zaq)
def zqg(zg:jQ)(zp:Qcn)(zo:Qi)(ze:Qi4)(zaq:Nat->FT zfn->Nat->FT zfn)(F:Nat):FT ki2:=fun h l=>bif(zg.ok F h l)then zaq F (fun o p m s t u w x a=>bif(zp.ok F a m)then let b:Int:=zp.i 0 F a m;let d:Int:=zp.i 1 F a m;bif(zo.ok F 1)then let e:Int:=zo.i 0 F 1;let g:Int:=zo.i 1 F 1;bif(ze.ok F b d e g)then some (.v (.agg #[.i (ze.i 0 F b d e g),.int .u64 (ze.i 1 F b d e g)]))else none else none else none) F h l (zg.n 1 F h l) 0 h l 0 0 (zg.c 0 F h l)else none
def znF:=zqg zg zp zo ze zaq
def zA:jQ:=mkQ (l:=ki2) ze7.o znF
theorem zI4(zg:jQ)(zp:Qcn)(zo:Qi)(ze:Qi4)(zaq:Nat->FT zfn->Nat->FT zfn)(F:Nat):HHz ze7 ki2 (zsk zg zp zo ze F) zsj (zkf zaq F) 119 (zqg zg zp zo ze zaq F):=hzz
theorem zx8(F:Nat)(a b:Int):KO9 (znF F a b) (zA.ok F a b) (zA.i 0 F a b) (zA.i 1 F a b):=ko9 _
theorem znG(F:Nat):yc PP 119 (unS (zz ze7 ki2 zA F)):=
 gzl (W:=zkf zaq) F (zI4 zg zp zo ze zaq F) (zd (zc9 F) (zd (zhi F) (zd (ze1 F) (zd (zcF F) zn)))) (jP [(0,zaK PP 119 0)] kfz (zd (jZ (zkf zaq F) rfl (yn (fun _ k q=>Le.ofEq (zAr F k F q).symm) jY)) zn))
theorem zeu(i:Nat)(h:i<1000):wrap .i64 ((i:Int)+1)=((i+1:Nat):Int):=by
 rw [zH (by unfold zr;omega)];push_cast;rfl
theorem zrN(i n:Nat)(h:i<n):((decide (0<=(i:Int)))&&(decide ((i:Int)<((n:Nat):Int))))=true:=by
 rw [dt zc,dt zc];rfl
theorem zsl(z:Int){i n:Nat}(h:i<n):((isI .i64 (ds z n)[0+((Int.toNat (i:Int))*1)]?)&&true)=true:=by
 rw [zBM,zmx z h];rfl
theorem zEa(z:Int){i n:Nat}(h:i<n):iv (ds z n)[0+((Int.toNat (i:Int))*1)]? =dg z i:=by
 rw [zBM,zmx z h];rfl
theorem zI5(F:Nat)(ex)(x y a b c d x9 x10 x11 x12 x13 x14:Int):∀(k n i:Nat) (x7 x8:Int) (l:List VV),i+k=128->k<n->x7=cy x y i->x8=i->l=ds (x+y) i->
 zap F ex n a b c d 128 128 i x7 x8 x9 x10 x11 x12 x13 x14 (ds x 128) (ds y 128) l=ex a b c d 128 128 128 (cy x y 128) 128 x9 x10 x11 x12 x13 x14 (ds x 128) (ds y 128) (ds (x+y) 128)
 |_,0,_,_,_,_,_,h,_,_,_=>absurd h zc
 |0,n+1,i,_,_,_,h,_,rfl,rfl,rfl=>by
  obtain rfl:i=128:=zc;rw [ztZ];unfold zfR;exact bn (df zc) rfl
 |k+1,n+1,i,_,_,_,h,hn,rfl,rfl,rfl=>by
  have hi:i<128:=zc;rw [ztZ];unfold zfR;have h1:=zsd x i;have h2:=zsd y i;have h3:=zVA x y i;obtain⟨e1,e2⟩:=zUf x y i;refine bp (dt zc) (bp (zrN i 128 hi) (bp (zsl x hi) (bp (zrN i 128 hi) (bp (zsl y hi) ?_))));dsimp only;rw [zEa x hi,zEa y hi,zH (x:=dg x i+dg y i) (by unfold zr;omega),zH (x:=dg x i+dg y i+cy x y i) (by unfold zr;omega)];refine bp (zMY _ _ zc) ?_;refine zI5 F ex x y a b c d x9 x10 x11 x12 x13 x14 k n (i+1) _ _ _ zc zc ?_ (zeu i zc) ?_
  ·rw [Int.tdiv_eq_ediv_of_nonneg zc, <-e1,zH]
   have:=zVA x y (i+1);unfold zr;omega
  ·rw [zEX,Int.tmod_eq_emod_of_nonneg zc, <-e2, <-zzy]
theorem zRW(F:Nat)(hF:200<=F){a b c d:Int}(hb:U64 b)(hd:U64 d):znE F a b c d=some (wd (val a b+val c d)):=by
 unfold znE zqf;obtain⟨h1,h2,h3⟩:=zcf F _ _ (zhj F hF (a:=a) hb);obtain⟨g1,g2,g3⟩:=zcf F _ _ (zhj F hF (a:=c) hd);refine bp h1 (bp g1 ?_);rw [h2,h3,g2,g3];rw [zI5 F _ (val a b) (val c d) a b c d a b c d 0 0 128 F 0 0 0 [] zc zc (zUe _ _).symm rfl rfl];obtain⟨n1,n2,n3⟩:=zdb F _ _ (zmF F hF (val a b+val c d));refine bp n1 ?_;rw [n2,n3];rfl
theorem zI6(F:Nat)(ex)(z x0 x1 x4 x5 x6 x7:Int):∀(k n i:Nat) (x3:Int) (l:List VV),i+k=128->k<n->x3=i->l=ds (-1-z) i++(ds z 128).drop i->
 zaq F ex n x0 x1 128 x3 x4 x5 x6 x7 l=ex x0 x1 128 128 x4 x5 x6 x7 (ds (-1-z) 128)
 |_,0,_,_,_,_,h,_,_=>absurd h zc
 |0,n+1,i,_,_,h,_,rfl,rfl=>by
  obtain rfl:i=128:=zc;rw [zt0];unfold zfS;refine bn (df zc) ?_;rw [List.drop_eq_nil_of_le (by rw [zd5];omega),List.append_nil];rfl
 |k+1,n+1,i,_,_,h,hn,rfl,rfl=>by
  have hi:i<128:=zc;have hg:(ds (-1-z) i++(ds z 128).drop i)[0+((Int.toNat (i:Int))*1)]? =some (.v (.i (dg z i))):=by
   rw [zBM,List.getElem?_append_right (by rw [zd5];omega),zd5,Nat.sub_self,List.getElem?_drop,Nat.add_zero,zmx z hi]
  rw [zt0];unfold zfS;have h1:=zsd z i;refine bp (dt zc) (bp (zrN i 128 hi) (bp (by rw [hg];rfl) (bp (zrN i 128 hi) (bp ?_ ?_))))
  ·rw [zBM,dt]
   rw [List.length_append,List.length_drop,zd5,zd5];omega
  ·rw [hg]
   refine zI6 F ex z x0 x1 x4 x5 x6 x7 k n (i+1) _ _ zc zc (zeu i zc) ?_;rw [zBM,show iv (some (VV.v (.i (dg z i))))=dg z i from rfl,zH (by unfold zr;omega), <-zV6,zzy (-1-z) i];rw [List.take_append_of_le_length (by rw [zd5];omega),List.take_of_length_le (by rw [zd5];omega),List.drop_append,zd5,List.drop_drop,List.drop_eq_nil_of_le (by rw [zd5];omega)];rw [show i+(i+1-i)=i+1 from zc];simp
theorem zRX(F:Nat)(hF:200<=F){a b:Int}(hb:U64 b):znF F a b=some (wd (-val a b)):=by
 unfold znF zqg;obtain⟨h1,h2,h3⟩:=zcf F _ _ (zhj F hF (a:=a) hb);refine bp h1 ?_;rw [h2,h3];rw [zI6 F _ (val a b) a b a b 0 0 128 F 0 0 _ zc zc rfl (by simp [zUd])];obtain⟨n1,n2,n3⟩:=zdb F _ _ (zmF F hF (-1-val a b));refine bp n1 ?_;dsimp only;obtain⟨o1,o2,o3⟩:=zAn F _ (zVE F (n:=1) (by unfold zr;omega));refine bp o1 ?_;rw [n2,n3,o2,o3];obtain⟨p1,p2,p3⟩:=zx7 F _ _ _ _ (zRW F hF (a:=hi (-1-val a b)) (c:=hi 1) (zeZ (-1-val a b)) (zeZ 1));refine bp p1 ?_;rw [p2,p3];have e:Eqv (val (hi (-1-val a b)) (lo (-1-val a b))+val (hi 1) (lo 1)) (-val a b):=by
  rw [zce,zce];have:=(zhd (-1-val a b)).add (zhd 1);rw [show-1-val a b+1= -val a b from zc]at this;exact this
 exact zcT (zhc e) (zhb e)
def zsm:Cfg:=⟨[0,1,4,5,6,7,8,16,23,33],[(0,[0,1,4,5,6,7,8,9,10,11,12,13,14,30,31,32,33,34,35,36,37,38])],[13,36],[]⟩
def zem:Sg:=⟨[.i,.i],.v (.agg [.i,.int .u64])⟩
def zsn(zo:Qi)(zg:jQ)(ze:Qi4)(zA:jQ)(F:Nat):=zS [(81,zz zc8 ki zo F),(118,zz zbU ki2 zg F),(80,zz zbP ki4 ze F),(119,zz ze7 ki2 zA F)]
def zjn:TS:=⟨[(0,.i),(1,.i),(4,.lp 0 (.lit 0)),(5,.lp 1 (.lit 0)),(6,.lp 2 (.lit 0)),(7,.ls 3 (.lit 0) .hole 1),(8,.i)],[(0,⟨(.ex [.i,.v (.int .u64)]),true⟩),(1,⟨(.ex [.i,.v (.int .u64)]),true⟩),(2,⟨(.ex [.i,.v (.int .u64)]),true⟩),(3,⟨.hole,true⟩)],4⟩
def zyI:TS:=zjn
def zhk(ze:Qi4)(F:Nat)(t l:FT zfm):FT zfm:=fun m o h d p s e g a b c=>bif(decide (d<127))then bif((decide (0<=d))&&(decide (d<((h:Nat):Int))))then let u:Nat:=0+((Int.toNat d)*1);bif((isI .i64 c[u]?)&&true)then bif((iv c[u]?)==1)then bif(ze.ok F e g a b)then bif(ze.ok F a b a b)then t m o h (wrap .i64 (d+1)) p s (ze.i 0 F e g a b) (ze.i 1 F e g a b) (ze.i 0 F a b a b) (ze.i 1 F a b a b) c else none else none else bif(ze.ok F a b a b)then t m o h (wrap .i64 (d+1)) p s e g (ze.i 0 F a b a b) (ze.i 1 F a b a b) c else none else none else none else l m o h d p s e g a b c
def zjo:=zhk ze
def zar(F:Nat)(a:FT zfm):Nat->FT zfm:=lY fun b=>zjo F b a
theorem zt1{F n}{a}:zar F a (n+1)=zjo F (zar F a n) a:=rfl
def zkW(k:Exit->VS->R):FT zfm:=cQ _ fun q=>k (.exit 0) (fS zyI q)
def zkg(zar:Nat->FT zfm->Nat->FT zfm)(F:Nat):List LW:=[⟨0,zjn,fun k q=>uQ _ (zar F (zkW k) F) q⟩]
theorem zAs(F:Nat)(k:Exit->VS->R):∀n q,iQ PP (zsn zo zg ze zA F) zsm (zkg zar F) [] 78 0 0 k n zjn q=uQ _ (zar F (zkW k) n) q:=
 lG (fun _=>by kernel_rfl) ((hzz:∀(zo:Qi) (zg:jQ) (ze:Qi4) (zA:jQ) (zar:Nat->FT zfm->Nat->FT zfm),LH PP (zsn zo zg ze zA F) zsm (zkg zar F) [] 78 0 0 k zjn (fun a=>zhk ze F a (zkW k))) zo zg ze zA zar)
def zqh(zo:Qi)(zg:jQ)(ze:Qi4)(zA:jQ)(zar:Nat->FT zfm->Nat->FT zfm)(F:Nat):FT ki2:=fun l m=>bif(zo.ok F l)then bif(zo.ok F m)then let p:Int:=zo.i 0 F m;let s:Int:=zo.i 1 F m;bif(zg.ok F p s)then zar F (fun u w t x y z o a b d h=>bif(decide (127<((t:Nat):Int)))then bif((isI .i64 h[127]?)&&true)then bif((iv h[127]?)==1)then bif(zA.ok F b d)then let e:Int:=zA.i 0 F b d;let g:Int:=zA.i 1 F b d;bif(ze.ok F o a e g)then some (.v (.agg #[.i (ze.i 0 F o a e g),.int .u64 (ze.i 1 F o a e g)]))else none else none else some (.v (.agg #[.i o,.int .u64 a]))else none else none) F l m (zg.n 1 F p s) 0 0 0 0 0 (zo.i 0 F l) (zo.i 1 F l) (zg.c 0 F p s)else none else none else none
def znH:=zqh zo zg ze zA zar
def zF:jQ:=mkQ (l:=ki2) zem.o znH
theorem zI7(zo:Qi)(zg:jQ)(ze:Qi4)(zA:jQ)(zar:Nat->FT zfm->Nat->FT zfm)(F:Nat):HHz zem ki2 (zsn zo zg ze zA F) zsm (zkg zar F) 78 (zqh zo zg ze zA zar F):=hzz
theorem zI8(F:Nat)(a b:Int):KO9 (znH F a b) (zF.ok F a b) (zF.i 0 F a b) (zF.i 1 F a b):=ko9 _
theorem zkh(F:Nat):yc PP 78 (unS (zz zem ki2 zF F)):=
 gzl (W:=zkg zar) F (zI7 zo zg ze zA zar F) (zd (ze1 F) (zd (zc9 F) (zd (zcF F) (zd (znG F) zn)))) (jP [(0,zaK PP 78 0)] kfz (zd (jZ (zkg zar F) rfl (yn (fun _ k q=>Le.ofEq (zAs F k F q).symm) jY)) zn))
theorem zt2(F:Nat)(x y:Int):zv.ok F (hi x) (lo x) (hi y) (lo y)=true/\zv.i 0 F (hi x) (lo x) (hi y) (lo y)=hi (x+y)/\zv.i 1 F (hi x) (lo x) (hi y) (lo y)=lo (x+y):=by
 obtain⟨h1,h2,h3⟩:=zqb F _ _ _ _ (zOV F (a:=hi x) (c:=hi y) (zeZ x) (zeZ y));rw [h2,h3,zce,zce];have e:=(zhd x).add (zhd y);exact⟨h1,zhc e,zhb e⟩
theorem zfN(F:Nat)(hF:200<=F)(x y:Int):ze.ok F (hi x) (lo x) (hi y) (lo y)=true/\ze.i 0 F (hi x) (lo x) (hi y) (lo y)=hi (x+y)/\ze.i 1 F (hi x) (lo x) (hi y) (lo y)=lo (x+y):=by
 obtain⟨h1,h2,h3⟩:=zx7 F _ _ _ _ (zRW F hF (a:=hi x) (c:=hi y) (zeZ x) (zeZ y));rw [h2,h3,zce,zce];have e:=(zhd x).add (zhd y);exact⟨h1,zhc e,zhb e⟩
theorem zI9(F:Nat)(x:Int):yl.ok F (hi x) (lo x)=true/\yl.i 0 F (hi x) (lo x)=hi (-x)/\yl.i 1 F (hi x) (lo x)=lo (-x):=by
 obtain⟨h1,h2,h3⟩:=zuC F _ _ (zRS F (zwP x) (zeZ x));rw [h2,h3,zce];exact⟨h1,zhc (zhd x).neg,zhb (zhd x).neg⟩
theorem zAt(F:Nat)(hF:200<=F)(x:Int):zA.ok F (hi x) (lo x)=true/\zA.i 0 F (hi x) (lo x)=hi (-x)/\zA.i 1 F (hi x) (lo x)=lo (-x):=by
 obtain⟨h1,h2,h3⟩:=zx8 F _ _ (zRX F hF (a:=hi x) (zeZ x));rw [h2,h3,zce];exact⟨h1,zhc (zhd x).neg,zhb (zhd x).neg⟩
theorem zXE(F:Nat){n:Int}(h:zr n):jf.ok F n=true/\jf.i 0 F n=hi n/\jf.i 1 F n=lo n:=zD8 F _ (zXC F h)
theorem zso(F:Nat){n:Int}(h:zr n):zo.ok F n=true/\zo.i 0 F n=hi n/\zo.i 1 F n=lo n:=zAn F _ (zVE F h)
theorem zVF(F:Nat){a b:Int}(ha:zr a)(hb:zr b):j7.ok F a b=true/\j7.i 0 F a b=hi (a*b)/\j7.i 1 F a b=lo (a*b):=zMT F _ _ (zXB F ha hb)
theorem zRY(F:Nat){x:Int}(n:Int)(h:zcr x):jy.ok F (hi x) (lo x) n=true/\jy.i 0 F (hi x) (lo x) n=hi (znu x (cl n))/\jy.i 1 F (hi x) (lo x) n=lo (znu x (cl n)):=by
 have:=zIX F _ _ n (zWh F (n:=n) (zwP x) (zeZ x));rw [zce,zvz h]at this;exact this
theorem zMZ(F:Nat)(x n:Int):zN.ok F (hi x) (lo x) n=true/\zN.i 0 F (hi x) (lo x) n=hi (x*2^n.toNat)/\zN.i 1 F (hi x) (lo x) n=lo (x*2^n.toNat):=by
 obtain⟨h1,h2,h3⟩:=zx1 F _ _ n (zRT F (a:=hi x) (n:=n) (zeZ x));rw [h2,h3,zce];exact⟨h1,zhc ((zhd x).mul _),zhb ((zhd x).mul _)⟩
theorem zAu(F:Nat)(hF:200<=F)(ex)(a b x0 x1 x4 x5:Int):∀(k n i:Nat) (x3 x6 x7 x8 x9:Int),i+k=127->k<n->x3=i->x6=hi (a*num b i)->x7=lo (a*num b i)->x8=hi (a*2^i)->x9=lo (a*2^i)->
 zar F ex n x0 x1 128 x3 x4 x5 x6 x7 x8 x9 (ds b 128)=ex x0 x1 128 127 x4 x5 (hi (a*num b 127)) (lo (a*num b 127)) (hi (a*2^127)) (lo (a*2^127)) (ds b 128)
 |_,0,_,_,_,_,_,_,_,h,_,_,_,_,_=>absurd h zc
 |0,n+1,i,_,_,_,_,_,h,_,rfl,rfl,rfl,rfl,rfl=>by
  obtain rfl:i=127:=zc;rw [zt1];unfold zjo zhk;exact bn (df zc) rfl
 |k+1,n+1,i,_,_,_,_,_,h,hn,rfl,rfl,rfl,rfl,rfl=>by
  have hi':i<128:=zc;rw [zt1];unfold zjo zhk;refine bp (dt zc) (bp (zrN i 128 hi') (bp (zsl b hi') ?_));rw [zEa b hi'];obtain⟨d1,d2,d3⟩:=zfN F hF (a*2^i) (a*2^i);have e2:a*2^i+a*2^i=a*2^(i+1):=by rw [Int.pow_succ, <-Int.mul_assoc];omega
  rw [e2]at d2 d3;rcases(show dg b i=0\/dg b i=1 by have:=zsd b i;omega)with hd|hd
  ·refine bn (by rw [hd];rfl) (bp d1 ?_)
   have e:num b (i+1)=num b i:=by rw [zj6,hd];omega
   exact zAu F hF ex a b x0 x1 x4 x5 k n (i+1) _ _ _ _ _ zc zc (zeu i zc) (by rw [e]) (by rw [e]) d2 d3
  ·obtain⟨c1,c2,c3⟩:=zfN F hF (a*num b i) (a*2^i)
   have e:a*num b i+a*2^i=a*num b (i+1):=by rw [zj6,hd,Int.mul_add,Int.one_mul]
   rw [e]at c2 c3;refine bp (by rw [hd];rfl) (bp c1 (bp d1 ?_));exact zAu F hF ex a b x0 x1 x4 x5 k n (i+1) _ _ _ _ _ zc zc (zeu i zc) c2 c3 d2 d3
theorem zUn{b:Int}(h:zcr b):b=num b 127-dg b 127*2^127:=by
 unfold num dg;unfold zcr at h;rw [show(2:Int)^127=170141183460469231731687303715884105728 from dcz];omega
theorem zVG{b:Int}(h:zr b):zcr b:=by unfold zr at h;unfold zcr;omega
theorem zWk(F:Nat)(hF:200<=F){a b:Int}(ha:zr a)(hb:zr b):znH F a b=some (wd (a*b)):=by
 unfold znH zqh;obtain⟨h1,h2,h3⟩:=zso F ha;obtain⟨g1,g2,g3⟩:=zso F hb;obtain⟨d1,d2,d3⟩:=zcf F _ _ (zhj F hF (a:=hi b) (zeZ b));rw [zce,zvz (zVG hb)]at d2;refine bp h1 (bp g1 ?_);rw [g2,g3,h2,h3];refine bp d1 ?_;rw [d2,d3];rw [zAu F hF _ a b a b 0 0 127 F 0 0 0 0 _ _ zc zc rfl (by rw [zj5,Int.mul_zero];rfl) (by rw [zj5,Int.mul_zero];rfl) (by rw [Int.pow_zero,Int.mul_one]) (by rw [Int.pow_zero,Int.mul_one])];have hn:=zUn (zVG hb);refine bp (dt dcz) (bp (zsl b (i:=127) zc) ?_);have hg:iv (ds b 128)[127]? =dg b 127:=by rw [zmx b zc];rfl
 rw [hg];rcases(show dg b 127=0\/dg b 127=1 by have:=zsd b 127;omega)with hd|hd
 ·refine bn (by rw [hd];rfl) ?_
  rw [hd]at hn;rw [show num b 127=b from zc];rfl
 ·obtain⟨n1,n2,n3⟩:=zAt F hF (a*2^127)
  refine bp (by rw [hd];rfl) (bp n1 ?_);rw [n2,n3];obtain⟨c1,c2,c3⟩:=zfN F hF (a*num b 127) (-(a*2^127));refine bp c1 ?_;rw [c2,c3];rw [hd]at hn;have e:a*num b 127+ -(a*2^127)=a*b:=by
   rw [show num b 127=b+2^127 from zc,Int.mul_add];omega
  rw [e];rfl
theorem zAv(F:Nat)(hF:200<=F){a b:Int}(ha:zr a)(hb:zr b):zF.ok F a b=true/\zF.i 0 F a b=hi (a*b)/\zF.i 1 F a b=lo (a*b):=zI8 F _ _ (zWk F hF ha hb)
def zqi:Cfg:=⟨[0,1,2,4,5,9],[(0,[0,1,2,4,5,15])],[],[]⟩
def zhl:Sg:=⟨[.v (.agg [.i,.int .u64]),.i],.v (.agg [.i,.int .u64])⟩
def zqj(ze:Qi4)(F:Nat):=zS [(80,zz zbP ki4 ze F)]
def zhm:TS:=⟨[(0,.v (.agg [.i,.int .u64])),(1,.i),(2,.lp 0 (.lit 0)),(4,.lp 1 (.lit 0)),(5,.i)],[(0,⟨(.ex [.i,.v (.int .u64)]),true⟩),(1,⟨(.ex [.i,.v (.int .u64)]),true⟩)],2⟩
def zwS:TS:=zhm
def zgh(ze:Qi4)(F:Nat)(o d:FT ki8):FT ki8:=fun g h c e a b l m=>bif(decide (e<(if 128<c then 128 else c)))then bif(ze.ok F a b a b)then o g h c (wrap .i64 (e+1)) (ze.i 0 F a b a b) (ze.i 1 F a b a b) l m else none else d g h c e a b l m
def zhn:=zgh ze
def j8(F:Nat)(a:FT ki8):Nat->FT ki8:=lY fun b=>zhn F b a
theorem zsp{F n}{a}:j8 F a (n+1)=zhn F (j8 F a n) a:=rfl
def ziT(k:Exit->VS->R):FT ki8:=cQ _ fun q=>k (.exit 0) (fS zwS q)
def zho(j8:Nat->FT ki8->Nat->FT ki8)(F:Nat):List LW:=[⟨0,zhm,fun k q=>uQ _ (j8 F (ziT k) F) q⟩]
theorem zyJ(F:Nat)(k:Exit->VS->R):∀n q,iQ PP (zqj ze F) zqi (zho j8 F) [] 120 0 0 k n zhm q=uQ _ (j8 F (ziT k) n) q:=
 lG (fun _=>by kernel_rfl) ((hzz:∀(ze:Qi4) (j8:Nat->FT ki8->Nat->FT ki8),LH PP (zqj ze F) zqi (zho j8 F) [] 120 0 0 k zhm (fun a=>zgh ze F a (ziT k))) ze j8)
def zox(j8:Nat->FT ki8->Nat->FT ki8)(F:Nat):FT ki3:=fun a b c=>
 j8 F (fun g h l m d e o p=>
  some (.v (.agg #[.i d,.int .u64 e]))) F a b c 0 a b 0 0
def zlo:=zox j8
def yW:Qi3:=mkQ (l:=ki3) zhl.o zlo
theorem zE5(ze:Qi4)(j8:Nat->FT ki8->Nat->FT ki8)(F:Nat):HHz zhl ki3 (zqj ze F) zqi (zho j8 F) 120 (zox j8 F):=hzz
theorem zE6(F:Nat)(a b c:Int):KO9 (zlo F a b c) (yW.ok F a b c) (yW.i 0 F a b c) (yW.i 1 F a b c):=ko9 _
theorem zvH(F:Nat):yc PP 120 (unS (zz zhl ki3 yW F)):=
 gzl (W:=zho j8) F (zE5 ze j8 F) (zd (zcF F) zn) (jP [(0,zaK PP 120 0)] kfz (zd (jZ (zho j8 F) rfl (yn (fun _ k q=>Le.ofEq (zyJ F k F q).symm) jY)) zn))
def zE7:Cfg:=⟨[0,1,2,3,4],[],[],[]⟩
def zhp:Sg:=⟨[.v (.agg [.i,.int .u64]),.v (.agg [.i,.int .u64])],.v (.bool)⟩
def zE8(F:Nat):=zS []
def zhq(F:Nat):FT ki4:=fun a c b d=>bif(decide (a<b))then some (.v (.bool true))else bif(a==b)then some (.v (.bool (decide (c<d))))else some (.v (.bool false))
def yX:Qi4:=mkQ (l:=ki4) zhp.o zhq
theorem zE9(F:Nat):HHz zhp ki4 (zE8 F) zE7 [] 123 (zhq F):=hzz
theorem zqk(F:Nat)(a c d e:Int):KO1 (zhq F a c d e) (yX.ok F a c d e) (yX.b 0 F a c d e):=ko1 _
theorem zvI(F:Nat):yc PP 123 (unS (zz zhp ki4 yX F)):=
 gzz F (zE9 F) (zn)
def zoy:Cfg:=⟨[0,1,2,4,5,6,7,16],[(0,[0,1,2,4,5,6,7,8,9,10,11,12,24,25])],[22],[]⟩
def zfT:Sg:=⟨[.v (.agg [.i,.int .u64]),.i],.v (.agg [.i,.int .u64])⟩
def zoz(zg:jQ)(zp:Qcn)(F:Nat):=zS [(118,zz zbU ki2 zg F),(122,zz zda kcn zp F)]
def zgi:TS:=⟨[(0,.v (.agg [.i,.int .u64])),(1,.i),(2,.lp 0 (.lit 0)),(4,.lp 1 (.lit 0)),(5,.ls 2 (.lit 0) .hole 1),(6,.i),(7,.i)],[(0,⟨(.ex [.i,.v (.int .u64)]),true⟩),(1,⟨(.ex [.i,.v (.int .u64)]),true⟩),(2,⟨.hole,true⟩)],3⟩
def zvJ:TS:=zgi
def zeE(F:Nat)(u e:FT zfo):FT zfo:=fun l m c b g h o p s t a=>
 bif(decide (h<(if 127<c then 127 else c)))then(
  bif((decide (1<=b))&&(decide (b<=b)))then(
   let d:Nat:=(b-1)
   bif(((decide ((1+(d*1))<=a.length))&&true)&&(decide ((d+1)*9<=zg9)))then(
    u l m c (d+1) g (wrap .i64 (h+1)) o p s t (((a.drop 1).take (d*1))++[.v (.i g)]))else none)else none)
 else(
  e l m c b g h o p s t a)
def jL(F:Nat)(a:FT zfo):Nat->FT zfo:=lY fun b=>zeE F b a
theorem zrO{F n}{a}:jL F a (n+1)=zeE F (jL F a n) a:=rfl
def zhr(k:Exit->VS->R):FT zfo:=cQ _ fun q=>k (.exit 0) (fS zvJ q)
def zfU(jL:Nat->FT zfo->Nat->FT zfo)(F:Nat):List LW:=[⟨0,zgi,fun k q=>uQ _ (jL F (zhr k) F) q⟩]
theorem zwT(F:Nat)(k:Exit->VS->R):∀n q,iQ PP (zoz zg zp F) zoy (zfU jL F) [] 121 0 0 k n zgi q=uQ _ (jL F (zhr k) n) q:=
 lG (fun _=>by kernel_rfl) ((hzz:∀(zg:jQ) (zp:Qcn) (jL:Nat->FT zfo->Nat->FT zfo),LH PP (zoz zg zp F) zoy (zfU jL F) [] 121 0 0 k zgi (fun a=>zeE F a (zhr k))) zg zp jL)
def zmG(zg:jQ)(zp:Qcn)(jL:Nat->FT zfo->Nat->FT zfo)(F:Nat):FT ki3:=fun b d l=>bif(zg.ok F b d)then let h:Nat:=zg.n 1 F b d;let e:List VV:=zg.c 0 F b d;bif(decide (127<((h:Nat):Int)))then bif((isI .i64 e[127]?)&&true)then jL F (fun s t u g w x y m o p a=>bif(zp.ok F a g)then some (.v (.agg #[.i (zp.i 0 F a g),.int .u64 (zp.i 1 F a g)]))else none) F b d l h (iv e[127]?) 0 b d 0 0 e else none else none else none
def zjp:=zmG zg zp jL
def yN:Qi3:=mkQ (l:=ki3) zfT.o zjp
theorem zBN(zg:jQ)(zp:Qcn)(jL:Nat->FT zfo->Nat->FT zfo)(F:Nat):HHz zfT ki3 (zoz zg zp F) zoy (zfU jL F) 121 (zmG zg zp jL F):=hzz
theorem zt3(F:Nat)(a b c:Int):KO9 (zjp F a b c) (yN.ok F a b c) (yN.i 0 F a b c) (yN.i 1 F a b c):=ko9 _
theorem zt4(F:Nat):yc PP 121 (unS (zz zfT ki3 yN F)):=
 gzl (W:=zfU jL) F (zBN zg zp jL F) (zd (zc9 F) (zd (zhi F) zn)) (jP [(0,zaK PP 121 0)] kfz (zd (jZ (zfU jL F) rfl (yn (fun _ k q=>Le.ofEq (zwT F k F q).symm) jY)) zn))
def zFa:Cfg:=⟨[0,1,2,4,5,9],[],[19,21],[]⟩
def zhs:Sg:=⟨[.v (.agg [.i,.int .u64]),.i],.v (.agg [.i,.int .u64])⟩
def zFb(zg:jQ)(yN:Qi3)(zo:Qi)(ze:Qi4)(F:Nat):=zS [(118,zz zbU ki2 zg F),(121,zz zfT ki3 yN F),(81,zz zc8 ki zo F),(80,zz zbP ki4 ze F)]
def zoA(zg:jQ)(yN:Qi3)(zo:Qi)(ze:Qi4)(F:Nat):FT ki3:=fun a b p=>let d:Int:=if 127<p then 127 else p;bif(decide (d<=0))then some (.v (.agg #[.i a,.int .u64 b]))else bif(zg.ok F a b)then let s:List VV:=zg.c 0 F a b;let e:Int:=wrap .i64 (d-1);bif((decide (0<=e))&&(decide (e<(((zg.n 1 F a b):Nat):Int))))then let t:Nat:=0+((Int.toNat e)*1);bif((isI .i64 s[t]?)&&true)then let g:Int:=iv s[t]?;bif(yN.ok F a b d)then let h:Int:=yN.i 0 F a b d;let l:Int:=yN.i 1 F a b d;bif(zo.ok F g)then let m:Int:=zo.i 0 F g;let o:Int:=zo.i 1 F g;bif(ze.ok F h l m o)then some (.v (.agg #[.i (ze.i 0 F h l m o),.int .u64 (ze.i 1 F h l m o)]))else none else none else none else none else none else none
def zlp:=zoA zg yN zo ze
def yY:Qi3:=mkQ (l:=ki3) zhs.o zlp
theorem zFc(zg:jQ)(yN:Qi3)(zo:Qi)(ze:Qi4)(F:Nat):HHz zhs ki3 (zFb zg yN zo ze F) zFa [] 148 (zoA zg yN zo ze F):=hzz
theorem zFd(F:Nat)(a b c:Int):KO9 (zlp F a b c) (yY.ok F a b c) (yY.i 0 F a b c) (yY.i 1 F a b c):=ko9 _
theorem zvK(F:Nat):yc PP 148 (unS (zz zhs ki3 yY F)):=
 gzz F (zFc zg yN zo ze F) (zd (zc9 F) (zd (zt4 F) (zd (ze1 F) (zd (zcF F) zn))))
theorem zFe(F:Nat){a b c d:Int}(hb:U64 b)(hd:U64 d):zhq F a b c d=some (.v (.bool (decide (val a b<val c d)))):=by
 unfold zhq val;unfold U64 at hb hd;by_cases h:a<c
 ·refine bp (dt h) (zeJ ?_)
  exact(dt zc).symm
 ·refine bn (df h) ?_
  by_cases h2:a=c
  ·refine bp (by simp [h2]) (zeJ ?_)
   rw [decide_eq_decide];omega
  ·refine bn (by simp [h2]) (zeJ ?_)
   exact(df zc).symm
theorem zEb(F:Nat)(hF:200<=F)(ex)(z x0 x1 x2 x6 x7:Int)(m:Nat)(hm:(if 128<x2 then 128 else x2)<=(m:Int))(hm2:(m:Int)<=0\/(m:Int)=(if 128<x2 then 128 else x2))(h128:m<=128):∀(k n i:Nat) (x3 x4 x5:Int),i+k=m->k<n->x3=i->x4=hi (z*2^i)->x5=lo (z*2^i)->
 j8 F ex n x0 x1 x2 x3 x4 x5 x6 x7=ex x0 x1 x2 m (hi (z*2^m)) (lo (z*2^m)) x6 x7
 |_,0,_,_,_,_,_,h,_,_,_=>absurd h zc
 |0,n+1,i,_,_,_,h,_,rfl,rfl,rfl=>by
  obtain rfl:i=m:=zc;rw [zsp];unfold zhn zgh;exact bn (df zc) rfl
 |k+1,n+1,i,_,_,_,h,hn,rfl,rfl,rfl=>by
  rw [zsp];unfold zhn zgh;obtain⟨d1,d2,d3⟩:=zfN F hF (z*2^i) (z*2^i);have e2:z*2^i+z*2^i=z*2^(i+1):=by rw [Int.pow_succ, <-Int.mul_assoc];omega
  rw [e2]at d2 d3;refine bp (dt zc) (bp d1 ?_);exact zEb F hF ex z x0 x1 x2 x6 x7 m hm hm2 h128 k n (i+1) _ _ _ zc zc (zeu i zc) d2 d3
theorem zUo(F:Nat)(hF:200<=F){a b n:Int}(ha:zr a)(hb:U64 b):zlo F a b n=some (wd (val a b*2^n.toNat)):=by
 unfold zlo zox;have hm:∃m:Nat,(if 128<n then 128 else n)<=(m:Int)/\((m:Int)<=0\/(m:Int)=(if 128<n then 128 else n))/\m<=128/\(n.toNat=m\/128<=n.toNat/\m=128):=by
  by_cases h:128<n
  ·exact⟨128,by rw [if_pos h];omega,.inr (by rw [if_pos h];omega),zc,.inr zc⟩
  ·exact⟨n.toNat,by rw [if_neg h];omega,by rw [if_neg h];omega,zc,.inl rfl⟩
 obtain⟨m,h1,h2,h3,h4⟩:=hm;rw [zEb F hF _ (val a b) a b n 0 0 m h1 h2 h3 m F 0 0 a b zc zc rfl (by rw [Int.pow_zero,Int.mul_one,zEV ha hb]) (by rw [Int.pow_zero,Int.mul_one,zAf hb])];rcases h4 with h4|⟨h4,rfl⟩
 ·rw [h4];rfl
 ·obtain⟨e1,e2⟩:=zEW (h:=a) (l:=b) h4
  obtain⟨e3,e4⟩:=zEW (h:=a) (l:=b) (m:=128) zc;exact zcT (e3.symm.trans e1) (e4.symm.trans e2)
theorem zOY(F:Nat)(hF:200<=F)(x n:Int):yW.ok F (hi x) (lo x) n=true/\yW.i 0 F (hi x) (lo x) n=hi (x*2^n.toNat)/\yW.i 1 F (hi x) (lo x) n=lo (x*2^n.toNat):=by
 obtain⟨h1,h2,h3⟩:=zE6 F _ _ n (zUo F hF (n:=n) (zwP x) (zeZ x));rw [h2,h3,zce];exact⟨h1,zhc ((zhd x).mul _),zhb ((zhd x).mul _)⟩
theorem zVH{y:Int}(h:zcr y)(i:Nat):zcr (y/2^i):=by
 have hP:=zb9 i;unfold zcr at*
 generalize(2:Int)^i=P at*
 rcases Int.lt_or_le y 0 with hn|hn
 ·constructor
  ·rw [Int.le_ediv_iff_mul_le hP]
   have: -170141183460469231731687303715884105728*P<= -170141183460469231731687303715884105728*1:=Int.mul_le_mul_of_nonpos_left zc zc;omega
  ·have:=Int.ediv_neg_of_neg_of_pos hn hP
   omega
 ·have h1:=Int.ediv_nonneg hn (Int.le_of_lt hP)
  have h2:=Int.ediv_le_self P hn;omega
theorem zUp(y:Int)(j:Nat):dg (y/2) j=dg y (j+1):=by
 unfold dg;rw [Int.ediv_ediv_of_nonneg dcz,show(2:Int)*2^j=2^(j+1) by rw [Int.pow_succ,Int.mul_comm]]
theorem zOZ{y:Int}(h:zcr y):dg (y/2) 127=dg y 127:=by
 unfold dg;unfold zcr at h;rw [show(2:Int)^127=170141183460469231731687303715884105728 from dcz];omega
theorem zRZ{y:Int}(h:zcr y):((ds y 128).drop 1).take (127*1)++[.v (.i (dg y 127))]=ds (y/2) 128:=by
 apply List.ext_getElem?
 intro i;rcases Nat.lt_or_ge i 127 with hi|hi
 ·rw [List.getElem?_append_left (by simp [zd5];omega),List.getElem?_take,if_pos zc,List.getElem?_drop,zmx _ zc,zmx _ zc,zUp,Nat.add_comm]
 ·rcases Nat.lt_or_ge i 128 with hi2|hi2
  ·obtain rfl:i=127:=zc
   rw [List.getElem?_append_right (by simp [zd5]),zmx _ zc,zOZ h];simp [zd5]
  ·rw [List.getElem?_eq_none (by simp [zd5];omega),List.getElem?_eq_none (by rw [zd5];omega)]
theorem zAw(F:Nat)(ex){z:Int}(hz:zcr z)(x0 x1 x2 x6 x7 x8 x9:Int)(m:Nat)(hm:(if 127<x2 then 127 else x2)<=(m:Int))(hm2:(m:Int)<=0\/(m:Int)=(if 127<x2 then 127 else x2))(h128:m<=127):∀(k n i:Nat) (x4 x5:Int) (l:List VV),i+k=m->k<n->x4=dg z 127->x5=i->l=ds (z/2^i) 128->
 jL F ex n x0 x1 x2 128 x4 x5 x6 x7 x8 x9 l=ex x0 x1 x2 128 (dg z 127) m x6 x7 x8 x9 (ds (z/2^m) 128)
 |_,0,_,_,_,_,_,h,_,_,_=>absurd h zc
 |0,n+1,i,_,_,_,h,_,rfl,rfl,rfl=>by
  obtain rfl:i=m:=zc;rw [zrO];unfold zeE;exact bn (df zc) rfl
 |k+1,n+1,i,_,_,_,h,hn,rfl,rfl,rfl=>by
  rw [zrO];unfold zeE;have hy:=zVH hz i;have hs:dg z 127=dg (z/2^i) 127:=by
   have:∀j,dg (z/2^j) 127=dg z 127:=by
    intro j;induction j with
    |zero=>simp
    |succ j ih=>rw [<-zxZ,zOZ (zVH hz j),ih]
   exact(this i).symm
  refine bp (dt zc) (bp rfl (bp ?_ ?_))
  ·rw [zd5,dt zc,dt (by unfold zg9;omega)];rfl
  ·refine zAw F ex hz x0 x1 x2 x6 x7 x8 x9 m hm hm2 h128 k n (i+1) _ _ _ zc zc rfl (zeu i zc) ?_
   rw [hs,zRZ hy,zxZ]
theorem zJa(F:Nat)(hF:200<=F){a b n:Int}(ha:zr a)(hb:U64 b):zjp F a b n=some (wd (val a b/2^cl n)):=by
 unfold zjp zmG;obtain⟨d1,d2,d3⟩:=zcf F _ _ (zhj F hF (a:=a) hb);refine bp d1 ?_;rw [d2,d3];refine bp (dt dcz) (bp (zsl (val a b) (i:=127) zc) ?_);have hg:iv (ds (val a b) 128)[127]? =dg (val a b) 127:=by rw [zmx _ zc];rfl
 have hm:∃m:Nat,(if 127<n then 127 else n)<=(m:Int)/\((m:Int)<=0\/(m:Int)=(if 127<n then 127 else n))/\m<=127/\cl n=m:=by
  refine⟨cl n,?_⟩;unfold cl;by_cases h:127<n
  ·rw [if_pos h,if_neg (show¬0>n from zc),if_pos h];omega
  ·rw [if_neg h]
   by_cases h2:0>n
   ·rw [if_pos h2,if_neg zc];omega
   ·rw [if_neg h2,if_neg h];omega
 obtain⟨m,h1,h2,h3,h4⟩:=hm;rw [zAw F _ (zD3 ha hb) a b n a b 0 0 m h1 h2 h3 m F 0 _ 0 _ zc zc hg rfl (by rw [Int.pow_zero,Int.ediv_one])];obtain⟨n1,n2,n3⟩:=zdb F _ _ (zmF F hF (val a b/2^m));refine bp n1 ?_;rw [n2,n3,h4];rfl
theorem zR0(F:Nat)(hF:200<=F){x:Int}(n:Int)(h:zcr x):yN.ok F (hi x) (lo x) n=true/\yN.i 0 F (hi x) (lo x) n=hi (x/2^cl n)/\yN.i 1 F (hi x) (lo x) n=lo (x/2^cl n):=by
 have:=zt3 F _ _ n (zJa F hF (n:=n) (zwP x) (zeZ x));rw [zce,zvz h]at this;exact this
theorem zUq(F:Nat)(hF:200<=F){a b n:Int}(ha:zr a)(hb:U64 b):zlp F a b n=some (wd (znu (val a b) (cl n))):=by
 unfold zlp zoA;by_cases h:n<=0
 ·rw [if_neg (show¬127<n from zc)]
  refine bp (dt h) ?_;have:cl n=0:=by
   unfold cl;rw [if_neg]
   ·split<;>omega
   ·split<;>omega
  rw [this];exact zcT (zEV ha hb).symm (zAf hb).symm
 ·generalize hv:(if 127<n then 127 else n)=v
  have hc:cl n=cl v:=by
   subst hv;unfold cl;by_cases hn:127<n
   ·rw [if_pos hn,if_neg (show¬0>n from zc),if_pos hn];decide
   ·rw [if_neg hn]
  have hv1:0<v/\v<=127:=by subst hv;split<;>omega
  obtain⟨m,rfl⟩:∃m:Nat,v=((m+1:Nat):Int):=⟨(v-1).toNat,zc⟩;have hcv:cl ((m+1:Nat):Int)=m+1:=by
   unfold cl;rw [if_neg (show¬0>((m+1:Nat):Int)from zc),if_neg zc];omega
  refine bn (df zc) ?_;obtain⟨d1,d2,d3⟩:=zcf F _ _ (zhj F hF (a:=a) hb);refine bp d1 ?_;rw [d2,d3,zH (x:=((m+1:Nat):Int)-1) (by unfold zr;omega),show((m+1:Nat):Int)-1=(m:Int)from zc];refine bp (zrN m 128 zc) (bp (zsl _ zc) ?_);rw [zEa _ zc];obtain⟨h1,h2,h3⟩:=zt3 F _ _ _ (zJa F hF (n:=((m+1:Nat):Int)) ha hb);refine bp h1 ?_;have hd:=zsd (val a b) m;obtain⟨o1,o2,o3⟩:=zso F (n:=dg (val a b) m) (by unfold zr;omega);refine bp o1 ?_;rw [h2,h3,o2,o3];obtain⟨k1,k2,k3⟩:=zfN F hF (val a b/2^cl ((m+1:Nat):Int)) (dg (val a b) m);refine bp k1 ?_;rw [k2,k3,hc,hcv];unfold znu;rw [if_neg zc,show m+1-1=m from zc]
  rfl
theorem zO0(F:Nat)(hF:200<=F){x:Int}(n:Int)(h:zcr x):yY.ok F (hi x) (lo x) n=true/\yY.i 0 F (hi x) (lo x) n=hi (znu x (cl n))/\yY.i 1 F (hi x) (lo x) n=lo (znu x (cl n)):=by
 have:=zFd F _ _ n (zUq F hF (n:=n) (zwP x) (zeZ x));rw [zce,zvz h]at this;exact this
theorem zJb{X P T b:Int}(hP:0<P)(hT:0<T)(hPT:P*T=170141183460469231731687303715884105728)(hX:0<=X)(hX2:X<340282366920938463463374607431768211456)(hb:1<=b)(hb2:b<=9223372036854775808):
 (0<=(X%(2*T))*P+X/(2*T)/b/\(X%(2*T))*P+X/(2*T)/b<340282366920938463463374607431768211456)/\
 ((X%(2*T))*P+X/(2*T)/b)/170141183460469231731687303715884105728=X/T%2/\
 (0<=X/(2*T)%b/\X/(2*T)%b<b)/\
 (b<=2*(X/(2*T)%b)+X/T%2->X/T%b=2*(X/(2*T)%b)+X/T%2-b/\((X%(2*T))*P+X/(2*T)/b)*2-(X/T%2)*340282366920938463463374607431768211456+1=(X%T)*(P*2)+X/T/b)/\
 (2*(X/(2*T)%b)+X/T%2<b->X/T%b=2*(X/(2*T)%b)+X/T%2/\((X%(2*T))*P+X/(2*T)/b)*2-(X/T%2)*340282366920938463463374607431768211456=(X%T)*(P*2)+X/T/b)/\
 (X%T)*(P*2)%2=0/\0<=(X%T)*(P*2)+X/T/b/\(X%T)*(P*2)+X/T/b<340282366920938463463374607431768211456:=by
 have e1:X/(2*T)=X/T/2:=by rw [Int.mul_comm,Int.ediv_ediv_of_nonneg zc]
 have hd:=Int.mul_ediv_add_emod X T;have hr:=Int.emod_nonneg X (show T≠0 from zc);have hr2:=Int.emod_lt_of_pos X hT;have hq:0<=X/T:=Int.ediv_nonneg hX zc;have hqP:X/T<2*P:=Int.ediv_lt_of_lt_mul hT (by rw [Int.mul_assoc,hPT];omega);have e2:X%(2*T)=(X/T%2)*T+X%T:=by
  have h:=Int.mul_ediv_add_emod X (2*T);rw [e1]at h;have e:X/T=2*(X/T/2)+X/T%2:=zc;have e3:T*(X/T)=2*T*(X/T/2)+(X/T%2)*T:=by
   have:T*(X/T)=T*(2*(X/T/2)+X/T%2):=by rw [<-e]
   rw [this,Int.mul_add];have:T*(2*(X/T/2))=2*T*(X/T/2):=by simp only [Int.mul_comm,Int.mul_assoc,Int.mul_left_comm]
   rw [this,Int.mul_comm T]
  omega
 rw [e1,e2];generalize X/T=h at*
 generalize X%T=r at*
 have hbit:0<=h%2/\h%2<=1:=zc;have hH:h=2*(h/2)+h%2:=zc;generalize hg:h%2=bit at*
 generalize h/2=H at*
 have g1:=Int.mul_ediv_add_emod H b;have g2:=Int.emod_nonneg H (show b≠0 from zc);have g3:=Int.emod_lt_of_pos H (show 0<b from zc);have hHP:H<P:=zc;have hH0:0<=H:=zc;have hQ0:0<=H/b:=Int.ediv_nonneg hH0 zc;have hQH:H/b<=H:=Int.ediv_le_self b hH0;have hrP0:0<=r*P:=Int.mul_nonneg hr zc;have hrP:r*P<=(T-1)*P:=Int.mul_le_mul_of_nonneg_right zc zc;rw [Int.sub_mul,Int.mul_comm T P,hPT]at hrP;have hA:(bit*T+r)*P=bit*170141183460469231731687303715884105728+r*P:=by
  rw [Int.add_mul,Int.mul_assoc,Int.mul_comm T P,hPT]
 have hrP2:r*(P*2)=r*P*2:=by rw [Int.mul_assoc]
 rw [hA,hrP2];have hq1:b<=2*(H%b)+bit->h%b=2*(H%b)+bit-b/\h/b=2*(H/b)+1:=by
  intro hx;have e:h=(2*(H%b)+bit-b)+(2*(H/b)+1)*b:=by
   rw [Int.add_mul,Int.one_mul,Int.mul_assoc,Int.mul_comm (H/b) b];omega
  constructor
  ·rw [e,Int.add_mul_emod_self_right,Int.emod_eq_of_lt zc zc]
  ·rw [e,Int.add_mul_ediv_right _ _ zc,Int.ediv_eq_zero_of_lt zc zc];omega
 have hq2:2*(H%b)+bit<b->h%b=2*(H%b)+bit/\h/b=2*(H/b):=by
  intro hx;have e:h=(2*(H%b)+bit)+(2*(H/b))*b:=by
   rw [Int.mul_assoc,Int.mul_comm (H/b) b];omega
  constructor
  ·rw [e,Int.add_mul_emod_self_right,Int.emod_eq_of_lt zc zc]
  ·rw [e,Int.add_mul_ediv_right _ _ zc,Int.ediv_eq_zero_of_lt zc zc];omega
 refine⟨⟨zc,zc⟩,zc,⟨g2,g3⟩,fun hx=> ?_,fun hx=> ?_,zc,?_,?_⟩
 ·obtain⟨a1,a2⟩:=hq1 hx
  refine⟨a1,?_⟩;rw [a2];omega
 ·obtain⟨a1,a2⟩:=hq2 hx
  refine⟨a1,?_⟩;rw [a2];omega
 ·by_cases hx:b<=2*(H%b)+bit
  ·rw [(hq1 hx).2];omega
  ·rw [(hq2 zc).2];omega
 ·by_cases hx:b<=2*(H%b)+bit
  ·rw [(hq1 hx).2];omega
  ·rw [(hq2 zc).2];omega
def zFf:Cfg:=⟨[0,1,2,3,6,9],[],[5,7],[]⟩
def zft:Sg:=⟨[.v (.agg [.i,.int .u64])],.v (.tup [.i,.bool])⟩
def zFg(zo:Qi)(yX:Qi4)(F:Nat):=zS [(81,zz zc8 ki zo F),(123,zz zhp ki4 yX F)]
def zoB(zo:Qi)(yX:Qi4)(F:Nat):FT ki2:=fun c a=>bif(zo.ok F (-9223372036854775808))then let d:Int:=zo.i 0 F (-9223372036854775808);let e:Int:=zo.i 1 F (-9223372036854775808);bif(yX.ok F c a d e)then bif(yX.b 0 F c a d e)then some (.v (.tuple #[.i (-9223372036854775808),.bool true]))else bif(zo.ok F 9223372036854775807)then let g:Int:=zo.i 0 F 9223372036854775807;let h:Int:=zo.i 1 F 9223372036854775807;bif(yX.ok F g h c a)then bif(yX.b 0 F g h c a)then some (.v (.tuple #[.i 9223372036854775807,.bool true]))else some (.v (.tuple #[.i (wrap .i64 a),.bool false]))else none else none else none else none
def zlq:=zoB zo yX
def yJ:jQ:=mkQ (l:=ki2) zft.o zlq
theorem zFh(zo:Qi)(yX:Qi4)(F:Nat):HHz zft ki2 (zFg zo yX F) zFf [] 82 (zoB zo yX F):=hzz
theorem zFi(F:Nat)(a c:Int):KO4 (zlq F a c) (yJ.ok F a c) (yJ.i 0 F a c) (yJ.b 1 F a c):=ko4 _
theorem zql(F:Nat):yc PP 82 (unS (zz zft ki2 yJ F)):=
 gzz F (zFh zo yX F) (zd (ze1 F) (zd (zvI F) zn))
def zJc:Cfg:=⟨[0,1,2,3,4,8,14],[],[],[]⟩
def zki:Sg:=⟨[.v (.agg [.i,.int .u64])],.v (.tup [.i,.bool])⟩
def zJd(jf:Qi)(F:Nat):=zS [(142,zz zml ki jf F)]
def zqm(jf:Qi)(F:Nat):FT ki2:=fun b c=>let a:Int:=wrap .i64 c;bif(jf.ok F a)then bif(((jf.i 0 F a)==b)&&((jf.i 1 F a)==c))then some (.v (.tuple #[.i a,.bool false]))else bif(decide (b<0))then some (.v (.tuple #[.i (-9223372036854775808),.bool true]))else some (.v (.tuple #[.i 9223372036854775807,.bool true]))else none
def znI:=zqm jf
def jz:jQ:=mkQ (l:=ki2) zki.o znI
theorem zJe(jf:Qi)(F:Nat):HHz zki ki2 (zJd jf F) zJc [] 143 (zqm jf F):=hzz
theorem zJf(F:Nat)(a c:Int):KO4 (znI F a c) (jz.ok F a c) (jz.i 0 F a c) (jz.b 1 F a c):=ko4 _
theorem zx9(F:Nat):yc PP 143 (unS (zz zki ki2 jz F)):=
 gzz F (zJe jf F) (zd (zwR F) zn)
def zoC:Cfg:=⟨[0,1,2,4,5,6,7,8,9,27],[(0,[0,1,2,4,5,6,8,36,37])],[],[]⟩
def zjq:Sg:=⟨[.v (.agg [.i,.int .u64]),.v (.int .u64)],.v (.tup [.agg [.i,.int .u64],.int .u64])⟩
def zoD(zN:Qi3)(F:Nat):=zS [(129,zz ze2 ki3 zN F)]
def zgj:TS:=⟨[(0,.v (.agg [.i,.int .u64])),(1,.v (.int .u64)),(2,.lp 0 (.lit 0)),(4,.lp 1 (.lit 0)),(5,.v (.int .u64)),(6,.v (.int .u64)),(8,.i)],[(0,⟨(.ex [.i,.v (.int .u64)]),true⟩),(1,⟨(.ex [.i,.v (.int .u64)]),true⟩)],2⟩
def zvL:TS:=zgj
def zfu(zN:Qi3)(F:Nat)(p s:FT zmy):FT zmy:=fun d e a g t b c h l m=>bif(decide (b<128))then let o:Int:=orI .u64 (wrap .u64 (t*2)) (Int.fdiv (wrap .u64 c) (9223372036854775808));bif(zN.ok F c h 1)then let u:Int:=zN.i 0 F c h 1;let v:Int:=zN.i 1 F c h 1;bif((Int.fdiv t (9223372036854775808))==1)then p d e a g (wrap .u64 (o-a)) (wrap .i64 (b+1)) u (orI .u64 v 1) l m else bif(decide (o>=a))then p d e a g (wrap .u64 (o-a)) (wrap .i64 (b+1)) u (orI .u64 v 1) l m else p d e a g o (wrap .i64 (b+1)) u v l m else none else s d e a g t b c h l m
def zgk:=zfu zN
def jM(F:Nat)(a:FT zmy):Nat->FT zmy:=lY fun b=>zgk F b a
theorem zrP{F n}{a}:jM F a (n+1)=zgk F (jM F a n) a:=rfl
def zht(k:Exit->VS->R):FT zmy:=cQ _ fun q=>k (.exit 0) (fS zvL q)
def zfV(jM:Nat->FT zmy->Nat->FT zmy)(F:Nat):List LW:=[⟨0,zgj,fun k q=>uQ _ (jM F (zht k) F) q⟩]
theorem zwU(F:Nat)(k:Exit->VS->R):∀n q,iQ PP (zoD zN F) zoC (zfV jM F) [] 159 0 0 k n zgj q=uQ _ (jM F (zht k) n) q:=
 lG (fun _=>by kernel_rfl) ((hzz:∀(zN:Qi3) (jM:Nat->FT zmy->Nat->FT zmy),LH PP (zoD zN F) zoC (zfV jM F) [] 159 0 0 k zgj (fun a=>zfu zN F a (zht k))) zN jM)
def zmH(jM:Nat->FT zmy->Nat->FT zmy)(F:Nat):FT ki3:=fun b c d=>
 jM F (fun m o p s e t g a h l=>
  some (.v (.tuple #[.agg #[.i g,.int .u64 a],.int .u64 e]))) F b c d 0 0 0 b c 0 0
def zjr:=zmH jM
def j0:Qi3:=mkQ (l:=ki3) zjq.o zjr
theorem zBO(zN:Qi3)(jM:Nat->FT zmy->Nat->FT zmy)(F:Nat):HHz zjq ki3 (zoD zN F) zoC (zfV jM F) 159 (zmH jM F):=hzz
theorem zt5(F:Nat)(a b c:Int):zXt (zjr F a b c) (j0.ok F a b c) (j0.i 0 F a b c) (j0.i 1 F a b c) (j0.i 2 F a b c):=zYi _
theorem zBP(F:Nat):yc PP 159 (unS (zz zjq ki3 j0 F)):=
 gzl (W:=zfV jM) F (zBO zN jM F) (zd (znA F) zn) (jP [(0,zaK PP 159 0)] kfz (zd (jZ (zfV jM F) rfl (yn (fun _ k q=>Le.ofEq (zwU F k F q).symm) jY)) zn))
def zh(z:Int):Int:=if z< -9223372036854775808 then-9223372036854775808 else if 9223372036854775807<z then 9223372036854775807 else z
def zw(z:Int):Bool:=decide (z< -9223372036854775808\/9223372036854775807<z)
theorem jk(z:Int):zr (zh z):=by unfold zr zh;split<;>(try split)<;>omega
theorem zdu{n:Int}{c:Bool}{z:Int}(h:n=zh z)(k:c=zw z):(some (VV.v (.tuple #[.i n,.bool c])):R)=some (.v (.tuple #[.i (zh z),.bool (zw z)])):=by rw [h,k]
theorem zWl(F:Nat){a b:Int}(ha:zr a)(hb:U64 b):znI F a b=some (.v (.tuple #[.i (zh (val a b)),.bool (zw (val a b))])):=by
 unfold znI zqm;dsimp only;obtain⟨o1,o2,o3⟩:=zXE F (zET b);refine bp o1 ?_;rw [o2,o3,zlj];have hv:∀z,z=val a b->True:=fun _ _=>trivial
 unfold zr at ha;unfold U64 at hb;by_cases h: -9223372036854775808<=val a b/\val a b<=9223372036854775807
 ·refine bp ?_ (zdu ?_ ?_)
  ·unfold val at h
   rw [Bool.and_eq_true,beq_iff_eq,beq_iff_eq];unfold hi lo;omega
  ·unfold zh
   rw [if_neg zc,if_neg zc];unfold val at*;omega
  ·unfold zw
   exact(df zc).symm
 ·refine bn ?_ ?_
  ·unfold val at h
   rw [Bool.and_eq_false_iff,beq_eq_false_iff_ne,beq_eq_false_iff_ne];unfold hi lo;omega
  ·by_cases h2:a<0
   ·refine bp (dt h2) (zdu ?_ ?_)
    ·unfold zh
     rw [if_pos];unfold val at*;omega
    ·unfold zw
     refine(dt ?_).symm;unfold val at*;omega
   ·refine bn (df h2) (zdu ?_ ?_)
    ·unfold zh
     rw [if_neg,if_pos]
     ·unfold val at*;omega
     ·unfold val at*;omega
    ·unfold zw
     refine(dt ?_).symm;unfold val at*;omega
theorem zUr(F:Nat){a b:Int}(ha:zr a)(hb:U64 b):zlq F a b=some (.v (.tuple #[.i (zh (val a b)),.bool (zw (val a b))])):=by
 unfold zlq zoB;dsimp only;obtain⟨o1,o2,o3⟩:=zso F (n:= -9223372036854775808) (by unfold zr;omega);obtain⟨p1,p2,p3⟩:=zso F (n:=9223372036854775807) (by unfold zr;omega);obtain⟨l1,l2⟩:=zqk F _ _ _ _ (zFe F (a:=a) (c:=hi (-9223372036854775808)) hb (zeZ (-9223372036854775808)));obtain⟨m1,m2⟩:=zqk F _ _ _ _ (zFe F (a:=hi 9223372036854775807) (c:=a) (zeZ 9223372036854775807) hb);rw [zce,zvz (by unfold zcr;omega)]at l2 m2;refine bp o1 ?_;rw [o2,o3];refine bp l1 ?_;rw [l2];by_cases h:val a b< -9223372036854775808
 ·refine bp (dt h) (zdu ?_ ?_)
  ·unfold zh;rw [if_pos h]
  ·unfold zw;exact(dt (.inl h)).symm
 ·refine bn (df h) (bp p1 ?_)
  rw [p2,p3];refine bp m1 ?_;rw [m2];by_cases h2:9223372036854775807<val a b
  ·refine bp (dt h2) (zdu ?_ ?_)
   ·unfold zh;rw [if_neg h,if_pos h2]
   ·unfold zw;exact(dt (.inr h2)).symm
  ·refine bn (df h2) (zdu ?_ ?_)
   ·unfold zh
    rw [if_neg h,if_neg h2,zlj];unfold zr at ha;unfold U64 at hb;unfold val at*;omega
   ·unfold zw;exact(df zc).symm
theorem zR1(F:Nat){x:Int}(h:zcr x):jz.ok F (hi x) (lo x)=true/\jz.i 0 F (hi x) (lo x)=zh x/\jz.b 1 F (hi x) (lo x)=zw x:=by
 have:=zJf F _ _ (zWl F (zwP x) (zeZ x));rw [zce,zvz h]at this;exact this
theorem zFj(F:Nat){x:Int}(h:zcr x):yJ.ok F (hi x) (lo x)=true/\yJ.i 0 F (hi x) (lo x)=zh x/\yJ.b 1 F (hi x) (lo x)=zw x:=by
 have:=zFi F _ _ (zUr F (zwP x) (zeZ x));rw [zce,zvz h]at this;exact this
theorem or1{E:Int}(h:E%2=0):orI .u64 (lo E) 1=lo (E+1)/\hi E=hi (E+1):=by
 constructor
 ·have hl:=zeZ E
  unfold U64 at hl;have e:lo E=lo E/2*((2^1:Nat):Int):=by
   have:((2^1:Nat):Int)=2:=rfl;rw [this];unfold lo;omega
  have e2:((2^1:Nat):Int)=2:=rfl;rw [e,ziN 1 zc zc (by rw [e2];omega) (by rw [e2];omega), <-e];unfold lo;omega
 ·unfold hi;omega
theorem zWm{R bit:Int}(hR:0<=R)(hR2:R<9223372036854775808)(hb:0<=bit)(hb2:bit<=1):orI .u64 (wrap .u64 (R*2)) bit=2*R+bit:=by
 have e2:((2^1:Nat):Int)=2:=rfl;have:=ziN 1 (a:=R) (b:=bit) hR hb (by rw [e2];omega) (by rw [e2];omega);rw [e2]at this;rw [zbz (by unfold U64;omega),this];omega
theorem zWn{A:Int}(h:0<=A)(h2:A<340282366920938463463374607431768211456):Int.fdiv (wrap .u64 (hi A)) 9223372036854775808=A/170141183460469231731687303715884105728:=by
 rw [zdF _ dcz,zd2];unfold hi;omega
theorem zXF{i:Nat}(h:i<128):(2:Int)^i*2^(127-i)=170141183460469231731687303715884105728:=by
 rw [ztV,show i+(127-i)=127 from zc];decide
theorem zXG{i:Nat}(h:i<128):(2:Int)^(128-i)=2*2^(127-i):=by
 rw [show 128-i=(127-i)+1 from zc,Int.pow_succ,Int.mul_comm]
theorem zya(F:Nat)(ex){X b:Int}(hX:0<=X)(hX2:X<340282366920938463463374607431768211456)(hb:1<=b)(hb2:b<=9223372036854775808)(x0 x1 x3 x8 x9:Int):∀(k n i:Nat) (x4 x5 x6 x7:Int),i+k=128->k<n->
 x4=X/2^(128-i)%b->x5=i->x6=hi ((X%2^(128-i))*2^i+X/2^(128-i)/b)->x7=lo ((X%2^(128-i))*2^i+X/2^(128-i)/b)->
 jM F ex n x0 x1 b x3 x4 x5 x6 x7 x8 x9=ex x0 x1 b x3 (X%b) 128 (hi (X/b)) (lo (X/b)) x8 x9
 |_,0,_,_,_,_,_,_,h,_,_,_,_=>absurd h zc
 |0,n+1,i,_,_,_,_,h,_,rfl,rfl,rfl,rfl=>by
  obtain rfl:i=128:=zc;rw [zrP];unfold zgk zfu;refine bn (df zc) ?_;simp only [Nat.sub_self,Int.pow_zero,Int.ediv_one,Int.emod_one,Int.zero_mul,Int.zero_add];rfl
 |k+1,n+1,i,_,_,_,_,h,hn,rfl,rfl,rfl,rfl=>by
  have hi':i<128:=zc;have ih:=zya F ex hX hX2 hb hb2 x0 x1 x3 x8 x9 k n (i+1);rw [show 128-(i+1)=127-i from zc,Int.pow_succ]at ih;rw [zrP];unfold zgk zfu;dsimp only;rw [zXG hi'];obtain⟨⟨s1,s2⟩,s3,⟨s4,s5⟩,s6,s7,s8,s9,s10⟩:=zJb (zb9 i) (zb9 (127-i)) (zXF hi') hX hX2 hb hb2;generalize(2:Int)^i=P at*
  generalize(2:Int)^(127-i)=T at*
  generalize hAe:X%(2*T)*P+X/(2*T)/b=A at*
  generalize X/(2*T)%b=R0 at*
  have hbit:0<=X/T%2/\X/T%2<=1:=zc;obtain⟨l1,l2,l3⟩:=zMZ F A 1;rw [show((1:Int).toNat)=1 from rfl,Int.pow_one]at l2 l3;refine bp (dt zc) (bp l1 ?_);rw [l2,l3,zWn s1 s2,s3,zWm s4 zc hbit.1 hbit.2];refine bn ?_ ?_
  ·rw [zdF _ dcz,beq_eq_false_iff_ne];omega
  ·by_cases hc:b<=2*R0+X/T%2
   ·refine bp (dt hc) ?_
    obtain⟨c1,c2⟩:=s6 hc;have hE:(A*2)%2=0:=zc;obtain⟨e1,e2⟩:=or1 hE;have hq:Eqv (A*2+1) (X%T*(P*2)+X/T/b):=by unfold Eqv;omega
    refine ih _ _ _ _ zc zc ?_ (zeu i zc) ?_ ?_
    ·rw [c1,zbz]
     unfold U64;omega
    ·rw [e2,zhc hq]
    ·rw [e1,zhb hq]
   ·refine bn (df hc) ?_
    obtain⟨c1,c2⟩:=s7 zc;have hq:Eqv (A*2) (X%T*(P*2)+X/T/b):=by unfold Eqv;omega
    exact ih _ _ _ _ zc zc c1.symm (zeu i zc) (zhc hq) (zhb hq)
def un(z:Int):Int:=z%340282366920938463463374607431768211456
theorem zR2(z:Int):Eqv (un z) z:=by unfold Eqv un;omega
theorem zJg(F:Nat)(hF:200<=F)(z:Int){b:Int}(hb:1<=b)(hb2:b<=9223372036854775808):zjr F (hi z) (lo z) b=some (.v (.tuple #[.agg #[.i (hi (un z/b)),.int .u64 (lo (un z/b))],.int .u64 (un z%b)])):=by
 unfold zjr zmH;have h1:0<=un z/\un z<340282366920938463463374607431768211456:=by unfold un;omega
 have e1:un z/2^(128-0)=0:=by
  rw [show(2:Int)^(128-0)=340282366920938463463374607431768211456 from dcz];omega
 have e2:un z%2^(128-0)=un z:=by
  rw [show(2:Int)^(128-0)=340282366920938463463374607431768211456 from dcz];omega
 rw [zya F _ h1.1 h1.2 hb hb2 (hi z) (lo z) 0 0 0 128 F 0 0 0 (hi z) (lo z) zc zc (by rw [e1];simp) rfl
  (by rw [e1,e2,Int.zero_ediv,Int.pow_zero,Int.mul_one,Int.add_zero,zhc (zR2 z)]) (by rw [e1,e2,Int.zero_ediv,Int.pow_zero,Int.mul_one,Int.add_zero,zhb (zR2 z)])]
def zsq:Cfg:=⟨[0,1,2,4,5,6,7,8,9,10,11,12,13,14,15,17,24,28,38,56,70,77],[(0,[0,1,2,4,5,6,7,8,9,10,11,12,14,15,16,17,18,19,20,21,22,23,24,25,26,27,28,29,30,31,32,33,34,35,36,63,64,65,66,67,68,69,70,71,72,73,74,75,76,77,78,79,80,81])],[],[]⟩
def zkj:Sg:=⟨[.v (.agg [.i,.int .u64]),.i],.v (.tup [.agg [.i,.int .u64],.i,.bool])⟩
def zsr(zA zg:jQ)(zp:Qcn)(F:Nat):=zS [(119,zz ze7 ki2 zA F),(118,zz zbU ki2 zg F),(122,zz zda kcn zp F)]
def zjs:TS:=⟨[(0,.v (.agg [.i,.int .u64])),(1,.i),(2,.lp 0 (.lit 0)),(4,.lp 1 (.lit 0)),(5,.i),(6,.v (.bool)),(7,.lp 2 (.lit 0)),(8,.v (.int .u64)),(9,.ls 3 (.lit 0) .hole 1),(10,.ls 4 (.lit 0) (.lit 128) 1),(11,.v (.int .u64)),(12,.i)],[(0,⟨(.ex [.i,.v (.int .u64)]),true⟩),(1,⟨(.ex [.i,.v (.int .u64)]),true⟩),(2,⟨(.ex [.i,.v (.int .u64)]),true⟩),(3,⟨.hole,true⟩),(4,⟨.hole,true⟩)],5⟩
def zyK:TS:=zjs
def zfW(F:Nat)(z f:FT zcy):FT zcy:=fun p s t u w m o n b x d e g h l c a=>
 bif(decide (b>=0))then(
  bif((decide (0<=b))&&(decide (b<((o:Nat):Int))))then(
   let A:Nat:=(0+((Int.toNat b)*1))
   bif((isI .i64 c[A]?)&&true)then(
    let y:Int:=(wrap .u64 ((wrap .u64 (2*n))+(wrap .u64 (iv c[A]?))))
    bif(decide (n>=9223372036854775808))then(
     bif((decide (0<=b))&&(decide (b<128)))then(
      let r:Nat:=(0+((Int.toNat b)*1))
      bif(decide ((r+1)<=a.length))then(
       z p s t u w m o (wrap .u64 (y-m)) (wrap .i64 (b-1)) x d e g h l c (a.take r++[.v (.i 1)]++a.drop (r+1)))else none)else none)
    else(
     bif(decide (y>=m))then(
      bif((decide (0<=b))&&(decide (b<128)))then(
       let j:Nat:=(0+((Int.toNat b)*1))
       bif(decide ((j+1)<=a.length))then(
        z p s t u w m o (wrap .u64 (y-m)) (wrap .i64 (b-1)) x d e g h l c (a.take j++[.v (.i 1)]++a.drop (j+1)))else none)else none)
     else(
      z p s t u w m o y (wrap .i64 (b-1)) x d e g h l c a)))else none)else none)
 else(
  f p s t u w m o n b x d e g h l c a)
def jB(F:Nat)(a:FT zcy):Nat->FT zcy:=lY fun b=>zfW F b a
theorem zt6{F n}{a}:jB F a (n+1)=zfW F (jB F a n) a:=rfl
def zkX(k:Exit->VS->R):FT zcy:=cQ _ fun q=>k (.exit 0) (fS zyK q)
def zkk(jB:Nat->FT zcy->Nat->FT zcy)(F:Nat):List LW:=[⟨0,zjs,fun k q=>uQ _ (jB F (zkX k) F) q⟩]
theorem zAx(F:Nat)(k:Exit->VS->R):∀n q,iQ PP (zsr zA zg zp F) zsq (zkk jB F) [] 104 0 0 k n zjs q=uQ _ (jB F (zkX k) n) q:=
 lG (fun _=>by kernel_rfl) ((hzz:∀(zA:jQ) (zg:jQ) (zp:Qcn) (jB:Nat->FT zcy->Nat->FT zcy),LH PP (zsr zA zg zp F) zsq (zkk jB F) [] 104 0 0 k zjs (fun a=>zfW F a (zkX k))) zA zg zp jB)
def zqn(zA zg:jQ)(zp:Qcn)(jB:Nat->FT zcy->Nat->FT zcy)(F:Nat):FT ki3:=fun a b s=>bif(s==0)then some (.v (.tuple #[.agg #[.i 0,.int .u64 0],.i 0,.bool false]))else let v4:Int:=wrap .u64 s;bif(decide (a<0))then bif(zA.ok F a b)then let t:Int:=zA.i 0 F a b;let u:Int:=zA.i 1 F a b;bif(decide (s<0))then bif(zg.ok F t u)then jB F (fun v7 v8 v9 v10 v11 v12 v13 B v15 w v17 v18 v19 v20 v21 v22 x=>bif(zp.ok F x 128)then let d:Int:=zp.i 0 F x 128;let e:Int:=zp.i 1 F x 128;bif(!((decide (w<0))==(decide (v9<0))))then bif(zA.ok F d e)then let C:Int:=zA.i 0 F d e;let D:Int:=zA.i 1 F d e;let E:Int:=wrap .i64 B;bif(decide (w<0))then some (.v (.tuple #[.agg #[.i C,.int .u64 D],.i (wrap .i64 (0-E)),.bool true]))else some (.v (.tuple #[.agg #[.i C,.int .u64 D],.i E,.bool true]))else none else let G:Int:=wrap .i64 B;bif(decide (w<0))then some (.v (.tuple #[.agg #[.i d,.int .u64 e],.i (wrap .i64 (0-G)),.bool true]))else some (.v (.tuple #[.agg #[.i d,.int .u64 e],.i G,.bool true]))else none) F a b s 0 false (wrap .u64 ((wrap .u64 (wrap .i64 (0-(wrap .i64 (s+1)))))+1)) (zg.n 1 F t u) 0 127 a b 0 0 t u (zg.c 0 F t u) ((List.replicate 128 [.v (.i 0)]).flatten)else none else bif(zg.ok F t u)then jB F (fun v30 v31 Z v33 v34 v35 v36 H v38 y v40 v41 v42 v43 v44 v45 z=>bif(zp.ok F z 128)then let g:Int:=zp.i 0 F z 128;let h:Int:=zp.i 1 F z 128;bif(!((decide (y<0))==(decide (Z<0))))then bif(zA.ok F g h)then let I:Int:=zA.i 0 F g h;let J:Int:=zA.i 1 F g h;let K:Int:=wrap .i64 H;bif(decide (y<0))then some (.v (.tuple #[.agg #[.i I,.int .u64 J],.i (wrap .i64 (0-K)),.bool true]))else some (.v (.tuple #[.agg #[.i I,.int .u64 J],.i K,.bool true]))else none else let L:Int:=wrap .i64 H;bif(decide (y<0))then some (.v (.tuple #[.agg #[.i g,.int .u64 h],.i (wrap .i64 (0-L)),.bool true]))else some (.v (.tuple #[.agg #[.i g,.int .u64 h],.i L,.bool true]))else none) F a b s 0 false v4 (zg.n 1 F t u) 0 127 a b 0 0 t u (zg.c 0 F t u) ((List.replicate 128 [.v (.i 0)]).flatten)else none else none else bif(decide (s<0))then bif(zg.ok F a b)then jB F (fun v53 v54 v55 v56 v57 v58 v59 M v61 f v63 v64 v65 v66 v67 v68 r=>bif(zp.ok F r 128)then let l:Int:=zp.i 0 F r 128;let m:Int:=zp.i 1 F r 128;bif(!((decide (f<0))==(decide (v55<0))))then bif(zA.ok F l m)then let N:Int:=zA.i 0 F l m;let O:Int:=zA.i 1 F l m;let P:Int:=wrap .i64 M;bif(decide (f<0))then some (.v (.tuple #[.agg #[.i N,.int .u64 O],.i (wrap .i64 (0-P)),.bool true]))else some (.v (.tuple #[.agg #[.i N,.int .u64 O],.i P,.bool true]))else none else let Q:Int:=wrap .i64 M;bif(decide (f<0))then some (.v (.tuple #[.agg #[.i l,.int .u64 m],.i (wrap .i64 (0-Q)),.bool true]))else some (.v (.tuple #[.agg #[.i l,.int .u64 m],.i Q,.bool true]))else none) F a b s 0 false (wrap .u64 ((wrap .u64 (wrap .i64 (0-(wrap .i64 (s+1)))))+1)) (zg.n 1 F a b) 0 127 a b 0 0 a b (zg.c 0 F a b) ((List.replicate 128 [.v (.i 0)]).flatten)else none else bif(zg.ok F a b)then jB F (fun v76 v77 v78 v79 v80 v81 v82 T v84 j v86 v87 v88 v89 v90 v91 A=>bif(zp.ok F A 128)then let o:Int:=zp.i 0 F A 128;let p:Int:=zp.i 1 F A 128;bif(!((decide (j<0))==(decide (v78<0))))then bif(zA.ok F o p)then let U:Int:=zA.i 0 F o p;let V:Int:=zA.i 1 F o p;let X:Int:=wrap .i64 T;bif(decide (j<0))then some (.v (.tuple #[.agg #[.i U,.int .u64 V],.i (wrap .i64 (0-X)),.bool true]))else some (.v (.tuple #[.agg #[.i U,.int .u64 V],.i X,.bool true]))else none else let Y:Int:=wrap .i64 T;bif(decide (j<0))then some (.v (.tuple #[.agg #[.i o,.int .u64 p],.i (wrap .i64 (0-Y)),.bool true]))else some (.v (.tuple #[.agg #[.i o,.int .u64 p],.i Y,.bool true]))else none) F a b s 0 false v4 (zg.n 1 F a b) 0 127 a b 0 0 a b (zg.c 0 F a b) ((List.replicate 128 [.v (.i 0)]).flatten)else none
def znJ:=zqn zA zg zp jB
def yE:Qi3:=mkQ (l:=ki3) zkj.o znJ
theorem zJh(zA zg:jQ)(zp:Qcn)(jB:Nat->FT zcy->Nat->FT zcy)(F:Nat):HHz zkj ki3 (zsr zA zg zp F) zsq (zkk jB F) 104 (zqn zA zg zp jB F):=hzz
theorem zyb(F:Nat)(a c d:Int):zWb (znJ F a c d) (yE.ok F a c d) (yE.i 0 F a c d) (yE.i 1 F a c d) (yE.i 2 F a c d) (yE.b 3 F a c d):=zXu _
theorem zyc(F:Nat):yc PP 104 (unS (zz zkj ki3 yE F)):=
 gzl (W:=zkk jB) F (zJh zA zg zp jB F) (zd (znG F) (zd (zc9 F) (zd (zhi F) zn))) (jP [(0,zaK PP 104 0)] kfz (zd (jZ (zkk jB F) rfl (yn (fun _ k q=>Le.ofEq (zAx F k F q).symm) jY)) zn))
def zrQ(Q:Int)(c:Nat):List VV:=List.replicate c (.v (.i 0))++(ds Q 128).drop c
theorem zR3(Q:Int){c:Nat}(h:c<=128):(zrQ Q c).length=128:=by
 unfold zrQ;rw [List.length_append,List.length_replicate,List.length_drop,zd5];omega
theorem zEc(Q:Int){c:Nat}(h:c<128):(ds Q 128).drop c= .v (.i (dg Q c))::(ds Q 128).drop (c+1):=by
 have h1:c<(ds Q 128).length:=by rw [zd5];exact h
 rw [List.drop_eq_getElem_cons h1];congr 1
 have:=zmx Q h;rw [List.getElem?_eq_getElem h1]at this;exact Option.some.inj this
theorem zPZ(Q:Int){c:Nat}(h:c<128)(hd:dg Q c=0):zrQ Q (c+1)=zrQ Q c:=by
 unfold zrQ;rw [zEc Q h,hd,List.replicate_succ',List.append_assoc];rfl
theorem zR4(Q:Int){c:Nat}(h:c<128)(hd:dg Q c=1):(zrQ Q (c+1)).take c++[.v (.i 1)]++(zrQ Q (c+1)).drop (c+1)=zrQ Q c:=by
 unfold zrQ;rw [zEc Q h,hd,List.take_append_of_le_length (by rw [List.length_replicate];omega),List.take_replicate,List.drop_append,List.length_replicate,List.drop_eq_nil_of_le (by rw [List.length_replicate];omega)];rw [show min c (c+1)=c from zc,Nat.sub_self,List.drop_zero,List.nil_append,List.append_assoc];rfl
theorem zWo{X b:Int}(i:Nat)(hb:1<=b):X/2^i/b%2=dg (X/b) i:=by
 unfold dg;rw [Int.ediv_ediv_of_nonneg (Int.le_of_lt (zb9 i)),Int.ediv_ediv_of_nonneg zc,Int.mul_comm]
theorem zEd(F:Nat)(ex){X b:Int}(hX:0<=X)(hX2:X<340282366920938463463374607431768211456)(hb:1<=b)(hb2:b<=9223372036854775808)(z:Int)(hz:X=un z)(x0 x1 x2 x3:Int)(x4:Bool)(x9 x10 x11 x12 x13 x14:Int):∀(c n:Nat) (x7 x8:Int) (l:List VV),c<=128->c<n->
 x7=X/2^c%b->x8=(c:Int)-1->l=zrQ (X/b) c->
 jB F ex n x0 x1 x2 x3 x4 b 128 x7 x8 x9 x10 x11 x12 x13 x14 (ds z 128) l=ex x0 x1 x2 x3 x4 b 128 (X%b) (-1) x9 x10 x11 x12 x13 x14 (ds z 128) (ds (X/b) 128)
 |_,0,_,_,_,_,h,_,_,_=>absurd h zc
 |0,n+1,_,_,_,_,_,rfl,rfl,rfl=>by
  rw [zt6];unfold zfW;refine bn (df zc) ?_;rw [Int.pow_zero,Int.ediv_one];rfl
 |c+1,n+1,_,_,_,hc,hn,rfl,rfl,rfl=>by
  have hc':c<128:=zc;have ih:=zEd F ex hX hX2 hb hb2 z hz x0 x1 x2 x3 x4 x9 x10 x11 x12 x13 x14 c n;rw [zt6];unfold zfW;dsimp only;rw [show((c+1:Nat):Int)-1=(c:Int)from zc];have hs:=zJb (P:=2^(127-c)) (T:=2^c) (zb9 _) (zb9 c) (by rw [Int.mul_comm,zXF hc']) hX hX2 hb hb2;obtain⟨_,_,⟨s4,s5⟩,s6,s7,_⟩:=hs;rw [show(2:Int)*2^c=2^(c+1) by rw [Int.pow_succ,Int.mul_comm]]at s4 s5 s6 s7;have hbit:X/2^c%2=dg z c:=by
   rw [hz];exact zIF z (n:=128) hc'
  have hq:=zWo (X:=X) (b:=b) c hb;have hd:=zsd z c;have key:(b<=2*(X/2^(c+1)%b)+dg z c->dg (X/b) c=1)/\(2*(X/2^(c+1)%b)+dg z c<b->dg (X/b) c=0):=by
   rw [<-hq, <-hbit];have e:X/2^c/2=X/2^(c+1):=zxZ X c;clear ih hn hbit hq hd;generalize X/2^(c+1)=H at*
   generalize X/2^c=h at*
   have g1:=Int.mul_ediv_add_emod H b;constructor
   ·intro hx
    obtain⟨c1,_⟩:=s6 hx;have e1:h=(2*(H%b)+h%2-b)+(2*(H/b)+1)*b:=by
     rw [Int.add_mul,Int.one_mul,Int.mul_assoc,Int.mul_comm (H/b) b];omega
    have:h/b=2*(H/b)+1:=by
     have h2:h/b=((2*(H%b)+h%2-b)+(2*(H/b)+1)*b)/b:=by rw [<-e1]
     rw [h2,Int.add_mul_ediv_right _ _ zc,Int.ediv_eq_zero_of_lt zc zc];omega
    omega
   ·intro hx
    have e1:h=(2*(H%b)+h%2)+(2*(H/b))*b:=by
     rw [Int.mul_assoc,Int.mul_comm (H/b) b];omega
    have:h/b=2*(H/b):=by
     have h2:h/b=((2*(H%b)+h%2)+(2*(H/b))*b)/b:=by rw [<-e1]
     rw [h2,Int.add_mul_ediv_right _ _ zc,Int.ediv_eq_zero_of_lt zc zc];omega
    omega
  rw [hbit]at s6 s7;generalize hR:X/2^(c+1)%b=R0 at*
  refine bp (dt zc) (bp (zrN c 128 hc') (bp (zsl z hc') ?_));rw [zEa z hc',zbz (x:=dg z c) (by unfold U64;omega),zbz (x:=2*R0) (by unfold U64;omega),zbz (x:=2*R0+dg z c) (by unfold U64;omega)];refine bn (df zc) ?_;have w8:wrap .i64 ((c:Int)-1)=(c:Int)-1:=zH (by unfold zr;omega);by_cases hx:b<=2*R0+dg z c
  ·refine bp (dt hx) (bp (zrN c 128 hc') (bp ?_ ?_))
   ·rw [zBM,zR3 _ hc,dt zc]
   ·refine ih _ _ _ zc zc ?_ w8 ?_
    ·rw [(s6 hx).1,zbz]
     unfold U64;omega
    ·rw [zBM]
     exact zR4 _ hc' (key.1 hx)
  ·refine bn (df hx) ?_
   exact ih _ _ _ zc zc (s7 zc).1.symm w8 (zPZ _ hc' (key.2 zc))
theorem zVI{z b:Int}(hz:zcr z)(hb:zr b)(h0:b≠0):
 (un (if z<0 then-z else z)/(if b<0 then-b else b)=if(decide (z<0))=(decide (b<0))then Int.tdiv z b else-Int.tdiv z b)/\
 un (if z<0 then-z else z)%(if b<0 then-b else b)=(if z<0 then-Int.tmod z b else Int.tmod z b):=by
 have e:un (if z<0 then-z else z)=(if z<0 then-z else z):=by unfold un;unfold zcr at hz;split<;>omega
 rw [e];by_cases h1:z<0<;>by_cases h2:b<0
 ·simp only [h1,h2,if_true]
  rw [<-Int.tdiv_eq_ediv_of_nonneg zc, <-Int.tmod_eq_emod_of_nonneg zc,Int.neg_tdiv_neg,Int.neg_tmod,Int.tmod_neg];exact⟨rfl,rfl⟩
 ·simp only [h1,h2,if_true,if_false,decide_true,decide_false]
  rw [<-Int.tdiv_eq_ediv_of_nonneg zc, <-Int.tmod_eq_emod_of_nonneg zc,Int.neg_tdiv,Int.neg_tmod];exact⟨rfl,rfl⟩
 ·simp only [h1,h2,if_true,if_false,decide_true,decide_false]
  rw [<-Int.tdiv_eq_ediv_of_nonneg zc, <-Int.tmod_eq_emod_of_nonneg zc,Int.tdiv_neg,Int.tmod_neg];exact⟨rfl,rfl⟩
 ·simp only [h1,h2,if_true,if_false]
  rw [<-Int.tdiv_eq_ediv_of_nonneg zc, <-Int.tmod_eq_emod_of_nonneg zc];exact⟨rfl,rfl⟩
def zM0:Cfg:=⟨[0,1,2,4,5,6,7,8,9,10,12,17,32,39],[],[23],[]⟩
def zqo:Sg:=⟨[.v (.agg [.i,.int .u64]),.i],.v (.tup [.agg [.i,.int .u64],.i,.bool])⟩
def zM1(yl:jQ)(jT:Qi)(j0:Qi3)(F:Nat):=zS [(158,zz ziS ki2 yl F),(160,zz zj8 ki jT F),(159,zz zjq ki3 j0 F)]
def zss(yl:jQ)(jT:Qi)(j0:Qi3)(F:Nat):FT ki3:=fun a e g=>bif(g==0)then some (.v (.tuple #[.agg #[.i 0,.int .u64 0],.i 0,.bool false]))else bif(decide (a<0))then bif(yl.ok F a e)then let u:Int:=yl.i 0 F a e;let w:Int:=yl.i 1 F a e;bif(jT.ok F g)then let x:Int:=jT.i 0 F g;bif(j0.ok F u w x)then let h:Int:=j0.i 0 F u w x;let l:Int:=j0.i 1 F u w x;let y:Int:=j0.i 2 F u w x;bif(!((decide (a<0))==(decide (g<0))))then bif(yl.ok F h l)then let z:Int:=yl.i 0 F h l;let f:Int:=yl.i 1 F h l;let n:Int:=wrap .i64 y;bif(decide (a<0))then some (.v (.tuple #[.agg #[.i z,.int .u64 f],.i (wrap .i64 (0-n)),.bool true]))else some (.v (.tuple #[.agg #[.i z,.int .u64 f],.i n,.bool true]))else none else let r:Int:=wrap .i64 y;bif(decide (a<0))then some (.v (.tuple #[.agg #[.i h,.int .u64 l],.i (wrap .i64 (0-r)),.bool true]))else some (.v (.tuple #[.agg #[.i h,.int .u64 l],.i r,.bool true]))else none else none else none else bif(jT.ok F g)then let d:Int:=jT.i 0 F g;bif(j0.ok F a e d)then let b:Int:=j0.i 0 F a e d;let c:Int:=j0.i 1 F a e d;let m:Int:=j0.i 2 F a e d;bif(!((decide (a<0))==(decide (g<0))))then bif(yl.ok F b c)then let o:Int:=yl.i 0 F b c;let p:Int:=yl.i 1 F b c;let s:Int:=wrap .i64 m;bif(decide (a<0))then some (.v (.tuple #[.agg #[.i o,.int .u64 p],.i (wrap .i64 (0-s)),.bool true]))else some (.v (.tuple #[.agg #[.i o,.int .u64 p],.i s,.bool true]))else none else let t:Int:=wrap .i64 m;bif(decide (a<0))then some (.v (.tuple #[.agg #[.i b,.int .u64 c],.i (wrap .i64 (0-t)),.bool true]))else some (.v (.tuple #[.agg #[.i b,.int .u64 c],.i t,.bool true]))else none else none
def zqp:=zss yl jT j0
def zbC:Qi3:=mkQ (l:=ki3) zqo.o zqp
theorem zM2(yl:jQ)(jT:Qi)(j0:Qi3)(F:Nat):HHz zqo ki3 (zM1 yl jT j0 F) zM0 [] 128 (zss yl jT j0 F):=hzz
theorem zAy(F:Nat)(a c d:Int):zWb (zqp F a c d) (zbC.ok F a c d) (zbC.i 0 F a c d) (zbC.i 1 F a c d) (zbC.i 2 F a c d) (zbC.b 3 F a c d):=zXu _
theorem zM3(F:Nat):yc PP 128 (unS (zz zqo ki3 zbC F)):=
 gzz F (zM2 yl jT j0 F) (zd (zuD F) (zd (zx0 F) (zd (zBP F) zn)))
def zFk(z b:Int):Value:=if b=0 then .tuple #[.agg #[.i 0,.int .u64 0],.i 0,.bool false]else .tuple #[.agg #[.i (hi (Int.tdiv z b)),.int .u64 (lo (Int.tdiv z b))],.i (Int.tmod z b),.bool true]
theorem zR5{z b:Int}(hb:zr b)(h0:b≠0): -9223372036854775808<Int.tmod z b/\Int.tmod z b<9223372036854775808:=by
 unfold zr at hb;have h1:=Int.emod_nonneg (if z<0 then-z else z) (show(if b<0 then-b else b)≠0 by split<;>omega);have h2:=Int.emod_lt_of_pos (if z<0 then-z else z) (show 0<(if b<0 then-b else b) by split<;>omega);have h3:(if z<0 then-z else z)%(if b<0 then-b else b)=(if z<0 then-Int.tmod z b else Int.tmod z b):=by
  by_cases hz:z<0<;>by_cases hbn:b<0<;>simp only [hz,hbn,if_true,if_false]
  ·rw [<-Int.tmod_eq_emod_of_nonneg zc,Int.neg_tmod,Int.tmod_neg]
  ·rw [<-Int.tmod_eq_emod_of_nonneg zc,Int.neg_tmod]
  ·rw [<-Int.tmod_eq_emod_of_nonneg zc,Int.tmod_neg]
  ·rw [<-Int.tmod_eq_emod_of_nonneg zc]
 rw [h3]at h1 h2;revert h1 h2
 by_cases hz:z<0<;>simp only [hz,if_true,if_false]<;>intro h1 h2<;>split at h2<;>omega
theorem zzz{a b:Int}(hb:U64 b):(val a b<0)↔a<0:=by unfold val;unfold U64 at hb;omega
theorem zkl{x y r z b:Int}(h0:b≠0)(hx:x=hi (Int.tdiv z b))(hy:y=lo (Int.tdiv z b))(hr:r=Int.tmod z b):
 (some (VV.v (.tuple #[.agg #[.i x,.int .u64 y],.i r,.bool true])):R)=some (.v (zFk z b)):=by
 unfold zFk;rw [if_neg h0,hx,hy,hr]
theorem zXH(F:Nat)(hF:200<=F){a c b:Int}(ha:zr a)(hc:U64 c)(hb:zr b):zqp F a c b=some (.v (zFk (val a c) b)):=by
 unfold zqp zss;dsimp only;by_cases h0:b=0
 ·refine bp (by simp [h0]) ?_
  unfold zFk;rw [if_pos h0]
 ·refine bn (by simp [h0]) ?_
  have hz:=zD3 ha hc;have hzn:=zzz (a:=a) hc;obtain⟨q1,q2⟩:=zVI hz hb h0;have hm:=zR5 (z:=val a c) hb h0;obtain⟨b1,b2⟩:=zse F b (zMU F hb);have hb1:1<=(if b<0 then-b else b)/\(if b<0 then-b else b)<=9223372036854775808:=by unfold zr at hb;split<;>omega
  by_cases han:a<0
  ·have hvn:=hzn.2 han
   simp only [hvn,if_true,decide_true]at q1 q2;obtain⟨n1,n2,n3⟩:=zuC F _ _ (zRS F ha hc);obtain⟨d1,d2,d3,d4⟩:=zt5 F _ _ _ (zJg F hF (-val a c) hb1.1 hb1.2);refine bp (dt han) (bp n1 (bp b1 ?_));rw [n2,n3,b2];refine bp d1 ?_;rw [d2,d3,d4,q1,q2];have w1:wrap .i64 (0-wrap .i64 (-Int.tmod (val a c) b))=Int.tmod (val a c) b:=by rw [zlj,zlj];omega
   by_cases hbn:b<0
   ·simp only [han,hbn,decide_true,if_true,BEq.rfl,Bool.not_true,cond_false,cond_true]
    exact zkl h0 rfl rfl w1
   ·simp only [han,hbn,decide_true,decide_false]
    refine bp rfl ?_;simp only [show((true=false)↔False)from dcz,if_false];obtain⟨m1,m2,m3⟩:=zI9 F (-Int.tdiv (val a c) b);refine bp m1 ?_;rw [m2,m3,Int.neg_neg];exact bp rfl (zkl h0 rfl rfl w1)
  ·have hvn: ¬val a c<0:=fun h=>han (hzn.1 h)
   simp only [hvn,if_false,decide_false]at q1 q2;have hv1:=zEV ha hc;have hv2:=zAf (h:=a) hc;have hd:=zt5 F _ _ _ (zJg F hF (val a c) hb1.1 hb1.2);rw [hv1,hv2]at hd;obtain⟨d1,d2,d3,d4⟩:=hd;refine bn (df han) (bp b1 ?_);rw [b2];refine bp d1 ?_;rw [d2,d3,d4,q1,q2];have w1:wrap .i64 (Int.tmod (val a c) b)=Int.tmod (val a c) b:=by rw [zlj];omega
   by_cases hbn:b<0
   ·simp only [han,hbn,decide_true,decide_false]
    refine bp rfl ?_;simp only [show((false=true)↔False)from dcz,if_false];obtain⟨m1,m2,m3⟩:=zI9 F (-Int.tdiv (val a c) b);refine bp m1 ?_;rw [m2,m3,Int.neg_neg];exact bn rfl (zkl h0 rfl rfl w1)
   ·simp only [han,hbn,decide_false,if_true,BEq.rfl,Bool.not_true,cond_false]
    exact zkl h0 rfl rfl w1
theorem zJi(x:VV):∀n,(List.replicate n [x]).flatten=List.replicate n x
 |0=>rfl
 |n+1=>by rw [List.replicate_succ,List.flatten_cons,zJi x n,List.replicate_succ];rfl
theorem zR6(Q:Int):(List.replicate 128 [VV.v (.i 0)]).flatten=zrQ Q 128:=by
 unfold zrQ;rw [zJi,List.drop_eq_nil_of_le (by rw [zd5];omega),List.append_nil]
theorem ztn(F:Nat)(hF:200<=F)(ex)(z:Int){b:Int}(hb:1<=b)(hb2:b<=9223372036854775808)(x0 x1 x2 x3:Int)(x4:Bool)(x9 x10 x11 x12 x13 x14:Int):
 jB F ex F x0 x1 x2 x3 x4 b 128 0 127 x9 x10 x11 x12 x13 x14 (ds z 128) ((List.replicate 128 [VV.v (.i 0)]).flatten)=ex x0 x1 x2 x3 x4 b 128 (un z%b) (-1) x9 x10 x11 x12 x13 x14 (ds z 128) (ds (un z/b) 128):=by
 have h1:0<=un z/\un z<340282366920938463463374607431768211456:=by unfold un;omega
 refine zEd F ex h1.1 h1.2 hb hb2 z rfl x0 x1 x2 x3 x4 x9 x10 x11 x12 x13 x14 128 F 0 127 _ zc zc ?_ zc (zR6 _);rw [show(2:Int)^128=340282366920938463463374607431768211456 from dcz,Int.ediv_eq_zero_of_lt h1.1 h1.2];simp
theorem zR7(F:Nat)(hF:200<=F){a c b:Int}(ha:zr a)(hc:U64 c)(hb:zr b):znJ F a c b=some (.v (zFk (val a c) b)):=by
 unfold znJ zqn;dsimp only;by_cases h0:b=0
 ·refine bp (by simp [h0]) ?_
  unfold zFk;rw [if_pos h0]
 ·refine bn (by simp [h0]) ?_
  have hz:=zD3 ha hc;have hzn:=zzz (a:=a) hc;obtain⟨q1,q2⟩:=zVI hz hb h0;have hm:=zR5 (z:=val a c) hb h0;have hb1:1<=(if b<0 then-b else b)/\(if b<0 then-b else b)<=9223372036854775808:=by unfold zr at hb;split<;>omega
  by_cases han:a<0
  ·have hvn:=hzn.2 han
   simp only [hvn,if_true,decide_true]at q1 q2;obtain⟨n1,n2,n3⟩:=zx8 F _ _ (zRX F hF (a:=a) hc);obtain⟨d1,d2,d3⟩:=zcf F _ _ (zhj F hF (a:=hi (-val a c)) (zeZ (-val a c)));have hds:ds (W (-val a c)) 128=ds (-val a c) 128:=by
    unfold ds;apply List.map_congr_left
    intro i hi;have hi:i<128:=List.mem_range.1 hi;unfold dg;rw [<-zIF _ hi, <-zIF (-val a c) hi];have:=zhd (-val a c);unfold Eqv at this;rw [show(2:Int)^128=340282366920938463463374607431768211456 from dcz,this]
   rw [zce,hds]at d2;refine bp (dt han) (bp n1 ?_);rw [n2,n3];have w1:wrap .i64 (0-wrap .i64 (-Int.tmod (val a c) b))=Int.tmod (val a c) b:=by rw [zlj,zlj];omega
   by_cases hbn:b<0
   ·simp only [hbn,if_true,decide_true]at q1 q2 hb1
    have hw:wrap .u64 (wrap .u64 (wrap .i64 (0-wrap .i64 (b+1)))+1)= -b:=by unfold zr at hb;rw [zlj,zlj,zd2,zd2];omega
    refine bp (dt hbn) (bp d1 ?_);rw [d2,d3,hw,ztn F hF _ _ hb1.1 hb1.2,q1,q2];obtain⟨e1,e2,e3⟩:=zdb F _ _ (zmF F hF (Int.tdiv (val a c) b));refine bp e1 (bn (by simp [han,hbn]) (bp (dt han) ?_));rw [e2,e3];exact zkl h0 rfl rfl w1
   ·simp only [hbn,if_false,decide_false,show((true=false)↔False)from dcz]at q1 q2 hb1
    refine bn (df hbn) (bp d1 ?_);rw [d2,d3,zbz (x:=b) (by unfold zr at hb;unfold U64;omega),ztn F hF _ _ hb1.1 hb1.2,q1,q2];obtain⟨e1,e2,e3⟩:=zdb F _ _ (zmF F hF (-Int.tdiv (val a c) b));obtain⟨m1,m2,m3⟩:=zAt F hF (-Int.tdiv (val a c) b);refine bp e1 (bp (by simp [han,hbn]) ?_);rw [e2,e3];refine bp m1 (bp (dt han) ?_);rw [m2,m3,Int.neg_neg];exact zkl h0 rfl rfl w1
  ·have hvn: ¬val a c<0:=fun h=>han (hzn.1 h)
   simp only [hvn,if_false,decide_false]at q1 q2;obtain⟨d1,d2,d3⟩:=zcf F _ _ (zhj F hF (a:=a) hc);refine bn (df han) ?_;have w1:wrap .i64 (Int.tmod (val a c) b)=Int.tmod (val a c) b:=by rw [zlj];omega
   by_cases hbn:b<0
   ·simp only [hbn,if_true,decide_true,show((false=true)↔False)from dcz,if_false]at q1 q2 hb1
    have hw:wrap .u64 (wrap .u64 (wrap .i64 (0-wrap .i64 (b+1)))+1)= -b:=by unfold zr at hb;rw [zlj,zlj,zd2,zd2];omega
    refine bp (dt hbn) (bp d1 ?_);rw [d2,d3,hw,ztn F hF _ _ hb1.1 hb1.2,q1,q2];obtain⟨e1,e2,e3⟩:=zdb F _ _ (zmF F hF (-Int.tdiv (val a c) b));obtain⟨m1,m2,m3⟩:=zAt F hF (-Int.tdiv (val a c) b);refine bp e1 (bp (by simp [han,hbn]) ?_);rw [e2,e3];refine bp m1 (bn (df han) ?_);rw [m2,m3,Int.neg_neg];exact zkl h0 rfl rfl w1
   ·simp only [hbn,if_false,decide_false,if_true]at q1 q2 hb1
    refine bn (df hbn) (bp d1 ?_);rw [d2,d3,zbz (x:=b) (by unfold zr at hb;unfold U64;omega),ztn F hF _ _ hb1.1 hb1.2,q1,q2];obtain⟨e1,e2,e3⟩:=zdb F _ _ (zmF F hF (Int.tdiv (val a c) b));refine bp e1 (bn (by simp [han,hbn]) (bn (df han) ?_));rw [e2,e3];exact zkl h0 rfl rfl w1
def zP0:Cfg:=⟨[0,1,4,5,6,17,20],[],[],[]⟩
def zmm:Sg:=⟨[.i,.i],.v (.tup [.i,.bool])⟩
def zP1(F:Nat):=zS []
def zpJ(F:Nat):FT ki2:=fun a c=>let b:Int:=wrap .i64 (a+c);bif(decide ((zmw .i64 (zpx .i64 a b) (zpx .i64 c b))>=0))then some (.v (.tuple #[.i b,.bool false]))else bif(decide (a<0))then some (.v (.tuple #[.i (-9223372036854775808),.bool true]))else some (.v (.tuple #[.i 9223372036854775807,.bool true]))
def jv:jQ:=mkQ (l:=ki2) zmm.o zpJ
theorem zP2(F:Nat):HHz zmm ki2 (zP1 F) zP0 [] 52 (zpJ F):=hzz
theorem zP3(F:Nat)(a c:Int):KO4 (zpJ F a c) (jv.ok F a c) (jv.i 0 F a c) (jv.b 1 F a c):=ko4 _
theorem zwV(F:Nat):yc PP 52 (unS (zz zmm ki2 jv F)):=
 gzz F (zP2 F) (zn)
def zJj:Cfg:=⟨[0,1,2,6,7,8,11],[],[],[]⟩
def zg0:Sg:=⟨[.i,.i,.i],.v (.tup [.i,.bool])⟩
def zJk(F:Nat):=zS []
def zkm(F:Nat):FT ki3:=fun b a c=>bif(decide (c<a))then some (.v (.tuple #[.i a,.bool true]))else let d:Int:=if a>b then a else b;let e:Int:=if c<d then c else d;some (.v (.tuple #[.i e,.bool (e !=b)]))
def yd:Qi3:=mkQ (l:=ki3) zg0.o zkm
theorem zJl(F:Nat):HHz zg0 ki3 (zJk F) zJj [] 140 (zkm F):=hzz
theorem zyd(F:Nat)(a c d:Int):KO4 (zkm F a c d) (yd.ok F a c d) (yd.i 0 F a c d) (yd.b 1 F a c d):=ko4 _
theorem zst(F:Nat):yc PP 140 (unS (zz zg0 ki3 yd F)):=
 gzz F (zJl F) (zn)
def zM4:Cfg:=⟨[0,1,2,3,4,5],[],[],[]⟩
def zgN:Sg:=⟨[.v (.agg [.i,.int .u64])],.v (.tup [.i,.bool])⟩
def zM5(jz:jQ)(F:Nat):=zS [(143,zz zki ki2 jz F)]
def zsu(jz:jQ)(F:Nat):FT ki2:=fun a c=>bif(jz.ok F a c)then some (.v (.tuple #[.i (jz.i 0 F a c),.bool (jz.b 1 F a c)]))else none
def zqq:=zsu jz
def yw:jQ:=mkQ (l:=ki2) zgN.o zqq
theorem zM6(jz:jQ)(F:Nat):HHz zgN ki2 (zM5 jz F) zM4 [] 103 (zsu jz F):=hzz
theorem zM7(F:Nat)(a c:Int):KO4 (zqq F a c) (yw.ok F a c) (yw.i 0 F a c) (yw.b 1 F a c):=ko4 _
theorem zqr(F:Nat):yc PP 103 (unS (zz zgN ki2 yw F)):=
 gzz F (zM6 jz F) (zd (zx9 F) zn)
def zP4:Cfg:=⟨[0,1,4,5],[],[8,9],[]⟩
def zto:Sg:=⟨[.i,.i],.v (.tup [.i,.bool])⟩
def zP5(j7:jQ)(jy:Qi3)(yw:jQ)(F:Nat):=zS [(157,zz zmD ki2 j7 F),(156,zz zkc ki3 jy F),(103,zz zgN ki2 yw F)]
def zuI(j7:jQ)(jy:Qi3)(yw:jQ)(F:Nat):FT ki2:=fun a c=>bif(j7.ok F a c)then let d:Int:=j7.i 0 F a c;let e:Int:=j7.i 1 F a c;bif(jy.ok F d e 32)then let g:Int:=jy.i 0 F d e 32;let h:Int:=jy.i 1 F d e 32;bif(yw.ok F g h)then some (.v (.tuple #[.i (yw.i 0 F g h),.bool (yw.b 1 F g h)]))else none else none else none
def ztp:=zuI j7 jy yw
def zbk:jQ:=mkQ (l:=ki2) zto.o ztp
theorem zP6(j7:jQ)(jy:Qi3)(yw:jQ)(F:Nat):HHz zto ki2 (zP5 j7 jy yw F) zP4 [] 137 (zuI j7 jy yw F):=hzz
theorem zP7(F:Nat)(a c:Int):KO4 (ztp F a c) (zbk.ok F a c) (zbk.i 0 F a c) (zbk.b 1 F a c):=ko4 _
theorem zP8(F:Nat):yc PP 137 (unS (zz zto ki2 zbk F)):=
 gzz F (zP6 j7 jy yw F) (zd (zAm F) (zd (zx2 F) (zd (zqr F) zn)))
def zP9:Cfg:=⟨[0,1,4,5,6,17,20],[],[],[]⟩
def zmn:Sg:=⟨[.i,.i],.v (.tup [.i,.bool])⟩
def zQa(F:Nat):=zS []
def zpK(F:Nat):FT ki2:=fun a b=>let c:Int:=wrap .i64 (a-b);bif(decide ((zmw .i64 (zpx .i64 a b) (zpx .i64 a c))>=0))then some (.v (.tuple #[.i c,.bool false]))else bif(decide (a<0))then some (.v (.tuple #[.i (-9223372036854775808),.bool true]))else some (.v (.tuple #[.i 9223372036854775807,.bool true]))
def jl:jQ:=mkQ (l:=ki2) zmn.o zpK
theorem zQb(F:Nat):HHz zmn ki2 (zQa F) zP9 [] 83 (zpK F):=hzz
theorem zQc(F:Nat)(a c:Int):KO4 (zpK F a c) (jl.ok F a c) (jl.i 0 F a c) (jl.b 1 F a c):=ko4 _
theorem zwW(F:Nat):yc PP 83 (unS (zz zmn ki2 jl F)):=
 gzz F (zQb F) (zn)
def zQd:Cfg:=⟨[0,2,3],[],[],[]⟩
def ztq:Sg:=⟨[.i],.v (.tup [.i,.bool])⟩
def zQe(jl:jQ)(F:Nat):=zS [(83,zz zmn ki2 jl F)]
def zuJ(jl:jQ)(F:Nat):FT ki:=fun a=>bif(jl.ok F 0 a)then some (.v (.tuple #[.i (jl.i 0 F 0 a),.bool (jl.b 1 F 0 a)]))else none
def ztr:=zuJ jl
def zbM:Qi:=mkQ (l:=ki) ztq.o ztr
theorem zQf(jl:jQ)(F:Nat):HHz ztq ki (zQe jl F) zQd [] 172 (zuJ jl F):=hzz
theorem zQg(F:Nat)(a:Int):KO4 (ztr F a) (zbM.ok F a) (zbM.i 0 F a) (zbM.b 1 F a):=ko4 _
theorem zQh(F:Nat):yc PP 172 (unS (zz ztq ki zbM F)):=
 gzz F (zQf jl F) (zd (zwW F) zn)
def zR8:Cfg:=⟨[0,2],[],[],[]⟩
def zpL:Sg:=⟨[.i],.v (.agg [.i,.int .u64])⟩
def zR9(jf:Qi)(F:Nat):=zS [(142,zz zml ki jf F)]
def zwX(jf:Qi)(F:Nat):FT ki:=fun a=>bif(jf.ok F a)then some (.v (.agg #[.i (jf.i 0 F a),.int .u64 (jf.i 1 F a)]))else none
def zvM:=zwX jf
def zaE:Qi:=mkQ (l:=ki) zpL.o zvM
theorem zSa(jf:Qi)(F:Nat):HHz zpL ki (zR9 jf F) zR8 [] 102 (zwX jf F):=hzz
theorem zSb(F:Nat)(a:Int):KO9 (zvM F a) (zaE.ok F a) (zaE.i 0 F a) (zaE.i 1 F a):=ko9 _
theorem zAz(F:Nat):yc PP 102 (unS (zz zpL ki zaE F)):=
 gzz F (zSa jf F) (zd (zwR F) zn)
def zFl:Cfg:=⟨[0,1,2,3,4,5],[],[],[]⟩
def zdG:Sg:=⟨[.v (.agg [.i,.int .u64])],.v (.tup [.i,.bool])⟩
def zFm(yJ:jQ)(F:Nat):=zS [(82,zz zft ki2 yJ F)]
def zoE(yJ:jQ)(F:Nat):FT ki2:=fun a c=>bif(yJ.ok F a c)then some (.v (.tuple #[.i (yJ.i 0 F a c),.bool (yJ.b 1 F a c)]))else none
def zlr:=zoE yJ
def zu:jQ:=mkQ (l:=ki2) zdG.o zlr
theorem zFn(yJ:jQ)(F:Nat):HHz zdG ki2 (zFm yJ F) zFl [] 105 (zoE yJ F):=hzz
theorem zFo(F:Nat)(a c:Int):KO4 (zlr F a c) (zu.ok F a c) (zu.i 0 F a c) (zu.b 1 F a c):=ko4 _
theorem zhu(F:Nat):yc PP 105 (unS (zz zdG ki2 zu F)):=
 gzz F (zFn yJ F) (zd (zql F) zn)
def zJm:Cfg:=⟨[0,1,4,5],[],[7,9,10],[]⟩
def zg1:Sg:=⟨[.i,.i],.v (.tup [.i,.bool])⟩
def zJn(zo:Qi)(ze:Qi4)(zu:jQ)(F:Nat):=zS [(81,zz zc8 ki zo F),(80,zz zbP ki4 ze F),(105,zz zdG ki2 zu F)]
def zqs(zo:Qi)(ze:Qi4)(zu:jQ)(F:Nat):FT ki2:=fun a c=>bif(zo.ok F a)then let d:Int:=zo.i 0 F a;let e:Int:=zo.i 1 F a;bif(zo.ok F c)then let g:Int:=zo.i 0 F c;let h:Int:=zo.i 1 F c;bif(ze.ok F d e g h)then let l:Int:=ze.i 0 F d e g h;let m:Int:=ze.i 1 F d e g h;bif(zu.ok F l m)then some (.v (.tuple #[.i (zu.i 0 F l m),.bool (zu.b 1 F l m)]))else none else none else none else none
def znK:=zqs zo ze zu
def yq:jQ:=mkQ (l:=ki2) zg1.o znK
theorem zJo(zo:Qi)(ze:Qi4)(zu:jQ)(F:Nat):HHz zg1 ki2 (zJn zo ze zu F) zJm [] 77 (zqs zo ze zu F):=hzz
theorem znL(F:Nat)(a c:Int):KO4 (znK F a c) (yq.ok F a c) (yq.i 0 F a c) (yq.b 1 F a c):=ko4 _
theorem zsv(F:Nat):yc PP 77 (unS (zz zg1 ki2 yq F)):=
 gzz F (zJo zo ze zu F) (zd (ze1 F) (zd (zcF F) (zd (zhu F) zn)))
def zJp:Cfg:=⟨[0,1,4,5],[],[8,9],[]⟩
def znM:Sg:=⟨[.i,.i],.v (.tup [.i,.bool])⟩
def zJq(zF:jQ)(yY:Qi3)(zu:jQ)(F:Nat):=zS [(78,zz zem ki2 zF F),(148,zz zhs ki3 yY F),(105,zz zdG ki2 zu F)]
def zqt(zF:jQ)(yY:Qi3)(zu:jQ)(F:Nat):FT ki2:=fun a c=>bif(zF.ok F a c)then let d:Int:=zF.i 0 F a c;let e:Int:=zF.i 1 F a c;bif(yY.ok F d e 32)then let g:Int:=yY.i 0 F d e 32;let h:Int:=yY.i 1 F d e 32;bif(zu.ok F g h)then some (.v (.tuple #[.i (zu.i 0 F g h),.bool (zu.b 1 F g h)]))else none else none else none
def znN:=zqt zF yY zu
def zaT:jQ:=mkQ (l:=ki2) znM.o znN
theorem zJr(zF:jQ)(yY:Qi3)(zu:jQ)(F:Nat):HHz znM ki2 (zJq zF yY zu F) zJp [] 112 (zqt zF yY zu F):=hzz
theorem zsw(F:Nat)(a c:Int):KO4 (znN F a c) (zaT.ok F a c) (zaT.i 0 F a c) (zaT.b 1 F a c):=ko4 _
theorem zJs(F:Nat):yc PP 112 (unS (zz znM ki2 zaT F)):=
 gzz F (zJr zF yY zu F) (zd (zkh F) (zd (zvK F) (zd (zhu F) zn)))
def zJt:Cfg:=⟨[0,1,4,5],[],[7,9,10,11],[]⟩
def zkn:Sg:=⟨[.i,.i],.v (.tup [.i,.bool])⟩
def zJu(zo:Qi)(zA:jQ)(ze:Qi4)(zu:jQ)(F:Nat):=zS [(81,zz zc8 ki zo F),(119,zz ze7 ki2 zA F),(80,zz zbP ki4 ze F),(105,zz zdG ki2 zu F)]
def zqu(zo:Qi)(zA:jQ)(ze:Qi4)(zu:jQ)(F:Nat):FT ki2:=fun a c=>bif(zo.ok F a)then let d:Int:=zo.i 0 F a;let e:Int:=zo.i 1 F a;bif(zo.ok F c)then let g:Int:=zo.i 0 F c;let h:Int:=zo.i 1 F c;bif(zA.ok F g h)then let l:Int:=zA.i 0 F g h;let m:Int:=zA.i 1 F g h;bif(ze.ok F d e l m)then let o:Int:=ze.i 0 F d e l m;let p:Int:=ze.i 1 F d e l m;bif(zu.ok F o p)then some (.v (.tuple #[.i (zu.i 0 F o p),.bool (zu.b 1 F o p)]))else none else none else none else none else none
def znO:=zqu zo zA ze zu
def yP:jQ:=mkQ (l:=ki2) zkn.o znO
theorem zJv(zo:Qi)(zA:jQ)(ze:Qi4)(zu:jQ)(F:Nat):HHz zkn ki2 (zJu zo zA ze zu F) zJt [] 111 (zqu zo zA ze zu F):=hzz
theorem zko(F:Nat)(a c:Int):KO4 (znO F a c) (yP.ok F a c) (yP.i 0 F a c) (yP.b 1 F a c):=ko4 _
theorem zye(F:Nat):yc PP 111 (unS (zz zkn ki2 yP F)):=
 gzz F (zJv zo zA ze zu F) (zd (ze1 F) (zd (znG F) (zd (zcF F) (zd (zhu F) zn))))
theorem zFp{a b:Int}(ha:zr a)(hb:zr b): -85070591730234615865843651857942052864<=a*b/\a*b<=85070591730234615865843651857942052864:=by
 unfold zr at ha hb;have h:(a*b).natAbs<=9223372036854775808*9223372036854775808:=by
  rw [Int.natAbs_mul];exact Nat.mul_le_mul zc zc
 omega
theorem zO1{a b:Int}(ha:zr a)(hb:zr b):zcr (a*b):=by
 have:=zFp ha hb;unfold zcr;omega
theorem zUs:cl 32=32:=dcz
theorem zSc{z:Int}(h: -85070591730234615865843651857942052864<=z/\z<=85070591730234615865843651857942052864):zcr (znu z 32):=by
 unfold znu;rw [if_neg dcz,show(2:Int)^32=4294967296 from dcz,show(2:Int)^(32-1)=2147483648 from dcz];unfold zcr;omega
abbrev cp(z:Int):VV:=.v (.tuple #[.i (zh z),.bool (zw z)])
theorem zjt{z:Int}(h:zr z):zh z=z/\zw z=false:=by
 unfold zr at h;unfold zh zw;exact⟨by rw [if_neg zc,if_neg zc],df zc⟩
theorem zUt(F:Nat){z:Int}(h:zcr z):zqq F (hi z) (lo z)=some (cp z):=by
 unfold zqq zsu;obtain⟨h1,h2,h3⟩:=zR1 F h;refine bp h1 ?_;rw [h2,h3]
theorem zzA(F:Nat){z:Int}(h:zcr z):yw.ok F (hi z) (lo z)=true/\yw.i 0 F (hi z) (lo z)=zh z/\yw.b 1 F (hi z) (lo z)=zw z:=zM7 F _ _ (zUt F h)
theorem zSd(F:Nat){z:Int}(h:zcr z):zlr F (hi z) (lo z)=some (cp z):=by
 unfold zlr zoE;obtain⟨h1,h2,h3⟩:=zFj F h;refine bp h1 ?_;rw [h2,h3]
theorem zpM(F:Nat){z:Int}(h:zcr z):zu.ok F (hi z) (lo z)=true/\zu.i 0 F (hi z) (lo z)=zh z/\zu.b 1 F (hi z) (lo z)=zw z:=zFo F _ _ (zSd F h)
theorem zXI(F:Nat){n:Int}(h:zr n):zvM F n=some (wd n):=by
 unfold zvM zwX;obtain⟨h1,h2,h3⟩:=zXE F h;refine bp h1 ?_;rw [h2,h3];rfl
theorem zSe(F:Nat){n:Int}(h:zr n):zaE.ok F n=true/\zaE.i 0 F n=hi n/\zaE.i 1 F n=lo n:=zSb F _ (zXI F h)
theorem zWp(F:Nat){a b:Int}(ha:zr a)(hb:zr b):zpJ F a b=some (cp (a+b)):=by
 unfold zpJ;dsimp only;have hs:=zET (a+b);have e:=zlj (a+b);generalize wrap .i64 (a+b)=s at*
 have h1:=zOR (zEU a s) (zEU b s);have h2:=zzx ha hs;have h3:=zzx hb hs;unfold zr at ha hb hs;by_cases h: -9223372036854775808<=a+b/\a+b<9223372036854775808
 ·refine bp (dt ?_) (zdu ?_ ?_)
  ·have: ¬zmw .i64 (zpx .i64 a s) (zpx .i64 b s)<0:=by
    rw [h1,h2,h3];omega
   omega
  ·rw [(zjt h).1];omega
  ·rw [(zjt h).2]
 ·refine bn (df ?_) ?_
  ·have:zmw .i64 (zpx .i64 a s) (zpx .i64 b s)<0:=by
    rw [h1,h2,h3];omega
   omega
  ·by_cases ha0:a<0
   ·refine bp (dt ha0) (zdu ?_ ?_)
    ·unfold zh;rw [if_pos zc]
    ·unfold zw;exact(dt zc).symm
   ·refine bn (df ha0) (zdu ?_ ?_)
    ·unfold zh;rw [if_neg zc,if_pos zc]
    ·unfold zw;exact(dt zc).symm
theorem zAA(F:Nat){a b:Int}(ha:zr a)(hb:zr b):jv.ok F a b=true/\jv.i 0 F a b=zh (a+b)/\jv.b 1 F a b=zw (a+b):=zP3 F _ _ (zWp F ha hb)
theorem zWq(F:Nat){a b:Int}(ha:zr a)(hb:zr b):zpK F a b=some (cp (a-b)):=by
 unfold zpK;dsimp only;have hs:=zET (a-b);have e:=zlj (a-b);generalize wrap .i64 (a-b)=s at*
 have h1:=zOR (zEU a b) (zEU a s);have h2:=zzx ha hb;have h3:=zzx ha hs;unfold zr at ha hb hs;by_cases h: -9223372036854775808<=a-b/\a-b<9223372036854775808
 ·refine bp (dt ?_) (zdu ?_ ?_)
  ·have: ¬zmw .i64 (zpx .i64 a b) (zpx .i64 a s)<0:=by
    rw [h1,h2,h3];omega
   omega
  ·rw [(zjt h).1];omega
  ·rw [(zjt h).2]
 ·refine bn (df ?_) ?_
  ·have:zmw .i64 (zpx .i64 a b) (zpx .i64 a s)<0:=by
    rw [h1,h2,h3];omega
   omega
  ·by_cases ha0:a<0
   ·refine bp (dt ha0) (zdu ?_ ?_)
    ·unfold zh;rw [if_pos zc]
    ·unfold zw;exact(dt zc).symm
   ·refine bn (df ha0) (zdu ?_ ?_)
    ·unfold zh;rw [if_neg zc,if_pos zc]
    ·unfold zw;exact(dt zc).symm
theorem zAB(F:Nat){a b:Int}(ha:zr a)(hb:zr b):jl.ok F a b=true/\jl.i 0 F a b=zh (a-b)/\jl.b 1 F a b=zw (a-b):=zQc F _ _ (zWq F ha hb)
theorem I0:zr 0:=by unfold zr;omega
theorem zWr(F:Nat){a:Int}(ha:zr a):ztr F a=some (cp (-a)):=by
 unfold ztr zuJ;obtain⟨h1,h2,h3⟩:=zAB F I0 ha;refine bp h1 ?_;rw [h2,h3,Int.zero_sub]
theorem zSf(F:Nat){a:Int}(ha:zr a):zbM.ok F a=true/\zbM.i 0 F a=zh (-a)/\zbM.b 1 F a=zw (-a):=zQg F _ (zWr F ha)
theorem zWs(F:Nat){a b:Int}(ha:zr a)(hb:zr b):ztp F a b=some (cp (znu (a*b) 32)):=by
 unfold ztp zuI;obtain⟨h1,h2,h3⟩:=zVF F ha hb;obtain⟨n1,n2,n3⟩:=zRY F 32 (zO1 ha hb);obtain⟨c1,c2,c3⟩:=zzA F (zSc (zFp ha hb));refine bp h1 ?_;rw [h2,h3];refine bp n1 ?_;rw [n2,n3,zUs];refine bp c1 ?_;rw [c2,c3]
theorem zM8(F:Nat){a b:Int}(ha:zr a)(hb:zr b):zbk.ok F a b=true/\zbk.i 0 F a b=zh (znu (a*b) 32)/\zbk.b 1 F a b=zw (znu (a*b) 32):=zP7 F _ _ (zWs F ha hb)
theorem zXJ{a:Int}(ha:zr a):zcr (a*4294967296):=by unfold zr at ha;unfold zcr;omega
theorem zJw(F:Nat){a l h:Int}:zkm F a l h=some (.v (.tuple #[.i (if h<l then l else min (max a l) h),.bool (if h<l then true else decide (min (max a l) h≠a))])):=by
 unfold zkm;dsimp only;by_cases hl:h<l
 ·refine bp (dt hl) ?_
  rw [if_pos hl,if_pos hl]
 ·refine bn (df hl) ?_
  rw [if_neg hl,if_neg hl];have e:(if h<(if l>a then l else a)then h else(if l>a then l else a))=min (max a l) h:=by split<;>(try split)<;>omega
  have e2:(min (max a l) h !=a)=decide (min (max a l) h≠a):=by rw [Bool.eq_iff_iff];simp
  rw [e,e2]
theorem zzB(F:Nat)(hF:200<=F){a b:Int}(ha:zr a)(hb:zr b):znK F a b=some (cp (a+b)):=by
 unfold znK zqs;obtain⟨h1,h2,h3⟩:=zso F ha;obtain⟨g1,g2,g3⟩:=zso F hb;obtain⟨s1,s2,s3⟩:=zfN F hF a b;obtain⟨c1,c2,c3⟩:=zpM F (z:=a+b) (by unfold zr at*;unfold zcr;omega);refine bp h1 (bp g1 ?_);rw [h2,h3,g2,g3];refine bp s1 ?_;rw [s2,s3];refine bp c1 ?_;rw [c2,c3]
theorem zvN(F:Nat)(hF:200<=F){a b:Int}(ha:zr a)(hb:zr b):znO F a b=some (cp (a-b)):=by
 unfold znO zqu;obtain⟨h1,h2,h3⟩:=zso F ha;obtain⟨g1,g2,g3⟩:=zso F hb;obtain⟨n1,n2,n3⟩:=zAt F hF b;obtain⟨s1,s2,s3⟩:=zfN F hF a (-b);obtain⟨c1,c2,c3⟩:=zpM F (z:=a+ -b) (by unfold zr at*;unfold zcr;omega);refine bp h1 (bp g1 ?_);rw [h2,h3,g2,g3];refine bp n1 ?_;rw [n2,n3];refine bp s1 ?_;rw [s2,s3];refine bp c1 ?_;rw [c2,c3, <-Int.sub_eq_add_neg]
theorem zFq(F:Nat)(hF:200<=F){a b:Int}(ha:zr a)(hb:zr b):znN F a b=some (cp (znu (a*b) 32)):=by
 unfold znN zqt;obtain⟨h1,h2,h3⟩:=zAv F hF ha hb;obtain⟨n1,n2,n3⟩:=zO0 F hF 32 (zO1 ha hb);obtain⟨c1,c2,c3⟩:=zpM F (zSc (zFp ha hb));refine bp h1 ?_;rw [h2,h3];refine bp n1 ?_;rw [n2,n3,zUs];refine bp c1 ?_;rw [c2,c3]
def zqv:Cfg:=⟨[0,1,4,5,6,9,17],[(0,[0,1,4,5,20])],[],[]⟩
def zhv:Sg:=⟨[.i,.i],.i⟩
def zqw(F:Nat):=zS []
def zhw:TS:=⟨[(0,.i),(1,.i),(4,.i),(5,.i)],[],0⟩
def zwY:TS:=zhw
def ze8(F:Nat)(g c:FT ki4):FT ki4:=fun d a e b=>
 bif(decide (b<a))then(
  let h:Int:=(wrap .i64 (Int.tdiv d 2))
  bif(decide ((Int.tmod d 2)<0))then(
   g (wrap .i64 (h-1)) a e (wrap .i64 (b+1)))
  else(
   g h a e (wrap .i64 (b+1))))
 else(
  c d a e b)
def j9(F:Nat)(a:FT ki4):Nat->FT ki4:=lY fun b=>ze8 F b a
theorem zsx{F n}{a}:j9 F a (n+1)=ze8 F (j9 F a n) a:=rfl
def ziU(k:Exit->VS->R):FT ki4:=cQ _ fun q=>k (.exit 0) (fS zwY q)
def zhx(j9:Nat->FT ki4->Nat->FT ki4)(F:Nat):List LW:=[⟨0,zhw,fun k q=>uQ _ (j9 F (ziU k) F) q⟩]
theorem zyL(F:Nat)(k:Exit->VS->R):∀n q,iQ PP (zqw F) zqv (zhx j9 F) [] 165 0 0 k n zhw q=uQ _ (j9 F (ziU k) n) q:=
 lG (fun _=>by kernel_rfl) ((hzz:∀(j9:Nat->FT ki4->Nat->FT ki4),LH PP (zqw F) zqv (zhx j9 F) [] 165 0 0 k zhw (fun a=>ze8 F a (ziU k))) j9)
def zoF(j9:Nat->FT ki4->Nat->FT ki4)(F:Nat):FT ki2:=fun a b=>
 j9 F (fun c d e g=>
  some (.v (.i c))) F a b 0 0
def zqx:=zoF j9
def zG:jQ:=mkQ (l:=ki2) zhv.o zqx
theorem zFr(j9:Nat->FT ki4->Nat->FT ki4)(F:Nat):HHz zhv ki2 (zqw F) zqv (zhx j9 F) 165 (zoF j9 F):=hzz
theorem zFs(F:Nat)(a b:Int):KO0 (zqx F a b) (zG.ok F a b) (zG.i 0 F a b):=ko0 _
theorem zvO(F:Nat):yc PP 165 (unS (zz zhv ki2 zG F)):=
 gzl (W:=zhx j9) F (zFr j9 F) (zn) (jP [(0,zaK PP 165 0)] kfz (zd (jZ (zhx j9 F) rfl (yn (fun _ k q=>Le.ofEq (zyL F k F q).symm) jY)) zn))
def zFt:Cfg:=⟨[0,2,3],[],[],[]⟩
def zhy:Sg:=⟨[.i],.i⟩
def zFu(F:Nat):=zS []
def zls(F:Nat):FT ki:=fun a=>bif((decide (0<=a))&&(decide (a<30)))then let b:Nat:=0+((Int.toNat a)*1);bif((isI .i64 [.v (.i 536870912),.v (.i 316933406),.v (.i 167458907),.v (.i 85004756),.v (.i 42667331),.v (.i 21354465),.v (.i 10679838),.v (.i 5340245),.v (.i 2670163),.v (.i 1335087),.v (.i 667544),.v (.i 333772),.v (.i 166886),.v (.i 83443),.v (.i 41722),.v (.i 20861),.v (.i 10430),.v (.i 5215),.v (.i 2608),.v (.i 1304),.v (.i 652),.v (.i 326),.v (.i 163),.v (.i 81),.v (.i 41),.v (.i 20),.v (.i 10),.v (.i 5),.v (.i 3),.v (.i 1)][b]?)&&true)then some (.v (.i (iv [.v (.i 536870912),.v (.i 316933406),.v (.i 167458907),.v (.i 85004756),.v (.i 42667331),.v (.i 21354465),.v (.i 10679838),.v (.i 5340245),.v (.i 2670163),.v (.i 1335087),.v (.i 667544),.v (.i 333772),.v (.i 166886),.v (.i 83443),.v (.i 41722),.v (.i 20861),.v (.i 10430),.v (.i 5215),.v (.i 2608),.v (.i 1304),.v (.i 652),.v (.i 326),.v (.i 163),.v (.i 81),.v (.i 41),.v (.i 20),.v (.i 10),.v (.i 5),.v (.i 3),.v (.i 1)][b]?)))else none else none
def zV:Qi:=mkQ (l:=ki) zhy.o zls
theorem zFv(F:Nat):HHz zhy ki (zFu F) zFt [] 166 (zls F):=hzz
theorem zFw(F:Nat)(a:Int):KO0 (zls F a) (zV.ok F a) (zV.i 0 F a):=ko0 _
theorem zvP(F:Nat):yc PP 166 (unS (zz zhy ki zV F)):=
 gzz F (zFv F) (zn)
def zBQ:Cfg:=⟨[0,2],[],[],[]⟩
def zju:Sg:=⟨[.i],.i⟩
def zBR(F:Nat):=zS []
def zjv(F:Nat):FT ki:=fun a=>
 let b:Int:=(if 0>a then 0 else a)
 some (.v (.i (if 4294967296<b then 4294967296 else b)))
def j3:Qi:=mkQ (l:=ki) zju.o zjv
theorem zBS(F:Nat):HHz zju ki (zBR F) zBQ [] 167 (zjv F):=hzz
theorem zBT(F:Nat)(a:Int):KO0 (zjv F a) (j3.ok F a) (j3.i 0 F a):=ko0 _
theorem zBU(F:Nat):yc PP 167 (unS (zz zju ki j3 F)):=
 gzz F (zBS F) (zn)
def zqy:Cfg:=⟨[0,2,3,4,5,6,7,8,9,10,11,12,19,29,54,58,62,67],[(0,[0,2,3,4,5,6,7,8,11,12,13,14,15,16,17,50,51,52,53,54,55,56,57,58,59,60,61,62,63,64,65,66,67,68,69,70,71,72])],[],[]⟩
def zlt:Sg:=⟨[.v (.int .u32)],.v (.tup [.i,.i])⟩
def zqz(zG:jQ)(zV j3:Qi)(F:Nat):=zS [(165,zz zhv ki2 zG F),(166,zz zhy ki zV F),(167,zz zju ki j3 F)]
def zhz:TS:=⟨[(0,.v (.int .u32)),(2,.i),(3,.i),(4,.v (.int .u32)),(5,.i),(6,.i),(7,.i),(8,.i)],[],0⟩
def zwZ:TS:=zhz
def zgl(zG:jQ)(zV:Qi)(F:Nat)(o e:FT ki8):FT ki8:=fun g h l m d b c a=>bif(decide (a<30))then bif(zG.ok F b a)then let p:Int:=zG.i 0 F b a;bif(zG.ok F c a)then let s:Int:=zG.i 0 F c a;bif(decide (d>=0))then bif(zV.ok F a)then o g h l m (wrap .i64 (d-(zV.i 0 F a))) (wrap .i64 (b-s)) (wrap .i64 (c+p)) (wrap .i64 (a+1))else none else bif(zV.ok F a)then o g h l m (wrap .i64 (d+(zV.i 0 F a))) (wrap .i64 (b+s)) (wrap .i64 (c-p)) (wrap .i64 (a+1))else none else none else none else e g h l m d b c a
def zhA:=zgl zG zV
def zaa(F:Nat)(a:FT ki8):Nat->FT ki8:=lY fun b=>zhA F b a
theorem zsy{F n}{a}:zaa F a (n+1)=zhA F (zaa F a n) a:=rfl
def ziV(k:Exit->VS->R):FT ki8:=cQ _ fun q=>k (.exit 0) (fS zwZ q)
def zhB(zaa:Nat->FT ki8->Nat->FT ki8)(F:Nat):List LW:=[⟨0,zhz,fun k q=>uQ _ (zaa F (ziV k) F) q⟩]
theorem zyM(F:Nat)(k:Exit->VS->R):∀n q,iQ PP (zqz zG zV j3 F) zqy (zhB zaa F) [] 144 0 0 k n zhz q=uQ _ (zaa F (ziV k) n) q:=
 lG (fun _=>by kernel_rfl) ((hzz:∀(zG:jQ) (zV:Qi) (j3:Qi) (zaa:Nat->FT ki8->Nat->FT ki8),LH PP (zqz zG zV j3 F) zqy (zhB zaa F) [] 144 0 0 k zhz (fun a=>zgl zG zV F a (ziV k))) zG zV j3 zaa)
def zoG(j3:Qi)(zaa:Nat->FT ki8->Nat->FT ki8)(F:Nat):FT ki:=fun c=>zaa F (fun h l m d o e g p=>bif(j3.ok F e)then let a:Int:=j3.i 0 F e;bif(j3.ok F g)then let b:Int:=j3.i 0 F g;bif(d==0)then some (.v (.tuple #[.i a,.i b]))else bif(d==1)then some (.v (.tuple #[.i (wrap .i64 (0-b)),.i a]))else bif(d==2)then some (.v (.tuple #[.i (wrap .i64 (0-a)),.i (wrap .i64 (0-b))]))else some (.v (.tuple #[.i b,.i (wrap .i64 (0-a))]))else none else none) F c 0 0 (wrap .u32 (Int.tdiv c 1073741824)) (wrap .i64 (Int.tmod c 1073741824)) 2608131496 0 0
def zlu:=zoG j3 zaa
def za1:Qi:=mkQ (l:=ki) zlt.o zlu
theorem zFx(zG:jQ)(zV j3:Qi)(zaa:Nat->FT ki8->Nat->FT ki8)(F:Nat):HHz zlt ki (zqz zG zV j3 F) zqy (zhB zaa F) 144 (zoG j3 zaa F):=hzz
theorem zFy(F:Nat)(a:Int):zWc (zlu F a) (za1.ok F a) (za1.i 0 F a) (za1.i 1 F a):=zXv _
theorem zFz(F:Nat):yc PP 144 (unS (zz zlt ki za1 F)):=
 gzl (W:=zhB zaa) F (zFx zG zV j3 zaa F) (zd (zvO F) (zd (zvP F) (zd (zBU F) zn))) (jP [(0,zaK PP 144 0)] kfz (zd (jZ (zhB zaa F) rfl (yn (fun _ k q=>Le.ofEq (zyM F k F q).symm) jY)) zn))
def zBV:Cfg:=⟨[0],[],[],[]⟩
def zfX:Sg:=⟨[],.v (.agg [.i,.i,.i,.i,.i,.i,.i,.i,.i,.i,.i,.i,.i,.i,.i,.i,.i,.i,.i,.i,.i,.i,.i,.i,.i,.i,.i,.i,.i,.i])⟩
def zBW(F:Nat):=zS []
def zoH(F:Nat):FT k0:=
 some (.v (.agg #[.i 536870912,.i 316933406,.i 167458907,.i 85004756,.i 42667331,.i 21354465,.i 10679838,.i 5340245,.i 2670163,.i 1335087,.i 667544,.i 333772,.i 166886,.i 83443,.i 41722,.i 20861,.i 10430,.i 5215,.i 2608,.i 1304,.i 652,.i 326,.i 163,.i 81,.i 41,.i 20,.i 10,.i 5,.i 3,.i 1]))
def zb:Q0:=mkQ (l:=k0) zfX.o zoH
theorem zBX(F:Nat):HHz zfX k0 (zBW F) zBV [] 154 (zoH F):=hzz
theorem zBY(F:Nat):KO7 (zoH F) (zb.ok F) (zb.i 0 F) (zb.i 1 F) (zb.i 2 F) (zb.i 3 F) (zb.i 4 F) (zb.i 5 F) (zb.i 6 F) (zb.i 7 F) (zb.i 8 F) (zb.i 9 F) (zb.i 10 F) (zb.i 11 F) (zb.i 12 F) (zb.i 13 F) (zb.i 14 F) (zb.i 15 F) (zb.i 16 F) (zb.i 17 F) (zb.i 18 F) (zb.i 19 F) (zb.i 20 F) (zb.i 21 F) (zb.i 22 F) (zb.i 23 F) (zb.i 24 F) (zb.i 25 F) (zb.i 26 F) (zb.i 27 F) (zb.i 28 F) (zb.i 29 F):=ko7 _
theorem zt7(F:Nat):yc PP 154 (unS (zz zfX k0 zb F)):=
 gzz F (zBX F) (zn)
def zuK:Cfg:=⟨[0,1,2,3,6,7,8,17],[],[],[]⟩
def zdc:Sg:=⟨[.v (.agg [.i,.i]),.i,.v (.bool)],.v (.agg [.i,.i])⟩
def zuL(F:Nat):=zS []
def zev(F:Nat):FT zPT:=fun b c a g=>bif(!(decide (a<0)))then let d:Int:=Int.fdiv b (2^(min (Int.toNat a) 64));bif(!(decide (a<0)))then let e:Int:=Int.fdiv c (2^(min (Int.toNat a) 64));bif g then some (.v (.agg #[.i (wrap .i64 (b-e)),.i (wrap .i64 (c+d))]))else some (.v (.agg #[.i (wrap .i64 (b+e)),.i (wrap .i64 (c-d))]))else none else none
def zx:zBH:=mkQ (l:=zPT) zdc.o zev
theorem zuM(F:Nat):HHz zdc zPT (zuL F) zuK [] 155 (zev F):=hzz
theorem zuN(F:Nat)(a b c:Int)(d:Bool):KO5 (zev F a b c d) (zx.ok F a b c d) (zx.i 0 F a b c d) (zx.i 1 F a b c d):=ko5 _
theorem zmI(F:Nat):yc PP 155 (unS (zz zdc zPT zx F)):=
 gzz F (zuM F) (zn)
def zJx:Cfg:=⟨[0,2,3],[],[],[]⟩
def znP:Sg:=⟨[.i],.i⟩
def zJy(yd:Qi3)(F:Nat):=zS [(140,zz zg0 ki3 yd F)]
def zqA(yd:Qi3)(F:Nat):FT ki:=fun a=>bif(yd.ok F a 0 4294967296)then some (.v (.i (yd.i 0 F a 0 4294967296)))else none
def zsz:=zqA yd
def zah:Qi:=mkQ (l:=ki) znP.o zsz
theorem zJz(yd:Qi3)(F:Nat):HHz znP ki (zJy yd F) zJx [] 176 (zqA yd F):=hzz
theorem zJA(F:Nat)(a:Int):KO0 (zsz F a) (zah.ok F a) (zah.i 0 F a):=ko0 _
theorem zJB(F:Nat):yc PP 176 (unS (zz znP ki zah F)):=
 gzz F (zJz yd F) (zd (zst F) zn)
def zkp:Cfg:=⟨[0,2,3,4,5,6,7,8,9,10,15,16,17,26,40,41,42],[(0,[0,2,3,4,5,9,10,11,12,13,14,15,16,33,34,35,36,37,38,39,40,41,42,43,44,45,46,47,48]),(2,[0,2,3,4,5,6,7,8,9,10,11,12,13,14,15,16,17,18,19,20,21,22,23,24,25,26,27,28,29,30,31,32,33,34,35,36,37,38,39,40,41,47,48])],[],[]⟩
def znQ:Sg:=⟨[.v (.int .u32)],.v (.tup [.i,.i])⟩
def zkq(zb:Q0)(zx:zBH)(zah:Qi)(F:Nat):=zS [(154,zz zfX k0 zb F),(155,zz zdc zPT zx F),(176,zz znP ki zah F)]
def zjw:TS:=⟨[(0,.v (.int .u32)),(2,.i),(3,.i),(4,.i),(5,.lp 0 (.lit 0)),(15,.v (.agg [.i,.i,.i,.i,.i,.i,.i,.i,.i,.i,.i,.i,.i,.i,.i,.i,.i,.i,.i,.i,.i,.i,.i,.i,.i,.i,.i,.i,.i,.i])),(16,.i)],[(0,⟨(.ex [.i,.i]),true⟩)],1⟩
def zyN:TS:=zjw
def zhC(zx:zBH)(F:Nat)(U O:FT ziC):FT ziC:=fun P Q T M G H I J K L b c d e g h l m o p s t u w x y z f n r j A B C a D E=>bif(decide (a<30))then bif(((decide (0<=a))&&(decide (a<30)))&&((isI .i64 [.v (.i G),.v (.i H),.v (.i I),.v (.i J),.v (.i K),.v (.i L),.v (.i b),.v (.i c),.v (.i d),.v (.i e),.v (.i g),.v (.i h),.v (.i l),.v (.i m),.v (.i o),.v (.i p),.v (.i s),.v (.i t),.v (.i u),.v (.i w),.v (.i x),.v (.i y),.v (.i z),.v (.i f),.v (.i n),.v (.i r),.v (.i j),.v (.i A),.v (.i B),.v (.i C)][((Int.toNat a)*1)]?)&&true))then let V:Int:=iv [.v (.i G),.v (.i H),.v (.i I),.v (.i J),.v (.i K),.v (.i L),.v (.i b),.v (.i c),.v (.i d),.v (.i e),.v (.i g),.v (.i h),.v (.i l),.v (.i m),.v (.i o),.v (.i p),.v (.i s),.v (.i t),.v (.i u),.v (.i w),.v (.i x),.v (.i y),.v (.i z),.v (.i f),.v (.i n),.v (.i r),.v (.i j),.v (.i A),.v (.i B),.v (.i C)][((Int.toNat a)*1)]?;let N:Bool:=decide (M>=0);bif(zx.ok F D E a N)then let X:Int:=zx.i 0 F D E a N;let Y:Int:=zx.i 1 F D E a N;bif N then U P Q T (wrap .i64 (M+(wrap .i64 (0-V)))) G H I J K L b c d e g h l m o p s t u w x y z f n r j A B C (wrap .i64 (a+1)) X Y else U P Q T (wrap .i64 (M+V)) G H I J K L b c d e g h l m o p s t u w x y z f n r j A B C (wrap .i64 (a+1)) X Y else none else none else O P Q T M G H I J K L b c d e g h l m o p s t u w x y z f n r j A B C a D E
def zjx:=zhC zx
def jt(F:Nat)(a:FT ziC):Nat->FT ziC:=lY fun b=>zjx F b a
theorem zt8{F n}{a}:jt F a (n+1)=zjx F (jt F a n) a:=rfl
def zkY(k:Exit->VS->R):FT ziC:=cQ _ fun q=>k (.exit 0) (fS zyN q)
def zjy:TS:=⟨[(0,.v (.int .u32)),(2,.i),(3,.i),(4,.i),(5,.lp 0 (.lit 0)),(9,.i),(10,.i),(15,.v (.agg [.i,.i,.i,.i,.i,.i,.i,.i,.i,.i,.i,.i,.i,.i,.i,.i,.i,.i,.i,.i,.i,.i,.i,.i,.i,.i,.i,.i,.i,.i])),(16,.i),(40,.v (.int .u32)),(41,.v (.int .u32))],[(0,⟨(.ex [.i,.i]),true⟩)],1⟩
def zyO:TS:=zjy
def zdT(F:Nat)(V I:FT zuB):FT zuB:=fun J K L M N O P Q T U c d e g h l m o p s t u v w x y z f i n r j A B C D E a b G H=>
 bif(decide (b<a))then(
  V J K L M (wrap .i64 (0-O)) N P Q T U c d e g h l m o p s t u v w x y z f i n r j A B C D E a (wrap .u32 (b+1)) G H)
 else(
  I J K L M N O P Q T U c d e g h l m o p s t u v w x y z f i n r j A B C D E a b G H)
def jC(F:Nat)(a:FT zuB):Nat->FT zuB:=lY fun b=>zdT F b a
theorem zjz{F n}{a}:jC F a (n+1)=zdT F (jC F a n) a:=rfl
def zkZ(k:Exit->VS->R):FT zuB:=cQ _ fun q=>k (.exit 2) (fS zyO q)
def zen(jt:Nat->FT ziC->Nat->FT ziC)(jC:Nat->FT zuB->Nat->FT zuB)(F:Nat):List LW:=[⟨0,zjw,fun k q=>uQ _ (jt F (zkY k) F) q⟩,⟨2,zjy,fun k q=>uQ _ (jC F (zkZ k) F) q⟩]
theorem zAC(F:Nat)(k:Exit->VS->R):∀n q,iQ PP (zkq zb zx zah F) zkp (zen jt jC F) [] 161 0 0 k n zjw q=uQ _ (jt F (zkY k) n) q:=
 lG (fun _=>by kernel_rfl) ((hzz:∀(zb:Q0) (zx:zBH) (zah:Qi) (jt:Nat->FT ziC->Nat->FT ziC) (jC:Nat->FT zuB->Nat->FT zuB),LH PP (zkq zb zx zah F) zkp (zen jt jC F) [] 161 0 0 k zjw (fun a=>zhC zx F a (zkY k))) zb zx zah jt jC)
theorem zAD(F:Nat)(k:Exit->VS->R):∀n q,iQ PP (zkq zb zx zah F) zkp (zen jt jC F) [] 161 1 2 k n zjy q=uQ _ (jC F (zkZ k) n) q:=
 lG (fun _=>by kernel_rfl) ((hzz:∀(zb:Q0) (zx:zBH) (zah:Qi) (jt:Nat->FT ziC->Nat->FT ziC) (jC:Nat->FT zuB->Nat->FT zuB),LH PP (zkq zb zx zah F) zkp (zen jt jC F) [] 161 1 2 k zjy (fun a=>zdT F a (zkZ k))) zb zx zah jt jC)
def zqB(zb:Q0)(zah:Qi)(jt:Nat->FT ziC->Nat->FT ziC)(jC:Nat->FT zuB->Nat->FT zuB)(F:Nat):FT ki:=fun M=>bif(zb.ok F)then jt F (fun N O P Q T U c d e g h l m o p s t u w x y z f n r j A B C D E G H I J a b=>bif(zah.ok F a)then bif(zah.ok F b)then jC F (fun V X Y Z K L v47 v48 v49 v50 v51 v52 v53 v54 v55 v56 v57 v58 v59 v60 v61 v62 v63 v64 v65 v66 v67 v68 v69 v70 v71 v72 v73 v74 v75 v76 v77 v78 v79 v80 v81=>some (.v (.tuple #[.i K,.i L]))) F N O P Q (zah.i 0 F a) (zah.i 0 F b) T U c d e g h l m o p s t u w x y z f n r j A B C D E G H I J (Int.fdiv N (1073741824)) 0 a b else none else none) F M 0 0 (wrap .i64 (zmw .u32 M 1073741823)) (zb.i 0 F) (zb.i 1 F) (zb.i 2 F) (zb.i 3 F) (zb.i 4 F) (zb.i 5 F) (zb.i 6 F) (zb.i 7 F) (zb.i 8 F) (zb.i 9 F) (zb.i 10 F) (zb.i 11 F) (zb.i 12 F) (zb.i 13 F) (zb.i 14 F) (zb.i 15 F) (zb.i 16 F) (zb.i 17 F) (zb.i 18 F) (zb.i 19 F) (zb.i 20 F) (zb.i 21 F) (zb.i 22 F) (zb.i 23 F) (zb.i 24 F) (zb.i 25 F) (zb.i 26 F) (zb.i 27 F) (zb.i 28 F) (zb.i 29 F) 0 2608131496 0 else none
def znR:=zqB zb zah jt jC
def zbl:Qi:=mkQ (l:=ki) znQ.o znR
theorem zJC(zb:Q0)(zx:zBH)(zah:Qi)(jt:Nat->FT ziC->Nat->FT ziC)(jC:Nat->FT zuB->Nat->FT zuB)(F:Nat):HHz znQ ki (zkq zb zx zah F) zkp (zen jt jC F) 161 (zqB zb zah jt jC F):=hzz
theorem zJD(F:Nat)(a:Int):zWc (znR F a) (zbl.ok F a) (zbl.i 0 F a) (zbl.i 1 F a):=zXv _
theorem zJE(F:Nat):yc PP 161 (unS (zz znQ ki zbl F)):=
 gzl (W:=zen jt jC) F (zJC zb zx zah jt jC F) (zd (zt7 F) (zd (zmI F) (zd (zJB F) zn))) (jP [(0,zaK PP 161 0),(2,zaK PP 161 1)] kfz (zd (jZ (zen jt jC F) rfl (yn (fun _ k q=>Le.ofEq (zAC F k F q).symm) (yn (fun h=>absurd h dcz) jY))) (zd (jZ (zen jt jC F) rfl (yn (fun h=>absurd h dcz) (yn (fun _ k q=>Le.ofEq (zAD F k F q).symm) jY))) zn)))
theorem zAE:∀i:Nat,i<30->isI .i64 [.v (.i 536870912),.v (.i 316933406),.v (.i 167458907),.v (.i 85004756),.v (.i 42667331),.v (.i 21354465),.v (.i 10679838),.v (.i 5340245),.v (.i 2670163),.v (.i 1335087),.v (.i 667544),.v (.i 333772),.v (.i 166886),.v (.i 83443),.v (.i 41722),.v (.i 20861),.v (.i 10430),.v (.i 5215),.v (.i 2608),.v (.i 1304),.v (.i 652),.v (.i 326),.v (.i 163),.v (.i 81),.v (.i 41),.v (.i 20),.v (.i 10),.v (.i 5),.v (.i 3),.v (.i 1)][i]? =true/\iv [.v (.i 536870912),.v (.i 316933406),.v (.i 167458907),.v (.i 85004756),.v (.i 42667331),.v (.i 21354465),.v (.i 10679838),.v (.i 5340245),.v (.i 2670163),.v (.i 1335087),.v (.i 667544),.v (.i 333772),.v (.i 166886),.v (.i 83443),.v (.i 41722),.v (.i 20861),.v (.i 10430),.v (.i 5215),.v (.i 2608),.v (.i 1304),.v (.i 652),.v (.i 326),.v (.i 163),.v (.i 81),.v (.i 41),.v (.i 20),.v (.i 10),.v (.i 5),.v (.i 3),.v (.i 1)][i]? =tA i:=dcz
theorem zO2(i:Nat):(Int.toNat (i:Int))*1=i:=by simp
theorem zO3(F:Nat){x y:Int}{i:Nat}(hi:i<64)(o:Bool)(h1:zr (zrX i o x y))(h2:zr (zrY i o x y)):zx.ok F x y i o=true/\zx.i 0 F x y i o=zrX i o x y/\zx.i 1 F x y i o=zrY i o x y:=by
 refine zuN F _ _ _ _ ?_;unfold zev;have hd:(!decide ((i:Int)<0))=true:=nn i;have hP:=zb9 i;rw [hd,zD9 zc,zdF _ zc,zdF _ zc];simp only [cond_true];unfold zrX zrY at*
 cases o
 ·simp only [Bool.false_eq_true,if_false,cond_false]at*
  rw [zH h1,zH h2]
 ·simp only [if_true,cond_true]at*
  rw [zH h1,zH h2]
theorem zVJ(F:Nat)(x:Int):zah.ok F x=true/\zah.i 0 F x=zyE x:=by
 refine zJA F _ ?_;unfold zsz zqA;obtain⟨h1,h2,h3⟩:=zyd F _ _ _ (zJw F (a:=x) (l:=0) (h:=4294967296));rw [h1,h2];rfl
theorem zmJ(F:Nat)(ex){z:Int}(hz:0<=z/\z<1073741824)(x0 x1 x2:Int):∀(k n i:Nat) (x3 x34 x35 x36:Int),i+k=30->k<n->x34=i->x35=(bS z i).1->x36=(bS z i).2.1->x3=(bS z i).2.2->
 jt F ex n x0 x1 x2 x3 536870912 316933406 167458907 85004756 42667331 21354465 10679838 5340245 2670163 1335087 667544 333772 166886 83443 41722 20861 10430 5215 2608 1304 652 326 163 81 41 20 10 5 3 1 x34 x35 x36=ex x0 x1 x2 (bS z 30).2.2 536870912 316933406 167458907 85004756 42667331 21354465 10679838 5340245 2670163 1335087 667544 333772 166886 83443 41722 20861 10430 5215 2608 1304 652 326 163 81 41 20 10 5 3 1 30 (bS z 30).1 (bS z 30).2.1
 |_,0,_,_,_,_,_,_,h,_,_,_,_=>absurd h zc
 |0,n+1,i,_,_,_,_,h,_,rfl,rfl,rfl,rfl=>by
  obtain rfl:i=30:=zc;rw [zt8];unfold zjx zhC;exact bn (df zc) rfl
 |k+1,n+1,i,_,_,_,_,h,hn,rfl,rfl,rfl,rfl=>by
  have hi':i<30:=zc;obtain⟨g1,g2⟩:=zAE i hi';have b1:=zV8 z (i:=i+1) zc;have b2:=zV9 hz (i:=i) zc;have b3:=zD4 i hi';obtain⟨t1,t2,t3⟩:=zO3 F (x:=(bS z i).1) (y:=(bS z i).2.1) (i:=i) zc (decide (0<=(bS z i).2.2)) (by simp only [bS]at b1;unfold zr;omega) (by simp only [bS]at b1;unfold zr;omega);rw [zt8];unfold zjx zhC;refine bp (dt zc) (bp (by rw [zO2,g1,show((decide (0<=(i:Int)))&&(decide ((i:Int)<30)))=true from zrN i 30 hi'];rfl) ?_);rw [zO2,g2];have eg:decide ((bS z i).2.2>=0)=decide (0<=(bS z i).2.2):=rfl;rw [eg];refine bp t1 ?_;rw [t2,t3];have w1:wrap .i64 ((i:Int)+1)=((i+1:Nat):Int):=zeu i zc;rw [w1]
  by_cases hs:0<=(bS z i).2.2
  ·refine bp (dt hs) ?_
   refine zmJ F ex hz x0 x1 x2 k n (i+1) _ _ _ _ zc zc rfl rfl rfl ?_;simp only [bS];rw [if_pos hs,zH (x:=0-tA i) (by unfold zr;omega),zH (by unfold zr;omega)];omega
  ·refine bn (df hs) ?_
   refine zmJ F ex hz x0 x1 x2 k n (i+1) _ _ _ _ zc zc rfl rfl rfl ?_;simp only [bS];rw [if_neg hs,zH (by unfold zr;omega)]
theorem zM9{a:Int}(ha:U32 a):zmw .u32 a 1073741823=a%1073741824:=by
 have e:zmw .u32 a 1073741823=wrap .u32 ((BitVec.ofInt 32 a&&& BitVec.ofInt 32 1073741823).toNat:Int):=rfl;unfold U32 at ha;have h1:(BitVec.ofInt 32 a).toNat=a.toNat:=by simp only [BitVec.toNat_ofInt];omega
 have h2:(BitVec.ofInt 32 1073741823).toNat=2^30-1:=dcz;rw [e,BitVec.toNat_and,h1,h2,Nat.and_two_pow_sub_one_eq_mod,zuA];omega
theorem zXK(F:Nat):zb.ok F=true/\zb.i 0 F=536870912/\zb.i 1 F=316933406/\zb.i 2 F=167458907/\zb.i 3 F=85004756/\zb.i 4 F=42667331/\zb.i 5 F=21354465/\zb.i 6 F=10679838/\zb.i 7 F=5340245/\zb.i 8 F=2670163/\zb.i 9 F=1335087/\zb.i 10 F=667544/\zb.i 11 F=333772/\zb.i 12 F=166886/\zb.i 13 F=83443/\zb.i 14 F=41722/\zb.i 15 F=20861/\zb.i 16 F=10430/\zb.i 17 F=5215/\zb.i 18 F=2608/\zb.i 19 F=1304/\zb.i 20 F=652/\zb.i 21 F=326/\zb.i 22 F=163/\zb.i 23 F=81/\zb.i 24 F=41/\zb.i 25 F=20/\zb.i 26 F=10/\zb.i 27 F=5/\zb.i 28 F=3/\zb.i 29 F=1:=zBY F rfl
theorem zkr{a b c d:Int}(h:a=c)(k:b=d):(some (VV.v (.tuple #[.i a,.i b])):R)=some (.v (.tuple #[.i c,.i d])):=by rw [h,k]
theorem zUu(F:Nat)(hF:200<=F){a:Int}(ha:U32 a):znR F a=some (.v (.tuple #[.i (zdZ a),.i (zc7 a)])):=by
 unfold znR zqB;obtain⟨h0,e0,e1,e2,e3,e4,e5,e6,e7,e8,e9,e10,e11,e12,e13,e14,e15,e16,e17,e18,e19,e20,e21,e22,e23,e24,e25,e26,e27,e28,e29⟩:=zXK F;refine bp h0 ?_;rw [e0,e1,e2,e3,e4,e5,e6,e7,e8,e9,e10,e11,e12,e13,e14,e15,e16,e17,e18,e19,e20,e21,e22,e23,e24,e25,e26,e27,e28,e29,zM9 ha];have hz:0<=a%1073741824/\a%1073741824<1073741824:=zc;rw [zH (x:=a%1073741824) (by unfold zr;omega),zmJ F _ hz a 0 0 30 F 0 (a%1073741824) 0 2608131496 0 zc zc rfl rfl rfl rfl];obtain⟨u1,u2⟩:=zVJ F (bS (a%1073741824) 30).1;obtain⟨v1,v2⟩:=zVJ F (bS (a%1073741824) 30).2.1;refine bp u1 (bp v1 ?_);rw [u2,v2];obtain⟨F,rfl⟩:∃G,F=G+4:=⟨F-4,zc⟩
 have c1:=ztm (bS (a%1073741824) 30).1;have c2:=ztm (bS (a%1073741824) 30).2.1;unfold U32 at ha;have w0:wrap .u32 (0+1)=1:=by rw [zuA];omega
 have w1:wrap .u32 (1+1)=2:=by rw [zuA];omega
 have w2:wrap .u32 (2+1)=3:=by rw [zuA];omega
 have eC:zyE (bS (a%1073741824) 30).1=bC a:=rfl;have eN:zyE (bS (a%1073741824) 30).2.1=bN a:=rfl;rw [eC]at c1⊢;rw [eN]at c2⊢;rw [zdF _ dcz];have n1:wrap .i64 (0-bN a)= -bN a:=by rw [zH (by unfold zr;omega)];omega
 have n2:wrap .i64 (0-bC a)= -bC a:=by rw [zH (by unfold zr;omega)];omega
 have n3:wrap .i64 (0- -bN a)=bN a:=by rw [zH (by unfold zr;omega)];omega
 unfold zdZ zc7;rw [zjz];unfold zdT;by_cases q0:a/1073741824=0
 ·refine bn (df zc) (zkr ?_ ?_)<;>rw [if_pos q0]
 ·refine bp (dt zc) ?_
  rw [w0,n1,zjz];unfold zdT;by_cases q1:a/1073741824=1
  ·refine bn (df zc) (zkr ?_ ?_)<;>rw [if_neg q0,if_pos q1]
  ·refine bp (dt zc) ?_
   rw [w1,n2,zjz];unfold zdT;by_cases q2:a/1073741824=2
   ·refine bn (df zc) (zkr ?_ ?_)<;>rw [if_neg q0,if_neg q1,if_pos q2]
   ·refine bp (dt zc) ?_
    rw [w2,n3,zjz];unfold zdT;refine bn (df zc) (zkr ?_ ?_)<;>rw [if_neg q0,if_neg q1,if_neg q2]
theorem zFA(F:Nat)(hF:200<=F){a:Int}(ha:U32 a):zbl.ok F a=true/\zbl.i 0 F a=zdZ a/\zbl.i 1 F a=zc7 a:=zJD F _ (zUu F hF ha)
theorem zUv{x:Int}(h:x<0)(d:Int):Int.tdiv x d= -Int.tdiv (-x) d/\Int.tmod x d= -Int.tmod (-x) d:=by
 constructor
 ·rw [Int.neg_tdiv];omega
 ·rw [Int.neg_tmod];omega
theorem tq2(x:Int):(0<=x->Int.tdiv x 2=x/2/\Int.tmod x 2=x%2)/\(x<0->Int.tdiv x 2= -(-x/2)/\Int.tmod x 2= -(-x%2)):=by
 refine⟨fun h=>⟨Int.tdiv_eq_ediv_of_nonneg h,Int.tmod_eq_emod_of_nonneg h⟩,fun h=> ?_⟩;obtain⟨h1,h2⟩:=zUv h 2;rw [h1,h2,Int.tdiv_eq_ediv_of_nonneg zc,Int.tmod_eq_emod_of_nonneg zc];exact⟨rfl,rfl⟩
theorem zUw(x:Int)(h:zr x):(Int.tmod x 2<0->wrap .i64 (wrap .i64 (Int.tdiv x 2)-1)=x/2)/\(¬Int.tmod x 2<0->wrap .i64 (Int.tdiv x 2)=x/2):=by
 unfold zr at h;obtain⟨q1,q2⟩:=tq2 x;have e1:wrap .i64 (Int.tdiv x 2)=Int.tdiv x 2:=zH (by unfold zr;omega);rw [e1];constructor
 ·intro hm
  rw [zH (by unfold zr;omega)];omega
 ·intro hm
  omega
theorem zsA{x:Int}(h:zr x)(i:Nat):zr (x/2^i):=by
 unfold zr at*
 have:=zE0 (y:=x) (B:=9223372036854775808) zc i;refine⟨zc,?_⟩;have hP:=zb9 i;rcases Int.lt_or_le x 0 with hn|hn
 ·have:=Int.ediv_neg_of_neg_of_pos hn hP;omega
 ·have:=Int.ediv_le_self (2^i) hn;omega
theorem zw0(F:Nat)(ex){x:Int}(hx:zr x)(m:Nat)(hm:m<1000)(x2:Int):∀(k n i:Nat) (x0 x3:Int),i+k=m->k<n->x0=x/2^i->x3=i->
 j9 F ex n x0 m x2 x3=ex (x/2^m) m x2 m
 |_,0,_,_,_,_,h,_,_=>absurd h zc
 |0,n+1,i,_,_,h,_,rfl,rfl=>by
  obtain rfl:i=m:=zc;rw [zsx];unfold ze8;exact bn (df zc) rfl
 |k+1,n+1,i,_,_,h,hn,rfl,rfl=>by
  rw [zsx];unfold ze8;refine bp (dt zc) ?_;obtain⟨h1,h2⟩:=zUw _ (zsA hx i);have w1:wrap .i64 ((i:Int)+1)=((i+1:Nat):Int):=zeu i zc;dsimp only;by_cases hc:Int.tmod (x/2^i) 2<0
  ·refine bp (dt hc) ?_
   exact zw0 F ex hx m hm x2 k n (i+1) _ _ zc zc (by rw [h1 hc,zxZ]) w1
  ·refine bn (df hc) ?_
   exact zw0 F ex hx m hm x2 k n (i+1) _ _ zc zc (by rw [h2 hc,zxZ]) w1
theorem zw1(F:Nat)(hF:200<=F){x:Int}(hx:zr x){m:Nat}(hm:m<100):zG.ok F x m=true/\zG.i 0 F x m=x/2^m:=by
 refine zFs F _ _ ?_;unfold zqx zoF;rw [zw0 F _ hx m zc 0 m F 0 x 0 zc zc jq rfl]
theorem zSg(F:Nat){i:Nat}(hi:i<30):zV.ok F i=true/\zV.i 0 F i=tA i:=by
 refine zFw F _ ?_;unfold zls;obtain⟨g1,g2⟩:=zAE i hi;refine bp (zrN i 30 hi) ?_;dsimp only;rw [zBM];refine bp (by rw [g1];rfl) ?_;rw [g2]
theorem zEe(F:Nat)(x:Int):j3.ok F x=true/\j3.i 0 F x=zyE x:=by
 refine zBT F _ ?_;unfold zjv zyE;exact zd6 (by split<;>split<;>omega)
theorem zuO(F:Nat)(hF:200<=F)(ex){z:Int}(hz:0<=z/\z<1073741824)(x0 x1 x2 x3:Int):∀(k n i:Nat) (x4 x5 x6 x7:Int),i+k=30->k<n->x7=i->x5=(bS z i).1->x6=(bS z i).2.1->x4=(bS z i).2.2->
 zaa F ex n x0 x1 x2 x3 x4 x5 x6 x7=ex x0 x1 x2 x3 (bS z 30).2.2 (bS z 30).1 (bS z 30).2.1 30
 |_,0,_,_,_,_,_,_,h,_,_,_,_=>absurd h zc
 |0,n+1,i,_,_,_,_,h,_,rfl,rfl,rfl,rfl=>by
  obtain rfl:i=30:=zc;rw [zsy];unfold zhA zgl;exact bn (df zc) rfl
 |k+1,n+1,i,_,_,_,_,h,hn,rfl,rfl,rfl,rfl=>by
  have hi':i<30:=zc;have b0:=zV8 z (i:=i) zc;have b1:=zV8 z (i:=i+1) zc;have b2:=zV9 hz (i:=i) zc;have b3:=zD4 i hi';obtain⟨g1,g2⟩:=zw1 F hF (x:=(bS z i).1) (by unfold zr;omega) (m:=i) zc;obtain⟨j1,j2⟩:=zw1 F hF (x:=(bS z i).2.1) (by unfold zr;omega) (m:=i) zc;obtain⟨s1,s2⟩:=zSg F hi';rw [zsy];unfold zhA zgl;refine bp (dt zc) (bp g1 (bp j1 ?_));rw [g2,j2];have w1:wrap .i64 ((i:Int)+1)=((i+1:Nat):Int):=zeu i zc;rw [w1];by_cases hs:0<=(bS z i).2.2
  ·refine bp (dt hs) (bp s1 ?_)
   rw [s2];simp only [bS,zrX,zrY,hs,decide_true,if_true]at b1;refine zuO F hF ex hz x0 x1 x2 x3 k n (i+1) _ _ _ _ zc zc rfl ?_ ?_ ?_
   ·simp only [bS,zrX,hs,decide_true,if_true];rw [zH (by unfold zr;omega)]
   ·simp only [bS,zrY,hs,decide_true,if_true];rw [zH (by unfold zr;omega)]
   ·simp only [bS,hs,if_true];rw [zH (by unfold zr;omega)]
  ·refine bn (df hs) (bp s1 ?_)
   rw [s2];simp only [bS,zrX,zrY,hs,decide_false,Bool.false_eq_true,if_false]at b1;refine zuO F hF ex hz x0 x1 x2 x3 k n (i+1) _ _ _ _ zc zc rfl ?_ ?_ ?_
   ·simp only [bS,zrX,hs,decide_false,Bool.false_eq_true,if_false];rw [zH (by unfold zr;omega)]
   ·simp only [bS,zrY,hs,decide_false,Bool.false_eq_true,if_false];rw [zH (by unfold zr;omega)]
   ·simp only [bS,hs,if_false];rw [zH (by unfold zr;omega)]
theorem zUx(F:Nat)(hF:200<=F){a:Int}(ha:U32 a):zlu F a=some (.v (.tuple #[.i (zdZ a),.i (zc7 a)])):=by
 unfold zlu zoG;unfold U32 at ha;have e1:Int.tmod a 1073741824=a%1073741824:=Int.tmod_eq_emod_of_nonneg ha.1;have e2:Int.tdiv a 1073741824=a/1073741824:=Int.tdiv_eq_ediv_of_nonneg ha.1;have hz:0<=a%1073741824/\a%1073741824<1073741824:=zc;rw [e1,e2,zH (x:=a%1073741824) (by unfold zr;omega),zT9 (by unfold U32;omega),zuO F hF _ hz a 0 0 _ 30 F 0 (a%1073741824) 2608131496 0 0 zc zc rfl rfl rfl rfl];obtain⟨u1,u2⟩:=zEe F (bS (a%1073741824) 30).1;obtain⟨v1,v2⟩:=zEe F (bS (a%1073741824) 30).2.1;refine bp u1 (bp v1 ?_);rw [u2,v2];have c1:=ztm (bS (a%1073741824) 30).1;have c2:=ztm (bS (a%1073741824) 30).2.1
 have eC:zyE (bS (a%1073741824) 30).1=bC a:=rfl;have eN:zyE (bS (a%1073741824) 30).2.1=bN a:=rfl;rw [eC]at c1⊢;rw [eN]at c2⊢;have n1:wrap .i64 (0-bN a)= -bN a:=by rw [zH (by unfold zr;omega)];omega
 have n2:wrap .i64 (0-bC a)= -bC a:=by rw [zH (by unfold zr;omega)];omega
 dsimp only;rw [n1,n2];unfold zdZ zc7;by_cases q0:a/1073741824=0
 ·refine bp (by simp [q0]) (zkr ?_ ?_)<;>rw [if_pos q0]
 ·refine bn (by simp [q0]) ?_
  by_cases q1:a/1073741824=1
  ·refine bp (by simp [q1]) (zkr ?_ ?_)<;>rw [if_neg q0,if_pos q1]
  ·refine bn (by simp [q1]) ?_
   by_cases q2:a/1073741824=2
   ·refine bp (by simp [q2]) (zkr ?_ ?_)<;>rw [if_neg q0,if_neg q1,if_pos q2]
   ·refine bn (by simp [q2]) (zkr ?_ ?_)<;>rw [if_neg q0,if_neg q1,if_neg q2]
theorem zFB(F:Nat)(hF:200<=F){a:Int}(ha:U32 a):za1.ok F a=true/\za1.i 0 F a=zdZ a/\za1.i 1 F a=zc7 a:=zFy F _ (zUx F hF ha)
theorem zVK{x y:Int}(hx:0<=x)(h:x<y):x*x<y*y:=by
 have h1:x*x<=x*y:=Int.mul_le_mul_of_nonneg_left zc hx;have h2:x*y<y*y:=Int.mul_lt_mul_of_pos_right h zc;omega
theorem zyf{x y:Int}(hx:0<=x)(h:x<=y):x*x<=y*y:=by
 rcases Int.lt_or_eq_of_le h with h|rfl
 ·exact Int.le_of_lt (zVK hx h)
 ·exact Int.le_refl _
theorem zO4(z:Int)(hz:0<=z):∃x:Int,0<=x/\x*x<=z/\z<(x+1)*(x+1):=by
 obtain⟨n,rfl⟩:=Int.eq_ofNat_of_zero_le hz;induction n with
 |zero=>exact⟨0,zc,zc,zc⟩
 |succ n ih=>
  obtain⟨x,h1,h2,h3⟩:=ih zc;by_cases h:(x+1)*(x+1)<=((n+1:Nat):Int)
  ·refine⟨x+1,zc,h,?_⟩
   have:=zVK (x:=x+1) (y:=x+1+1) zc zc;push_cast;omega
  ·refine⟨x,h1,?_,zc⟩
   push_cast;omega
noncomputable def rt(z:Int):Int:=if h:0<=z then Classical.choose (zO4 z h)else 0
theorem zvQ{z:Int}(h:0<=z):0<=rt z/\rt z*rt z<=z/\z<(rt z+1)*(rt z+1):=by
 unfold rt;rw [dif_pos h];exact Classical.choose_spec (zO4 z h)
theorem zVL{z y:Int}(hz:0<=z)(hy:0<=y):y<=rt z↔y*y<=z:=by
 obtain⟨h3,h4,h5⟩:=zvQ hz;constructor
 ·intro h
  have:=zyf hy h;omega
 ·intro h
  rcases Int.lt_or_le (rt z) y with hlt|hle
  ·have:=zyf (x:=rt z+1) (y:=y) zc zc;omega
  ·exact hle
theorem zSh{r P:Int}(hr:0<=r)(hP:0<P):(r/(2*P)*(2*P)+P<=r->r/P*P=r/(2*P)*(2*P)+P)/\(¬r/(2*P)*(2*P)+P<=r->r/P*P=r/(2*P)*(2*P)):=by
 have e:r/(2*P)=r/P/2:=by rw [Int.mul_comm,Int.ediv_ediv_of_nonneg zc]
 have hd:=Int.mul_ediv_add_emod r P;have h2:=Int.emod_nonneg r (show P≠0 from zc);have h3:=Int.emod_lt_of_pos r hP;rw [e];generalize r/P=q at*
 have hq:0<=q\/q<0:=zc;have e1:q/2*(2*P)=2*(q/2)*P:=by simp only [Int.mul_comm,Int.mul_left_comm]
 rw [e1];rcases(show q=2*(q/2)\/q=2*(q/2)+1 from zc)with h|h
 ·rw [<-h]
  constructor
  ·intro hx
   rw [Int.mul_comm q P]at hx;omega
  ·intro _;rfl
 ·have e2:q*P=2*(q/2)*P+P:=by
   have:q*P=(2*(q/2)+1)*P:=by rw [<-h]
   rw [this,Int.add_mul,Int.one_mul]
  rw [<-e2];constructor
  ·intro _;rfl
  ·intro hx
   rw [Int.mul_comm q P]at hx;omega
def zmK:Cfg:=⟨[0,2,3,4,5,6,13,20],[(0,[0,2,3,4,5,6,7,8,9,10,11,27])],[],[]⟩
def ze9:Sg:=⟨[.v (.int .u64)],.v (.agg [.i,.int .u64])⟩
def zmL(zg:jQ)(ze:Qi4)(F:Nat):=zS [(118,zz zbU ki2 zg F),(80,zz zbP ki4 ze F)]
def zfv:TS:=⟨[(0,.v (.int .u64)),(2,.lp 0 (.lit 0)),(3,.lp 1 (.lit 0)),(4,.lp 2 (.lit 0)),(5,.ls 3 (.lit 0) .hole 1),(6,.i)],[(0,⟨(.ex [.i,.v (.int .u64)]),true⟩),(1,⟨(.ex [.i,.v (.int .u64)]),true⟩),(2,⟨(.ex [.i,.v (.int .u64)]),true⟩),(3,⟨.hole,true⟩)],4⟩
def zuP:TS:=zfv
def zeT(ze:Qi4)(F:Nat)(s l:FT ziQ):FT ziQ:=fun m h c o p d e a b g=>bif(decide (c<64))then bif((decide (0<=c))&&(decide (c<((h:Nat):Int))))then let t:Nat:=0+((Int.toNat c)*1);bif((isI .i64 g[t]?)&&true)then bif((iv g[t]?)==1)then bif(ze.ok F d e a b)then bif(ze.ok F a b a b)then s m h (wrap .i64 (c+1)) o p (ze.i 0 F d e a b) (ze.i 1 F d e a b) (ze.i 0 F a b a b) (ze.i 1 F a b a b) g else none else none else bif(ze.ok F a b a b)then s m h (wrap .i64 (c+1)) o p d e (ze.i 0 F a b a b) (ze.i 1 F a b a b) g else none else none else none else l m h c o p d e a b g
def zfw:=zeT ze
def jm(F:Nat)(a:FT ziQ):Nat->FT ziQ:=lY fun b=>zfw F b a
theorem zpN{F n}{a}:jm F a (n+1)=zfw F (jm F a n) a:=rfl
def zgO(k:Exit->VS->R):FT ziQ:=cQ _ fun q=>k (.exit 0) (fS zuP q)
def zfa(jm:Nat->FT ziQ->Nat->FT ziQ)(F:Nat):List LW:=[⟨0,zfv,fun k q=>uQ _ (jm F (zgO k) F) q⟩]
theorem zvR(F:Nat)(k:Exit->VS->R):∀n q,iQ PP (zmL zg ze F) zmK (zfa jm F) [] 181 0 0 k n zfv q=uQ _ (jm F (zgO k) n) q:=
 lG (fun _=>by kernel_rfl) ((hzz:∀(zg:jQ) (ze:Qi4) (jm:Nat->FT ziQ->Nat->FT ziQ),LH PP (zmL zg ze F) zmK (zfa jm F) [] 181 0 0 k zfv (fun a=>zeT ze F a (zgO k))) zg ze jm)
def zk0(zg:jQ)(jm:Nat->FT ziQ->Nat->FT ziQ)(F:Nat):FT ki:=fun a=>bif(zg.ok F 0 a)then jm F (fun g h l m o b d p s e=>some (.v (.agg #[.i b,.int .u64 d]))) F a (zg.n 1 F 0 a) 0 0 0 0 0 0 a (zg.c 0 F 0 a)else none
def zhD:=zk0 zg jm
def zW:Qi:=mkQ (l:=ki) ze9.o zhD
theorem zAF(zg:jQ)(ze:Qi4)(jm:Nat->FT ziQ->Nat->FT ziQ)(F:Nat):HHz ze9 ki (zmL zg ze F) zmK (zfa jm F) 181 (zk0 zg jm F):=hzz
theorem zAG(F:Nat)(a:Int):KO9 (zhD F a) (zW.ok F a) (zW.i 0 F a) (zW.i 1 F a):=ko9 _
theorem zsB(F:Nat):yc PP 181 (unS (zz ze9 ki zW F)):=
 gzl (W:=zfa jm) F (zAF zg ze jm F) (zd (zc9 F) (zd (zcF F) zn)) (jP [(0,zaK PP 181 0)] kfz (zd (jZ (zfa jm F) rfl (yn (fun _ k q=>Le.ofEq (zvR F k F q).symm) jY)) zn))
def zqC:Cfg:=⟨[0,1,2,3,4,5,6,7,10,17,34],[(0,[0,1,2,3,4,5,6,8,9,10,38])],[33],[]⟩
def zlv:Sg:=⟨[.v (.agg [.i,.int .u64])],.v (.tup [.int .u64,.bool])⟩
def zqD(zW:Qi)(yX:Qi4)(F:Nat):=zS [(181,zz ze9 ki zW F),(123,zz zhp ki4 yX F)]
def zhE:TS:=⟨[(0,.v (.agg [.i,.int .u64])),(1,.lp 0 (.lit 0)),(2,.v (.int .u64)),(3,.v (.bool)),(4,.v (.int .u64)),(5,.v (.int .u64)),(6,.i)],[(0,⟨(.ex [.i,.v (.int .u64)]),true⟩)],1⟩
def zw2:TS:=zhE
def zgm(zW:Qi)(yX:Qi4)(F:Nat)(t g:FT ziR):FT ziR:=fun m o p s a c h d e=>bif(decide (h<65))then bif(decide (a<c))then let l:Int:=wrap .u64 ((wrap .u64 (a+(wrap .u64 (Int.tdiv (wrap .u64 (c-a)) 2))))+(Int.tmod (wrap .u64 (c-a)) 2));bif(zW.ok F l)then let u:Int:=zW.i 0 F l;let v:Int:=zW.i 1 F l;bif(yX.ok F d e u v)then bif(yX.b 0 F d e u v)then t m o p s a (wrap .u64 (l-1)) (wrap .i64 (h+1)) d e else t m o p s l c (wrap .i64 (h+1)) d e else none else none else g m o p s a c h d e else g m o p s a c h d e
def zhF:=zgm zW yX
def zab(F:Nat)(a:FT ziR):Nat->FT ziR:=lY fun b=>zhF F b a
theorem zsC{F n}{a}:zab F a (n+1)=zhF F (zab F a n) a:=rfl
def ziW(k:Exit->VS->R):FT ziR:=cQ _ fun q=>k (.exit 0) (fS zw2 q)
def zhG(zab:Nat->FT ziR->Nat->FT ziR)(F:Nat):List LW:=[⟨0,zhE,fun k q=>uQ _ (zab F (ziW k) F) q⟩]
theorem zyP(F:Nat)(k:Exit->VS->R):∀n q,iQ PP (zqD zW yX F) zqC (zhG zab F) [] 183 0 0 k n zhE q=uQ _ (zab F (ziW k) n) q:=
 lG (fun _=>by kernel_rfl) ((hzz:∀(zW:Qi) (yX:Qi4) (zab:Nat->FT ziR->Nat->FT ziR),LH PP (zqD zW yX F) zqC (zhG zab F) [] 183 0 0 k zhE (fun a=>zgm zW yX F a (ziW k))) zW yX zab)
def zoI(zab:Nat->FT ziR->Nat->FT ziR)(F:Nat):FT ki2:=fun a b=>bif(decide (a<0))then some (.v (.tuple #[.int .u64 0,.bool false]))else zab F (fun g h l m c o p d e=>some (.v (.tuple #[.int .u64 c,.bool true]))) F a b 0 false 0 13043817825332782212 0 a b
def zlw:=zoI zab
def zax:jQ:=mkQ (l:=ki2) zlv.o zlw
theorem zFC(zW:Qi)(yX:Qi4)(zab:Nat->FT ziR->Nat->FT ziR)(F:Nat):HHz zlv ki2 (zqD zW yX F) zqC (zhG zab F) 183 (zoI zab F):=hzz
theorem zFD(F:Nat)(a c:Int):zWe (zlw F a c) (zax.ok F a c) (zax.i 0 F a c) (zax.b 1 F a c):=zXx _
theorem zFE(F:Nat):yc PP 183 (unS (zz zlv ki2 zax F)):=
 gzl (W:=zhG zab) F (zFC zW yX zab F) (zd (zsB F) (zd (zvI F) zn)) (jP [(0,zaK PP 183 0)] kfz (zd (jZ (zhG zab F) rfl (yn (fun _ k q=>Le.ofEq (zyP F k F q).symm) jY)) zn))
def zBZ:Cfg:=⟨[0,2,3,4,5,6],[],[],[]⟩
def zfY:Sg:=⟨[.v (.int .u64)],.v (.agg [.i,.int .u64])⟩
def zB0(zN:Qi3)(zv:Qi4)(F:Nat):=zS [(129,zz ze2 ki3 zN F),(101,zz zdS ki4 zv F)]
def zmM(zN:Qi3)(zv:Qi4)(F:Nat):FT ki:=fun l=>let a:Int:=Int.fdiv l (4294967296);let b:Int:=zmw .u64 l 4294967295;let c:Int:=wrap .i64 (wrap .u64 (a*a));let d:Int:=wrap .u64 (b*b);let e:Int:=wrap .u64 (a*b);bif(zN.ok F 0 e 33)then let g:Int:=zN.i 0 F 0 e 33;let h:Int:=zN.i 1 F 0 e 33;bif(zv.ok F c d g h)then some (.v (.agg #[.i (zv.i 0 F c d g h),.int .u64 (zv.i 1 F c d g h)]))else none else none
def zjA:=zmM zN zv
def ye:Qi:=mkQ (l:=ki) zfY.o zjA
theorem zB1(zN:Qi3)(zv:Qi4)(F:Nat):HHz zfY ki (zB0 zN zv F) zBZ [] 184 (zmM zN zv F):=hzz
theorem zB2(F:Nat)(a:Int):KO9 (zjA F a) (ye.ok F a) (ye.i 0 F a) (ye.i 1 F a):=ko9 _
theorem zt9(F:Nat):yc PP 184 (unS (zz zfY ki ye F)):=
 gzz F (zB1 zN zv F) (zd (znA F) (zd (zgI F) zn))
def zsD:Cfg:=⟨[0,1,2,3,4,5,6,7,10,11,12,29],[(0,[0,1,2,3,4,8,9,10,11,34])],[],[]⟩
def znS:Sg:=⟨[.v (.agg [.i,.int .u64])],.v (.tup [.int .u64,.bool])⟩
def zsE(ye:Qi)(zbo:Qi4)(F:Nat):=zS [(184,zz zfY ki ye F),(188,zz znB ki4 zbo F)]
def zjB:TS:=⟨[(0,.v (.agg [.i,.int .u64])),(1,.lp 0 (.lit 0)),(2,.v (.int .u64)),(3,.v (.bool)),(4,.v (.int .u64)),(11,.i)],[(0,⟨(.ex [.i,.v (.int .u64)]),true⟩)],1⟩
def zyQ:TS:=zjB
def zhH(ye:Qi)(zbo:Qi4)(F:Nat)(o p:FT ziP):FT ziP:=fun g h l m e a c d=>bif(decide (a<64))then let u:Int:=wrap .i64 (63-a);bif(!(decide (u<0)))then let v:Int:=wrap .u64 (1*2^(min (Int.toNat u) 64));let s:Int:=orI .u64 e v;bif(ye.ok F s)then let t:Int:=ye.i 0 F s;let w:Int:=ye.i 1 F s;bif(decide (t>=0))then bif(zbo.ok F c d t w)then bif(!(zbo.b 0 F c d t w))then o g h l m (orI .u64 e v) (wrap .i64 (a+1)) c d else o g h l m e (wrap .i64 (a+1)) c d else none else o g h l m e (wrap .i64 (a+1)) c d else none else none else p g h l m e a c d
def zjC:=zhH ye zbo
def zas(F:Nat)(a:FT ziP):Nat->FT ziP:=lY fun b=>zjC F b a
theorem zua{F n}{a}:zas F a (n+1)=zjC F (zas F a n) a:=rfl
def zk1(k:Exit->VS->R):FT ziP:=cQ _ fun q=>k (.exit 0) (fS zyQ q)
def zks(zas:Nat->FT ziP->Nat->FT ziP)(F:Nat):List LW:=[⟨0,zjB,fun k q=>uQ _ (zas F (zk1 k) F) q⟩]
theorem zAH(F:Nat)(k:Exit->VS->R):∀n q,iQ PP (zsE ye zbo F) zsD (zks zas F) [] 187 0 0 k n zjB q=uQ _ (zas F (zk1 k) n) q:=
 lG (fun _=>by kernel_rfl) ((hzz:∀(ye:Qi) (zbo:Qi4) (zas:Nat->FT ziP->Nat->FT ziP),LH PP (zsE ye zbo F) zsD (zks zas F) [] 187 0 0 k zjB (fun a=>zhH ye zbo F a (zk1 k))) ye zbo zas)
def zqE(zas:Nat->FT ziP->Nat->FT ziP)(F:Nat):FT ki2:=fun a b=>bif(decide (a<0))then some (.v (.tuple #[.int .u64 0,.bool false]))else zas F (fun h l m o c d e g=>some (.v (.tuple #[.int .u64 c,.bool true]))) F a b 0 false 0 0 a b
def znT:=zqE zas
def za7:jQ:=mkQ (l:=ki2) znS.o znT
theorem zJF(ye:Qi)(zbo:Qi4)(zas:Nat->FT ziP->Nat->FT ziP)(F:Nat):HHz znS ki2 (zsE ye zbo F) zsD (zks zas F) 187 (zqE zas F):=hzz
theorem zJG(F:Nat)(a c:Int):zWe (znT F a c) (za7.ok F a c) (za7.i 0 F a c) (za7.b 1 F a c):=zXx _
theorem zJH(F:Nat):yc PP 187 (unS (zz znS ki2 za7 F)):=
 gzl (W:=zks zas) F (zJF ye zbo zas F) (zd (zt9 F) (zd (zIT F) zn)) (jP [(0,zaK PP 187 0)] kfz (zd (jZ (zks zas F) rfl (yn (fun _ k q=>Le.ofEq (zAH F k F q).symm) jY)) zn))
theorem zSi(F:Nat){n:Int}(hn:U64 n):zjA F n=some (wd (n*n)):=by
 unfold zjA zmM;dsimp only;unfold U64 at hn;rw [zdF _ dcz,zAe hn];have en:n=n/4294967296*4294967296+n%4294967296:=zc;have hp:0<=n/4294967296/\n/4294967296<=4294967295:=zc;have hq:0<=n%4294967296/\n%4294967296<=4294967295:=zc;have bd:∀x y:Int,(0<=x/\x<=4294967295)->(0<=y/\y<=4294967295)->0<=x*y/\x*y<=18446744065119617025:=by
  intro x y hx hy;have h1:=Int.mul_nonneg hx.1 hy.1;have h2:x*y<=4294967295*4294967295:=Int.mul_le_mul hx.2 hy.2 hy.1 dcz;exact⟨h1,by simpa using h2⟩
 have b1:=bd _ _ hp hp;have b2:=bd _ _ hq hq;have b3:=bd _ _ hp hq;have hnn:n*n=(n/4294967296)*(n/4294967296)*18446744073709551616+(n/4294967296)*(n%4294967296)*8589934592+(n%4294967296)*(n%4294967296):=by
  generalize n/4294967296=p at*
  generalize n%4294967296=q at*
  subst en;simp only [Int.add_mul,Int.mul_add];have:p*4294967296*(p*4294967296)=p*p*18446744073709551616:=by
   rw [show(18446744073709551616:Int)=4294967296*4294967296 from dcz];simp only [Int.mul_comm,Int.mul_assoc,Int.mul_left_comm]
  have:p*4294967296*q=p*q*4294967296:=by simp only [Int.mul_comm,Int.mul_assoc,Int.mul_left_comm]
  have:q*(p*4294967296)=p*q*4294967296:=by simp only [Int.mul_comm,Int.mul_assoc,Int.mul_left_comm]
  omega
 rw [hnn];generalize n/4294967296*(n/4294967296)=pp at*
 generalize n/4294967296*(n%4294967296)=pq at*
 generalize n%4294967296*(n%4294967296)=qq at*
 rw [zbz (x:=pp) (by unfold U64;omega),zbz (x:=qq) (by unfold U64;omega),zbz (x:=pq) (by unfold U64;omega)];obtain⟨l1,l2,l3⟩:=zx1 F _ _ 33 (zRT F (a:=0) (b:=pq) (n:=33) (by unfold U64;omega));rw [show((33:Int).toNat)=33 from rfl,show(2:Int)^33=8589934592 from dcz]at l2 l3;refine bp l1 ?_;rw [l2,l3];obtain⟨s1,s2,s3⟩:=zqb F _ _ _ _ (zOV F (a:=wrap .i64 pp) (b:=qq) (c:=hi (val 0 pq*8589934592)) (by unfold U64;omega) (zeZ (val 0 pq*8589934592)));refine bp s1 ?_;rw [s2,s3];have e:Eqv (val (wrap .i64 pp) qq+val (hi (val 0 pq*8589934592)) (lo (val 0 pq*8589934592))) (pp*18446744073709551616+pq*8589934592+qq):=by
  rw [zce];refine((Eqv.rfl (x:=val (wrap .i64 pp) qq)).add (zhd _)).trans ?_;rw [zlj];unfold Eqv val;omega
 exact zcT (zhc e) (zhb e)
theorem zvS(F:Nat){n:Int}(hn:U64 n):ye.ok F n=true/\ye.i 0 F n=hi (n*n)/\ye.i 1 F n=lo (n*n):=zB2 F _ (zSi F hn)
theorem zqF(F:Nat)(hF:200<=F)(ex)(a b x0 x3 x4:Int):∀(k n i:Nat) (x2 x5 x6 x7 x8:Int),i+k=64->k<n->x2=i->x5=hi (a*num b i)->x6=lo (a*num b i)->x7=hi (a*2^i)->x8=lo (a*2^i)->
 jm F ex n x0 128 x2 x3 x4 x5 x6 x7 x8 (ds b 128)=ex x0 128 64 x3 x4 (hi (a*num b 64)) (lo (a*num b 64)) (hi (a*2^64)) (lo (a*2^64)) (ds b 128)
 |_,0,_,_,_,_,_,_,_,h,_,_,_,_,_=>absurd h zc
 |0,n+1,i,_,_,_,_,_,h,_,rfl,rfl,rfl,rfl,rfl=>by
  obtain rfl:i=64:=zc;rw [zpN];unfold zfw zeT;exact bn (df zc) rfl
 |k+1,n+1,i,_,_,_,_,_,h,hn,rfl,rfl,rfl,rfl,rfl=>by
  have hi':i<128:=zc;rw [zpN];unfold zfw zeT;refine bp (dt zc) (bp (zrN i 128 hi') (bp (zsl b hi') ?_));rw [zEa b hi'];obtain⟨d1,d2,d3⟩:=zfN F hF (a*2^i) (a*2^i);have e2:a*2^i+a*2^i=a*2^(i+1):=by rw [Int.pow_succ, <-Int.mul_assoc];omega
  rw [e2]at d2 d3;rcases(show dg b i=0\/dg b i=1 by have:=zsd b i;omega)with hd|hd
  ·refine bn (by rw [hd];rfl) (bp d1 ?_)
   have e:num b (i+1)=num b i:=by rw [zj6,hd];omega
   exact zqF F hF ex a b x0 x3 x4 k n (i+1) _ _ _ _ _ zc zc (zeu i zc) (by rw [e]) (by rw [e]) d2 d3
  ·obtain⟨c1,c2,c3⟩:=zfN F hF (a*num b i) (a*2^i)
   have e:a*num b i+a*2^i=a*num b (i+1):=by rw [zj6,hd,Int.mul_add,Int.one_mul]
   rw [e]at c2 c3;refine bp (by rw [hd];rfl) (bp c1 (bp d1 ?_));exact zqF F hF ex a b x0 x3 x4 k n (i+1) _ _ _ _ _ zc zc (zeu i zc) c2 c3 d2 d3
theorem zYk{n:Int}(h:U64 n):hi n=0/\lo n=n:=by unfold U64 at h;unfold hi lo;omega
theorem zQi(F:Nat)(hF:200<=F){n:Int}(hn:U64 n):zhD F n=some (wd (n*n)):=by
 unfold zhD zk0;obtain⟨d1,d2,d3⟩:=zcf F _ _ (zhj F hF (a:=0) hn);have e0:val 0 n=n:=by unfold val;omega
 rw [e0]at d2;obtain⟨h1,h2⟩:=zYk hn;refine bp d1 ?_;rw [d2,d3];rw [zqF F hF _ n n n 0 0 64 F 0 0 0 0 0 n zc zc rfl (by rw [zj5,Int.mul_zero];rfl) (by rw [zj5,Int.mul_zero];rfl) (by rw [Int.pow_zero,Int.mul_one,h1]) (by rw [Int.pow_zero,Int.mul_one,h2])];have e:num n 64=n:=by
  unfold num;unfold U64 at hn;rw [show(2:Int)^64=18446744073709551616 from dcz];omega
 rw [e];rfl
theorem zts(F:Nat)(hF:200<=F){n:Int}(hn:U64 n):zW.ok F n=true/\zW.i 0 F n=hi (n*n)/\zW.i 1 F n=lo (n*n):=zAG F _ (zQi F hF hn)
theorem zSj{z:Int}(h:0<=z)(h2:z<170141183460469231731687303715884105728):0<=rt z/\rt z<=13043817825332782212:=by
 obtain⟨h3,h4,h5⟩:=zvQ h;refine⟨h3,?_⟩;rcases Int.lt_or_le 13043817825332782212 (rt z)with hlt|hle
 ·have:=zyf (x:=13043817825332782213) (y:=rt z) zc zc
  have e:(13043817825332782213:Int)*13043817825332782213=170141183460469231748655437451289177369:=dcz;omega
 ·exact hle
theorem zXL{y:Int}(h:0<=y)(h2:y<18446744073709551616):0<=y*y/\y*y<340282366920938463463374607431768211456:=by
 have h1:=Int.mul_nonneg h h;have:=zyf h (show y<=18446744073709551615 from zc);have e:(18446744073709551615:Int)*18446744073709551615=340282366920938463426481119284349108225:=dcz;omega
theorem zub(F:Nat)(ex){a b:Int}(ha:zr a)(hb:U64 b)(hz:0<=val a b)(x0 x1 x2:Int)(x3:Bool):∀(k n i:Nat) (x4 x5:Int),i+k=64->k<n->x4=rt (val a b)/2^k*2^k->x5=i->
 zas F ex n x0 x1 x2 x3 x4 x5 a b=ex x0 x1 x2 x3 (rt (val a b)) 64 a b
 |_,0,_,_,_,_,h,_,_=>absurd h zc
 |0,n+1,i,_,_,h,_,rfl,rfl=>by
  obtain rfl:i=64:=zc;rw [zua];unfold zjC zhH;refine bn (df zc) ?_;rw [Int.pow_zero,Int.ediv_one,Int.mul_one];rfl
 |k+1,n+1,i,_,_,h,hn,rfl,rfl=>by
  have hW:=zD3 ha hb;unfold zcr at hW;obtain⟨r1,r2⟩:=zSj hz hW.2;have ih:=zub F ex ha hb hz x0 x1 x2 x3 k n (i+1);rw [zua];unfold zjC zhH;dsimp only;have hi63:wrap .i64 (63-(i:Int))=((k:Nat):Int):=by rw [zH (by unfold zr;omega)];omega
  have hP:=zb9 k;have hPb:(2:Int)^k<=9223372036854775808:=by
   have:=zEZ (a:=k) (b:=63) zc;simpa using this
  rw [hi63,zD9 zc,Int.one_mul,zbz (x:=2^k) (by unfold U64;omega)];obtain⟨t1,t2⟩:=zSh (r:=rt (val a b)) (P:=2^k) r1 hP;rw [show(2:Int)*2^k=2^(k+1) by rw [Int.pow_succ,Int.mul_comm]]at t1 t2;have hq:=Int.ediv_nonneg r1 (Int.le_of_lt (zb9 (k+1)));have hqr:rt (val a b)/2^(k+1)*2^(k+1)<=rt (val a b):=Int.ediv_mul_le _ (by have:=zb9 (k+1);omega);have hq0:=Int.mul_nonneg hq (Int.le_of_lt (zb9 (k+1)));have eor:orI .u64 (rt (val a b)/2^(k+1)*2^(k+1)) (2^k)=rt (val a b)/2^(k+1)*2^(k+1)+2^k:=by
   have h1:=ziN (k+1) (a:=rt (val a b)/2^(k+1)) (b:=2^k) hq zc;rw [zMJ (k+1)]at h1;refine h1 ?_ ?_
   ·rw [Int.pow_succ];omega
   ·by_cases hk:k=63
    ·subst hk
     have:rt (val a b)/2^(63+1)=0:=Int.ediv_eq_zero_of_lt r1 (by rw [show(2:Int)^(63+1)=18446744073709551616 from dcz];omega);rw [this];decide
    ·have:=zEZ (a:=k) (b:=62) zc
     rw [show(2:Int)^62=4611686018427387904 from dcz]at this;omega
  rw [eor];have hyU:U64 (rt (val a b)/2^(k+1)*2^(k+1)+2^k):=by
   have hw:=orI .u64 (rt (val a b)/2^(k+1)*2^(k+1)) (2^k);rw [<-eor,ztl];exact zV4 _
  generalize hx:rt (val a b)/2^(k+1)*2^(k+1)=x at*
  obtain⟨s1,s2,s3⟩:=zvS F hyU;have hle:=zVL (z:=val a b) (y:=x+2^k) hz zc;unfold U64 at hyU;obtain⟨b1,b2⟩:=zXL hyU.1 hyU.2;have w5:wrap .i64 ((i:Int)+1)=((i+1:Nat):Int):=zeu i zc;refine bp (dt zc) (bp (nn k) (bp s1 ?_));rw [s2,s3];generalize hs:(x+2^k)*(x+2^k)=s at*
  by_cases hhi:hi s>=0
  ·have hs127:s<170141183460469231731687303715884105728:=by unfold hi at hhi;omega
   obtain⟨l1,l2⟩:=zIS F _ _ _ _ (zWj F (a:=a) (c:=hi s) hb (zeZ s));rw [zce,zvz (by unfold zcr;omega)]at l2;refine bp (dt hhi) (bp l1 ?_);rw [l2];by_cases hc:val a b<s
   ·refine bn (by rw [dt hc];rfl) ?_
    exact ih _ _ zc zc (t2 (fun h=>by have:=hle.1 h;omega)).symm w5
   ·refine bp (by rw [df hc];rfl) ?_
    exact ih _ _ zc zc (t1 (hle.2 zc)).symm w5
  ·have hs127:170141183460469231731687303715884105728<=s:=by unfold hi at hhi;omega
   refine bn (df hhi) ?_;exact ih _ _ zc zc (t2 (fun h=>by have:=hle.1 h;omega)).symm w5
noncomputable def zEf(z:Int):Value:=if z<0 then .tuple #[.int .u64 0,.bool false]else .tuple #[.int .u64 (rt z),.bool true]
theorem zNa(F:Nat)(hF:200<=F){a b:Int}(ha:zr a)(hb:U64 b):znT F a b=some (.v (zEf (val a b))):=by
 unfold znT zqE zEf;have hn:=zzz (a:=a) hb;by_cases h:a<0
 ·refine bp (dt h) ?_
  rw [if_pos (hn.2 h)]
 ·have hz:0<=val a b:=by
   rcases Int.lt_or_le (val a b) 0 with h2|h2
   ·exact absurd (hn.1 h2) h
   ·exact h2
  refine bn (df h) ?_;rw [if_neg zc];have hW:=zD3 ha hb;unfold zcr at hW;obtain⟨r1,r2⟩:=zSj hz hW.2;rw [zub F _ ha hb hz a b 0 false 64 F 0 0 0 zc zc ?_ rfl];rw [Int.ediv_eq_zero_of_lt r1 (by rw [show(2:Int)^64=18446744073709551616 from dcz];omega)];simp
theorem zuQ(F:Nat)(hF:200<=F)(ex){a b:Int}(ha:zr a)(hb:U64 b)(hz:0<=val a b)(x0 x1 x2:Int)(x3:Bool):∀(k n i:Nat) (x4 x5 x6:Int),i+k=64->k+1<n->0<=x4->x5<=13043817825332782212->x4<=rt (val a b)->rt (val a b)<=x5->x5-x4<2^k->x6=i->
 ∃h' i':Int,zab F ex n x0 x1 x2 x3 x4 x5 x6 a b=ex x0 x1 x2 x3 (rt (val a b)) h' i' a b
 |_,0,_,_,_,_,_,h,_,_,_,_,_,_=>absurd h zc
 |0,n+1,i,x4,x5,_,h,_,h0,h1,h2,h3,h4,rfl=>by
  obtain rfl:x4=rt (val a b):=by rw [Int.pow_zero]at h4;omega
  refine⟨x5,i,?_⟩;rw [zsC];unfold zhF zgm;rw [Int.pow_zero]at h4;exact bp (dt zc) (bn (df zc) rfl)
 |k+1,n+1,i,x4,x5,_,h,hn,h0,h1,h2,h3,h4,rfl=>by
  rw [zsC];unfold zhF zgm;by_cases hlt:x4<x5
  ·have hd:0<=x5-x4:=zc
   have em:wrap .u64 (wrap .u64 (x4+wrap .u64 (Int.tdiv (wrap .u64 (x5-x4)) 2))+Int.tmod (wrap .u64 (x5-x4)) 2)=x4+(x5-x4)/2+(x5-x4)%2:=by
    rw [zbz (x:=x5-x4) (by unfold U64;omega),Int.tdiv_eq_ediv_of_nonneg hd,Int.tmod_eq_emod_of_nonneg hd,zbz (x:=(x5-x4)/2) (by unfold U64;omega),zbz (x:=x4+(x5-x4)/2) (by unfold U64;omega),zbz (by unfold U64;omega)]
   dsimp only;rw [em];generalize hm:x4+(x5-x4)/2+(x5-x4)%2=m at*
   have hm1:x4<m/\m<=x5:=zc;obtain⟨s1,s2,s3⟩:=zts F hF (n:=m) (by unfold U64;omega);have hsq:=zyf (x:=m) (y:=13043817825332782212) zc zc;have e:(13043817825332782212:Int)*13043817825332782212=170141183460469231722567801800623612944:=dcz;have hsq0:=Int.mul_nonneg (show 0<=m from zc) (show 0<=m from zc);obtain⟨l1,l2⟩:=zqk F _ _ _ _ (zFe F (a:=a) (c:=hi (m*m)) hb (zeZ (m*m)));rw [zce,zvz (by unfold zcr;omega)]at l2;have hle:=zVL (z:=val a b) (y:=m) hz zc;rw [Int.pow_succ]at h4;have w5:wrap .i64 ((i:Int)+1)=((i+1:Nat):Int):=zeu i zc;by_cases hc:val a b<m*m
   ·have hrm:rt (val a b)<m:=by
     rcases Int.lt_or_le (rt (val a b)) m with h|h
     ·exact h
     ·have:=hle.1 h;omega
    obtain⟨h',i',ih⟩:=zuQ F hF ex ha hb hz x0 x1 x2 x3 k n (i+1) x4 (m-1) _ zc zc h0 zc h2 zc zc w5;refine⟨h',i',bp (dt zc) (bp (dt hlt) (bp s1 ?_))⟩;rw [s2,s3];refine bp l1 (bp (by rw [l2,dt hc]) ?_);rw [zbz (x:=m-1) (by unfold U64;omega)];exact ih
   ·have hrm:m<=rt (val a b):=hle.2 zc
    obtain⟨h',i',ih⟩:=zuQ F hF ex ha hb hz x0 x1 x2 x3 k n (i+1) m x5 _ zc zc zc h1 hrm h3 zc w5;refine⟨h',i',bp (dt zc) (bp (dt hlt) (bp s1 ?_))⟩;rw [s2,s3];exact bp l1 (bn (by rw [l2,df hc]) ih)
  ·obtain rfl:x4=rt (val a b):=zc
   exact⟨x5,i,bp (dt zc) (bn (df hlt) rfl)⟩
theorem zUy(F:Nat)(hF:200<=F){a b:Int}(ha:zr a)(hb:U64 b):zlw F a b=some (.v (zEf (val a b))):=by
 unfold zlw zoI zEf;have hn:=zzz (a:=a) hb;by_cases h:a<0
 ·refine bp (dt h) ?_
  rw [if_pos (hn.2 h)]
 ·have hz:0<=val a b:=by
   rcases Int.lt_or_le (val a b) 0 with h2|h2
   ·exact absurd (hn.1 h2) h
   ·exact h2
  refine bn (df h) ?_;rw [if_neg zc];have hW:=zD3 ha hb;unfold zcr at hW;obtain⟨r1,r2⟩:=zSj hz hW.2;obtain⟨h',i',e⟩:=zuQ F hF (fun(_:Int) (_:Int) (_:Int) (_:Bool) (v:Int) (_:Int) (_:Int) (_:Int) (_:Int)=>(some (.v (.tuple #[.int .u64 v,.bool true])):R)) ha hb hz a b 0 false 64 F 0 0 13043817825332782212 0 zc zc zc zc r1 r2 dcz rfl;exact e
theorem zeb{a b:Int}(h:a=b):(some (VV.v (.int .u32 a)):R)=some (.v (.int .u32 b)):=by rw [h]
def zQj:Cfg:=⟨[0,1,4,5,6,8,18,23,26],[],[11,12],[]⟩
def zpO:Sg:=⟨[.i,.i],.v (.tup [.i,.bool])⟩
def zQk(zaE:Qi)(zN zbC:Qi3)(yw:jQ)(F:Nat):=zS [(102,zz zpL ki zaE F),(129,zz ze2 ki3 zN F),(128,zz zqo ki3 zbC F),(103,zz zgN ki2 yw F)]
def zuR(zaE:Qi)(zN zbC:Qi3)(yw:jQ)(F:Nat):FT ki2:=fun a c=>bif(zaE.ok F a)then let g:Int:=zaE.i 0 F a;let h:Int:=zaE.i 1 F a;bif(zN.ok F g h 32)then let d:Int:=zN.i 0 F g h 32;let e:Int:=zN.i 1 F g h 32;bif(zbC.ok F d e c)then let l:Int:=zbC.i 0 F d e c;let m:Int:=zbC.i 1 F d e c;bif(zbC.b 3 F d e c)then bif(yw.ok F l m)then some (.v (.tuple #[.i (yw.i 0 F l m),.bool (yw.b 1 F l m)]))else none else bif(decide (a>0))then some (.v (.tuple #[.i 9223372036854775807,.bool true]))else bif(decide (a<0))then some (.v (.tuple #[.i (-9223372036854775808),.bool true]))else some (.v (.tuple #[.i 0,.bool true]))else none else none else none
def ztt:=zuR zaE zN zbC yw
def zaH:jQ:=mkQ (l:=ki2) zpO.o ztt
theorem zQl(zaE:Qi)(zN zbC:Qi3)(yw:jQ)(F:Nat):HHz zpO ki2 (zQk zaE zN zbC yw F) zQj [] 87 (zuR zaE zN zbC yw F):=hzz
theorem ztu(F:Nat)(a c:Int):KO4 (ztt F a c) (zaH.ok F a c) (zaH.i 0 F a c) (zaH.b 1 F a c):=ko4 _
theorem zEg(F:Nat):yc PP 87 (unS (zz zpO ki2 zaH F)):=
 gzz F (zQl zaE zN zbC yw F) (zd (zAz F) (zd (znA F) (zd (zM3 F) (zd (zqr F) zn))))
def zJI:Cfg:=⟨[0,1,4,5,6,14,20,22],[],[25],[]⟩
def zkt:Sg:=⟨[.i,.i],.v (.tup [.i,.bool])⟩
def zJJ(zF:jQ)(yE:Qi3)(zu:jQ)(F:Nat):=zS [(78,zz zem ki2 zF F),(104,zz zkj ki3 yE F),(105,zz zdG ki2 zu F)]
def zqG(zF:jQ)(yE:Qi3)(zu:jQ)(F:Nat):FT ki2:=fun c a=>bif(a==0)then bif(c==0)then some (.v (.tuple #[.i 0,.bool true]))else bif(a==0)then bif(decide (c>0))then some (.v (.tuple #[.i 9223372036854775807,.bool true]))else bif(a==0)then some (.v (.tuple #[.i (-9223372036854775808),.bool true]))else bif(zF.ok F c 4294967296)then let o:Int:=zF.i 0 F c 4294967296;let p:Int:=zF.i 1 F c 4294967296;bif(yE.ok F o p a)then let s:Int:=yE.i 0 F o p a;let t:Int:=yE.i 1 F o p a;bif(zu.ok F s t)then some (.v (.tuple #[.i (zu.i 0 F s t),.bool (zu.b 1 F s t)]))else none else none else none else bif(a==0)then some (.v (.tuple #[.i (-9223372036854775808),.bool true]))else bif(zF.ok F c 4294967296)then let u:Int:=zF.i 0 F c 4294967296;let w:Int:=zF.i 1 F c 4294967296;bif(yE.ok F u w a)then let x:Int:=yE.i 0 F u w a;let y:Int:=yE.i 1 F u w a;bif(zu.ok F x y)then some (.v (.tuple #[.i (zu.i 0 F x y),.bool (zu.b 1 F x y)]))else none else none else none else bif(a==0)then bif(decide (c>0))then some (.v (.tuple #[.i 9223372036854775807,.bool true]))else bif(a==0)then some (.v (.tuple #[.i (-9223372036854775808),.bool true]))else bif(zF.ok F c 4294967296)then let z:Int:=zF.i 0 F c 4294967296;let f:Int:=zF.i 1 F c 4294967296;bif(yE.ok F z f a)then let d:Int:=yE.i 0 F z f a;let e:Int:=yE.i 1 F z f a;bif(zu.ok F d e)then some (.v (.tuple #[.i (zu.i 0 F d e),.bool (zu.b 1 F d e)]))else none else none else none else bif(a==0)then some (.v (.tuple #[.i (-9223372036854775808),.bool true]))else bif(zF.ok F c 4294967296)then let g:Int:=zF.i 0 F c 4294967296;let h:Int:=zF.i 1 F c 4294967296;bif(yE.ok F g h a)then let l:Int:=yE.i 0 F g h a;let m:Int:=yE.i 1 F g h a;bif(zu.ok F l m)then some (.v (.tuple #[.i (zu.i 0 F l m),.bool (zu.b 1 F l m)]))else none else none else none
def znU:=zqG zF yE zu
def zaD:jQ:=mkQ (l:=ki2) zkt.o znU
theorem zJK(zF:jQ)(yE:Qi3)(zu:jQ)(F:Nat):HHz zkt ki2 (zJJ zF yE zu F) zJI [] 61 (zqG zF yE zu F):=hzz
theorem znV(F:Nat)(a c:Int):KO4 (znU F a c) (zaD.ok F a c) (zaD.i 0 F a c) (zaD.b 1 F a c):=ko4 _
theorem zyg(F:Nat):yc PP 61 (unS (zz zkt ki2 zaD F)):=
 gzz F (zJK zF yE zu F) (zd (zkh F) (zd (zyc F) (zd (zhu F) zn)))
theorem zSk{z b:Int}(hz: -170141183460469231731687303715884105728<z/\z<170141183460469231731687303715884105728):zcr (Int.tdiv z b):=by
 have h:(Int.tdiv z b).natAbs<=z.natAbs:=by
  rw [Int.natAbs_tdiv];exact Nat.div_le_self _ _
 unfold zcr;omega
def zld(a b:Int):Int:=if b=0 then(if 0<a then 9223372036854775807 else if a<0 then-9223372036854775808 else 0)else zh (Int.tdiv (a*4294967296) b)
def zuc(a b:Int):Bool:=if b=0 then true else zw (Int.tdiv (a*4294967296) b)
theorem zXM{a:Int}(ha:zr a): -170141183460469231731687303715884105728<a*4294967296/\a*4294967296<170141183460469231731687303715884105728:=by unfold zr at ha;omega
theorem zFF(F:Nat)(hF:200<=F){a b:Int}(ha:zr a)(hb:zr b):ztt F a b=some (.v (.tuple #[.i (zld a b),.bool (zuc a b)])):=by
 unfold ztt zuR;obtain⟨h1,h2,h3⟩:=zSe F ha;obtain⟨n1,n2,n3⟩:=zMZ F a 32;rw [show((32:Int).toNat)=32 from rfl,show(2:Int)^32=4294967296 from dcz]at n2 n3;have hd:=zXH F hF (zwP (a*4294967296)) (zeZ (a*4294967296)) hb;rw [zce,zvz (zXJ ha)]at hd;unfold zFk at hd;refine bp h1 ?_;rw [h2,h3];refine bp n1 ?_;rw [n2,n3];unfold zld zuc;by_cases h:b=0
 ·rw [if_pos h]at hd
  obtain⟨d1,d2,d3,d4,d5⟩:=zAy F _ _ _ hd;refine bp d1 (bn d5 ?_);rw [if_pos h,if_pos h];by_cases h1:0<a
  ·refine bp (dt h1) ?_
   rw [if_pos h1]
  ·refine bn (df h1) ?_
   rw [if_neg h1];by_cases h2:a<0
   ·refine bp (dt h2) ?_
    rw [if_pos h2]
   ·refine bn (df h2) ?_
    rw [if_neg h2]
 ·rw [if_neg h]at hd
  obtain⟨d1,d2,d3,d4,d5⟩:=zAy F _ _ _ hd;obtain⟨c1,c2,c3⟩:=zzA F (zSk (b:=b) (zXM ha));refine bp d1 (bp d5 ?_);rw [d2,d3];refine bp c1 ?_;rw [c2,c3,if_neg h,if_neg h]
theorem zzC(F:Nat)(hF:200<=F){a b:Int}(ha:zr a)(hb:zr b):znU F a b=some (.v (.tuple #[.i (zld a b),.bool (zuc a b)])):=by
 unfold znU zqG zld zuc;by_cases h:b=0
 ·refine bp (by simp [h]) ?_
  rw [if_pos h,if_pos h];by_cases h0:a=0
  ·refine bp (by simp [h0]) ?_
   rw [if_neg zc,if_neg zc]
  ·refine bn (by simp [h0]) (bp (by simp [h]) ?_)
   by_cases h1:0<a
   ·refine bp (dt h1) ?_
    rw [if_pos h1]
   ·refine bn (df h1) (bp (by simp [h]) ?_)
    rw [if_neg h1,if_pos zc]
 ·have hn:(b==0)=false:=by simp [h]
  refine bn hn (bn hn (bn hn ?_));rw [if_neg h,if_neg h];obtain⟨m1,m2,m3⟩:=zAv F hF ha (b:=4294967296) (by unfold zr;omega);have hd:=zR7 F hF (zwP (a*4294967296)) (zeZ (a*4294967296)) hb;rw [zce,zvz (zXJ ha)]at hd;unfold zFk at hd;rw [if_neg h]at hd;obtain⟨d1,d2,d3,d4,d5⟩:=zyb F _ _ _ hd;obtain⟨c1,c2,c3⟩:=zpM F (zSk (b:=b) (zXM ha));refine bp m1 ?_;rw [m2,m3];refine bp d1 ?_;rw [d2,d3];refine bp c1 ?_;rw [c2,c3]
def zB3:Cfg:=⟨[0,1,2,4,5],[],[],[]⟩
def zjD:Sg:=⟨[.i,.fpx [.i,.i,.i] (.lit 0),.fpx [.i] (.lit 0)],.v (.tup [.i,.bool])⟩
def zB4(yd:Qi3)(F:Nat):=zS [(140,zz zg0 ki3 yd F)]
def zfb(yd:Qi3)(F:Nat):FT ki5:=fun c g h l a=>bif((decide (0<=c))&&(decide (c<3)))then let m:Nat:=0+((Int.toNat c)*1);bif((isI .i64 [.v (.i g),.v (.i h),.v (.i l)][m]?)&&true)then let d:Int:=iv [.v (.i g),.v (.i h),.v (.i l)][m]?;let e:Int:=wrap .i64 (0-a);bif(yd.ok F d e a)then some (.v (.tuple #[.i (yd.i 0 F d e a),.bool (yd.b 1 F d e a)]))else none else none else none
def zfZ:=zfb yd
def yf:Qi5:=mkQ (l:=ki5) zjD.o zfZ
theorem zB5(yd:Qi3)(F:Nat):HHz zjD ki5 (zB4 yd F) zB3 [] 180 (zfb yd F):=hzz
theorem zoJ(F:Nat)(a c d e g:Int):KO4 (zfZ F a c d e g) (yf.ok F a c d e g) (yf.i 0 F a c d e g) (yf.b 1 F a c d e g):=ko4 _
theorem zB6(F:Nat):yc PP 180 (unS (zz zjD ki5 yf F)):=
 gzz F (zB5 yd F) (zd (zst F) zn)
def zB7:Cfg:=⟨[0,1,4],[],[7],[]⟩
def zf0:Sg:=⟨[.i,.i],.v (.agg [.i,.int .u64])⟩
def zB8(j7:jQ)(jy:Qi3)(F:Nat):=zS [(157,zz zmD ki2 j7 F),(156,zz zkc ki3 jy F)]
def zmN(j7:jQ)(jy:Qi3)(F:Nat):FT ki2:=fun a b=>bif(j7.ok F a b)then let c:Int:=j7.i 0 F a b;let d:Int:=j7.i 1 F a b;bif(jy.ok F c d 32)then some (.v (.agg #[.i (jy.i 0 F c d 32),.int .u64 (jy.i 1 F c d 32)]))else none else none
def zoK:=zmN j7 jy
def yj:jQ:=mkQ (l:=ki2) zf0.o zoK
theorem zB9(j7:jQ)(jy:Qi3)(F:Nat):HHz zf0 ki2 (zB8 j7 jy F) zB7 [] 125 (zmN j7 jy F):=hzz
theorem zCa(F:Nat)(a b:Int):KO9 (zoK F a b) (yj.ok F a b) (yj.i 0 F a b) (yj.i 1 F a b):=ko9 _
theorem zud(F:Nat):yc PP 125 (unS (zz zf0 ki2 yj F)):=
 gzz F (zB9 j7 jy F) (zd (zAm F) (zd (zx2 F) zn))
def zNb:Cfg:=⟨[0,1,2,3,4,5],[],[],[]⟩
def zmO:Sg:=⟨[.v (.agg [.i,.int .u64])],.v (.tup [.i,.bool])⟩
def zNc(jz:jQ)(F:Nat):=zS [(143,zz zki ki2 jz F)]
def zsF(jz:jQ)(F:Nat):FT ki2:=fun a c=>bif(jz.ok F a c)then some (.v (.tuple #[.i (jz.i 0 F a c),.bool (jz.b 1 F a c)]))else none
def zuS:=zsF jz
def jx:jQ:=mkQ (l:=ki2) zmO.o zuS
theorem zNd(jz:jQ)(F:Nat):HHz zmO ki2 (zNc jz F) zNb [] 126 (zsF jz F):=hzz
theorem zNe(F:Nat)(a c:Int):KO4 (zuS F a c) (jx.ok F a c) (jx.i 0 F a c) (jx.b 1 F a c):=ko4 _
theorem zAI(F:Nat):yc PP 126 (unS (zz zmO ki2 jx F)):=
 gzz F (zNd jz F) (zd (zx9 F) zn)
def zCb:Cfg:=⟨[0,1,2,4,5,6,7],[],[20,27,28,29],[]⟩
def zjE:Sg:=⟨[.i,.fpx [.i,.i,.i] (.lit 0),.fpx [.i,.i,.i] (.lit 0)],.v (.tup [.i,.bool])⟩
def zCc(yj yl:jQ)(zv:Qi4)(jx:jQ)(F:Nat):=zS [(125,zz zf0 ki2 yj F),(158,zz ziS ki2 yl F),(101,zz zdS ki4 zv F),(126,zz zmO ki2 jx F)]
def zfc(yj yl:jQ)(zv:Qi4)(jx:jQ)(F:Nat):FT ki7:=fun A s t u w x y=>let m:Int:=Int.tmod (wrap .i64 (A+1)) 3;let o:Int:=Int.tmod (wrap .i64 (A+2)) 3;bif((decide (0<=m))&&(decide (m<3)))then let B:Nat:=0+((Int.toNat m)*1);bif((isI .i64 [.v (.i s),.v (.i t),.v (.i u)][B]?)&&true)then let z:Int:=iv [.v (.i s),.v (.i t),.v (.i u)][B]?;bif((decide (0<=o))&&(decide (o<3)))then let C:Nat:=0+((Int.toNat o)*1);bif((isI .i64 [.v (.i w),.v (.i x),.v (.i y)][C]?)&&true)then let f:Int:=iv [.v (.i w),.v (.i x),.v (.i y)][C]?;bif(yj.ok F z f)then let n:Int:=yj.i 0 F z f;let r:Int:=yj.i 1 F z f;bif((decide (0<=o))&&(decide (o<3)))then let D:Nat:=0+((Int.toNat o)*1);bif((isI .i64 [.v (.i s),.v (.i t),.v (.i u)][D]?)&&true)then let j:Int:=iv [.v (.i s),.v (.i t),.v (.i u)][D]?;bif((decide (0<=m))&&(decide (m<3)))then let p:Nat:=0+((Int.toNat m)*1);bif((isI .i64 [.v (.i w),.v (.i x),.v (.i y)][p]?)&&true)then let a:Int:=iv [.v (.i w),.v (.i x),.v (.i y)][p]?;bif(yj.ok F j a)then let c:Int:=yj.i 0 F j a;let d:Int:=yj.i 1 F j a;bif(yl.ok F c d)then let e:Int:=yl.i 0 F c d;let g:Int:=yl.i 1 F c d;bif(zv.ok F n r e g)then let h:Int:=zv.i 0 F n r e g;let l:Int:=zv.i 1 F n r e g;bif(jx.ok F h l)then some (.v (.tuple #[.i (jx.i 0 F h l),.bool (jx.b 1 F h l)]))else none else none else none else none else none else none else none else none else none else none else none else none else none
def zf1:=zfc yj yl zv jx
def yg:Qi7:=mkQ (l:=ki7) zjE.o zf1
theorem zCd(yj yl:jQ)(zv:Qi4)(jx:jQ)(F:Nat):HHz zjE ki7 (zCc yj yl zv jx F) zCb [] 179 (zfc yj yl zv jx F):=hzz
theorem zoL(F:Nat)(a c d e g h l:Int):KO4 (zf1 F a c d e g h l) (yg.ok F a c d e g h l) (yg.i 0 F a c d e g h l) (yg.b 1 F a c d e g h l):=ko4 _
theorem zCe(F:Nat):yc PP 179 (unS (zz zjE ki7 yg F)):=
 gzz F (zCd yj yl zv jx F) (zd (zud F) (zd (zuD F) (zd (zgI F) (zd (zAI F) zn))))
def zCf:Cfg:=⟨[0,1,2,4,5],[],[],[]⟩
def zjF:Sg:=⟨[.i,.fpx [.i,.i,.i] (.lit 0),.fpx [.i] (.lit 0)],.v (.tup [.i,.bool])⟩
def zCg(zbk:jQ)(F:Nat):=zS [(137,zz zto ki2 zbk F)]
def zfd(zbk:jQ)(F:Nat):FT ki5:=fun a e g h c=>bif((decide (0<=a))&&(decide (a<3)))then let l:Nat:=0+((Int.toNat a)*1);bif((isI .i64 [.v (.i e),.v (.i g),.v (.i h)][l]?)&&true)then let d:Int:=iv [.v (.i e),.v (.i g),.v (.i h)][l]?;bif(zbk.ok F d c)then some (.v (.tuple #[.i (zbk.i 0 F d c),.bool (zbk.b 1 F d c)]))else none else none else none
def zf2:=zfd zbk
def yh:Qi5:=mkQ (l:=ki5) zjF.o zf2
theorem zCh(zbk:jQ)(F:Nat):HHz zjF ki5 (zCg zbk F) zCf [] 136 (zfd zbk F):=hzz
theorem zoM(F:Nat)(a c d e g:Int):KO4 (zf2 F a c d e g) (yh.ok F a c d e g) (yh.i 0 F a c d e g) (yh.b 1 F a c d e g):=ko4 _
theorem zCi(F:Nat):yc PP 136 (unS (zz zjF ki5 yh F)):=
 gzz F (zCh zbk F) (zd (zP8 F) zn)
def zJL:Cfg:=⟨[0,1,2,4,5],[],[],[]⟩
def znW:Sg:=⟨[.i,.fpx [.i,.i,.i] (.lit 0),.fpx [.i,.i,.i] (.lit 0)],.v (.tup [.i,.bool])⟩
def zJM(jl:jQ)(F:Nat):=zS [(83,zz zmn ki2 jl F)]
def zhI(jl:jQ)(F:Nat):FT ki7:=fun a e g h l m o=>bif((decide (0<=a))&&(decide (a<3)))then let p:Nat:=0+((Int.toNat a)*1);bif((isI .i64 [.v (.i e),.v (.i g),.v (.i h)][p]?)&&true)then let c:Int:=iv [.v (.i e),.v (.i g),.v (.i h)][p]?;bif((decide (0<=a))&&(decide (a<3)))then let s:Nat:=0+((Int.toNat a)*1);bif((isI .i64 [.v (.i l),.v (.i m),.v (.i o)][s]?)&&true)then let d:Int:=iv [.v (.i l),.v (.i m),.v (.i o)][s]?;bif(jl.ok F c d)then some (.v (.tuple #[.i (jl.i 0 F c d),.bool (jl.b 1 F c d)]))else none else none else none else none else none
def zku:=zhI jl
def yF:Qi7:=mkQ (l:=ki7) znW.o zku
theorem zJN(jl:jQ)(F:Nat):HHz znW ki7 (zJM jl F) zJL [] 135 (zhI jl F):=hzz
theorem zsG(F:Nat)(a c d e g h l:Int):KO4 (zku F a c d e g h l) (yF.ok F a c d e g h l) (yF.i 0 F a c d e g h l) (yF.b 1 F a c d e g h l):=ko4 _
theorem zJO(F:Nat):yc PP 135 (unS (zz znW ki7 yF F)):=
 gzz F (zJN jl F) (zd (zwW F) zn)
def zFG:Cfg:=⟨[0,1,2,4,5],[],[],[]⟩
def zlx:Sg:=⟨[.i,.fpx [.i,.i,.i] (.lit 0),.fpx [.i] (.lit 0)],.v (.tup [.i,.bool])⟩
def zFH(zaH:jQ)(F:Nat):=zS [(87,zz zpO ki2 zaH F)]
def zf3(zaH:jQ)(F:Nat):FT ki5:=fun a e g h c=>bif((decide (0<=a))&&(decide (a<3)))then let l:Nat:=0+((Int.toNat a)*1);bif((isI .i64 [.v (.i e),.v (.i g),.v (.i h)][l]?)&&true)then let d:Int:=iv [.v (.i e),.v (.i g),.v (.i h)][l]?;bif(zaH.ok F d c)then some (.v (.tuple #[.i (zaH.i 0 F d c),.bool (zaH.b 1 F d c)]))else none else none else none
def zhJ:=zf3 zaH
def yr:Qi5:=mkQ (l:=ki5) zlx.o zhJ
theorem zFI(zaH:jQ)(F:Nat):HHz zlx ki5 (zFH zaH F) zFG [] 178 (zf3 zaH F):=hzz
theorem zqH(F:Nat)(a c d e g:Int):KO4 (zhJ F a c d e g) (yr.ok F a c d e g) (yr.i 0 F a c d e g) (yr.b 1 F a c d e g):=ko4 _
theorem zFJ(F:Nat):yc PP 178 (unS (zz zlx ki5 yr F)):=
 gzz F (zFI zaH F) (zd (zEg F) zn)
def zuT:Cfg:=⟨[0,2,3,4,5,6,7,8,9,10],[(0,[0,2,3,4,5,9,26,27])],[],[]⟩
def zqI:Sg:=⟨[.fn 180 [.fpx [.i,.i,.i] (.lit 0),.fpx [.i] (.lit 0)]],.v (.tup [.agg [.i,.i,.i],.bool])⟩
def zuU(yf:Qi5)(F:Nat):=zS [(180,zz zjD ki5 yf F)]
def zly:TS:=⟨[(0,.fn 180 [.fpx [.i,.i,.i] (.lit 0),.fpx [.i] (.lit 0)]),(2,.lp 0 (.lit 0)),(3,.v (.bool)),(4,.lp 1 (.lit 0)),(5,.v (.bool)),(9,.i)],[(0,⟨(.ex [.i,.i,.i]),true⟩),(1,⟨.hole,true⟩)],2⟩
def zAJ:TS:=zly
def zcz(yf:Qi5)(F:Nat)(w l:FT yR):FT yR:=fun d e g h m x c o p s a=>bif(decide (c<3))then bif(yf.ok F c d e g h)then let y:Int:=yf.i 0 F c d e g h;bif x then bif((decide (0<=c))&&(decide (c<3)))then let t:Nat:=0+((Int.toNat c)*1);bif(decide ((t+1)<=a.length))then w d e g h m true (wrap .i64 (c+1)) o p s (a.take t++[.v (.i y)]++a.drop (t+1))else none else none else bif((decide (0<=c))&&(decide (c<3)))then let u:Nat:=0+((Int.toNat c)*1);bif(decide ((u+1)<=a.length))then w d e g h m (yf.b 1 F c d e g h) (wrap .i64 (c+1)) o p s (a.take u++[.v (.i y)]++a.drop (u+1))else none else none else none else l d e g h m x c o p s a
def zcU:=zcz yf
def zat(F:Nat)(a:FT yR):Nat->FT yR:=lY fun b=>zcU F b a
theorem zew{F n}{a}:zat F a (n+1)=zcU F (zat F a n) a:=rfl
def zmP(k:Exit->VS->R):FT yR:=cQ _ fun q=>k (.exit 0) (fS zAJ q)
def zmQ(zat:Nat->FT yR->Nat->FT yR)(F:Nat):List LW:=[⟨0,zly,fun k q=>uQ _ (zat F (zmP k) F) q⟩]
theorem zCj(F:Nat)(k:Exit->VS->R):∀n q,iQ PP (zuU yf F) zuT (zmQ zat F) [] 96 0 0 k n zly q=uQ _ (zat F (zmP k) n) q:=
 lG (fun _=>by kernel_rfl) ((hzz:∀(yf:Qi5) (zat:Nat->FT yR->Nat->FT yR),LH PP (zuU yf F) zuT (zmQ zat F) [] 96 0 0 k zly (fun a=>zcz yf F a (zmP k))) yf zat)
def zsH(zat:Nat->FT yR->Nat->FT yR)(F:Nat):FT ki4:=fun b c d e=>zat F (fun o p s t u g w h l m a=>bif((isI .i64 a[0]?)&&((isI .i64 a[1]?)&&((isI .i64 a[2]?)&&true)))then some (.v (.tuple #[.agg #[.i (iv a[0]?),.i (iv a[1]?),.i (iv a[2]?)],.bool g]))else none) F b c d e false false 0 0 0 0 ([.v (.i 0),.v (.i 0),.v (.i 0)])
def zqJ:=zsH zat
def zbs:Qi4:=mkQ (l:=ki4) zqI.o zqJ
theorem zNf(yf:Qi5)(zat:Nat->FT yR->Nat->FT yR)(F:Nat):HHz zqI ki4 (zuU yf F) zuT (zmQ zat F) 96 (zsH zat F):=hzz
theorem zNg(F:Nat)(a c d e:Int):zkR (zqJ F a c d e) (zbs.ok F a c d e) (zbs.i 0 F a c d e) (zbs.i 1 F a c d e) (zbs.i 2 F a c d e) (zbs.b 3 F a c d e):=zll _
theorem zNh(F:Nat):yc PP 96 (unS (zz zqI ki4 zbs F)):=
 gzl (W:=zmQ zat) F (zNf yf zat F) (zd (zB6 F) zn) (jP [(0,zaK PP 96 0)] kfz (zd (jZ (zmQ zat F) rfl (yn (fun _ k q=>Le.ofEq (zCj F k F q).symm) jY)) zn))
def zqK:Cfg:=⟨[0,2,3,4,5,6,7,8,9,10],[(0,[0,2,3,4,5,9,26,27])],[],[]⟩
def zlz:Sg:=⟨[.fn 179 [.fpx [.i,.i,.i] (.lit 0),.fpx [.i,.i,.i] (.lit 0)]],.v (.tup [.agg [.i,.i,.i],.bool])⟩
def zqL(yg:Qi7)(F:Nat):=zS [(179,zz zjE ki7 yg F)]
def zhK:TS:=⟨[(0,.fn 179 [.fpx [.i,.i,.i] (.lit 0),.fpx [.i,.i,.i] (.lit 0)]),(2,.lp 0 (.lit 0)),(3,.v (.bool)),(4,.lp 1 (.lit 0)),(5,.v (.bool)),(9,.i)],[(0,⟨(.ex [.i,.i,.i]),true⟩),(1,⟨.hole,true⟩)],2⟩
def zw3:TS:=zhK
def zbZ(yg:Qi7)(F:Nat)(y s:FT j6):FT j6:=fun g h l m o p t z c u d e a=>bif(decide (c<3))then bif(yg.ok F c g h l m o p)then let f:Int:=yg.i 0 F c g h l m o p;bif z then bif((decide (0<=c))&&(decide (c<3)))then let w:Nat:=0+((Int.toNat c)*1);bif(decide ((w+1)<=a.length))then y g h l m o p t true (wrap .i64 (c+1)) u d e (a.take w++[.v (.i f)]++a.drop (w+1))else none else none else bif((decide (0<=c))&&(decide (c<3)))then let x:Nat:=0+((Int.toNat c)*1);bif(decide ((x+1)<=a.length))then y g h l m o p t (yg.b 1 F c g h l m o p) (wrap .i64 (c+1)) u d e (a.take x++[.v (.i f)]++a.drop (x+1))else none else none else none else s g h l m o p t z c u d e a
def zcg:=zbZ yg
def jD(F:Nat)(a:FT j6):Nat->FT j6:=lY fun b=>zcg F b a
theorem zdd{F n}{a}:jD F a (n+1)=zcg F (jD F a n) a:=rfl
def ziX(k:Exit->VS->R):FT j6:=cQ _ fun q=>k (.exit 0) (fS zw3 q)
def zhL(jD:Nat->FT j6->Nat->FT j6)(F:Nat):List LW:=[⟨0,zhK,fun k q=>uQ _ (jD F (ziX k) F) q⟩]
theorem zyR(F:Nat)(k:Exit->VS->R):∀n q,iQ PP (zqL yg F) zqK (zhL jD F) [] 96 0 0 k n zhK q=uQ _ (jD F (ziX k) n) q:=
 lG (fun _=>by kernel_rfl) ((hzz:∀(yg:Qi7) (jD:Nat->FT j6->Nat->FT j6),LH PP (zqL yg F) zqK (zhL jD F) [] 96 0 0 k zhK (fun a=>zbZ yg F a (ziX k))) yg jD)
def zoN(jD:Nat->FT j6->Nat->FT j6)(F:Nat):FT ki6:=fun c d e g h l=>jD F (fun t u w x y z f b m o p s a=>bif((isI .i64 a[0]?)&&((isI .i64 a[1]?)&&((isI .i64 a[2]?)&&true)))then some (.v (.tuple #[.agg #[.i (iv a[0]?),.i (iv a[1]?),.i (iv a[2]?)],.bool b]))else none) F c d e g h l false false 0 0 0 0 ([.v (.i 0),.v (.i 0),.v (.i 0)])
def zlA:=zoN jD
def zaL:Qi6:=mkQ (l:=ki6) zlz.o zlA
theorem zFK(yg:Qi7)(jD:Nat->FT j6->Nat->FT j6)(F:Nat):HHz zlz ki6 (zqL yg F) zqK (zhL jD F) 96 (zoN jD F):=hzz
theorem zFL(F:Nat)(a c d e g h:Int):zkR (zlA F a c d e g h) (zaL.ok F a c d e g h) (zaL.i 0 F a c d e g h) (zaL.i 1 F a c d e g h) (zaL.i 2 F a c d e g h) (zaL.b 3 F a c d e g h):=zll _
theorem zFM(F:Nat):yc PP 96 (unS (zz zlz ki6 zaL F)):=
 gzl (W:=zhL jD) F (zFK yg jD F) (zd (zCe F) zn) (jP [(0,zaK PP 96 0)] kfz (zd (jZ (zhL jD F) rfl (yn (fun _ k q=>Le.ofEq (zyR F k F q).symm) jY)) zn))
def zqM:Cfg:=⟨[0,2,3,4,5,6,7,8,9,10],[(0,[0,2,3,4,5,9,26,27])],[],[]⟩
def zlB:Sg:=⟨[.fn 178 [.fpx [.i,.i,.i] (.lit 0),.fpx [.i] (.lit 0)]],.v (.tup [.agg [.i,.i,.i],.bool])⟩
def zqN(yr:Qi5)(F:Nat):=zS [(178,zz zlx ki5 yr F)]
def zhM:TS:=⟨[(0,.fn 178 [.fpx [.i,.i,.i] (.lit 0),.fpx [.i] (.lit 0)]),(2,.lp 0 (.lit 0)),(3,.v (.bool)),(4,.lp 1 (.lit 0)),(5,.v (.bool)),(9,.i)],[(0,⟨(.ex [.i,.i,.i]),true⟩),(1,⟨.hole,true⟩)],2⟩
def zw4:TS:=zhM
def zb0(yr:Qi5)(F:Nat)(w l:FT yR):FT yR:=fun d e g h m x c o p s a=>bif(decide (c<3))then bif(yr.ok F c d e g h)then let y:Int:=yr.i 0 F c d e g h;bif x then bif((decide (0<=c))&&(decide (c<3)))then let t:Nat:=0+((Int.toNat c)*1);bif(decide ((t+1)<=a.length))then w d e g h m true (wrap .i64 (c+1)) o p s (a.take t++[.v (.i y)]++a.drop (t+1))else none else none else bif((decide (0<=c))&&(decide (c<3)))then let u:Nat:=0+((Int.toNat c)*1);bif(decide ((u+1)<=a.length))then w d e g h m (yr.b 1 F c d e g h) (wrap .i64 (c+1)) o p s (a.take u++[.v (.i y)]++a.drop (u+1))else none else none else none else l d e g h m x c o p s a
def zch:=zb0 yr
def jE(F:Nat)(a:FT yR):Nat->FT yR:=lY fun b=>zch F b a
theorem zde{F n}{a}:jE F a (n+1)=zch F (jE F a n) a:=rfl
def ziY(k:Exit->VS->R):FT yR:=cQ _ fun q=>k (.exit 0) (fS zw4 q)
def zhN(jE:Nat->FT yR->Nat->FT yR)(F:Nat):List LW:=[⟨0,zhM,fun k q=>uQ _ (jE F (ziY k) F) q⟩]
theorem zyS(F:Nat)(k:Exit->VS->R):∀n q,iQ PP (zqN yr F) zqM (zhN jE F) [] 96 0 0 k n zhM q=uQ _ (jE F (ziY k) n) q:=
 lG (fun _=>by kernel_rfl) ((hzz:∀(yr:Qi5) (jE:Nat->FT yR->Nat->FT yR),LH PP (zqN yr F) zqM (zhN jE F) [] 96 0 0 k zhM (fun a=>zb0 yr F a (ziY k))) yr jE)
def zoO(jE:Nat->FT yR->Nat->FT yR)(F:Nat):FT ki4:=fun b c d e=>jE F (fun o p s t u g w h l m a=>bif((isI .i64 a[0]?)&&((isI .i64 a[1]?)&&((isI .i64 a[2]?)&&true)))then some (.v (.tuple #[.agg #[.i (iv a[0]?),.i (iv a[1]?),.i (iv a[2]?)],.bool g]))else none) F b c d e false false 0 0 0 0 ([.v (.i 0),.v (.i 0),.v (.i 0)])
def zlC:=zoO jE
def za2:Qi4:=mkQ (l:=ki4) zlB.o zlC
theorem zFN(yr:Qi5)(jE:Nat->FT yR->Nat->FT yR)(F:Nat):HHz zlB ki4 (zqN yr F) zqM (zhN jE F) 96 (zoO jE F):=hzz
theorem zFO(F:Nat)(a c d e:Int):zkR (zlC F a c d e) (za2.ok F a c d e) (za2.i 0 F a c d e) (za2.i 1 F a c d e) (za2.i 2 F a c d e) (za2.b 3 F a c d e):=zll _
theorem zFP(F:Nat):yc PP 96 (unS (zz zlB ki4 za2 F)):=
 gzl (W:=zhN jE) F (zFN yr jE F) (zd (zFJ F) zn) (jP [(0,zaK PP 96 0)] kfz (zd (jZ (zhN jE F) rfl (yn (fun _ k q=>Le.ofEq (zyS F k F q).symm) jY)) zn))
def zqO:Cfg:=⟨[0,2,3,4,5,6,7,8,9,10],[(0,[0,2,3,4,5,9,26,27])],[],[]⟩
def zlD:Sg:=⟨[.fn 135 [.fpx [.i,.i,.i] (.lit 0),.fpx [.i,.i,.i] (.lit 0)]],.v (.tup [.agg [.i,.i,.i],.bool])⟩
def zqP(yF:Qi7)(F:Nat):=zS [(135,zz znW ki7 yF F)]
def zhO:TS:=⟨[(0,.fn 135 [.fpx [.i,.i,.i] (.lit 0),.fpx [.i,.i,.i] (.lit 0)]),(2,.lp 0 (.lit 0)),(3,.v (.bool)),(4,.lp 1 (.lit 0)),(5,.v (.bool)),(9,.i)],[(0,⟨(.ex [.i,.i,.i]),true⟩),(1,⟨.hole,true⟩)],2⟩
def zw5:TS:=zhO
def zb1(yF:Qi7)(F:Nat)(y s:FT j6):FT j6:=fun g h l m o p t z c u d e a=>bif(decide (c<3))then bif(yF.ok F c g h l m o p)then let f:Int:=yF.i 0 F c g h l m o p;bif z then bif((decide (0<=c))&&(decide (c<3)))then let w:Nat:=0+((Int.toNat c)*1);bif(decide ((w+1)<=a.length))then y g h l m o p t true (wrap .i64 (c+1)) u d e (a.take w++[.v (.i f)]++a.drop (w+1))else none else none else bif((decide (0<=c))&&(decide (c<3)))then let x:Nat:=0+((Int.toNat c)*1);bif(decide ((x+1)<=a.length))then y g h l m o p t (yF.b 1 F c g h l m o p) (wrap .i64 (c+1)) u d e (a.take x++[.v (.i f)]++a.drop (x+1))else none else none else none else s g h l m o p t z c u d e a
def zci:=zb1 yF
def jF(F:Nat)(a:FT j6):Nat->FT j6:=lY fun b=>zci F b a
theorem zdf{F n}{a}:jF F a (n+1)=zci F (jF F a n) a:=rfl
def ziZ(k:Exit->VS->R):FT j6:=cQ _ fun q=>k (.exit 0) (fS zw5 q)
def zhP(jF:Nat->FT j6->Nat->FT j6)(F:Nat):List LW:=[⟨0,zhO,fun k q=>uQ _ (jF F (ziZ k) F) q⟩]
theorem zyT(F:Nat)(k:Exit->VS->R):∀n q,iQ PP (zqP yF F) zqO (zhP jF F) [] 96 0 0 k n zhO q=uQ _ (jF F (ziZ k) n) q:=
 lG (fun _=>by kernel_rfl) ((hzz:∀(yF:Qi7) (jF:Nat->FT j6->Nat->FT j6),LH PP (zqP yF F) zqO (zhP jF F) [] 96 0 0 k zhO (fun a=>zb1 yF F a (ziZ k))) yF jF)
def zoP(jF:Nat->FT j6->Nat->FT j6)(F:Nat):FT ki6:=fun c d e g h l=>jF F (fun t u w x y z f b m o p s a=>bif((isI .i64 a[0]?)&&((isI .i64 a[1]?)&&((isI .i64 a[2]?)&&true)))then some (.v (.tuple #[.agg #[.i (iv a[0]?),.i (iv a[1]?),.i (iv a[2]?)],.bool b]))else none) F c d e g h l false false 0 0 0 0 ([.v (.i 0),.v (.i 0),.v (.i 0)])
def zlE:=zoP jF
def zaM:Qi6:=mkQ (l:=ki6) zlD.o zlE
theorem zFQ(yF:Qi7)(jF:Nat->FT j6->Nat->FT j6)(F:Nat):HHz zlD ki6 (zqP yF F) zqO (zhP jF F) 96 (zoP jF F):=hzz
theorem zFR(F:Nat)(a c d e g h:Int):zkR (zlE F a c d e g h) (zaM.ok F a c d e g h) (zaM.i 0 F a c d e g h) (zaM.i 1 F a c d e g h) (zaM.i 2 F a c d e g h) (zaM.b 3 F a c d e g h):=zll _
theorem zFS(F:Nat):yc PP 96 (unS (zz zlD ki6 zaM F)):=
 gzl (W:=zhP jF) F (zFQ yF jF F) (zd (zJO F) zn) (jP [(0,zaK PP 96 0)] kfz (zd (jZ (zhP jF F) rfl (yn (fun _ k q=>Le.ofEq (zyT F k F q).symm) jY)) zn))
def zqQ:Cfg:=⟨[0,2,3,4,5,6,7,8,9,10],[(0,[0,2,3,4,5,9,26,27])],[],[]⟩
def zlF:Sg:=⟨[.fn 136 [.fpx [.i,.i,.i] (.lit 0),.fpx [.i] (.lit 0)]],.v (.tup [.agg [.i,.i,.i],.bool])⟩
def zqR(yh:Qi5)(F:Nat):=zS [(136,zz zjF ki5 yh F)]
def zhQ:TS:=⟨[(0,.fn 136 [.fpx [.i,.i,.i] (.lit 0),.fpx [.i] (.lit 0)]),(2,.lp 0 (.lit 0)),(3,.v (.bool)),(4,.lp 1 (.lit 0)),(5,.v (.bool)),(9,.i)],[(0,⟨(.ex [.i,.i,.i]),true⟩),(1,⟨.hole,true⟩)],2⟩
def zw6:TS:=zhQ
def zb2(yh:Qi5)(F:Nat)(w l:FT yR):FT yR:=fun d e g h m x c o p s a=>bif(decide (c<3))then bif(yh.ok F c d e g h)then let y:Int:=yh.i 0 F c d e g h;bif x then bif((decide (0<=c))&&(decide (c<3)))then let t:Nat:=0+((Int.toNat c)*1);bif(decide ((t+1)<=a.length))then w d e g h m true (wrap .i64 (c+1)) o p s (a.take t++[.v (.i y)]++a.drop (t+1))else none else none else bif((decide (0<=c))&&(decide (c<3)))then let u:Nat:=0+((Int.toNat c)*1);bif(decide ((u+1)<=a.length))then w d e g h m (yh.b 1 F c d e g h) (wrap .i64 (c+1)) o p s (a.take u++[.v (.i y)]++a.drop (u+1))else none else none else none else l d e g h m x c o p s a
def zcj:=zb2 yh
def jG(F:Nat)(a:FT yR):Nat->FT yR:=lY fun b=>zcj F b a
theorem zdg{F n}{a}:jG F a (n+1)=zcj F (jG F a n) a:=rfl
def zi0(k:Exit->VS->R):FT yR:=cQ _ fun q=>k (.exit 0) (fS zw6 q)
def zhR(jG:Nat->FT yR->Nat->FT yR)(F:Nat):List LW:=[⟨0,zhQ,fun k q=>uQ _ (jG F (zi0 k) F) q⟩]
theorem zyU(F:Nat)(k:Exit->VS->R):∀n q,iQ PP (zqR yh F) zqQ (zhR jG F) [] 96 0 0 k n zhQ q=uQ _ (jG F (zi0 k) n) q:=
 lG (fun _=>by kernel_rfl) ((hzz:∀(yh:Qi5) (jG:Nat->FT yR->Nat->FT yR),LH PP (zqR yh F) zqQ (zhR jG F) [] 96 0 0 k zhQ (fun a=>zb2 yh F a (zi0 k))) yh jG)
def zoQ(jG:Nat->FT yR->Nat->FT yR)(F:Nat):FT ki4:=fun b c d e=>jG F (fun o p s t u g w h l m a=>bif((isI .i64 a[0]?)&&((isI .i64 a[1]?)&&((isI .i64 a[2]?)&&true)))then some (.v (.tuple #[.agg #[.i (iv a[0]?),.i (iv a[1]?),.i (iv a[2]?)],.bool g]))else none) F b c d e false false 0 0 0 0 ([.v (.i 0),.v (.i 0),.v (.i 0)])
def zlG:=zoQ jG
def zaN:Qi4:=mkQ (l:=ki4) zlF.o zlG
theorem zFT(yh:Qi5)(jG:Nat->FT yR->Nat->FT yR)(F:Nat):HHz zlF ki4 (zqR yh F) zqQ (zhR jG F) 96 (zoQ jG F):=hzz
theorem zFU(F:Nat)(a c d e:Int):zkR (zlG F a c d e) (zaN.ok F a c d e) (zaN.i 0 F a c d e) (zaN.i 1 F a c d e) (zaN.i 2 F a c d e) (zaN.b 3 F a c d e):=zll _
theorem zFV(F:Nat):yc PP 96 (unS (zz zlF ki4 zaN F)):=
 gzl (W:=zhR jG) F (zFT yh jG F) (zd (zCi F) zn) (jP [(0,zaK PP 96 0)] kfz (zd (jZ (zhR jG F) rfl (yn (fun _ k q=>Le.ofEq (zyU F k F q).symm) jY)) zn))
theorem zJP(F:Nat)(hF:200<=F){a0 a1 a2 a3 v0 v1 v2:Int}{c0 c1 c2:Bool}(h0:yf.ok F 0 a0 a1 a2 a3=true/\yf.i 0 F 0 a0 a1 a2 a3=v0/\yf.b 1 F 0 a0 a1 a2 a3=c0)(h1:yf.ok F 1 a0 a1 a2 a3=true/\yf.i 0 F 1 a0 a1 a2 a3=v1/\yf.b 1 F 1 a0 a1 a2 a3=c1)(h2:yf.ok F 2 a0 a1 a2 a3=true/\yf.i 0 F 2 a0 a1 a2 a3=v2/\yf.b 1 F 2 a0 a1 a2 a3=c2):
 zqJ F a0 a1 a2 a3=some (.v (.tuple #[.agg #[.i v0,.i v1,.i v2],.bool (c0||c1||c2)])):=by
 obtain⟨a1,a2,a3⟩:=h0;obtain⟨b1,b2,b3⟩:=h1;obtain⟨d1,d2,d3⟩:=h2;obtain⟨G,hG⟩:∃G,F=G+4:=⟨F-4,zc⟩;have w1:wrap .i64 (0+1)=1:=dcz;have w2:wrap .i64 (1+1)=2:=dcz;have w3:wrap .i64 (2+1)=3:=dcz;unfold zqJ zsH;rw [show zat F _ F=zat F _ (G+4)from congrArg (zat F _) hG,zew];unfold zcU zcz;refine bp rfl (bp a1 (bn rfl (bp rfl (bp rfl ?_))));rw [a2,a3,w1,zew];unfold zcU zcz;refine bp rfl (bp b1 ?_);rw [b2,b3,w2];cases c0
 ·refine bn rfl (bp rfl (bp rfl ?_))
  rw [zew];unfold zcU zcz;refine bp rfl (bp d1 ?_);rw [d2,d3,w3];cases c1
  ·refine bn rfl (bp rfl (bp rfl ?_))
   rw [zew];unfold zcU zcz;exact bn rfl (bp rfl rfl)
  ·refine bp rfl (bp rfl (bp rfl ?_))
   rw [zew];unfold zcU zcz;exact bn rfl (bp rfl rfl)
 ·refine bp rfl (bp rfl (bp rfl ?_))
  rw [zew];unfold zcU zcz;refine bp rfl (bp d1 ?_);rw [d2,w3];refine bp rfl (bp rfl (bp rfl ?_));rw [zew];unfold zcU zcz;exact bn rfl (bp rfl (by rw [Bool.true_or,Bool.true_or];rfl))
theorem zCk(F:Nat)(hF:200<=F){a0 a1 a2 a3 a4 a5 v0 v1 v2:Int}{c0 c1 c2:Bool}(h0:yg.ok F 0 a0 a1 a2 a3 a4 a5=true/\yg.i 0 F 0 a0 a1 a2 a3 a4 a5=v0/\yg.b 1 F 0 a0 a1 a2 a3 a4 a5=c0)(h1:yg.ok F 1 a0 a1 a2 a3 a4 a5=true/\yg.i 0 F 1 a0 a1 a2 a3 a4 a5=v1/\yg.b 1 F 1 a0 a1 a2 a3 a4 a5=c1)(h2:yg.ok F 2 a0 a1 a2 a3 a4 a5=true/\yg.i 0 F 2 a0 a1 a2 a3 a4 a5=v2/\yg.b 1 F 2 a0 a1 a2 a3 a4 a5=c2):
 zlA F a0 a1 a2 a3 a4 a5=some (.v (.tuple #[.agg #[.i v0,.i v1,.i v2],.bool (c0||c1||c2)])):=by
 obtain⟨a1,a2,a3⟩:=h0;obtain⟨b1,b2,b3⟩:=h1;obtain⟨d1,d2,d3⟩:=h2;obtain⟨G,hG⟩:∃G,F=G+4:=⟨F-4,zc⟩;have w1:wrap .i64 (0+1)=1:=dcz;have w2:wrap .i64 (1+1)=2:=dcz;have w3:wrap .i64 (2+1)=3:=dcz;unfold zlA zoN;rw [show jD F _ F=jD F _ (G+4)from congrArg (jD F _) hG,zdd];unfold zcg zbZ;refine bp rfl (bp a1 (bn rfl (bp rfl (bp rfl ?_))));rw [a2,a3,w1,zdd];unfold zcg zbZ;refine bp rfl (bp b1 ?_);rw [b2,b3,w2];cases c0
 ·refine bn rfl (bp rfl (bp rfl ?_))
  rw [zdd];unfold zcg zbZ;refine bp rfl (bp d1 ?_);rw [d2,d3,w3];cases c1
  ·refine bn rfl (bp rfl (bp rfl ?_))
   rw [zdd];unfold zcg zbZ;exact bn rfl (bp rfl rfl)
  ·refine bp rfl (bp rfl (bp rfl ?_))
   rw [zdd];unfold zcg zbZ;exact bn rfl (bp rfl rfl)
 ·refine bp rfl (bp rfl (bp rfl ?_))
  rw [zdd];unfold zcg zbZ;refine bp rfl (bp d1 ?_);rw [d2,w3];refine bp rfl (bp rfl (bp rfl ?_));rw [zdd];unfold zcg zbZ;exact bn rfl (bp rfl (by rw [Bool.true_or,Bool.true_or];rfl))
theorem zCl(F:Nat)(hF:200<=F){a0 a1 a2 a3 v0 v1 v2:Int}{c0 c1 c2:Bool}(h0:yr.ok F 0 a0 a1 a2 a3=true/\yr.i 0 F 0 a0 a1 a2 a3=v0/\yr.b 1 F 0 a0 a1 a2 a3=c0)(h1:yr.ok F 1 a0 a1 a2 a3=true/\yr.i 0 F 1 a0 a1 a2 a3=v1/\yr.b 1 F 1 a0 a1 a2 a3=c1)(h2:yr.ok F 2 a0 a1 a2 a3=true/\yr.i 0 F 2 a0 a1 a2 a3=v2/\yr.b 1 F 2 a0 a1 a2 a3=c2):
 zlC F a0 a1 a2 a3=some (.v (.tuple #[.agg #[.i v0,.i v1,.i v2],.bool (c0||c1||c2)])):=by
 obtain⟨a1,a2,a3⟩:=h0;obtain⟨b1,b2,b3⟩:=h1;obtain⟨d1,d2,d3⟩:=h2;obtain⟨G,hG⟩:∃G,F=G+4:=⟨F-4,zc⟩;have w1:wrap .i64 (0+1)=1:=dcz;have w2:wrap .i64 (1+1)=2:=dcz;have w3:wrap .i64 (2+1)=3:=dcz;unfold zlC zoO;rw [show jE F _ F=jE F _ (G+4)from congrArg (jE F _) hG,zde];unfold zch zb0;refine bp rfl (bp a1 (bn rfl (bp rfl (bp rfl ?_))));rw [a2,a3,w1,zde];unfold zch zb0;refine bp rfl (bp b1 ?_);rw [b2,b3,w2];cases c0
 ·refine bn rfl (bp rfl (bp rfl ?_))
  rw [zde];unfold zch zb0;refine bp rfl (bp d1 ?_);rw [d2,d3,w3];cases c1
  ·refine bn rfl (bp rfl (bp rfl ?_))
   rw [zde];unfold zch zb0;exact bn rfl (bp rfl rfl)
  ·refine bp rfl (bp rfl (bp rfl ?_))
   rw [zde];unfold zch zb0;exact bn rfl (bp rfl rfl)
 ·refine bp rfl (bp rfl (bp rfl ?_))
  rw [zde];unfold zch zb0;refine bp rfl (bp d1 ?_);rw [d2,w3];refine bp rfl (bp rfl (bp rfl ?_));rw [zde];unfold zch zb0;exact bn rfl (bp rfl (by rw [Bool.true_or,Bool.true_or];rfl))
theorem zCm(F:Nat)(hF:200<=F){a0 a1 a2 a3 a4 a5 v0 v1 v2:Int}{c0 c1 c2:Bool}(h0:yF.ok F 0 a0 a1 a2 a3 a4 a5=true/\yF.i 0 F 0 a0 a1 a2 a3 a4 a5=v0/\yF.b 1 F 0 a0 a1 a2 a3 a4 a5=c0)(h1:yF.ok F 1 a0 a1 a2 a3 a4 a5=true/\yF.i 0 F 1 a0 a1 a2 a3 a4 a5=v1/\yF.b 1 F 1 a0 a1 a2 a3 a4 a5=c1)(h2:yF.ok F 2 a0 a1 a2 a3 a4 a5=true/\yF.i 0 F 2 a0 a1 a2 a3 a4 a5=v2/\yF.b 1 F 2 a0 a1 a2 a3 a4 a5=c2):
 zlE F a0 a1 a2 a3 a4 a5=some (.v (.tuple #[.agg #[.i v0,.i v1,.i v2],.bool (c0||c1||c2)])):=by
 obtain⟨a1,a2,a3⟩:=h0;obtain⟨b1,b2,b3⟩:=h1;obtain⟨d1,d2,d3⟩:=h2;obtain⟨G,hG⟩:∃G,F=G+4:=⟨F-4,zc⟩;have w1:wrap .i64 (0+1)=1:=dcz;have w2:wrap .i64 (1+1)=2:=dcz;have w3:wrap .i64 (2+1)=3:=dcz;unfold zlE zoP;rw [show jF F _ F=jF F _ (G+4)from congrArg (jF F _) hG,zdf];unfold zci zb1;refine bp rfl (bp a1 (bn rfl (bp rfl (bp rfl ?_))));rw [a2,a3,w1,zdf];unfold zci zb1;refine bp rfl (bp b1 ?_);rw [b2,b3,w2];cases c0
 ·refine bn rfl (bp rfl (bp rfl ?_))
  rw [zdf];unfold zci zb1;refine bp rfl (bp d1 ?_);rw [d2,d3,w3];cases c1
  ·refine bn rfl (bp rfl (bp rfl ?_))
   rw [zdf];unfold zci zb1;exact bn rfl (bp rfl rfl)
  ·refine bp rfl (bp rfl (bp rfl ?_))
   rw [zdf];unfold zci zb1;exact bn rfl (bp rfl rfl)
 ·refine bp rfl (bp rfl (bp rfl ?_))
  rw [zdf];unfold zci zb1;refine bp rfl (bp d1 ?_);rw [d2,w3];refine bp rfl (bp rfl (bp rfl ?_));rw [zdf];unfold zci zb1;exact bn rfl (bp rfl (by rw [Bool.true_or,Bool.true_or];rfl))
theorem zCn(F:Nat)(hF:200<=F){a0 a1 a2 a3 v0 v1 v2:Int}{c0 c1 c2:Bool}(h0:yh.ok F 0 a0 a1 a2 a3=true/\yh.i 0 F 0 a0 a1 a2 a3=v0/\yh.b 1 F 0 a0 a1 a2 a3=c0)(h1:yh.ok F 1 a0 a1 a2 a3=true/\yh.i 0 F 1 a0 a1 a2 a3=v1/\yh.b 1 F 1 a0 a1 a2 a3=c1)(h2:yh.ok F 2 a0 a1 a2 a3=true/\yh.i 0 F 2 a0 a1 a2 a3=v2/\yh.b 1 F 2 a0 a1 a2 a3=c2):
 zlG F a0 a1 a2 a3=some (.v (.tuple #[.agg #[.i v0,.i v1,.i v2],.bool (c0||c1||c2)])):=by
 obtain⟨a1,a2,a3⟩:=h0;obtain⟨b1,b2,b3⟩:=h1;obtain⟨d1,d2,d3⟩:=h2;obtain⟨G,hG⟩:∃G,F=G+4:=⟨F-4,zc⟩;have w1:wrap .i64 (0+1)=1:=dcz;have w2:wrap .i64 (1+1)=2:=dcz;have w3:wrap .i64 (2+1)=3:=dcz;unfold zlG zoQ;rw [show jG F _ F=jG F _ (G+4)from congrArg (jG F _) hG,zdg];unfold zcj zb2;refine bp rfl (bp a1 (bn rfl (bp rfl (bp rfl ?_))));rw [a2,a3,w1,zdg];unfold zcj zb2;refine bp rfl (bp b1 ?_);rw [b2,b3,w2];cases c0
 ·refine bn rfl (bp rfl (bp rfl ?_))
  rw [zdg];unfold zcj zb2;refine bp rfl (bp d1 ?_);rw [d2,d3,w3];cases c1
  ·refine bn rfl (bp rfl (bp rfl ?_))
   rw [zdg];unfold zcj zb2;exact bn rfl (bp rfl rfl)
  ·refine bp rfl (bp rfl (bp rfl ?_))
   rw [zdg];unfold zcj zb2;exact bn rfl (bp rfl rfl)
 ·refine bp rfl (bp rfl (bp rfl ?_))
  rw [zdg];unfold zcj zb2;refine bp rfl (bp d1 ?_);rw [d2,w3];refine bp rfl (bp rfl (bp rfl ?_));rw [zdg];unfold zcj zb2;exact bn rfl (bp rfl (by rw [Bool.true_or,Bool.true_or];rfl))
def zw7:Cfg:=⟨[0,2,4],[],[],[]⟩
def zfx:Sg:=⟨[.i],.i⟩
def zw8(F:Nat):=zS []
def zfy(F:Nat):FT ki:=fun a=>bif(a==(-9223372036854775808))then some (.v (.i 9223372036854775807))else some (.v (.i (wrap .i64 (0-a))))
def zR:Qi:=mkQ (l:=ki) zfx.o zfy
theorem zw9(F:Nat):HHz zfx ki (zw8 F) zw7 [] 170 (zfy F):=hzz
theorem zxa(F:Nat)(a:Int):KO0 (zfy F a) (zR.ok F a) (zR.i 0 F a):=ko0 _
theorem zxb(F:Nat):yc PP 170 (unS (zz zfx ki zR F)):=
 gzz F (zw9 F) (zn)
def zFW:Cfg:=⟨[0,2,4],[],[],[]⟩
def zlH:Sg:=⟨[.i],.v (.int .u64)⟩
def zFX(F:Nat):=zS []
def zlI(F:Nat):FT ki:=fun a=>bif(decide (a<0))then some (.v (.int .u64 (wrap .u64 ((wrap .u64 (wrap .i64 (0-(wrap .i64 (a+1)))))+1))))else some (.v (.int .u64 (wrap .u64 a)))
def yu:Qi:=mkQ (l:=ki) zlH.o zlI
theorem zFY(F:Nat):HHz zlH ki (zFX F) zFW [] 171 (zlI F):=hzz
theorem zFZ(F:Nat)(a:Int):KO6 (zlI F a) (yu.ok F a) (yu.i 0 F a):=ko6 _
theorem zF0(F:Nat):yc PP 171 (unS (zz zlH ki yu F)):=
 gzz F (zFY F) (zn)
def zdU:Cfg:=⟨[0,1,4,5,6,7,8,9,10,11,12,18,22,36,52,60,70],[(0,[0,1,4,5,6,7,8,9,10,11,12,13,14,15,16,17,18,19,20,21,22,23,24,25,26,43,44,45,46,47,48,49,50,51,52,53,54,55,56,57,58,59,60,61,62,63,64,65,66,67,68,69,70,71,72,73,74,75,76,77,78,79,80,81,82,83,84,85,86,87,88,89,90,91,92]),(2,[0,1,4,5,6,7,8,9,10,11,12,13,14,15,16,17,18,19,20,21,22,23,24,25,26,27,28,29,30,31,32,33,34,35,36,37,38,39,40,41,42,59,60,61,62,63,64,65,66,67,68,69,70,71,72,73,74,75,76,77,78,79,80,81,82,83,84,85,86,87,88,89,90,91,92]),(4,[0,1,4,5,6,7,8,9,10,13,14,15,16,17,18,19,20,21,22,23,24,25,26,27,28,29,30,31,32,33,34,35,36,37,38,39,40,41,42,43,44,45,46,47,48,49,50,51,52,53,54,55,56,57,58,91,92])],[],[]⟩
def zjG:Sg:=⟨[.i,.i],.v (.int .u32)⟩
def zdV(zR yu:Qi)(zG:jQ)(zV:Qi)(F:Nat):=zS [(170,zz zfx ki zR F),(171,zz zlH ki yu F),(165,zz zhv ki2 zG F),(166,zz zhy ki zV F)]
def zgn:TS:=⟨[(0,.i),(1,.i),(4,.v (.int .u32)),(5,.i),(6,.i),(7,.i),(8,.i)],[],0⟩
def zvT:TS:=zgn
def zfz(yu:Qi)(zG:jQ)(F:Nat)(p c:FT ki7):FT ki7:=fun e g h a b l d=>bif(decide (d<64))then bif(yu.ok F a)then let m:Int:=yu.i 0 F a;bif(yu.ok F b)then let o:Int:=yu.i 0 F b;bif(decide ((if o>m then o else m)>=2305843009213693952))then bif(zG.ok F a 1)then bif(zG.ok F b 1)then p e g h (zG.i 0 F a 1) (zG.i 0 F b 1) l (wrap .i64 (d+1))else none else none else c e g h a b l d else none else none else c e g h a b l d
def zgo:=zfz yu zG
def yb(F:Nat)(a:FT ki7):Nat->FT ki7:=lY fun b=>zgo F b a
theorem zrR{F n}{a}:yb F a (n+1)=zgo F (yb F a n) a:=rfl
def zhS(k:Exit->VS->R):FT ki7:=cQ _ fun q=>k (.exit 0) (fS zvT q)
def zgp:TS:=⟨[(0,.i),(1,.i),(4,.v (.int .u32)),(5,.i),(6,.i),(7,.i),(8,.i),(9,.i)],[],0⟩
def zvU:TS:=zgp
def zfA(yu:Qi)(F:Nat)(s a:FT ki8):FT ki8:=fun e g h b c l m d=>bif(decide (d<64))then bif(yu.ok F b)then let o:Int:=yu.i 0 F b;bif(yu.ok F c)then let p:Int:=yu.i 0 F c;bif(decide ((if p>o then p else o)<1152921504606846976))then s e g h (wrap .i64 (2*b)) (wrap .i64 (2*c)) l m (wrap .i64 (d+1))else a e g h b c l m d else none else none else a e g h b c l m d
def zgq:=zfA yu
def zX(F:Nat)(a:FT ki8):Nat->FT ki8:=lY fun b=>zgq F b a
theorem zrS{F n}{a}:zX F a (n+1)=zgq F (zX F a n) a:=rfl
def zhT(k:Exit->VS->R):FT ki8:=cQ _ fun q=>k (.exit 2) (fS zvU q)
def zgr:TS:=⟨[(0,.i),(1,.i),(4,.v (.int .u32)),(5,.i),(6,.i),(7,.i),(8,.i),(9,.i),(10,.i)],[],0⟩
def zvV:TS:=zgr
def zfB(zG:jQ)(zV:Qi)(F:Nat)(p d:FT ki9):FT ki9:=fun e g h c b l m o a=>bif(decide (a<30))then bif(zG.ok F c a)then let s:Int:=zG.i 0 F c a;bif(zG.ok F b a)then let t:Int:=zG.i 0 F b a;bif(decide (b>=0))then bif(zV.ok F a)then p e g h (wrap .i64 (c+t)) (wrap .i64 (b-s)) (wrap .i64 (l+(zV.i 0 F a))) m o (wrap .i64 (a+1))else none else bif(zV.ok F a)then p e g h (wrap .i64 (c-t)) (wrap .i64 (b+s)) (wrap .i64 (l-(zV.i 0 F a))) m o (wrap .i64 (a+1))else none else none else none else d e g h c b l m o a
def zgs:=zfB zG zV
def zU(F:Nat)(a:FT ki9):Nat->FT ki9:=lY fun b=>zgs F b a
theorem zrT{F n}{a}:zU F a (n+1)=zgs F (zU F a n) a:=rfl
def zhU(k:Exit->VS->R):FT ki9:=cQ _ fun q=>k (.exit 4) (fS zvV q)
def zbV(yb:Nat->FT ki7->Nat->FT ki7)(zX:Nat->FT ki8->Nat->FT ki8)(zU:Nat->FT ki9->Nat->FT ki9)(F:Nat):List LW:=[⟨0,zgn,fun k q=>uQ _ (yb F (zhS k) F) q⟩,⟨2,zgp,fun k q=>uQ _ (zX F (zhT k) F) q⟩,⟨4,zgr,fun k q=>uQ _ (zU F (zhU k) F) q⟩]
theorem zxc(F:Nat)(k:Exit->VS->R):∀n q,iQ PP (zdV zR yu zG zV F) zdU (zbV yb zX zU F) [] 149 0 0 k n zgn q=uQ _ (yb F (zhS k) n) q:=
 lG (fun _=>by kernel_rfl) ((hzz:∀(zR:Qi) (yu:Qi) (zG:jQ) (zV:Qi) (yb:Nat->FT ki7->Nat->FT ki7) (zX:Nat->FT ki8->Nat->FT ki8) (zU:Nat->FT ki9->Nat->FT ki9),LH PP (zdV zR yu zG zV F) zdU (zbV yb zX zU F) [] 149 0 0 k zgn (fun a=>zfz yu zG F a (zhS k))) zR yu zG zV yb zX zU)
theorem zxd(F:Nat)(k:Exit->VS->R):∀n q,iQ PP (zdV zR yu zG zV F) zdU (zbV yb zX zU F) [] 149 1 2 k n zgp q=uQ _ (zX F (zhT k) n) q:=
 lG (fun _=>by kernel_rfl) ((hzz:∀(zR:Qi) (yu:Qi) (zG:jQ) (zV:Qi) (yb:Nat->FT ki7->Nat->FT ki7) (zX:Nat->FT ki8->Nat->FT ki8) (zU:Nat->FT ki9->Nat->FT ki9),LH PP (zdV zR yu zG zV F) zdU (zbV yb zX zU F) [] 149 1 2 k zgp (fun a=>zfA yu F a (zhT k))) zR yu zG zV yb zX zU)
theorem zxe(F:Nat)(k:Exit->VS->R):∀n q,iQ PP (zdV zR yu zG zV F) zdU (zbV yb zX zU F) [] 149 2 4 k n zgr q=uQ _ (zU F (zhU k) n) q:=
 lG (fun _=>by kernel_rfl) ((hzz:∀(zR:Qi) (yu:Qi) (zG:jQ) (zV:Qi) (yb:Nat->FT ki7->Nat->FT ki7) (zX:Nat->FT ki8->Nat->FT ki8) (zU:Nat->FT ki9->Nat->FT ki9),LH PP (zdV zR yu zG zV F) zdU (zbV yb zX zU F) [] 149 2 4 k zgr (fun a=>zfB zG zV F a (zhU k))) zR yu zG zV yb zX zU)
def zmR(zR:Qi)(yb:Nat->FT ki7->Nat->FT ki7)(zX:Nat->FT ki8->Nat->FT ki8)(zU:Nat->FT ki9->Nat->FT ki9)(F:Nat):FT ki2:=fun b a=>bif(a==0)then bif(b==0)then some (.v (.int .u32 0))else bif(decide (a<0))then bif(zR.ok F a)then bif(zR.ok F b)then yb F (fun v6 v7 v8 v9 c d e=>zX F (fun g h l m o p s t=>zU F (fun v21 v22 v23 v24 v25 u v27 v28 v29=>some (.v (.int .u32 (wrap .u32 u)))) F g h l m o p s t 0) F v6 v7 v8 v9 c d e 0) F b a 0 (zR.i 0 F a) (zR.i 0 F b) 2147483648 0 else none else none else yb F (fun w x y z f n r=>zX F (fun j A B C D E G H=>zU F (fun v45 v46 v47 v48 v49 I v51 v52 v53=>some (.v (.int .u32 (wrap .u32 I)))) F j A B C D E G H 0) F w x y z f n r 0) F b a 0 a b 0 0 else bif(decide (a<0))then bif(zR.ok F a)then bif(zR.ok F b)then yb F (fun J K L M N O P=>zX F (fun Q T U V X Y Z v68=>zU F (fun v69 v70 v71 v72 v73 v74 v75 v76 v77=>some (.v (.int .u32 (wrap .u32 v74)))) F Q T U V X Y Z v68 0) F J K L M N O P 0) F b a 0 (zR.i 0 F a) (zR.i 0 F b) 2147483648 0 else none else none else yb F (fun v78 v79 v80 v81 v82 v83 v84=>zX F (fun v85 v86 v87 v88 v89 v90 v91 v92=>zU F (fun v93 v94 v95 v96 v97 v98 v99 v100 v101=>some (.v (.int .u32 (wrap .u32 v98)))) F v85 v86 v87 v88 v89 v90 v91 v92 0) F v78 v79 v80 v81 v82 v83 v84 0) F b a 0 a b 0 0
def zjH:=zmR zR yb zX zU
def zbg:jQ:=mkQ (l:=ki2) zjG.o zjH
theorem zCo(zR yu:Qi)(zG:jQ)(zV:Qi)(yb:Nat->FT ki7->Nat->FT ki7)(zX:Nat->FT ki8->Nat->FT ki8)(zU:Nat->FT ki9->Nat->FT ki9)(F:Nat):HHz zjG ki2 (zdV zR yu zG zV F) zdU (zbV yb zX zU F) 149 (zmR zR yb zX zU F):=hzz
theorem zCp(F:Nat)(a b:Int):KO8 (zjH F a b) (zbg.ok F a b) (zbg.i 0 F a b):=ko8 _
theorem zCq(F:Nat):yc PP 149 (unS (zz zjG ki2 zbg F)):=
 gzl (W:=zbV yb zX zU) F (zCo zR yu zG zV yb zX zU F) (zd (zxb F) (zd (zF0 F) (zd (zvO F) (zd (zvP F) zn)))) (jP [(0,zaK PP 149 0),(2,zaK PP 149 1),(4,zaK PP 149 2)] kfz (zd (jZ (zbV yb zX zU F) rfl (yn (fun _ k q=>Le.ofEq (zxc F k F q).symm) (yn (fun h=>absurd h dcz) (yn (fun h=>absurd h dcz) jY)))) (zd (jZ (zbV yb zX zU F) rfl (yn (fun h=>absurd h dcz) (yn (fun _ k q=>Le.ofEq (zxd F k F q).symm) (yn (fun h=>absurd h dcz) jY)))) (zd (jZ (zbV yb zX zU F) rfl (yn (fun h=>absurd h dcz) (yn (fun h=>absurd h dcz) (yn (fun _ k q=>Le.ofEq (zxe F k F q).symm) jY)))) zn))))
def zyV:Cfg:=⟨[0,1,4,5,7],[],[],[]⟩
def zgt:Sg:=⟨[.i,.i],.v (.agg [.i,.i])⟩
def zyW(zbM:Qi)(F:Nat):=zS [(172,zz ztq ki zbM F)]
def zi1(zbM:Qi)(F:Nat):FT ki2:=fun a b=>bif(zbM.ok F a)then bif(zbM.ok F b)then some (.v (.agg #[.i (zbM.i 0 F a),.i (zbM.i 0 F b)]))else none else none
def zk2:=zi1 zbM
def yK:jQ:=mkQ (l:=ki2) zgt.o zk2
theorem zyX(zbM:Qi)(F:Nat):HHz zgt ki2 (zyW zbM F) zyV [] 152 (zi1 zbM F):=hzz
theorem zyY(F:Nat)(a b:Int):KO5 (zk2 F a b) (yK.ok F a b) (yK.i 0 F a b) (yK.i 1 F a b):=ko5 _
theorem zyZ(F:Nat):yc PP 152 (unS (zz zgt ki2 yK F)):=
 gzz F (zyX zbM F) (zd (zQh F) zn)
def zJQ:Cfg:=⟨[0,2,4],[],[],[]⟩
def znX:Sg:=⟨[.i],.v (.int .u64)⟩
def zJR(F:Nat):=zS []
def znY(F:Nat):FT ki:=fun a=>bif(decide (a<0))then some (.v (.int .u64 (wrap .u64 (0-(wrap .u64 a)))))else some (.v (.int .u64 (wrap .u64 a)))
def jb:Qi:=mkQ (l:=ki) znX.o znY
theorem zJS(F:Nat):HHz znX ki (zJR F) zJQ [] 173 (znY F):=hzz
theorem zJT(F:Nat)(a:Int):KO6 (znY F a) (jb.ok F a) (jb.i 0 F a):=ko6 _
theorem zJU(F:Nat):yc PP 173 (unS (zz znX ki jb F)):=
 gzz F (zJS F) (zn)
def zdh:Cfg:=⟨[0,1,2,10,25],[(0,[0,1,2,18,19,20,21,22,23,24,25,26,27,28,29,30,31,32,33]),(2,[0,1,2,3,4,5,6,7,8,9,10,11,12,13,14,15,16,17,33])],[],[]⟩
def zex:Sg:=⟨[.v (.agg [.i,.i])],.v (.agg [.i,.i])⟩
def zdi(jb:Qi)(F:Nat):=zS [(173,zz znX ki jb F)]
def zdH:TS:=⟨[(0,.v (.agg [.i,.i])),(1,.lp 0 (.lit 0)),(2,.lp 1 (.lit 0))],[(0,⟨(.ex [.i,.i]),true⟩),(1,⟨(.ex [.i,.i]),true⟩)],2⟩
def zqS:TS:=zdH
def zdp(jb:Qi)(F:Nat)(o c:FT ki6):FT ki6:=fun d e a b g h=>bif(jb.ok F a)then let l:Int:=jb.i 0 F a;bif(jb.ok F b)then let m:Int:=jb.i 0 F b;bif(decide ((if m>l then m else l)>=2305843009213693952))then o d e (Int.fdiv a (2)) (Int.fdiv b (2)) g h else c d e a b g h else none else none
def zdI:=zdp jb
def zY(F:Nat)(a:FT ki6):Nat->FT ki6:=lY fun b=>zdI F b a
theorem zkv{F n}{a}:zY F a (n+1)=zdI F (zY F a n) a:=rfl
def zey(k:Exit->VS->R):FT ki6:=cQ _ fun q=>k (.exit 0) (fS zqS q)
def zdJ:TS:=⟨[(0,.v (.agg [.i,.i])),(1,.lp 0 (.lit 0)),(2,.lp 1 (.lit 0))],[(0,⟨(.ex [.i,.i]),true⟩),(1,⟨(.ex [.i,.i]),true⟩)],2⟩
def zqT:TS:=zdJ
def zdq(jb:Qi)(F:Nat)(o c:FT ki6):FT ki6:=fun d e a b g h=>bif(jb.ok F a)then let l:Int:=jb.i 0 F a;bif(jb.ok F b)then let m:Int:=jb.i 0 F b;bif(decide ((if m>l then m else l)<1152921504606846976))then o d e (wrap .i64 (a*2)) (wrap .i64 (b*2)) g h else c d e a b g h else none else none
def zdK:=zdq jb
def zZ(F:Nat)(a:FT ki6):Nat->FT ki6:=lY fun b=>zdK F b a
theorem zkw{F n}{a}:zZ F a (n+1)=zdK F (zZ F a n) a:=rfl
def zez(k:Exit->VS->R):FT ki6:=cQ _ fun q=>k (.exit 2) (fS zqT q)
def zbJ(zY:Nat->FT ki6->Nat->FT ki6)(zZ:Nat->FT ki6->Nat->FT ki6)(F:Nat):List LW:=[⟨0,zdH,fun k q=>uQ _ (zY F (zey k) F) q⟩,⟨2,zdJ,fun k q=>uQ _ (zZ F (zez k) F) q⟩]
theorem zr0(F:Nat)(k:Exit->VS->R):∀n q,iQ PP (zdi jb F) zdh (zbJ zY zZ F) [] 153 0 0 k n zdH q=uQ _ (zY F (zey k) n) q:=
 lG (fun _=>by kernel_rfl) ((hzz:∀(jb:Qi) (zY:Nat->FT ki6->Nat->FT ki6) (zZ:Nat->FT ki6->Nat->FT ki6),LH PP (zdi jb F) zdh (zbJ zY zZ F) [] 153 0 0 k zdH (fun a=>zdp jb F a (zey k))) jb zY zZ)
theorem zr1(F:Nat)(k:Exit->VS->R):∀n q,iQ PP (zdi jb F) zdh (zbJ zY zZ F) [] 153 1 2 k n zdJ q=uQ _ (zZ F (zez k) n) q:=
 lG (fun _=>by kernel_rfl) ((hzz:∀(jb:Qi) (zY:Nat->FT ki6->Nat->FT ki6) (zZ:Nat->FT ki6->Nat->FT ki6),LH PP (zdi jb F) zdh (zbJ zY zZ F) [] 153 1 2 k zdJ (fun a=>zdq jb F a (zez k))) jb zY zZ)
def zfO(zY:Nat->FT ki6->Nat->FT ki6)(zZ:Nat->FT ki6->Nat->FT ki6)(F:Nat):FT ki2:=fun c d=>
 zY F (fun e g h l m o=>
  zZ F (fun p s a b t u=>
   some (.v (.agg #[.i a,.i b]))) F e g h l m o) F c d c d 0 0
def zgP:=zfO zY zZ
def zK:jQ:=mkQ (l:=ki2) zex.o zgP
theorem zuV(jb:Qi)(zY:Nat->FT ki6->Nat->FT ki6)(zZ:Nat->FT ki6->Nat->FT ki6)(F:Nat):HHz zex ki2 (zdi jb F) zdh (zbJ zY zZ F) 153 (zfO zY zZ F):=hzz
theorem zuW(F:Nat)(a b:Int):KO5 (zgP F a b) (zK.ok F a b) (zK.i 0 F a b) (zK.i 1 F a b):=ko5 _
theorem zuX(F:Nat):yc PP 153 (unS (zz zex ki2 zK F)):=
 gzl (W:=zbJ zY zZ) F (zuV jb zY zZ F) (zd (zJU F) zn) (jP [(0,zaK PP 153 0),(2,zaK PP 153 1)] kfz (zd (jZ (zbJ zY zZ F) rfl (yn (fun _ k q=>Le.ofEq (zr0 F k F q).symm) (yn (fun h=>absurd h dcz) jY))) (zd (jZ (zbJ zY zZ F) rfl (yn (fun h=>absurd h dcz) (yn (fun _ k q=>Le.ofEq (zr1 F k F q).symm) jY))) zn)))
def zqU:Cfg:=⟨[0,1,4,5,6,7,8,9,15,20,26,27,28,38],[(0,[0,1,4,5,6,10,11,12,13,14,15,16,17,18,19,20,21,22,23,24,25,26,27,46])],[],[]⟩
def zlJ:Sg:=⟨[.i,.i],.v (.int .u32)⟩
def zqV(yK zK:jQ)(zb:Q0)(zx:zBH)(F:Nat):=zS [(152,zz zgt ki2 yK F),(153,zz zex ki2 zK F),(154,zz zfX k0 zb F),(155,zz zdc zPT zx F)]
def zhV:TS:=⟨[(0,.i),(1,.i),(4,.v (.int .u32)),(5,.lp 0 (.lit 0)),(6,.v (.int .u32)),(26,.v (.agg [.i,.i,.i,.i,.i,.i,.i,.i,.i,.i,.i,.i,.i,.i,.i,.i,.i,.i,.i,.i,.i,.i,.i,.i,.i,.i,.i,.i,.i,.i])),(27,.i)],[(0,⟨(.ex [.i,.i]),true⟩)],1⟩
def zxf:TS:=zhV
def zgu(zx:zBH)(F:Nat)(U N:FT ziC):FT ziC:=fun O P Q T G H I J K L b c d e g h l m o p s t u w x y z f n r j A B C a E D=>bif(decide (a<30))then bif(((decide (0<=a))&&(decide (a<30)))&&((isI .i64 [.v (.i G),.v (.i H),.v (.i I),.v (.i J),.v (.i K),.v (.i L),.v (.i b),.v (.i c),.v (.i d),.v (.i e),.v (.i g),.v (.i h),.v (.i l),.v (.i m),.v (.i o),.v (.i p),.v (.i s),.v (.i t),.v (.i u),.v (.i w),.v (.i x),.v (.i y),.v (.i z),.v (.i f),.v (.i n),.v (.i r),.v (.i j),.v (.i A),.v (.i B),.v (.i C)][((Int.toNat a)*1)]?)&&true))then let V:Int:=iv [.v (.i G),.v (.i H),.v (.i I),.v (.i J),.v (.i K),.v (.i L),.v (.i b),.v (.i c),.v (.i d),.v (.i e),.v (.i g),.v (.i h),.v (.i l),.v (.i m),.v (.i o),.v (.i p),.v (.i s),.v (.i t),.v (.i u),.v (.i w),.v (.i x),.v (.i y),.v (.i z),.v (.i f),.v (.i n),.v (.i r),.v (.i j),.v (.i A),.v (.i B),.v (.i C)][((Int.toNat a)*1)]?;let M:Bool:=decide (D<0);bif(zx.ok F E D a M)then let X:Int:=zx.i 0 F E D a M;let Y:Int:=zx.i 1 F E D a M;bif M then U O P Q (wrap .u32 (T+(wrap .u32 (wrap .i64 (0-V))))) G H I J K L b c d e g h l m o p s t u w x y z f n r j A B C (wrap .i64 (a+1)) X Y else U O P Q (wrap .u32 (T+(wrap .u32 V))) G H I J K L b c d e g h l m o p s t u w x y z f n r j A B C (wrap .i64 (a+1)) X Y else none else none else N O P Q T G H I J K L b c d e g h l m o p s t u w x y z f n r j A B C a E D
def zhW:=zgu zx
def jr(F:Nat)(a:FT ziC):Nat->FT ziC:=lY fun b=>zhW F b a
theorem zsI{F n}{a}:jr F a (n+1)=zhW F (jr F a n) a:=rfl
def zi2(k:Exit->VS->R):FT ziC:=cQ _ fun q=>k (.exit 0) (fS zxf q)
def zhX(jr:Nat->FT ziC->Nat->FT ziC)(F:Nat):List LW:=[⟨0,zhV,fun k q=>uQ _ (jr F (zi2 k) F) q⟩]
theorem zy0(F:Nat)(k:Exit->VS->R):∀n q,iQ PP (zqV yK zK zb zx F) zqU (zhX jr F) [] 124 0 0 k n zhV q=uQ _ (jr F (zi2 k) n) q:=
 lG (fun _=>by kernel_rfl) ((hzz:∀(yK:jQ) (zK:jQ) (zb:Q0) (zx:zBH) (jr:Nat->FT ziC->Nat->FT ziC),LH PP (zqV yK zK zb zx F) zqU (zhX jr F) [] 124 0 0 k zhV (fun a=>zgu zx F a (zi2 k))) yK zK zb zx jr)
def zoR(yK zK:jQ)(zb:Q0)(jr:Nat->FT ziC->Nat->FT ziC)(F:Nat):FT ki2:=fun b a=>bif(a==0)then bif(b==0)then some (.v (.int .u32 0))else bif(decide (a<0))then bif(yK.ok F a b)then let g:Int:=yK.i 0 F a b;let h:Int:=yK.i 1 F a b;bif(zK.ok F g h)then bif(zb.ok F)then jr F (fun v6 v7 v8 v9 v10 v11 v12 v13 v14 v15 v16 v17 v18 v19 v20 v21 v22 v23 v24 v25 v26 v27 v28 v29 v30 v31 v32 v33 v34 v35 v36 v37 v38 v39 v40 v41 v42=>some (.v (.int .u32 v9))) F b a 0 2147483648 (zb.i 0 F) (zb.i 1 F) (zb.i 2 F) (zb.i 3 F) (zb.i 4 F) (zb.i 5 F) (zb.i 6 F) (zb.i 7 F) (zb.i 8 F) (zb.i 9 F) (zb.i 10 F) (zb.i 11 F) (zb.i 12 F) (zb.i 13 F) (zb.i 14 F) (zb.i 15 F) (zb.i 16 F) (zb.i 17 F) (zb.i 18 F) (zb.i 19 F) (zb.i 20 F) (zb.i 21 F) (zb.i 22 F) (zb.i 23 F) (zb.i 24 F) (zb.i 25 F) (zb.i 26 F) (zb.i 27 F) (zb.i 28 F) (zb.i 29 F) 0 (zK.i 0 F g h) (zK.i 1 F g h)else none else none else none else bif(zK.ok F a b)then bif(zb.ok F)then jr F (fun v43 v44 v45 l v47 v48 v49 v50 v51 v52 v53 v54 v55 v56 v57 v58 v59 v60 v61 v62 v63 v64 v65 v66 v67 v68 v69 v70 v71 v72 v73 v74 v75 v76 v77 v78 v79=>some (.v (.int .u32 l))) F b a 0 0 (zb.i 0 F) (zb.i 1 F) (zb.i 2 F) (zb.i 3 F) (zb.i 4 F) (zb.i 5 F) (zb.i 6 F) (zb.i 7 F) (zb.i 8 F) (zb.i 9 F) (zb.i 10 F) (zb.i 11 F) (zb.i 12 F) (zb.i 13 F) (zb.i 14 F) (zb.i 15 F) (zb.i 16 F) (zb.i 17 F) (zb.i 18 F) (zb.i 19 F) (zb.i 20 F) (zb.i 21 F) (zb.i 22 F) (zb.i 23 F) (zb.i 24 F) (zb.i 25 F) (zb.i 26 F) (zb.i 27 F) (zb.i 28 F) (zb.i 29 F) 0 (zK.i 0 F a b) (zK.i 1 F a b)else none else none else bif(decide (a<0))then bif(yK.ok F a b)then let c:Int:=yK.i 0 F a b;let d:Int:=yK.i 1 F a b;bif(zK.ok F c d)then bif(zb.ok F)then jr F (fun v82 v83 v84 m v86 v87 v88 v89 v90 v91 v92 v93 v94 v95 v96 v97 v98 v99 o p s t u w x y z f n r j A B C D E G=>some (.v (.int .u32 m))) F b a 0 2147483648 (zb.i 0 F) (zb.i 1 F) (zb.i 2 F) (zb.i 3 F) (zb.i 4 F) (zb.i 5 F) (zb.i 6 F) (zb.i 7 F) (zb.i 8 F) (zb.i 9 F) (zb.i 10 F) (zb.i 11 F) (zb.i 12 F) (zb.i 13 F) (zb.i 14 F) (zb.i 15 F) (zb.i 16 F) (zb.i 17 F) (zb.i 18 F) (zb.i 19 F) (zb.i 20 F) (zb.i 21 F) (zb.i 22 F) (zb.i 23 F) (zb.i 24 F) (zb.i 25 F) (zb.i 26 F) (zb.i 27 F) (zb.i 28 F) (zb.i 29 F) 0 (zK.i 0 F c d) (zK.i 1 F c d)else none else none else none else bif(zK.ok F a b)then bif(zb.ok F)then jr F (fun H I J e K L M N O P Q T U V X Y Z v136 v137 v138 v139 v140 v141 v142 v143 v144 v145 v146 v147 v148 v149 v150 v151 v152 v153 v154 v155=>some (.v (.int .u32 e))) F b a 0 0 (zb.i 0 F) (zb.i 1 F) (zb.i 2 F) (zb.i 3 F) (zb.i 4 F) (zb.i 5 F) (zb.i 6 F) (zb.i 7 F) (zb.i 8 F) (zb.i 9 F) (zb.i 10 F) (zb.i 11 F) (zb.i 12 F) (zb.i 13 F) (zb.i 14 F) (zb.i 15 F) (zb.i 16 F) (zb.i 17 F) (zb.i 18 F) (zb.i 19 F) (zb.i 20 F) (zb.i 21 F) (zb.i 22 F) (zb.i 23 F) (zb.i 24 F) (zb.i 25 F) (zb.i 26 F) (zb.i 27 F) (zb.i 28 F) (zb.i 29 F) 0 (zK.i 0 F a b) (zK.i 1 F a b)else none else none
def zlK:=zoR yK zK zb jr
def zbt:jQ:=mkQ (l:=ki2) zlJ.o zlK
theorem zF1(yK zK:jQ)(zb:Q0)(zx:zBH)(jr:Nat->FT ziC->Nat->FT ziC)(F:Nat):HHz zlJ ki2 (zqV yK zK zb zx F) zqU (zhX jr F) 124 (zoR yK zK zb jr F):=hzz
theorem zF2(F:Nat)(a b:Int):KO8 (zlK F a b) (zbt.ok F a b) (zbt.i 0 F a b):=ko8 _
theorem zF3(F:Nat):yc PP 124 (unS (zz zlJ ki2 zbt F)):=
 gzl (W:=zhX jr) F (zF1 yK zK zb zx jr F) (zd (zyZ F) (zd (zuX F) (zd (zt7 F) (zd (zmI F) zn)))) (jP [(0,zaK PP 124 0)] kfz (zd (jZ (zhX jr F) rfl (yn (fun _ k q=>Le.ofEq (zy0 F k F q).symm) jY)) zn))
theorem zO5(x:Int):2*sz (x/2)<=sz x+1:=by unfold sz;split<;>split<;>omega
theorem zSl(x:Int):sz (x*2)=2*sz x:=by unfold sz;split<;>split<;>omega
theorem zSm(x y:Int):2*big (x/2) (y/2)<=big x y+1:=by
 have:=zO5 x;have:=zO5 y;unfold big;omega
theorem zzD(x y:Int):big (x*2) (y*2)=2*big x y:=by unfold big;rw [zSl,zSl];omega
theorem zAK{x y:Int}(h:big x y<2305843009213693952):∀m,zdD m x y=(x,y)
 |0=>rfl
 |m+1=>by rw [zdD,if_neg zc]
theorem zvW:∀(m k:Nat) (x y:Int),big x y<=2305843009213693952*2^k->k<m->big (zdD m x y).1 (zdD m x y).2<2305843009213693952
 |0,_,_,_,_,h=>absurd h zc
 |m+1,k,x,y,h,hk=>by
  rw [zdD];split
  ·have h2:=zSm x y
   cases k with
   |zero=>
    have hs:big (x/2) (y/2)<2305843009213693952:=by simp at h;omega
    rw [zAK hs];exact hs
   |succ k=>
    refine zvW m k _ _ ?_ zc;have e:(2:Int)^(k+1)=2*2^k:=by rw [Int.pow_succ];omega
    rw [e]at h;omega
  ·dsimp only;omega
theorem zzE:∀(m:Nat) (x y:Int),1152921504606846976<=big x y*2^m->1152921504606846976<=big (dbl m x y).1 (dbl m x y).2
 |0,x,y,h=>by simp [dbl]at h⊢;omega
 |m+1,x,y,h=>by
  rw [dbl];split
  ·refine zzE m _ _ ?_
   rw [zzD,show 2*big x y*2^m=big x y*(2^m*2) by rw [Int.mul_comm 2 (big x y),Int.mul_assoc,Int.mul_comm 2], <-Int.pow_succ];exact h
  ·dsimp only;omega
theorem zSn:∀(m:Nat) (x y:Int),big x y<2305843009213693952->big (dbl m x y).1 (dbl m x y).2<2305843009213693952
 |0,x,y,h=>h
 |m+1,x,y,h=>by
  rw [dbl];split
  ·exact zSn m _ _ (by rw [zzD];omega)
  ·exact h
theorem zvX:∀(m:Nat) (x y:Int),1<=big x y->1<=big (zdD m x y).1 (zdD m x y).2
 |0,x,y,h=>h
 |m+1,x,y,h=>by
  rw [zdD];split
  ·refine zvX m _ _ ?_
   have:∀z:Int,2305843009213693952<=sz z->1<=sz (z/2):=by intro z;unfold sz;split<;>split<;>omega
   have h1:=this x;have h2:=this y;unfold big at*
   omega
  ·exact h
theorem zSo{x y:Int}(hx:zr x)(hy:zr y):big x y<=2305843009213693952*2^2:=by
 unfold zr at*
 unfold big sz;split<;>split<;>omega
theorem zF4{x y:Int}(hx:zr x)(hy:zr y)(h:1<=big x y):1152921504606846976<=big (scd x y).1 (scd x y).2/\big (scd x y).1 (scd x y).2<2305843009213693952:=by
 have h1:=zvW 64 2 x y (zSo hx hy) zc;have h2:=zvX 64 x y h;unfold scd;refine⟨zzE 64 _ _ ?_,zSn 64 _ _ h1⟩;omega
theorem zUz{x y:Int}(h:big x y<9223372036854775808):zr x/\zr y:=by
 unfold big sz at h;unfold zr;split at h<;>split at h<;>omega
theorem zJV:∀(m:Nat) (x y:Int),0<=x->0<=(zdD m x y).1
 |0,_,_,h=>h
 |m+1,x,y,h=>by
  rw [zdD];split
  ·exact zJV m _ _ zc
  ·exact h
theorem zO6:∀(m:Nat) (x y:Int),0<=x->0<=(dbl m x y).1
 |0,_,_,h=>h
 |m+1,x,y,h=>by
  rw [dbl];split
  ·exact zO6 m _ _ zc
  ·exact h
theorem zzF{x y:Int}(h:0<=x):0<=(scd x y).1:=zO6 64 _ _ (zJV 64 _ _ h)
theorem zEh{a:Int}(h:zr a):zr (opp a):=by unfold opp;unfold zr at*;split<;>omega
theorem zsJ(F:Nat){a:Int}(h:zr a):jb.ok F a=true/\jb.i 0 F a=sz a:=by
 refine zJT F _ ?_;unfold znY sz;unfold zr at h;by_cases hs:a<0
 ·refine bp (dt hs) ?_
  rw [if_pos hs,zd2,zd2];congr 3
  omega
 ·refine bn (df hs) ?_
  rw [if_neg hs,zd2];congr 3
  omega
theorem zkx(F:Nat){a:Int}(h:zr a):yu.ok F a=true/\yu.i 0 F a=sz a:=by
 refine zFZ F _ ?_;unfold zlI sz;unfold zr at h;by_cases hs:a<0
 ·refine bp (dt hs) ?_
  rw [if_pos hs,zH (x:=a+1) (by unfold zr;omega),zH (by unfold zr;omega),zd2,zd2];congr 3
  omega
 ·refine bn (df hs) ?_
  rw [if_neg hs,zd2];congr 3
  omega
theorem mx{a b:Int}:(if b>a then b else a)=max a b:=by split<;>omega
theorem zyh(F:Nat)(ex)(x0 x1 x4 x5:Int):∀(m n:Nat) (x y:Int),zr x->zr y->m<n->big (zdD m x y).1 (zdD m x y).2<2305843009213693952->
 zY F ex n x0 x1 x y x4 x5=ex x0 x1 (zdD m x y).1 (zdD m x y).2 x4 x5
 |_,0,_,_,_,_,h,_=>absurd h zc
 |0,n+1,x,y,hx,hy,_,h=>by
  rw [zkv];unfold zdI zdp;obtain⟨a1,a2⟩:=zsJ F hx;obtain⟨b1,b2⟩:=zsJ F hy;refine bp a1 (bp b1 ?_);rw [a2,b2];dsimp only;rw [mx];exact bn (df (by unfold big zdD at h;dsimp only at h;omega)) rfl
 |m+1,n+1,x,y,hx,hy,hm,h=>by
  rw [zkv];unfold zdI zdp;obtain⟨a1,a2⟩:=zsJ F hx;obtain⟨b1,b2⟩:=zsJ F hy;refine bp a1 (bp b1 ?_);rw [a2,b2];dsimp only;rw [mx];rw [zdD]at h⊢;by_cases hc:2305843009213693952<=big x y
  ·rw [if_pos hc]at h⊢
   refine bp (dt hc) ?_;rw [zdF _ dcz,zdF _ dcz];exact zyh F ex x0 x1 x4 x5 m n _ _ (zsA hx 1) (zsA hy 1) zc h
  ·rw [if_neg hc]
   exact bn (df hc) rfl
theorem zyi(F:Nat)(ex)(x0 x1 x4 x5:Int):∀(m n:Nat) (x y:Int),zr x->zr y->m<n->1152921504606846976<=big (dbl m x y).1 (dbl m x y).2->
 zZ F ex n x0 x1 x y x4 x5=ex x0 x1 (dbl m x y).1 (dbl m x y).2 x4 x5
 |_,0,_,_,_,_,h,_=>absurd h zc
 |0,n+1,x,y,hx,hy,_,h=>by
  rw [zkw];unfold zdK zdq;obtain⟨a1,a2⟩:=zsJ F hx;obtain⟨b1,b2⟩:=zsJ F hy;refine bp a1 (bp b1 ?_);rw [a2,b2];dsimp only;rw [mx];exact bn (df (by unfold big dbl at h;dsimp only at h;omega)) rfl
 |m+1,n+1,x,y,hx,hy,hm,h=>by
  rw [zkw];unfold zdK zdq;obtain⟨a1,a2⟩:=zsJ F hx;obtain⟨b1,b2⟩:=zsJ F hy;refine bp a1 (bp b1 ?_);rw [a2,b2];dsimp only;rw [mx];rw [dbl]at h⊢;by_cases hc:big x y<1152921504606846976
  ·rw [if_pos hc]at h⊢
   refine bp (dt hc) ?_;obtain⟨i1,i2⟩:=zUz (x:=x*2) (y:=y*2) (by rw [zzD];omega);rw [zH i1,zH i2];exact zyi F ex x0 x1 x4 x5 m n _ _ i1 i2 zc h
  ·rw [if_neg hc]
   exact bn (df hc) rfl
theorem zAL(F:Nat)(hF:200<=F){x y:Int}(hx:zr x)(hy:zr y)(h:1<=big x y):zK.ok F x y=true/\zK.i 0 F x y=(scd x y).1/\zK.i 1 F x y=(scd x y).2:=by
 refine zuW F _ _ ?_;unfold zgP zfO;have h1:=zvW 64 2 x y (zSo hx hy) zc;have h2:=zvX 64 x y h;obtain⟨i1,i2⟩:=zUz (x:=(zdD 64 x y).1) (y:=(zdD 64 x y).2) zc;rw [zyh F _ x y 0 0 64 F x y hx hy zc h1];rw [zyi F _ x y 0 0 64 F _ _ i1 i2 zc (zzE 64 _ _ zc)];rfl
theorem zvY(F:Nat)(hF:200<=F)(ex)(x0 x1 x2 x5:Int):∀(m n i:Nat) (x y x6:Int),zr x->zr y->m<n->x6=i->i+m<64->big (zdD m x y).1 (zdD m x y).2<2305843009213693952->
 ∃j:Nat,yb F ex n x0 x1 x2 x y x5 x6=ex x0 x1 x2 (zdD m x y).1 (zdD m x y).2 x5 j
 |_,0,_,_,_,_,_,_,h,_,_,_=>absurd h zc
 |0,n+1,i,x,y,_,hx,hy,_,rfl,hi,h=>by
  refine⟨i,?_⟩;rw [zrR];unfold zgo zfz;obtain⟨a1,a2⟩:=zkx F hx;obtain⟨b1,b2⟩:=zkx F hy;refine bp (dt zc) (bp a1 (bp b1 ?_));rw [a2,b2];dsimp only;rw [mx];exact bn (df (by unfold big zdD at h;dsimp only at h;omega)) rfl
 |m+1,n+1,i,x,y,_,hx,hy,hm,rfl,hi,h=>by
  rw [zrR];unfold zgo zfz;obtain⟨a1,a2⟩:=zkx F hx;obtain⟨b1,b2⟩:=zkx F hy;rw [zdD]at h⊢;rw [bp (x:=_) (dt (show(i:Int)<64 from zc)) rfl,bp (x:=_) a1 rfl,bp (x:=_) b1 rfl,a2,b2];dsimp only;rw [mx];by_cases hc:2305843009213693952<=big x y
  ·rw [if_pos hc]at h⊢
   obtain⟨o1,o2⟩:=zw1 F hF hx (m:=1) zc;obtain⟨p1,p2⟩:=zw1 F hF hy (m:=1) zc;rw [bp (x:=_) (dt (show max (sz x) (sz y)>=2305843009213693952 from hc)) rfl];have o1':zG.ok F x 1=true:=o1;have o2':zG.i 0 F x 1=x/2:=o2;have p1':zG.ok F y 1=true:=p1;have p2':zG.i 0 F y 1=y/2:=p2;rw [bp (x:=_) o1' rfl,bp (x:=_) p1' rfl,o2',p2'];exact zvY F hF ex x0 x1 x2 x5 m n (i+1) _ _ _ (zsA hx 1) (zsA hy 1) zc (zeu i zc) zc h
  ·rw [if_neg hc]
   exact⟨i,bn (df hc) rfl⟩
theorem zvZ(F:Nat)(ex)(x0 x1 x2 x5 x6:Int):∀(m n i:Nat) (x y x7:Int),zr x->zr y->m<n->x7=i->i+m<64->1152921504606846976<=big (dbl m x y).1 (dbl m x y).2->
 ∃j:Nat,zX F ex n x0 x1 x2 x y x5 x6 x7=ex x0 x1 x2 (dbl m x y).1 (dbl m x y).2 x5 x6 j
 |_,0,_,_,_,_,_,_,h,_,_,_=>absurd h zc
 |0,n+1,i,x,y,_,hx,hy,_,rfl,hi,h=>by
  refine⟨i,?_⟩;rw [zrS];unfold zgq zfA;obtain⟨a1,a2⟩:=zkx F hx;obtain⟨b1,b2⟩:=zkx F hy;refine bp (dt zc) (bp a1 (bp b1 ?_));rw [a2,b2];dsimp only;rw [mx];exact bn (df (by unfold big dbl at h;dsimp only at h;omega)) rfl
 |m+1,n+1,i,x,y,_,hx,hy,hm,rfl,hi,h=>by
  rw [zrS];unfold zgq zfA;obtain⟨a1,a2⟩:=zkx F hx;obtain⟨b1,b2⟩:=zkx F hy;rw [dbl]at h⊢;rw [bp (x:=_) (dt (show(i:Int)<64 from zc)) rfl,bp (x:=_) a1 rfl,bp (x:=_) b1 rfl,a2,b2];dsimp only;rw [mx];by_cases hc:big x y<1152921504606846976
  ·rw [if_pos hc]at h⊢
   obtain⟨i1,i2⟩:=zUz (x:=x*2) (y:=y*2) (by rw [zzD];omega);rw [bp (x:=_) (dt (show max (sz x) (sz y)<1152921504606846976 from hc)) rfl,Int.mul_comm 2 x,Int.mul_comm 2 y,zH i1,zH i2];exact zvZ F ex x0 x1 x2 x5 x6 m n (i+1) _ _ _ i1 i2 zc (zeu i zc) zc h
  ·rw [if_neg hc]
   exact⟨i,bn (df hc) rfl⟩
theorem zSp{x y:Int}(hx:0<=x/\x<=2305843009213693952)(hy: -2305843009213693952<=y/\y<=2305843009213693952):∀{i:Nat},i<=30->
 (0<=(aS x y i).1/\(aS x y i).1<=6917529027641081856-2*2^(61-i))/\(-2305843009213693952<=(aS x y i).2.1/\(aS x y i).2.1<=2305843009213693952)/\(-(536870912*(i:Int))<=(aS x y i).2.2/\(aS x y i).2.2<=536870912*(i:Int))
 |0,_=>by simp only [aS];omega
 |i+1,h=>by
  obtain⟨h1,h2,h3⟩:=zSp hx hy (i:=i) zc;have ht:=zD4 i zc;have hPQ:(2:Int)^(61-i)*2^i=2305843009213693952:=by rw [ztV,show 61-i+i=61 from zc];decide
  have e:(2:Int)*2^(61-(i+1))=2^(61-i):=by
   rw [show 61-i=(61-(i+1))+1 from zc,Int.pow_succ];omega
  rw [e];have hQ:=zb9 i;have hP:=zb9 (61-i);have hx2:(aS x y i).1<=2305843009213693952*2^i:=by
   match i,h1,hPQ with
   |0,h1,_=>simp at h1⊢;omega
   |1,h1,_=>simp at h1⊢;omega
   |i+2,h1,_=>
    have:(2:Int)^(i+2)=4*2^i:=by rw [Int.pow_succ,Int.pow_succ];omega
    have:=zb9 i;omega
  have hq0:0<=(aS x y i).1/2^i:=Int.ediv_nonneg h1.1 zc;have hq1:(aS x y i).1/2^i<=2305843009213693952:=Int.ediv_le_of_le_mul hQ hx2;simp only [aS];have hy0:(aS x y i).2.1/2^i<=2^(61-i):=Int.ediv_le_of_le_mul hQ (by rw [hPQ];omega);have hy1: -(2^(61-i))<=(aS x y i).2.1/2^i:=(Int.le_ediv_iff_mul_le hQ).2 (by rw [Int.neg_mul,hPQ];omega);by_cases hs:(aS x y i).2.1<0
  ·have hn:(aS x y i).2.1/2^i<0:=Int.ediv_neg_of_neg_of_pos hs hQ
   simp only [hs,decide_true,if_true,zrX,zrY];push_cast;omega
  ·have hn:0<=(aS x y i).2.1/2^i:=Int.ediv_nonneg zc zc
   simp only [hs,decide_false,if_false,zrX,zrY,Bool.false_eq_true];push_cast;omega
theorem zWt{x y:Int}(hx:0<=x/\x<=2305843009213693952)(hy: -2305843009213693952<=y/\y<=2305843009213693952){i:Nat}(h:i<=30):zr (aS x y i).1/\zr (aS x y i).2.1:=by
 obtain⟨h1,h2,_⟩:=zSp hx hy h;have:=zb9 (61-i);unfold zr;omega
theorem zeF(F:Nat)(ex){x y z:Int}(hx:0<=x/\x<=2305843009213693952)(hy: -2305843009213693952<=y/\y<=2305843009213693952)(x0 x1 x2:Int):∀(k n i:Nat) (x3 x34 x35 x36:Int),i+k=30->k<n->x34=i->x35=(aS x y i).1->x36=(aS x y i).2.1->x3=((aS x y i).2.2+z)%4294967296->
 jr F ex n x0 x1 x2 x3 536870912 316933406 167458907 85004756 42667331 21354465 10679838 5340245 2670163 1335087 667544 333772 166886 83443 41722 20861 10430 5215 2608 1304 652 326 163 81 41 20 10 5 3 1 x34 x35 x36=ex x0 x1 x2 (((aS x y 30).2.2+z)%4294967296) 536870912 316933406 167458907 85004756 42667331 21354465 10679838 5340245 2670163 1335087 667544 333772 166886 83443 41722 20861 10430 5215 2608 1304 652 326 163 81 41 20 10 5 3 1 30 (aS x y 30).1 (aS x y 30).2.1
 |_,0,_,_,_,_,_,_,h,_,_,_,_=>absurd h zc
 |0,n+1,i,_,_,_,_,h,_,rfl,rfl,rfl,rfl=>by
  obtain rfl:i=30:=zc;rw [zsI];unfold zhW zgu;exact bn (df zc) rfl
 |k+1,n+1,i,_,_,_,_,h,hn,rfl,rfl,rfl,rfl=>by
  have hi':i<30:=zc;obtain⟨g1,g2⟩:=zAE i hi';obtain⟨b1,b2⟩:=zWt hx hy (i:=i+1) zc;have b3:=zD4 i hi';obtain⟨t1,t2,t3⟩:=zO3 F (x:=(aS x y i).1) (y:=(aS x y i).2.1) (i:=i) zc (decide ((aS x y i).2.1<0)) b1 b2;rw [zsI];unfold zhW zgu;refine bp (dt zc) (bp (by rw [zO2,g1,show((decide (0<=(i:Int)))&&(decide ((i:Int)<30)))=true from zrN i 30 hi'];rfl) ?_);rw [zO2,g2];refine bp t1 ?_;rw [t2,t3];have w1:wrap .i64 ((i:Int)+1)=((i+1:Nat):Int):=zeu i zc;rw [w1];by_cases hs:(aS x y i).2.1<0
  ·refine bp (dt hs) ?_
   refine zeF F ex hx hy x0 x1 x2 k n (i+1) _ _ _ _ zc zc rfl rfl rfl ?_;simp only [aS];rw [if_pos hs,zH (x:=0-tA i) (by unfold zr;omega),zuA,zuA];omega
  ·refine bn (df hs) ?_
   refine zeF F ex hx hy x0 x1 x2 k n (i+1) _ _ _ _ zc zc rfl rfl rfl ?_;simp only [aS];rw [if_neg hs,zuA,zuA];omega
theorem zsK(F:Nat)(hF:200<=F)(ex){x y z:Int}(hx:0<=x/\x<=2305843009213693952)(hy: -2305843009213693952<=y/\y<=2305843009213693952)(hz:0<=z/\z<=4294967296)(x0 x1 x2 x6 x7:Int):∀(k n i:Nat) (x3 x4 x5 x8:Int),i+k=30->k<n->x8=i->x3=(aS x y i).1->x4=(aS x y i).2.1->x5=(aS x y i).2.2+z->
 zU F ex n x0 x1 x2 x3 x4 x5 x6 x7 x8=ex x0 x1 x2 (aS x y 30).1 (aS x y 30).2.1 ((aS x y 30).2.2+z) x6 x7 30
 |_,0,_,_,_,_,_,_,h,_,_,_,_=>absurd h zc
 |0,n+1,i,_,_,_,_,h,_,rfl,rfl,rfl,rfl=>by
  obtain rfl:i=30:=zc;rw [zrT];unfold zgs zfB;exact bn (df zc) rfl
 |k+1,n+1,i,_,_,_,_,h,hn,rfl,rfl,rfl,rfl=>by
  have hi':i<30:=zc;obtain⟨b1,b2⟩:=zWt hx hy (i:=i+1) zc;obtain⟨c1,c2⟩:=zWt hx hy (i:=i) zc;obtain⟨_,_,b4⟩:=zSp hx hy (i:=i) zc;have b3:=zD4 i hi';obtain⟨g1,g2⟩:=zw1 F hF c1 (m:=i) zc;obtain⟨j1,j2⟩:=zw1 F hF c2 (m:=i) zc;obtain⟨s1,s2⟩:=zSg F hi';rw [zrT];unfold zgs zfB;refine bp (dt zc) (bp g1 (bp j1 ?_));rw [g2,j2];have w1:wrap .i64 ((i:Int)+1)=((i+1:Nat):Int):=zeu i zc;rw [w1];by_cases hs:(aS x y i).2.1<0
  ·refine bn (df zc) (bp s1 ?_)
   rw [s2];simp only [aS,zrX,zrY,hs,decide_true,if_true]at b1 b2;refine zsK F hF ex hx hy hz x0 x1 x2 x6 x7 k n (i+1) _ _ _ _ zc zc rfl ?_ ?_ ?_
   ·simp only [aS,zrX,hs,decide_true,if_true];rw [zH b1]
   ·simp only [aS,zrY,hs,decide_true,if_true];rw [zH b2]
   ·simp only [aS,hs,if_true];rw [zH (by unfold zr;omega)];omega
  ·refine bp (dt zc) (bp s1 ?_)
   rw [s2];simp only [aS,zrX,zrY,hs,decide_false,Bool.false_eq_true,if_false]at b1 b2;refine zsK F hF ex hx hy hz x0 x1 x2 x6 x7 k n (i+1) _ _ _ _ zc zc rfl ?_ ?_ ?_
   ·simp only [aS,zrX,hs,decide_false,Bool.false_eq_true,if_false];rw [zH b1]
   ·simp only [aS,zrY,hs,decide_false,Bool.false_eq_true,if_false];rw [zH b2]
   ·simp only [aS,hs,if_false];rw [zH (by unfold zr;omega)];omega
def zCr:Cfg:=⟨[0,1,2,6,7,8,11,16,20],[],[],[]⟩
def zjI:Sg:=⟨[.i,.i,.i],.v (.tup [.i,.bool])⟩
def zCs(F:Nat):=zS []
def zjJ(F:Nat):FT ki3:=fun a b c=>bif(decide (c<b))then some (.v (.tuple #[.i b,.bool true]))else bif(decide (a>c))then bif(decide (c<b))then some (.v (.tuple #[.i b,.bool (b !=a)]))else some (.v (.tuple #[.i c,.bool (c !=a)]))else bif(decide (a<b))then some (.v (.tuple #[.i b,.bool (b !=a)]))else some (.v (.tuple #[.i a,.bool (a !=a)]))
def jH:Qi3:=mkQ (l:=ki3) zjI.o zjJ
theorem zCt(F:Nat):HHz zjI ki3 (zCs F) zCr [] 117 (zjJ F):=hzz
theorem zCu(F:Nat)(a c d:Int):KO4 (zjJ F a c d) (jH.ok F a c d) (jH.i 0 F a c d) (jH.b 1 F a c d):=ko4 _
theorem zCv(F:Nat):yc PP 117 (unS (zz zjI ki3 jH F)):=
 gzz F (zCt F) (zn)
def zy1:Cfg:=⟨[0,1,4],[],[7],[]⟩
def zeG:Sg:=⟨[.i,.i],.v (.agg [.i,.int .u64])⟩
def zy2(zF:jQ)(yY:Qi3)(F:Nat):=zS [(78,zz zem ki2 zF F),(148,zz zhs ki3 yY F)]
def zi3(zF:jQ)(yY:Qi3)(F:Nat):FT ki2:=fun a b=>bif(zF.ok F a b)then let c:Int:=zF.i 0 F a b;let d:Int:=zF.i 1 F a b;bif(yY.ok F c d 32)then some (.v (.agg #[.i (yY.i 0 F c d 32),.int .u64 (yY.i 1 F c d 32)]))else none else none
def zk3:=zi3 zF yY
def zM:jQ:=mkQ (l:=ki2) zeG.o zk3
theorem zy3(zF:jQ)(yY:Qi3)(F:Nat):HHz zeG ki2 (zy2 zF yY F) zy1 [] 151 (zi3 zF yY F):=hzz
theorem zy4(F:Nat)(a b:Int):KO9 (zk3 F a b) (zM.ok F a b) (zM.i 0 F a b) (zM.i 1 F a b):=ko9 _
theorem zrU(F:Nat):yc PP 151 (unS (zz zeG ki2 zM F)):=
 gzz F (zy3 zF yY F) (zd (zkh F) (zd (zvK F) zn))
def zF5:Cfg:=⟨[0,1,2,3,4,5],[],[],[]⟩
def zhY:Sg:=⟨[.v (.agg [.i,.int .u64])],.v (.tup [.i,.bool])⟩
def zF6(yJ:jQ)(F:Nat):=zS [(82,zz zft ki2 yJ F)]
def zoS(yJ:jQ)(F:Nat):FT ki2:=fun a c=>bif(yJ.ok F a c)then some (.v (.tuple #[.i (yJ.i 0 F a c),.bool (yJ.b 1 F a c)]))else none
def zqW:=zoS yJ
def yZ:jQ:=mkQ (l:=ki2) zhY.o zqW
theorem zF7(yJ:jQ)(F:Nat):HHz zhY ki2 (zF6 yJ F) zF5 [] 150 (zoS yJ F):=hzz
theorem zF8(F:Nat)(a c:Int):KO4 (zqW F a c) (yZ.ok F a c) (yZ.i 0 F a c) (yZ.b 1 F a c):=ko4 _
theorem zv0(F:Nat):yc PP 150 (unS (zz zhY ki2 yZ F)):=
 gzz F (zF7 yJ F) (zd (zql F) zn)
def zF9:Cfg:=⟨[0,1,2,3,8,9],[],[12,15,16,17],[]⟩
def zlL:Sg:=⟨[.i,.i,.i,.i],.v (.tup [.i,.bool])⟩
def zGa(zM zA:jQ)(ze:Qi4)(yZ:jQ)(F:Nat):=zS [(151,zz zeG ki2 zM F),(119,zz ze7 ki2 zA F),(80,zz zbP ki4 ze F),(150,zz zhY ki2 yZ F)]
def zoT(zM zA:jQ)(ze:Qi4)(yZ:jQ)(F:Nat):FT ki4:=fun a c d e=>bif(zM.ok F a c)then let g:Int:=zM.i 0 F a c;let h:Int:=zM.i 1 F a c;bif(zM.ok F d e)then let l:Int:=zM.i 0 F d e;let m:Int:=zM.i 1 F d e;bif(zA.ok F l m)then let o:Int:=zA.i 0 F l m;let p:Int:=zA.i 1 F l m;bif(ze.ok F g h o p)then let s:Int:=ze.i 0 F g h o p;let t:Int:=ze.i 1 F g h o p;bif(yZ.ok F s t)then some (.v (.tuple #[.i (yZ.i 0 F s t),.bool (yZ.b 1 F s t)]))else none else none else none else none else none
def zqX:=zoT zM zA ze yZ
def jW:Qi4:=mkQ (l:=ki4) zlL.o zqX
theorem zGb(zM zA:jQ)(ze:Qi4)(yZ:jQ)(F:Nat):HHz zlL ki4 (zGa zM zA ze yZ F) zF9 [] 169 (zoT zM zA ze yZ F):=hzz
theorem zGc(F:Nat)(a c d e:Int):KO4 (zqX F a c d e) (jW.ok F a c d e) (jW.i 0 F a c d e) (jW.b 1 F a c d e):=ko4 _
theorem zGd(F:Nat):yc PP 169 (unS (zz zlL ki4 jW F)):=
 gzz F (zGb zM zA ze yZ F) (zd (zrU F) (zd (znG F) (zd (zcF F) (zd (zv0 F) zn))))
def zCw:Cfg:=⟨[0,1,2,3,4,5,6,7,8,9,10,11],[],[],[]⟩
def zjK:Sg:=⟨[.v (.agg [.i,.i,.i]),.v (.agg [.i,.i,.i])],.v (.tup [.agg [.i,.i,.i],.bool])⟩
def zCx(jW:Qi4)(F:Nat):=zS [(169,zz zlL ki4 jW F)]
def zmS(jW:Qi4)(F:Nat):FT ki6:=fun a c d e g h=>bif(jW.ok F c h d g)then let l:Int:=jW.i 0 F c h d g;bif(jW.ok F d e a h)then let m:Int:=jW.i 0 F d e a h;bif(jW.ok F a g c e)then let o:Int:=jW.i 0 F a g c e;bif(jW.b 1 F c h d g)then some (.v (.tuple #[.agg #[.i l,.i m,.i o],.bool true]))else bif(jW.b 1 F d e a h)then some (.v (.tuple #[.agg #[.i l,.i m,.i o],.bool true]))else some (.v (.tuple #[.agg #[.i l,.i m,.i o],.bool (jW.b 1 F a g c e)]))else none else none else none
def zoU:=zmS jW
def ju:Qi6:=mkQ (l:=ki6) zjK.o zoU
theorem zCy(jW:Qi4)(F:Nat):HHz zjK ki6 (zCx jW F) zCw [] 147 (zmS jW F):=hzz
theorem zCz(F:Nat)(a c d e g h:Int):zkR (zoU F a c d e g h) (ju.ok F a c d e g h) (ju.i 0 F a c d e g h) (ju.i 1 F a c d e g h) (ju.i 2 F a c d e g h) (ju.b 3 F a c d e g h):=zll _
theorem zCA(F:Nat):yc PP 147 (unS (zz zjK ki6 ju F)):=
 gzz F (zCy jW F) (zd (zGd F) zn)
def zJW:Cfg:=⟨[0,1,2,3,4,5],[],[10,15,16,21,22],[]⟩
def zg2:Sg:=⟨[.v (.agg [.i,.i,.i]),.v (.agg [.i,.i,.i])],.v (.tup [.i,.bool])⟩
def zJX(zM:jQ)(ze:Qi4)(yZ:jQ)(F:Nat):=zS [(151,zz zeG ki2 zM F),(80,zz zbP ki4 ze F),(150,zz zhY ki2 yZ F)]
def zqY(zM:jQ)(ze:Qi4)(yZ:jQ)(F:Nat):FT ki6:=fun a c d e g h=>bif(zM.ok F a e)then let l:Int:=zM.i 0 F a e;let m:Int:=zM.i 1 F a e;bif(zM.ok F c g)then let o:Int:=zM.i 0 F c g;let p:Int:=zM.i 1 F c g;bif(ze.ok F l m o p)then let s:Int:=ze.i 0 F l m o p;let t:Int:=ze.i 1 F l m o p;bif(zM.ok F d h)then let u:Int:=zM.i 0 F d h;let w:Int:=zM.i 1 F d h;bif(ze.ok F s t u w)then let x:Int:=ze.i 0 F s t u w;let y:Int:=ze.i 1 F s t u w;bif(yZ.ok F x y)then some (.v (.tuple #[.i (yZ.i 0 F x y),.bool (yZ.b 1 F x y)]))else none else none else none else none else none else none
def zsL:=zqY zM ze yZ
def yz:Qi6:=mkQ (l:=ki6) zg2.o zsL
theorem zJY(zM:jQ)(ze:Qi4)(yZ:jQ)(F:Nat):HHz zg2 ki6 (zJX zM ze yZ F) zJW [] 114 (zqY zM ze yZ F):=hzz
theorem zJZ(F:Nat)(a c d e g h:Int):KO4 (zsL F a c d e g h) (yz.ok F a c d e g h) (yz.i 0 F a c d e g h) (yz.b 1 F a c d e g h):=ko4 _
theorem zsM(F:Nat):yc PP 114 (unS (zz zg2 ki6 yz F)):=
 gzz F (zJY zM ze yZ F) (zd (zrU F) (zd (zcF F) (zd (zv0 F) zn)))
def zCB:Cfg:=⟨[0,1,2,4,5,6,7,8,9,10,11],[],[],[]⟩
def zf4:Sg:=⟨[.v (.agg [.i,.i,.i]),.i],.v (.tup [.agg [.i,.i,.i],.bool])⟩
def zCC(zaT:jQ)(F:Nat):=zS [(112,zz znM ki2 zaT F)]
def zmT(zaT:jQ)(F:Nat):FT ki4:=fun c d e a=>bif(zaT.ok F c a)then let g:Int:=zaT.i 0 F c a;bif(zaT.ok F d a)then let h:Int:=zaT.i 0 F d a;bif(zaT.ok F e a)then let l:Int:=zaT.i 0 F e a;bif(zaT.b 1 F c a)then some (.v (.tuple #[.agg #[.i g,.i h,.i l],.bool true]))else bif(zaT.b 1 F d a)then some (.v (.tuple #[.agg #[.i g,.i h,.i l],.bool true]))else some (.v (.tuple #[.agg #[.i g,.i h,.i l],.bool (zaT.b 1 F e a)]))else none else none else none
def zoV:=zmT zaT
def yH:Qi4:=mkQ (l:=ki4) zf4.o zoV
theorem zCD(zaT:jQ)(F:Nat):HHz zf4 ki4 (zCC zaT F) zCB [] 65 (zmT zaT F):=hzz
theorem zCE(F:Nat)(a c d e:Int):zkR (zoV F a c d e) (yH.ok F a c d e) (yH.i 0 F a c d e) (yH.i 1 F a c d e) (yH.i 2 F a c d e) (yH.b 3 F a c d e):=zll _
theorem zue(F:Nat):yc PP 65 (unS (zz zf4 ki4 yH F)):=
 gzz F (zCD zaT F) (zd (zJs F) zn)
def zJ0:Cfg:=⟨[0,1,2,3,4,5,6,7,8,9,10,11],[],[],[]⟩
def zky:Sg:=⟨[.v (.agg [.i,.i,.i]),.v (.agg [.i,.i,.i])],.v (.tup [.agg [.i,.i,.i],.bool])⟩
def zJ1(yP:jQ)(F:Nat):=zS [(111,zz zkn ki2 yP F)]
def zqZ(yP:jQ)(F:Nat):FT ki6:=fun a c d e g h=>bif(yP.ok F a e)then let l:Int:=yP.i 0 F a e;bif(yP.ok F c g)then let m:Int:=yP.i 0 F c g;bif(yP.ok F d h)then let o:Int:=yP.i 0 F d h;bif(yP.b 1 F a e)then some (.v (.tuple #[.agg #[.i l,.i m,.i o],.bool true]))else bif(yP.b 1 F c g)then some (.v (.tuple #[.agg #[.i l,.i m,.i o],.bool true]))else some (.v (.tuple #[.agg #[.i l,.i m,.i o],.bool (yP.b 1 F d h)]))else none else none else none
def zsN:=zqZ yP
def jo:Qi6:=mkQ (l:=ki6) zky.o zsN
theorem zJ2(yP:jQ)(F:Nat):HHz zky ki6 (zJ1 yP F) zJ0 [] 64 (zqZ yP F):=hzz
theorem zJ3(F:Nat)(a c d e g h:Int):zkR (zsN F a c d e g h) (jo.ok F a c d e g h) (jo.i 0 F a c d e g h) (jo.i 1 F a c d e g h) (jo.i 2 F a c d e g h) (jo.b 3 F a c d e g h):=zll _
theorem zyj(F:Nat):yc PP 64 (unS (zz zky ki6 jo F)):=
 gzz F (zJ2 yP F) (zd (zye F) zn)
def zGe:Cfg:=⟨[0,2,4],[],[],[]⟩
def zlM:Sg:=⟨[.i],.v (.int .u64)⟩
def zGf(F:Nat):=zS []
def zlN(F:Nat):FT ki:=fun a=>bif(decide (a<0))then some (.v (.int .u64 (wrap .u64 ((wrap .u64 (wrap .i64 (0-(wrap .i64 (a+1)))))+1))))else some (.v (.int .u64 (wrap .u64 a)))
def zaO:Qi:=mkQ (l:=ki) zlM.o zlN
theorem zGg(F:Nat):HHz zlM ki (zGf F) zGe [] 182 (zlN F):=hzz
theorem zGh(F:Nat)(a:Int):KO6 (zlN F a) (zaO.ok F a) (zaO.i 0 F a):=ko6 _
theorem zGi(F:Nat):yc PP 182 (unS (zz zlM ki zaO F)):=
 gzz F (zGg F) (zn)
def zJ4:Cfg:=⟨[0,1,2,4,5,6],[],[],[]⟩
def znZ:Sg:=⟨[.v (.agg [.i,.i,.i]),.i],.v (.tup [.agg [.i,.i,.i],.bool])⟩
def zJ5(zbs:Qi4)(F:Nat):=zS [(96,zz zqI ki4 zbs F)]
def zq0(zbs:Qi4)(F:Nat):FT ki4:=fun a c d g=>let e:Int:=if 0>g then 0 else g;bif(zbs.ok F a c d e)then some (.v (.tuple #[.agg #[.i (zbs.i 0 F a c d e),.i (zbs.i 1 F a c d e),.i (zbs.i 2 F a c d e)],.bool (zbs.b 3 F a c d e)]))else none
def zsO:=zq0 zbs
def zaU:Qi4:=mkQ (l:=ki4) znZ.o zsO
theorem zJ6(zbs:Qi4)(F:Nat):HHz znZ ki4 (zJ5 zbs F) zJ4 [] 164 (zq0 zbs F):=hzz
theorem zJ7(F:Nat)(a c d e:Int):zkR (zsO F a c d e) (zaU.ok F a c d e) (zaU.i 0 F a c d e) (zaU.i 1 F a c d e) (zaU.i 2 F a c d e) (zaU.b 3 F a c d e):=zll _
theorem zJ8(F:Nat):yc PP 164 (unS (zz znZ ki4 zaU F)):=
 gzz F (zJ6 zbs F) (zd (zNh F) zn)
def zJ9:Cfg:=⟨[0,1,2,3,4,5],[],[],[]⟩
def zn0:Sg:=⟨[.v (.agg [.i,.i,.i]),.v (.agg [.i,.i,.i])],.v (.tup [.agg [.i,.i,.i],.bool])⟩
def zKa(zaL:Qi6)(F:Nat):=zS [(96,zz zlz ki6 zaL F)]
def zq1(zaL:Qi6)(F:Nat):FT ki6:=fun a c d e g h=>bif(zaL.ok F a c d e g h)then some (.v (.tuple #[.agg #[.i (zaL.i 0 F a c d e g h),.i (zaL.i 1 F a c d e g h),.i (zaL.i 2 F a c d e g h)],.bool (zaL.b 3 F a c d e g h)]))else none
def zsP:=zq1 zaL
def zao:Qi6:=mkQ (l:=ki6) zn0.o zsP
theorem zKb(zaL:Qi6)(F:Nat):HHz zn0 ki6 (zKa zaL F) zJ9 [] 163 (zq1 zaL F):=hzz
theorem zKc(F:Nat)(a c d e g h:Int):zkR (zsP F a c d e g h) (zao.ok F a c d e g h) (zao.i 0 F a c d e g h) (zao.i 1 F a c d e g h) (zao.i 2 F a c d e g h) (zao.b 3 F a c d e g h):=zll _
theorem zKd(F:Nat):yc PP 163 (unS (zz zn0 ki6 zao F)):=
 gzz F (zKb zaL F) (zd (zFM F) zn)
def zxg:Cfg:=⟨[0,1,2,3,4,5,6,7,8,9],[(0,[0,1,2,3,4,5,6,8,21,22,23,24])],[18],[]⟩
def zmo:Sg:=⟨[.v (.agg [.i,.i,.i]),.v (.agg [.i,.i,.i])],.v (.tup [.i,.bool])⟩
def zxh(yj:jQ)(zv:Qi4)(jx:jQ)(F:Nat):=zS [(125,zz zf0 ki2 yj F),(101,zz zdS ki4 zv F),(126,zz zmO ki2 jx F)]
def zn1:TS:=⟨[(0,.v (.agg [.i,.i,.i])),(1,.v (.agg [.i,.i,.i])),(2,.lp 0 (.lit 0)),(3,.lp 1 (.lit 0)),(4,.i),(5,.v (.bool)),(6,.lp 2 (.lit 0)),(8,.i)],[(0,⟨(.ex [.i,.i,.i]),true⟩),(1,⟨(.ex [.i,.i,.i]),true⟩),(2,⟨(.ex [.i,.v (.int .u64)]),true⟩)],3⟩
def zCF:TS:=zn1
def zfC(yj:jQ)(zv:Qi4)(F:Nat)(C o:FT ziO):FT ziO:=fun w x y z f n r j a m b c d e g h l=>bif(decide (a<3))then bif((decide (0<=a))&&(decide (a<3)))then let A:Nat:=0+((Int.toNat a)*1);bif((isI .i64 [.v (.i m),.v (.i b),.v (.i c)][A]?)&&true)then let p:Int:=iv [.v (.i m),.v (.i b),.v (.i c)][A]?;bif((decide (0<=a))&&(decide (a<3)))then let B:Nat:=0+((Int.toNat a)*1);bif((isI .i64 [.v (.i d),.v (.i e),.v (.i g)][B]?)&&true)then let s:Int:=iv [.v (.i d),.v (.i e),.v (.i g)][B]?;bif(yj.ok F p s)then let t:Int:=yj.i 0 F p s;let u:Int:=yj.i 1 F p s;bif(zv.ok F h l t u)then C w x y z f n r j (wrap .i64 (a+1)) m b c d e g (zv.i 0 F h l t u) (zv.i 1 F h l t u)else none else none else none else none else none else none else o w x y z f n r j a m b c d e g h l
def zg3:=zfC yj zv
def zaV(F:Nat)(a:FT ziO):Nat->FT ziO:=lY fun b=>zg3 F b a
theorem zn2{F n}{a}:zaV F a (n+1)=zg3 F (zaV F a n) a:=rfl
def zoW(k:Exit->VS->R):FT ziO:=cQ _ fun q=>k (.exit 0) (fS zCF q)
def zpP(zaV:Nat->FT ziO->Nat->FT ziO)(F:Nat):List LW:=[⟨0,zn1,fun k q=>uQ _ (zaV F (zoW k) F) q⟩]
theorem zGj(F:Nat)(k:Exit->VS->R):∀n q,iQ PP (zxh yj zv jx F) zxg (zpP zaV F) [] 85 0 0 k n zn1 q=uQ _ (zaV F (zoW k) n) q:=
 lG (fun _=>by kernel_rfl) ((hzz:∀(yj:jQ) (zv:Qi4) (jx:jQ) (zaV:Nat->FT ziO->Nat->FT ziO),LH PP (zxh yj zv jx F) zxg (zpP zaV F) [] 85 0 0 k zn1 (fun a=>zfC yj zv F a (zoW k))) yj zv jx zaV)
def zuY(jx:jQ)(zaV:Nat->FT ziO->Nat->FT ziO)(F:Nat):FT ki6:=fun d e g h l m=>zaV F (fun r j A B o p s t u w x y z f n a c=>bif(jx.ok F a c)then some (.v (.tuple #[.i (jx.i 0 F a c),.bool (jx.b 1 F a c)]))else none) F d e g h l m 0 false 0 d e g h l m 0 0
def ztv:=zuY jx zaV
def yO:Qi6:=mkQ (l:=ki6) zmo.o ztv
theorem zQm(yj:jQ)(zv:Qi4)(jx:jQ)(zaV:Nat->FT ziO->Nat->FT ziO)(F:Nat):HHz zmo ki6 (zxh yj zv jx F) zxg (zpP zaV F) 85 (zuY jx zaV F):=hzz
theorem zQn(F:Nat)(a c d e g h:Int):KO4 (ztv F a c d e g h) (yO.ok F a c d e g h) (yO.i 0 F a c d e g h) (yO.b 1 F a c d e g h):=ko4 _
theorem zxi(F:Nat):yc PP 85 (unS (zz zmo ki6 yO F)):=
 gzl (W:=zpP zaV) F (zQm yj zv jx zaV F) (zd (zud F) (zd (zgI F) (zd (zAI F) zn))) (jP [(0,zaK PP 85 0)] kfz (zd (jZ (zpP zaV F) rfl (yn (fun _ k q=>Le.ofEq (zGj F k F q).symm) jY)) zn))
def zKe:Cfg:=⟨[0,1,2,3,4,5],[],[],[]⟩
def zkz:Sg:=⟨[.v (.agg [.i,.i,.i]),.i],.v (.tup [.agg [.i,.i,.i],.bool])⟩
def zKf(zaN:Qi4)(F:Nat):=zS [(96,zz zlF ki4 zaN F)]
def zq2(zaN:Qi4)(F:Nat):FT ki4:=fun a c d e=>bif(zaN.ok F a c d e)then some (.v (.tuple #[.agg #[.i (zaN.i 0 F a c d e),.i (zaN.i 1 F a c d e),.i (zaN.i 2 F a c d e)],.bool (zaN.b 3 F a c d e)]))else none
def zsQ:=zq2 zaN
def jp:Qi4:=mkQ (l:=ki4) zkz.o zsQ
theorem zKg(zaN:Qi4)(F:Nat):HHz zkz ki4 (zKf zaN F) zKe [] 91 (zq2 zaN F):=hzz
theorem zKh(F:Nat)(a c d e:Int):zkR (zsQ F a c d e) (jp.ok F a c d e) (jp.i 0 F a c d e) (jp.i 1 F a c d e) (jp.i 2 F a c d e) (jp.b 3 F a c d e):=zll _
theorem zyk(F:Nat):yc PP 91 (unS (zz zkz ki4 jp F)):=
 gzz F (zKg zaN F) (zd (zFV F) zn)
def zQo:Cfg:=⟨[0,1,2,3,4,5],[],[],[]⟩
def zpQ:Sg:=⟨[.v (.agg [.i,.i,.i]),.v (.agg [.i,.i,.i])],.v (.tup [.agg [.i,.i,.i],.bool])⟩
def zQp(zaM:Qi6)(F:Nat):=zS [(96,zz zlD ki6 zaM F)]
def zuZ(zaM:Qi6)(F:Nat):FT ki6:=fun a c d e g h=>bif(zaM.ok F a c d e g h)then some (.v (.tuple #[.agg #[.i (zaM.i 0 F a c d e g h),.i (zaM.i 1 F a c d e g h),.i (zaM.i 2 F a c d e g h)],.bool (zaM.b 3 F a c d e g h)]))else none
def zxj:=zuZ zaM
def zaw:Qi6:=mkQ (l:=ki6) zpQ.o zxj
theorem zQq(zaM:Qi6)(F:Nat):HHz zpQ ki6 (zQp zaM F) zQo [] 90 (zuZ zaM F):=hzz
theorem zQr(F:Nat)(a c d e g h:Int):zkR (zxj F a c d e g h) (zaw.ok F a c d e g h) (zaw.i 0 F a c d e g h) (zaw.i 1 F a c d e g h) (zaw.i 2 F a c d e g h) (zaw.b 3 F a c d e g h):=zll _
theorem zEi(F:Nat):yc PP 90 (unS (zz zpQ ki6 zaw F)):=
 gzz F (zQq zaM F) (zd (zFS F) zn)
def zNi:Cfg:=⟨[0,2,4],[],[],[]⟩
def zq3:Sg:=⟨[.i],.v (.int .u64)⟩
def zNj(F:Nat):=zS []
def zq4(F:Nat):FT ki:=fun a=>bif(decide (a<0))then some (.v (.int .u64 (wrap .u64 (0-(wrap .u64 a)))))else some (.v (.int .u64 (wrap .u64 a)))
def zbu:Qi:=mkQ (l:=ki) zq3.o zq4
theorem zNk(F:Nat):HHz zq3 ki (zNj F) zNi [] 185 (zq4 F):=hzz
theorem zNl(F:Nat)(a:Int):KO6 (zq4 F a) (zbu.ok F a) (zbu.i 0 F a):=ko6 _
theorem zNm(F:Nat):yc PP 185 (unS (zz zq3 ki zbu F)):=
 gzz F (zNk F) (zn)
def zoX(a m:Int):Int:=min (max a (-m)) m
def zv1(a m:Int):Bool:=decide (min (max a (-m)) m≠a)
def vc(x y z:Int)(c:Bool):VV:=.v (.tuple #[.agg #[.i x,.i y,.i z],.bool c])
theorem zSq{m:Int}(hm:0<=m/\m<=9223372036854775807):wrap .i64 (0-m)= -m:=by rw [zH (by unfold zr;omega),Int.zero_sub]
theorem zAM(F:Nat){a m:Int}(hm:0<=m):yd.ok F a (-m) m=true/\yd.i 0 F a (-m) m=zoX a m/\yd.b 1 F a (-m) m=zv1 a m:=by
 obtain⟨h1,h2,h3⟩:=zyd F _ _ _ (zJw F (a:=a) (l:= -m) (h:=m));rw [if_neg zc]at h2 h3;exact⟨h1,h2,h3⟩
theorem zQs(F:Nat){a0 a1 a2 m:Int}(hm:0<=m/\m<=9223372036854775807):yf.ok F 0 a0 a1 a2 m=true/\yf.i 0 F 0 a0 a1 a2 m=zoX a0 m/\yf.b 1 F 0 a0 a1 a2 m=zv1 a0 m:=by
 refine zoJ F _ _ _ _ _ ?_;unfold zfZ zfb;rw [zSq hm];obtain⟨h1,h2,h3⟩:=zAM F (a:=a0) hm.1;refine bp rfl (bp rfl (bp h1 ?_));exact congrArg some (show VV.v (.tuple #[.i (yd.i 0 F a0 (-m) m),.bool (yd.b 1 F a0 (-m) m)])=_ by rw [h2,h3])
theorem zSr(F:Nat)(hF:200<=F){a0 a1 a2 m:Int}(h:zr a0)(hm:zr m):yr.ok F 0 a0 a1 a2 m=true/\yr.i 0 F 0 a0 a1 a2 m=zld a0 m/\yr.b 1 F 0 a0 a1 a2 m=zuc a0 m:=by
 refine zqH F _ _ _ _ _ ?_;unfold zhJ zf3;obtain⟨h1,h2,h3⟩:=ztu F _ _ (zFF F hF h hm);refine bp rfl (bp rfl (bp h1 ?_));exact congrArg some (show VV.v (.tuple #[.i (zaH.i 0 F a0 m),.bool (zaH.b 1 F a0 m)])=_ by rw [h2,h3])
theorem zQt(F:Nat){a0 a1 a2 m:Int}(h:zr a0)(hm:zr m):yh.ok F 0 a0 a1 a2 m=true/\yh.i 0 F 0 a0 a1 a2 m=zh (znu (a0*m) 32)/\yh.b 1 F 0 a0 a1 a2 m=zw (znu (a0*m) 32):=by
 refine zoM F _ _ _ _ _ ?_;unfold zf2 zfd;obtain⟨h1,h2,h3⟩:=zM8 F h hm;refine bp rfl (bp rfl (bp h1 ?_));exact congrArg some (show VV.v (.tuple #[.i (zbk.i 0 F a0 m),.bool (zbk.b 1 F a0 m)])=_ by rw [h2,h3])
theorem zUA(F:Nat){a0 a1 a2 a3 a4 a5:Int}(h:zr a0)(hm:zr a3):yF.ok F 0 a0 a1 a2 a3 a4 a5=true/\yF.i 0 F 0 a0 a1 a2 a3 a4 a5=zh (a0-a3)/\yF.b 1 F 0 a0 a1 a2 a3 a4 a5=zw (a0-a3):=by
 refine zsG F _ _ _ _ _ _ _ ?_;unfold zku zhI;obtain⟨h1,h2,h3⟩:=zAB F h hm;refine bp rfl (bp rfl (bp rfl (bp rfl (bp h1 ?_))));exact congrArg some (show VV.v (.tuple #[.i (jl.i 0 F a0 a3),.bool (jl.b 1 F a0 a3)])=_ by rw [h2,h3])
theorem zQu(F:Nat){a0 a1 a2 m:Int}(hm:0<=m/\m<=9223372036854775807):yf.ok F 1 a0 a1 a2 m=true/\yf.i 0 F 1 a0 a1 a2 m=zoX a1 m/\yf.b 1 F 1 a0 a1 a2 m=zv1 a1 m:=by
 refine zoJ F _ _ _ _ _ ?_;unfold zfZ zfb;rw [zSq hm];obtain⟨h1,h2,h3⟩:=zAM F (a:=a1) hm.1;refine bp rfl (bp rfl (bp h1 ?_));exact congrArg some (show VV.v (.tuple #[.i (yd.i 0 F a1 (-m) m),.bool (yd.b 1 F a1 (-m) m)])=_ by rw [h2,h3])
theorem zSs(F:Nat)(hF:200<=F){a0 a1 a2 m:Int}(h:zr a1)(hm:zr m):yr.ok F 1 a0 a1 a2 m=true/\yr.i 0 F 1 a0 a1 a2 m=zld a1 m/\yr.b 1 F 1 a0 a1 a2 m=zuc a1 m:=by
 refine zqH F _ _ _ _ _ ?_;unfold zhJ zf3;obtain⟨h1,h2,h3⟩:=ztu F _ _ (zFF F hF h hm);refine bp rfl (bp rfl (bp h1 ?_));exact congrArg some (show VV.v (.tuple #[.i (zaH.i 0 F a1 m),.bool (zaH.b 1 F a1 m)])=_ by rw [h2,h3])
theorem zQv(F:Nat){a0 a1 a2 m:Int}(h:zr a1)(hm:zr m):yh.ok F 1 a0 a1 a2 m=true/\yh.i 0 F 1 a0 a1 a2 m=zh (znu (a1*m) 32)/\yh.b 1 F 1 a0 a1 a2 m=zw (znu (a1*m) 32):=by
 refine zoM F _ _ _ _ _ ?_;unfold zf2 zfd;obtain⟨h1,h2,h3⟩:=zM8 F h hm;refine bp rfl (bp rfl (bp h1 ?_));exact congrArg some (show VV.v (.tuple #[.i (zbk.i 0 F a1 m),.bool (zbk.b 1 F a1 m)])=_ by rw [h2,h3])
theorem zUB(F:Nat){a0 a1 a2 a3 a4 a5:Int}(h:zr a1)(hm:zr a4):yF.ok F 1 a0 a1 a2 a3 a4 a5=true/\yF.i 0 F 1 a0 a1 a2 a3 a4 a5=zh (a1-a4)/\yF.b 1 F 1 a0 a1 a2 a3 a4 a5=zw (a1-a4):=by
 refine zsG F _ _ _ _ _ _ _ ?_;unfold zku zhI;obtain⟨h1,h2,h3⟩:=zAB F h hm;refine bp rfl (bp rfl (bp rfl (bp rfl (bp h1 ?_))));exact congrArg some (show VV.v (.tuple #[.i (jl.i 0 F a1 a4),.bool (jl.b 1 F a1 a4)])=_ by rw [h2,h3])
theorem zQw(F:Nat){a0 a1 a2 m:Int}(hm:0<=m/\m<=9223372036854775807):yf.ok F 2 a0 a1 a2 m=true/\yf.i 0 F 2 a0 a1 a2 m=zoX a2 m/\yf.b 1 F 2 a0 a1 a2 m=zv1 a2 m:=by
 refine zoJ F _ _ _ _ _ ?_;unfold zfZ zfb;rw [zSq hm];obtain⟨h1,h2,h3⟩:=zAM F (a:=a2) hm.1;refine bp rfl (bp rfl (bp h1 ?_));exact congrArg some (show VV.v (.tuple #[.i (yd.i 0 F a2 (-m) m),.bool (yd.b 1 F a2 (-m) m)])=_ by rw [h2,h3])
theorem zSt(F:Nat)(hF:200<=F){a0 a1 a2 m:Int}(h:zr a2)(hm:zr m):yr.ok F 2 a0 a1 a2 m=true/\yr.i 0 F 2 a0 a1 a2 m=zld a2 m/\yr.b 1 F 2 a0 a1 a2 m=zuc a2 m:=by
 refine zqH F _ _ _ _ _ ?_;unfold zhJ zf3;obtain⟨h1,h2,h3⟩:=ztu F _ _ (zFF F hF h hm);refine bp rfl (bp rfl (bp h1 ?_));exact congrArg some (show VV.v (.tuple #[.i (zaH.i 0 F a2 m),.bool (zaH.b 1 F a2 m)])=_ by rw [h2,h3])
theorem zQx(F:Nat){a0 a1 a2 m:Int}(h:zr a2)(hm:zr m):yh.ok F 2 a0 a1 a2 m=true/\yh.i 0 F 2 a0 a1 a2 m=zh (znu (a2*m) 32)/\yh.b 1 F 2 a0 a1 a2 m=zw (znu (a2*m) 32):=by
 refine zoM F _ _ _ _ _ ?_;unfold zf2 zfd;obtain⟨h1,h2,h3⟩:=zM8 F h hm;refine bp rfl (bp rfl (bp h1 ?_));exact congrArg some (show VV.v (.tuple #[.i (zbk.i 0 F a2 m),.bool (zbk.b 1 F a2 m)])=_ by rw [h2,h3])
theorem zUC(F:Nat){a0 a1 a2 a3 a4 a5:Int}(h:zr a2)(hm:zr a5):yF.ok F 2 a0 a1 a2 a3 a4 a5=true/\yF.i 0 F 2 a0 a1 a2 a3 a4 a5=zh (a2-a5)/\yF.b 1 F 2 a0 a1 a2 a3 a4 a5=zw (a2-a5):=by
 refine zsG F _ _ _ _ _ _ _ ?_;unfold zku zhI;obtain⟨h1,h2,h3⟩:=zAB F h hm;refine bp rfl (bp rfl (bp rfl (bp rfl (bp h1 ?_))));exact congrArg some (show VV.v (.tuple #[.i (jl.i 0 F a2 a5),.bool (jl.b 1 F a2 a5)])=_ by rw [h2,h3])
def pr(a b:Int):Int:=a*b/4294967296+a*b/2147483648%2
theorem zzG(a b:Int):znu (a*b) 32=pr a b:=by
 unfold znu pr;rw [if_neg dcz,show(2:Int)^32=4294967296 from dcz,show(2:Int)^(32-1)=2147483648 from dcz]
theorem zGk(a b:Int):pr a b=pr b a:=by unfold pr;rw [Int.mul_comm]
theorem zKi{a b:Int}(ha:zr a)(hb:zr b): -19807040628566084398385987585<=pr a b/\pr a b<=19807040628566084398385987585:=by
 have:=zFp ha hb;unfold pr;omega
theorem zfD(F:Nat){a b:Int}(ha:zr a)(hb:zr b):yj.ok F a b=true/\yj.i 0 F a b=hi (pr a b)/\yj.i 1 F a b=lo (pr a b):=by
 refine zCa F _ _ ?_;unfold zoK zmN;obtain⟨h1,h2,h3⟩:=zVF F ha hb;obtain⟨n1,n2,n3⟩:=zRY F 32 (zO1 ha hb);rw [zUs,zzG]at n2 n3;refine bp h1 ?_;rw [h2,h3];refine bp n1 ?_;rw [n2,n3]
theorem zmU(F:Nat)(hF:200<=F){a b:Int}(ha:zr a)(hb:zr b):zM.ok F a b=true/\zM.i 0 F a b=hi (pr a b)/\zM.i 1 F a b=lo (pr a b):=by
 refine zy4 F _ _ ?_;unfold zk3 zi3;obtain⟨h1,h2,h3⟩:=zAv F hF ha hb;obtain⟨n1,n2,n3⟩:=zO0 F hF 32 (zO1 ha hb);rw [zUs,zzG]at n2 n3;refine bp h1 ?_;rw [h2,h3];refine bp n1 ?_;rw [n2,n3]
theorem zzH(F:Nat){z:Int}(h:zcr z):jx.ok F (hi z) (lo z)=true/\jx.i 0 F (hi z) (lo z)=zh z/\jx.b 1 F (hi z) (lo z)=zw z:=by
 refine zNe F _ _ ?_;unfold zuS zsF;obtain⟨h1,h2,h3⟩:=zR1 F h;refine bp h1 ?_;rw [h2,h3]
theorem zKj(F:Nat){z:Int}(h:zcr z):yZ.ok F (hi z) (lo z)=true/\yZ.i 0 F (hi z) (lo z)=zh z/\yZ.b 1 F (hi z) (lo z)=zw z:=by
 refine zF8 F _ _ ?_;unfold zqW zoS;obtain⟨h1,h2,h3⟩:=zFj F h;refine bp h1 ?_;rw [h2,h3]
theorem hl0:hi 0=0/\lo 0=0:=dcz
def jA(a0 a1 a2 a3 a4 a5:Int):Int:=pr a0 a3+pr a1 a4+pr a2 a5
theorem zVM{a0 a1 a2 a3 a4 a5:Int}(h0:zr a0)(h1:zr a1)(h2:zr a2)(h3:zr a3)(h4:zr a4)(h5:zr a5):zcr (jA a0 a1 a2 a3 a4 a5):=by
 have:=zKi h0 h3;have:=zKi h1 h4;have:=zKi h2 h5;unfold jA zcr;omega
theorem zXN(F:Nat)(hF:200<=F){a0 a1 a2 a3 a4 a5:Int}(h0:zr a0)(h1:zr a1)(h2:zr a2)(h3:zr a3)(h4:zr a4)(h5:zr a5):ztv F a0 a1 a2 a3 a4 a5=some (.v (.tuple #[.i (zh (jA a0 a1 a2 a3 a4 a5)),.bool (zw (jA a0 a1 a2 a3 a4 a5))])):=by
 obtain⟨p1,p2,p3⟩:=zfD F h0 h3;obtain⟨q1,q2,q3⟩:=zfD F h1 h4;obtain⟨r1,r2,r3⟩:=zfD F h2 h5;obtain⟨s1,s2,s3⟩:=zt2 F 0 (pr a0 a3);obtain⟨t1,t2,t3⟩:=zt2 F (pr a0 a3) (pr a1 a4);obtain⟨u1,u2,u3⟩:=zt2 F (pr a0 a3+pr a1 a4) (pr a2 a5);obtain⟨c1,c2,c3⟩:=zzH F (zVM h0 h1 h2 h3 h4 h5);rw [Int.zero_add]at s2 s3;obtain⟨G,hG⟩:∃G,F=G+4:=⟨F-4,zc⟩;have w1:wrap .i64 (0+1)=1:=dcz;have w2:wrap .i64 (1+1)=2:=dcz;have w3:wrap .i64 (2+1)=3:=dcz;unfold ztv zuY;rw [show zaV F _ F=zaV F _ (G+4)from congrArg (zaV F _) hG,zn2];unfold zg3 zfC;refine bp rfl (bp rfl (bp rfl (bp rfl (bp rfl (bp p1 ?_)))));have e0:(iv [.v (.i a0),.v (.i a1),.v (.i a2)][0+Int.toNat 0*1]?)=a0:=rfl
 have e3:(iv [.v (.i a3),.v (.i a4),.v (.i a5)][0+Int.toNat 0*1]?)=a3:=rfl;rw [e0,e3,p2,p3];have s1':zv.ok F 0 0 (hi (pr a0 a3)) (lo (pr a0 a3))=true:=s1;have s2':zv.i 0 F 0 0 (hi (pr a0 a3)) (lo (pr a0 a3))=hi (pr a0 a3):=s2;have s3':zv.i 1 F 0 0 (hi (pr a0 a3)) (lo (pr a0 a3))=lo (pr a0 a3):=s3;refine bp s1' ?_;rw [s2',s3',w1,zn2];unfold zg3 zfC;refine bp rfl (bp rfl (bp rfl (bp rfl (bp rfl (bp q1 ?_)))));have e1:(iv [.v (.i a0),.v (.i a1),.v (.i a2)][0+Int.toNat 1*1]?)=a1:=rfl;have e4:(iv [.v (.i a3),.v (.i a4),.v (.i a5)][0+Int.toNat 1*1]?)=a4:=rfl;rw [e1,e4,q2,q3];refine bp t1 ?_;rw [t2,t3,w2,zn2]
 unfold zg3 zfC;refine bp rfl (bp rfl (bp rfl (bp rfl (bp rfl (bp r1 ?_)))));have e2:(iv [.v (.i a0),.v (.i a1),.v (.i a2)][0+Int.toNat 2*1]?)=a2:=rfl;have e5:(iv [.v (.i a3),.v (.i a4),.v (.i a5)][0+Int.toNat 2*1]?)=a5:=rfl;rw [e2,e5,r2,r3];refine bp u1 ?_;rw [u2,u3,w3,zn2];unfold zg3 zfC;refine bn rfl ?_;have e:pr a0 a3+pr a1 a4+pr a2 a5=jA a0 a1 a2 a3 a4 a5:=rfl;rw [e];refine bp c1 ?_;rw [c2,c3]
theorem zKk(F:Nat)(hF:200<=F){a0 a1 a2 a3 a4 a5:Int}(h0:zr a0)(h1:zr a1)(h2:zr a2)(h3:zr a3)(h4:zr a4)(h5:zr a5):yO.ok F a0 a1 a2 a3 a4 a5=true/\yO.i 0 F a0 a1 a2 a3 a4 a5=zh (jA a0 a1 a2 a3 a4 a5)/\yO.b 1 F a0 a1 a2 a3 a4 a5=zw (jA a0 a1 a2 a3 a4 a5):=zQn F _ _ _ _ _ _ (zXN F hF h0 h1 h2 h3 h4 h5)
theorem zAN(F:Nat)(hF:200<=F){a0 a1 a2 a3 a4 a5:Int}(h0:zr a0)(h1:zr a1)(h2:zr a2)(h3:zr a3)(h4:zr a4)(h5:zr a5):yz.ok F a0 a1 a2 a3 a4 a5=true/\yz.i 0 F a0 a1 a2 a3 a4 a5=zh (jA a0 a1 a2 a3 a4 a5)/\yz.b 1 F a0 a1 a2 a3 a4 a5=zw (jA a0 a1 a2 a3 a4 a5):=by
 refine zJZ F _ _ _ _ _ _ ?_;unfold zsL zqY;obtain⟨p1,p2,p3⟩:=zmU F hF h0 h3;obtain⟨q1,q2,q3⟩:=zmU F hF h1 h4;obtain⟨r1,r2,r3⟩:=zmU F hF h2 h5;obtain⟨t1,t2,t3⟩:=zfN F hF (pr a0 a3) (pr a1 a4);obtain⟨u1,u2,u3⟩:=zfN F hF (pr a0 a3+pr a1 a4) (pr a2 a5);obtain⟨c1,c2,c3⟩:=zKj F (zVM h0 h1 h2 h3 h4 h5);unfold jA at c1 c2 c3⊢;refine bp p1 (bp q1 ?_);rw [p2,p3,q2,q3];refine bp t1 (bp r1 ?_);rw [t2,t3,r2,r3];refine bp u1 ?_;rw [u2,u3];refine bp c1 ?_;rw [c2,c3]
def arZ(a b c d:Int):Int:=pr a b-pr c d
theorem zUD{a b c d:Int}(h0:zr a)(h1:zr b)(h2:zr c)(h3:zr d):zcr (arZ a b c d):=by
 have:=zKi h0 h1;have:=zKi h2 h3;unfold arZ zcr;omega
theorem zQy(F:Nat){a0 a1 a2 a3 a4 a5:Int}(h0:zr a0)(h1:zr a1)(h2:zr a2)(h3:zr a3)(h4:zr a4)(h5:zr a5):yg.ok F 0 a0 a1 a2 a3 a4 a5=true/\yg.i 0 F 0 a0 a1 a2 a3 a4 a5=zh (arZ a1 a5 a2 a4)/\yg.b 1 F 0 a0 a1 a2 a3 a4 a5=zw (arZ a1 a5 a2 a4):=by
 refine zoL F _ _ _ _ _ _ _ ?_;unfold zf1 zfc;obtain⟨p1,p2,p3⟩:=zfD F h1 h5;obtain⟨q1,q2,q3⟩:=zfD F h2 h4;obtain⟨n1,n2,n3⟩:=zI9 F (pr a2 a4);obtain⟨s1,s2,s3⟩:=zt2 F (pr a1 a5) (-pr a2 a4);obtain⟨c1,c2,c3⟩:=zzH F (zUD h1 h5 h2 h4);unfold arZ at c1 c2 c3⊢;rw [Int.sub_eq_add_neg]at c1 c2 c3⊢;have w1:Int.tmod (wrap .i64 (0+1)) 3=1:=dcz;have w2:Int.tmod (wrap .i64 (0+2)) 3=2:=dcz;rw [w1,w2];refine bp rfl (bp rfl (bp rfl (bp rfl (bp p1 (bp rfl (bp rfl (bp rfl (bp rfl (bp q1 ?_)))))))));have e1:(iv [.v (.i a0),.v (.i a1),.v (.i a2)][0+Int.toNat 1*1]?)=a1:=rfl;have e2:(iv [.v (.i a0),.v (.i a1),.v (.i a2)][0+Int.toNat 2*1]?)=a2:=rfl
 have e3:(iv [.v (.i a3),.v (.i a4),.v (.i a5)][0+Int.toNat 1*1]?)=a4:=rfl;have e4:(iv [.v (.i a3),.v (.i a4),.v (.i a5)][0+Int.toNat 2*1]?)=a5:=rfl;rw [e1,e2,e3,e4,p2,p3,q2,q3];refine bp n1 ?_;rw [n2,n3];refine bp s1 ?_;rw [s2,s3];refine bp c1 ?_;rw [c2,c3]
theorem zQz(F:Nat){a0 a1 a2 a3 a4 a5:Int}(h0:zr a0)(h1:zr a1)(h2:zr a2)(h3:zr a3)(h4:zr a4)(h5:zr a5):yg.ok F 1 a0 a1 a2 a3 a4 a5=true/\yg.i 0 F 1 a0 a1 a2 a3 a4 a5=zh (arZ a2 a3 a0 a5)/\yg.b 1 F 1 a0 a1 a2 a3 a4 a5=zw (arZ a2 a3 a0 a5):=by
 refine zoL F _ _ _ _ _ _ _ ?_;unfold zf1 zfc;obtain⟨p1,p2,p3⟩:=zfD F h2 h3;obtain⟨q1,q2,q3⟩:=zfD F h0 h5;obtain⟨n1,n2,n3⟩:=zI9 F (pr a0 a5);obtain⟨s1,s2,s3⟩:=zt2 F (pr a2 a3) (-pr a0 a5);obtain⟨c1,c2,c3⟩:=zzH F (zUD h2 h3 h0 h5);unfold arZ at c1 c2 c3⊢;rw [Int.sub_eq_add_neg]at c1 c2 c3⊢;have w1:Int.tmod (wrap .i64 (1+1)) 3=2:=dcz;have w2:Int.tmod (wrap .i64 (1+2)) 3=0:=dcz;rw [w1,w2];refine bp rfl (bp rfl (bp rfl (bp rfl (bp p1 (bp rfl (bp rfl (bp rfl (bp rfl (bp q1 ?_)))))))));have e1:(iv [.v (.i a0),.v (.i a1),.v (.i a2)][0+Int.toNat 2*1]?)=a2:=rfl;have e2:(iv [.v (.i a0),.v (.i a1),.v (.i a2)][0+Int.toNat 0*1]?)=a0:=rfl
 have e3:(iv [.v (.i a3),.v (.i a4),.v (.i a5)][0+Int.toNat 2*1]?)=a5:=rfl;have e4:(iv [.v (.i a3),.v (.i a4),.v (.i a5)][0+Int.toNat 0*1]?)=a3:=rfl;rw [e1,e2,e3,e4,p2,p3,q2,q3];refine bp n1 ?_;rw [n2,n3];refine bp s1 ?_;rw [s2,s3];refine bp c1 ?_;rw [c2,c3]
theorem zQA(F:Nat){a0 a1 a2 a3 a4 a5:Int}(h0:zr a0)(h1:zr a1)(h2:zr a2)(h3:zr a3)(h4:zr a4)(h5:zr a5):yg.ok F 2 a0 a1 a2 a3 a4 a5=true/\yg.i 0 F 2 a0 a1 a2 a3 a4 a5=zh (arZ a0 a4 a1 a3)/\yg.b 1 F 2 a0 a1 a2 a3 a4 a5=zw (arZ a0 a4 a1 a3):=by
 refine zoL F _ _ _ _ _ _ _ ?_;unfold zf1 zfc;obtain⟨p1,p2,p3⟩:=zfD F h0 h4;obtain⟨q1,q2,q3⟩:=zfD F h1 h3;obtain⟨n1,n2,n3⟩:=zI9 F (pr a1 a3);obtain⟨s1,s2,s3⟩:=zt2 F (pr a0 a4) (-pr a1 a3);obtain⟨c1,c2,c3⟩:=zzH F (zUD h0 h4 h1 h3);unfold arZ at c1 c2 c3⊢;rw [Int.sub_eq_add_neg]at c1 c2 c3⊢;have w1:Int.tmod (wrap .i64 (2+1)) 3=0:=dcz;have w2:Int.tmod (wrap .i64 (2+2)) 3=1:=dcz;rw [w1,w2];refine bp rfl (bp rfl (bp rfl (bp rfl (bp p1 (bp rfl (bp rfl (bp rfl (bp rfl (bp q1 ?_)))))))));have e1:(iv [.v (.i a0),.v (.i a1),.v (.i a2)][0+Int.toNat 0*1]?)=a0:=rfl;have e2:(iv [.v (.i a0),.v (.i a1),.v (.i a2)][0+Int.toNat 1*1]?)=a1:=rfl
 have e3:(iv [.v (.i a3),.v (.i a4),.v (.i a5)][0+Int.toNat 0*1]?)=a3:=rfl;have e4:(iv [.v (.i a3),.v (.i a4),.v (.i a5)][0+Int.toNat 1*1]?)=a4:=rfl;rw [e1,e2,e3,e4,p2,p3,q2,q3];refine bp n1 ?_;rw [n2,n3];refine bp s1 ?_;rw [s2,s3];refine bp c1 ?_;rw [c2,c3]
theorem zUE(F:Nat)(hF:200<=F){a0 a1 a2 a3 a4 a5:Int}(h0:zr a0)(h1:zr a1)(h2:zr a2)(h3:zr a3)(h4:zr a4)(h5:zr a5):zao.ok F a0 a1 a2 a3 a4 a5=true/\zao.i 0 F a0 a1 a2 a3 a4 a5=zh (arZ a1 a5 a2 a4)/\zao.i 1 F a0 a1 a2 a3 a4 a5=zh (arZ a2 a3 a0 a5)/\zao.i 2 F a0 a1 a2 a3 a4 a5=zh (arZ a0 a4 a1 a3)/\zao.b 3 F a0 a1 a2 a3 a4 a5=(zw (arZ a1 a5 a2 a4)||zw (arZ a2 a3 a0 a5)||zw (arZ a0 a4 a1 a3)):=by
 refine zKc F _ _ _ _ _ _ ?_;unfold zsP zq1;obtain⟨e1,e2,e3,e4,e5⟩:=zFL F _ _ _ _ _ _ (zCk F hF (zQy F h0 h1 h2 h3 h4 h5) (zQz F h0 h1 h2 h3 h4 h5) (zQA F h0 h1 h2 h3 h4 h5));refine bp e1 ?_;rw [e2,e3,e4,e5]
theorem zNn(F:Nat)(hF:200<=F){a b c d:Int}(h0:zr a)(h1:zr b)(h2:zr c)(h3:zr d):jW.ok F a b c d=true/\jW.i 0 F a b c d=zh (arZ a b c d)/\jW.b 1 F a b c d=zw (arZ a b c d):=by
 refine zGc F _ _ _ _ ?_;unfold zqX zoT;obtain⟨p1,p2,p3⟩:=zmU F hF h0 h1;obtain⟨q1,q2,q3⟩:=zmU F hF h2 h3;obtain⟨n1,n2,n3⟩:=zAt F hF (pr c d);obtain⟨s1,s2,s3⟩:=zfN F hF (pr a b) (-pr c d);obtain⟨c1,c2,c3⟩:=zKj F (zUD h0 h1 h2 h3);unfold arZ at c1 c2 c3⊢;rw [Int.sub_eq_add_neg]at c1 c2 c3⊢;refine bp p1 (bp q1 ?_);rw [p2,p3,q2,q3];refine bp n1 ?_;rw [n2,n3];refine bp s1 ?_;rw [s2,s3];refine bp c1 ?_;rw [c2,c3]
theorem or3{x y z:Int}{a b c:Bool}:(bif a then(some (VV.v (.tuple #[.agg #[.i x,.i y,.i z],.bool true])):R)else(bif b then(some (.v (.tuple #[.agg #[.i x,.i y,.i z],.bool true])))else(some (.v (.tuple #[.agg #[.i x,.i y,.i z],.bool c])))))=some (.v (.tuple #[.agg #[.i x,.i y,.i z],.bool (a||b||c)])):=by
 cases a<;>cases b<;>rfl
theorem zSu(F:Nat)(hF:200<=F){a0 a1 a2 a3 a4 a5:Int}(h0:zr a0)(h1:zr a1)(h2:zr a2)(h3:zr a3)(h4:zr a4)(h5:zr a5):ju.ok F a0 a1 a2 a3 a4 a5=true/\ju.i 0 F a0 a1 a2 a3 a4 a5=zh (arZ a1 a5 a2 a4)/\ju.i 1 F a0 a1 a2 a3 a4 a5=zh (arZ a2 a3 a0 a5)/\ju.i 2 F a0 a1 a2 a3 a4 a5=zh (arZ a0 a4 a1 a3)/\ju.b 3 F a0 a1 a2 a3 a4 a5=(zw (arZ a1 a5 a2 a4)||zw (arZ a2 a3 a0 a5)||zw (arZ a0 a4 a1 a3)):=by
 refine zCz F _ _ _ _ _ _ ?_;unfold zoU zmS;obtain⟨p1,p2,p3⟩:=zNn F hF h1 h5 h2 h4;obtain⟨q1,q2,q3⟩:=zNn F hF h2 h3 h0 h5;obtain⟨r1,r2,r3⟩:=zNn F hF h0 h4 h1 h3;refine bp p1 (bp q1 (bp r1 ?_));rw [p2,p3,q2,q3,r2,r3];exact or3
theorem zVN(F:Nat)(hF:200<=F){a0 a1 a2 a3 a4 a5:Int}(h0:zr a0)(h1:zr a1)(h2:zr a2)(h3:zr a3)(h4:zr a4)(h5:zr a5):zaw.ok F a0 a1 a2 a3 a4 a5=true/\zaw.i 0 F a0 a1 a2 a3 a4 a5=zh (a0-a3)/\zaw.i 1 F a0 a1 a2 a3 a4 a5=zh (a1-a4)/\zaw.i 2 F a0 a1 a2 a3 a4 a5=zh (a2-a5)/\zaw.b 3 F a0 a1 a2 a3 a4 a5=(zw (a0-a3)||zw (a1-a4)||zw (a2-a5)):=by
 refine zQr F _ _ _ _ _ _ ?_;unfold zxj zuZ;obtain⟨e1,e2,e3,e4,e5⟩:=zFR F _ _ _ _ _ _ (zCm F hF (zUA F h0 h3) (zUB F h1 h4) (zUC F h2 h5));refine bp e1 ?_;rw [e2,e3,e4,e5]
theorem zO7(F:Nat)(hF:200<=F){a0 a1 a2 a3 a4 a5:Int}(h0:zr a0)(h1:zr a1)(h2:zr a2)(h3:zr a3)(h4:zr a4)(h5:zr a5):jo.ok F a0 a1 a2 a3 a4 a5=true/\jo.i 0 F a0 a1 a2 a3 a4 a5=zh (a0-a3)/\jo.i 1 F a0 a1 a2 a3 a4 a5=zh (a1-a4)/\jo.i 2 F a0 a1 a2 a3 a4 a5=zh (a2-a5)/\jo.b 3 F a0 a1 a2 a3 a4 a5=(zw (a0-a3)||zw (a1-a4)||zw (a2-a5)):=by
 refine zJ3 F _ _ _ _ _ _ ?_;unfold zsN zqZ;obtain⟨p1,p2,p3⟩:=zko F _ _ (zvN F hF h0 h3);obtain⟨q1,q2,q3⟩:=zko F _ _ (zvN F hF h1 h4);obtain⟨r1,r2,r3⟩:=zko F _ _ (zvN F hF h2 h5);refine bp p1 (bp q1 (bp r1 ?_));rw [p2,p3,q2,q3,r2,r3];exact or3
theorem zO8(F:Nat)(hF:200<=F){a0 a1 a2 a3:Int}(h0:zr a0)(h1:zr a1)(h2:zr a2)(h3:zr a3):jp.ok F a0 a1 a2 a3=true/\jp.i 0 F a0 a1 a2 a3=zh (pr a0 a3)/\jp.i 1 F a0 a1 a2 a3=zh (pr a1 a3)/\jp.i 2 F a0 a1 a2 a3=zh (pr a2 a3)/\jp.b 3 F a0 a1 a2 a3=(zw (pr a0 a3)||zw (pr a1 a3)||zw (pr a2 a3)):=by
 refine zKh F _ _ _ _ ?_;unfold zsQ zq2;obtain⟨e1,e2,e3,e4,e5⟩:=zFU F _ _ _ _ (zCn F hF (zQt F h0 h3) (zQv F h1 h3) (zQx F h2 h3));refine bp e1 ?_;rw [e2,e3,e4,e5];simp only [zzG]
theorem zEj(F:Nat)(hF:200<=F){a0 a1 a2 a3:Int}(h0:zr a0)(h1:zr a1)(h2:zr a2)(h3:zr a3):yH.ok F a0 a1 a2 a3=true/\yH.i 0 F a0 a1 a2 a3=zh (pr a0 a3)/\yH.i 1 F a0 a1 a2 a3=zh (pr a1 a3)/\yH.i 2 F a0 a1 a2 a3=zh (pr a2 a3)/\yH.b 3 F a0 a1 a2 a3=(zw (pr a0 a3)||zw (pr a1 a3)||zw (pr a2 a3)):=by
 refine zCE F _ _ _ _ ?_;unfold zoV zmT;obtain⟨p1,p2,p3⟩:=zsw F _ _ (zFq F hF h0 h3);obtain⟨q1,q2,q3⟩:=zsw F _ _ (zFq F hF h1 h3);obtain⟨r1,r2,r3⟩:=zsw F _ _ (zFq F hF h2 h3);refine bp p1 (bp q1 (bp r1 ?_));rw [p2,p3,q2,q3,r2,r3];simp only [zzG];exact or3
theorem mx0{a:Int}:(if 0>a then 0 else a)=max a 0:=by split<;>omega
theorem zSv(F:Nat)(hF:200<=F){a0 a1 a2 a3:Int}(h3:zr a3):zaU.ok F a0 a1 a2 a3=true/\zaU.i 0 F a0 a1 a2 a3=zoX a0 (max a3 0)/\zaU.i 1 F a0 a1 a2 a3=zoX a1 (max a3 0)/\zaU.i 2 F a0 a1 a2 a3=zoX a2 (max a3 0)/\zaU.b 3 F a0 a1 a2 a3=(zv1 a0 (max a3 0)||zv1 a1 (max a3 0)||zv1 a2 (max a3 0)):=by
 refine zJ7 F _ _ _ _ ?_;unfold zsO zq0;rw [mx0];have hm:0<=max a3 0/\max a3 0<=9223372036854775807:=by unfold zr at h3;omega
 obtain⟨e1,e2,e3,e4,e5⟩:=zNg F _ _ _ _ (zJP F hF (zQs F hm) (zQu F hm) (zQw F hm));refine bp e1 ?_;rw [e2,e3,e4,e5]
theorem zgv(F:Nat){a m:Int}(hm:0<=m):jH.ok F a (-m) m=true/\jH.i 0 F a (-m) m=zoX a m/\jH.b 1 F a (-m) m=zv1 a m:=by
 refine zCu F _ _ _ ?_;unfold zjJ zoX zv1;have cong:∀{n z:Int} {c d:Bool},n=z->c=d->(some (VV.v (.tuple #[.i n,.bool c])):R)=some (.v (.tuple #[.i z,.bool d])):=by intro n z c d h k;rw [h,k]
 refine bn (df zc) ?_;by_cases h1:a>m
 ·refine bp (dt h1) (bn (df zc) (cong zc ?_))
  rw [show min (max a (-m)) m=m from zc,Bool.eq_iff_iff];simp
 ·refine bn (df h1) ?_
  by_cases h2:a< -m
  ·refine bp (dt h2) (cong zc ?_)
   rw [show min (max a (-m)) m= -m from zc,Bool.eq_iff_iff];simp
  ·refine bn (df h2) (cong zc ?_)
   rw [show min (max a (-m)) m=a from zc];simp
theorem zQB{a:Int}(h:zr a):U64 (sz a):=by unfold sz;unfold zr at h;unfold U64;split<;>omega
theorem zSw(a:Int):sz a*sz a=a*a:=by
 unfold sz;split
 ·rw [Int.neg_mul_neg]
 ·rfl
theorem zGl(F:Nat){a:Int}(h:zr a):zbu.ok F a=true/\zbu.i 0 F a=sz a:=by
 refine zNl F _ ?_;unfold zq4 sz;unfold zr at h;by_cases hs:a<0
 ·refine bp (dt hs) ?_
  rw [if_pos hs,zd2,zd2];congr 3
  omega
 ·refine bn (df hs) ?_
  rw [if_neg hs,zd2];congr 3
  omega
theorem zAO(F:Nat){a:Int}(h:zr a):zaO.ok F a=true/\zaO.i 0 F a=sz a:=by
 refine zGh F _ ?_;unfold zlN sz;unfold zr at h;by_cases hs:a<0
 ·refine bp (dt hs) ?_
  rw [if_pos hs,zH (x:=a+1) (by unfold zr;omega),zH (by unfold zr;omega),zd2,zd2];congr 3
  omega
 ·refine bn (df hs) ?_
  rw [if_neg hs,zd2];congr 3
  omega
def sq3(a b c:Int):Int:=a*a+b*b+c*c
noncomputable def zr2(z:Int):Int:=if z<85070591730234615865843651857942052864 then rt z else 9223372036854775807
def zv2(z:Int):Bool:=decide (85070591730234615865843651857942052864<=z)
theorem zlO{a:Int}(h:zr a):0<=a*a/\a*a<=85070591730234615865843651857942052864:=by
 have h1:=zSw a;have h2:0<=sz a/\sz a<=9223372036854775808:=by unfold sz;unfold zr at h;split<;>omega
 have h3:=zyf h2.1 h2.2;have h4:=Int.mul_nonneg h2.1 h2.1;omega
theorem zKl{z:Int}(h0:0<=z):(rt z<=9223372036854775807)↔z<85070591730234615865843651857942052864:=by
 obtain⟨h1,h2,h3⟩:=zvQ h0;constructor
 ·intro h
  have:=zyf (x:=rt z+1) (y:=9223372036854775808) zc zc;omega
 ·intro h
  rcases Int.lt_or_le 9223372036854775807 (rt z)with hl|hl
  ·have:=zyf (x:=9223372036854775808) (y:=rt z) zc zc
   omega
  ·exact hl
def lp(z:Int):Prop:=z<170141183460469231731687303715884105728
theorem zAP{n:Int}{c:Bool}{z:Int}(h:n=zr2 z)(k:c=zv2 z):(some (VV.v (.tuple #[.i n,.bool c])):R)=some (.v (.tuple #[.i (zr2 z),.bool (zv2 z)])):=by rw [h,k]
theorem zzI{z:Int}(h:170141183460469231731687303715884105728<=z):(some (VV.v (.tuple #[.i 9223372036854775807,.bool true])):R)=some (.v (.tuple #[.i (zr2 z),.bool (zv2 z)])):=by
 refine zAP ?_ ?_
 ·unfold zr2;rw [if_neg zc]
 ·unfold zv2;rw [dt zc]
theorem zWu{z:Int}(h0:0<=z)(h1:z<340282366920938463463374607431768211456):(170141183460469231731687303715884105728<=z↔W z<0):=by unfold W;omega
def zmV:Cfg:=⟨[0,1,2,3,4,5,6,10,22,29],[(0,[0,1,2,3,4,5,6,7,8,23,24,25,26,27,28,29,30,31])],[17,18],[]⟩
def zhZ:Sg:=⟨[.v (.agg [.i,.i,.i])],.v (.tup [.i,.bool])⟩
def zmW(zaO zW:Qi)(ze:Qi4)(zax:jQ)(F:Nat):=zS [(182,zz zlM ki zaO F),(181,zz ze9 ki zW F),(80,zz zbP ki4 ze F),(183,zz zlv ki2 zax F)]
def zec:TS:=⟨[(0,.v (.agg [.i,.i,.i])),(1,.lp 0 (.lit 0)),(2,.i),(3,.v (.bool)),(4,.lp 1 (.lit 0)),(5,.i)],[(0,⟨(.ex [.i,.i,.i]),true⟩),(1,⟨(.ex [.i,.v (.int .u64)]),true⟩)],2⟩
def zu0:TS:=zec
def zu1:TS:=zec
def zcL(zaO zW:Qi)(ze:Qi4)(F:Nat)(r h l:FT zeR):FT zeR:=fun m o p x y b c d e g a=>bif(decide (b<3))then bif((decide (0<=b))&&(decide (b<3)))then let z:Nat:=0+((Int.toNat b)*1);bif((isI .i64 [.v (.i c),.v (.i d),.v (.i e)][z]?)&&true)then let f:Int:=iv [.v (.i c),.v (.i d),.v (.i e)][z]?;bif(zaO.ok F f)then let s:Int:=zaO.i 0 F f;bif(zW.ok F s)then let t:Int:=zW.i 0 F s;let u:Int:=zW.i 1 F s;bif(ze.ok F g a t u)then let w:Int:=ze.i 0 F g a t u;let n:Int:=ze.i 1 F g a t u;bif(decide (w<0))then h m o p 9223372036854775807 true b c d e w n else r m o p x y (wrap .i64 (b+1)) c d e w n else none else none else none else none else none else l m o p x y b c d e g a
def zc5:=zcL zaO zW ze
def yV(F:Nat)(a b:FT zeR):Nat->FT zeR:=lY fun c=>zc5 F c a b
theorem zfE{F n}{a}{b}:yV F a b (n+1)=zc5 F (yV F a b n) a b:=rfl
def zgQ(k:Exit->VS->R):FT zeR:=cQ _ fun q=>k .ret (fS zu0 q)
def zgR(k:Exit->VS->R):FT zeR:=cQ _ fun q=>k (.exit 0) (fS zu1 q)
def zfe(yV:Nat->FT zeR->FT zeR->Nat->FT zeR)(F:Nat):List LW:=[⟨0,zec,fun k q=>uQ _ (yV F (zgQ k) (zgR k) F) q⟩]
theorem zv3(F:Nat)(k:Exit->VS->R):∀n q,iQ PP (zmW zaO zW ze zax F) zmV (zfe yV F) [] 168 0 0 k n zec q=uQ _ (yV F (zgQ k) (zgR k) n) q:=
 lG (fun _=>by kernel_rfl) ((hzz:∀(zaO:Qi) (zW:Qi) (ze:Qi4) (zax:jQ) (yV:Nat->FT zeR->FT zeR->Nat->FT zeR),LH PP (zmW zaO zW ze zax F) zmV (zfe yV F) [] 168 0 0 k zec (fun a=>zcL zaO zW ze F a (zgQ k) (zgR k))) zaO zW ze zax yV)
def zk4(zax:jQ)(yV:Nat->FT zeR->FT zeR->Nat->FT zeR)(F:Nat):FT ki3:=fun g h l=>yV F (fun B C D d e m o p s t u=>some (.v (.tuple #[.i d,.bool e]))) (fun w x y z f n r j A a b=>bif(zax.ok F a b)then let c:Int:=zax.i 0 F a b;bif(decide (c>9223372036854775807))then some (.v (.tuple #[.i 9223372036854775807,.bool true]))else some (.v (.tuple #[.i (wrap .i64 c),.bool false]))else none) F g h l 0 false 0 g h l 0 0
def zh0:=zk4 zax yV
def zal:Qi3:=mkQ (l:=ki3) zhZ.o zh0
theorem zAQ(zaO zW:Qi)(ze:Qi4)(zax:jQ)(yV:Nat->FT zeR->FT zeR->Nat->FT zeR)(F:Nat):HHz zhZ ki3 (zmW zaO zW ze zax F) zmV (zfe yV F) 168 (zk4 zax yV F):=hzz
theorem zAR(F:Nat)(a c d:Int):KO4 (zh0 F a c d) (zal.ok F a c d) (zal.i 0 F a c d) (zal.b 1 F a c d):=ko4 _
theorem zAS(F:Nat):yc PP 168 (unS (zz zhZ ki3 zal F)):=
 gzl (W:=zfe yV) F (zAQ zaO zW ze zax yV F) (zd (zGi F) (zd (zsB F) (zd (zcF F) (zd (zFE F) zn)))) (jP [(0,zaK PP 168 0)] kfz (zd (jZ (zfe yV F) rfl (yn (fun _ k q=>Le.ofEq (zv3 F k F q).symm) jY)) zn))
def zGm:Cfg:=⟨[0,1,2,3,4,5,6,8,10,21],[],[],[]⟩
def zlP:Sg:=⟨[.v (.agg [.i,.i,.i])],.v (.tup [.agg [.i,.i,.i],.bool])⟩
def zGn(zal:Qi3)(zaD:jQ)(F:Nat):=zS [(168,zz zhZ ki3 zal F),(61,zz zkt ki2 zaD F)]
def zoY(zal:Qi3)(zaD:jQ)(F:Nat):FT ki3:=fun c d e=>bif(zal.ok F c d e)then let a:Int:=zal.i 0 F c d e;bif(a==0)then some (.v (.tuple #[.agg #[.i 0,.i 0,.i 0],.bool false]))else bif(zal.b 1 F c d e)then some (.v (.tuple #[.agg #[.i 0,.i 0,.i 0],.bool false]))else bif(zaD.ok F c a)then bif(zaD.ok F d a)then bif(zaD.ok F e a)then some (.v (.tuple #[.agg #[.i (zaD.i 0 F c a),.i (zaD.i 0 F d a),.i (zaD.i 0 F e a)],.bool true]))else none else none else none else none
def zlQ:=zoY zal zaD
def ja:Qi3:=mkQ (l:=ki3) zlP.o zlQ
theorem zGo(zal:Qi3)(zaD:jQ)(F:Nat):HHz zlP ki3 (zGn zal zaD F) zGm [] 146 (zoY zal zaD F):=hzz
theorem zGp(F:Nat)(a c d:Int):zkR (zlQ F a c d) (ja.ok F a c d) (ja.i 0 F a c d) (ja.i 1 F a c d) (ja.i 2 F a c d) (ja.b 3 F a c d):=zll _
theorem zGq(F:Nat):yc PP 146 (unS (zz zlP ki3 ja F)):=
 gzz F (zGo zal zaD F) (zd (zAS F) (zd (zyg F) zn))
end Go.Xv
