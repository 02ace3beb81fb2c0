/- A function of the program, run on values of which the numbers are not known: an interpreter, and that what it answers is what the program does. -/
import Derived.Test.YtiahhalhbacgaaaGreatB
import Derived.Carry
import Derived.RowKit
import Derived.ChangeSame
import Derived.ChangeArms
import Derived.OpenShut
import Derived.WalkKit
import Derived.ProofKit
import Derived.JoinedOf
import Derived.Test.YtiahhalhbacgaaaGreatRows
namespace Go.Xv

/-- What a says, b says too. -/
def Le (a b : R) : Prop := ∀ r, a = some r → b = some r
theorem Le.refl (a : R) : Le a a := fun _ h => h
theorem Le.none (a : R) : Le none a := fun _ h => by cases h
theorem Le.trans {a b c : R} (h : Le a b) (k : Le b c) : Le a c := fun r hr => k r (h r hr)
theorem Le.bif {c : Bool} {a b a' b' : R} (h : Le a a') (k : Le b b') : Le (bif c then a else b) (bif c then a' else b') := by
  cases c
  · exact k
  · exact h

section
variable {P : Program} {S : FuncId → List VV → Option (Bool × VV)} {ro : List Nat}

theorem stepK_mono {m : List (Nat × Blk)} {ok : Eff → Bool} {o : Oper} {st : VS} {k k' : VS → Eff → R} (h : ∀ s e, Le (k s e) (k' s e)) : Le (stepK P S ro m ok o st k) (stepK P S ro m ok o st k') := by
  unfold stepK
  cases effE P S ro (get? st.t) (get? m) (get? st.m) st.n o with
  | none => exact Le.refl _
  | some x => exact Le.bif (Le.bif (h _ _) (Le.refl _)) (Le.refl _)

theorem guardK_mono {ops : Array Oper} {o : Oper} {st : VS} {run run' skip skip' : VS → R} (h : ∀ s, Le (run s) (run' s)) (h' : ∀ s, Le (skip s) (skip' s)) : Le (guardK ops o st run skip) (guardK ops o st run' skip') := by
  unfold guardK
  split
  · exact h _
  · split
    · exact Le.refl _
    · split
      · exact Le.bif (Le.bif (h _) (h' _)) (Le.bif (h' _) (h _))
      · exact Le.bif (h' _) (Le.refl _)
      · exact Le.refl _

theorem opsK_mono {ops : Array Oper} : ∀ (l : List Oper) (st : VS) {k k' : VS → R}, (∀ s, Le (k s) (k' s)) → Le (opsK P S ro ops l st k) (opsK P S ro ops l st k')
  | [], _, _, _, h => h _
  | o :: r, st, k, k', h => by
    unfold opsK
    exact guardK_mono (fun s => stepK_mono fun _ _ => opsK_mono r _ h) (fun s => opsK_mono r _ h)

theorem drawK_mono {ops : Array Oper} {m : List (Nat × Blk)} {n0 : Nat} {pre : List Nat} : ∀ (l : List Oper) (i : Nat) (lg : List Log) (st : VS) {k k' : VS → R}, (∀ s, Le (k s) (k' s)) →
    Le (drawK P S ro ops m n0 pre l i lg st k) (drawK P S ro ops m n0 pre l i lg st k')
  | [], _, _, _, _, _, h => h _
  | o :: r, i, lg, st, k, k', h => by
    unfold drawK
    exact guardK_mono (fun s => stepK_mono fun _ _ => drawK_mono r _ _ _ h) (fun s => Le.bif (drawK_mono r _ _ _ h) (Le.refl _))

theorem region_mono {C : Cfg} {ops : Array Oper} {draw : Bool} {st : VS} {k k' : VS → R} (h : ∀ s, Le (k s) (k' s)) : Le (region P S C ops draw st k) (region P S C ops draw st k') := by
  unfold region
  exact Le.bif (Le.bif (Le.refl _) (drawK_mono _ _ _ _ fun _ => h _)) (opsK_mono _ _ fun _ => h _)
end

/-- a loop whose states are laid in order at its head already. -/
def iterC (step : VS → (Exit → VS → R) → R) (h : VS → VS) (k : Exit → VS → R) : Nat → VS → R
  | 0, _ => none
  | n + 1, st => step st fun e st' => match e with
    | .normal => iterC step h k n (h st')
    | e => k e st'
theorem iter_eq (step : VS → (Exit → VS → R) → R) (h : VS → VS) (k : Exit → VS → R) : ∀ (n : Nat) (st : VS), iter step h k n st = iterC step h k n (h st)
  | 0, _ => rfl
  | n + 1, st => by
    unfold iter iterC
    congr 1
    funext e st'
    cases e <;> try rfl
    exact iter_eq step h k n st'

section
variable (P : Program) (S : FuncId → List VV → Option (Bool × VV))

/-- 'codeK', its loops, and what follows where ways meet, answered by tables. -/
def codeL (C : Cfg) (I : Nat → VS → (Exit → VS → R) → R) (J : Nat → Nat → VS → (Exit → VS → R) → R) : Code → Nat → VS → (Exit → VS → R) → R
  | .skip, _, st, k => k .normal st
  | .region _ ops draw, _, st, k => region P S C ops draw st (k .normal)
  | .seq a b, j, st, k => codeL C I J a j st fun e st => match e with
    | .normal => (match joinK C b with
      | some K => J ((fstR b).getD 0) j (canon K st) k
      | none => codeL C I J b j st k)
    | e => k e st
  | .cond c a b, j, st, k => match ev (get? st.t) c with
    | some (.v (.bool g)) => match c with
      | .tmp d => bif g then codeL C I J a j { st with t := del d st.t } k else codeL C I J b j { st with t := del d st.t } k
      | _ => bif g then codeL C I J a j st k else codeL C I J b j st k
    | _ => none
  | .block id b, _, st, k => codeL C I J b id st fun e st => match e with
    | .exit i => bif Nat.beq i id then k .normal st else k (.exit i) st
    | e => k e st
  | .loop _, j, st, k => I j st k
  | .exit id, _, st, k => k (.exit id) st
  | .ret, _, st, k => k .ret st
  | _, _, _, _ => none

def loopsOf : Code → Nat → List (Nat × Code)
  | .seq a b, j => loopsOf a j ++ loopsOf b j
  | .cond _ a b, j => loopsOf a j ++ loopsOf b j
  | .block id b, _ => loopsOf b id
  | .loop b, j => (j, b) :: loopsOf b j
  | _, _ => []
/-- the places where ways meet: the first region behind, the block round it, the code behind. -/
def joinsOf (C : Cfg) : Code → Nat → List (Nat × Nat × Code)
  | .seq a b, j => (match joinK C b with
      | some _ => [((fstR b).getD 0, j, b)]
      | none => []) ++ (joinsOf C a j ++ joinsOf C b j)
  | .cond _ a b, j => joinsOf C a j ++ joinsOf C b j
  | .block id b, _ => joinsOf C b id
  | .loop b, j => joinsOf C b j
  | _, _ => []

def headOf (C : Cfg) (j : Nat) : VS → VS := canon ((get? C.L j).getD [])

/-- The table's word for a loop is what the loop does. -/
def LoopOK (C : Cfg) (fuel : Nat) (I : Nat → VS → (Exit → VS → R) → R) (J : Nat → Nat → VS → (Exit → VS → R) → R) (p : Nat × Code) : Prop :=
  ∀ st k, Le (I p.1 st k) (iterC (codeL P S C I J p.2 p.1) (headOf C p.1) k fuel (headOf C p.1 st))
/-- The table's word for what follows is what it does. -/
def JoinOK (C : Cfg) (I : Nat → VS → (Exit → VS → R) → R) (J : Nat → Nat → VS → (Exit → VS → R) → R) (p : Nat × Nat × Code) : Prop :=
  ∀ st k, Le (J p.1 p.2.1 st k) (codeL P S C I J p.2.2 p.2.1 st k)

variable {P S}
theorem codeL_le {C : Cfg} {fuel : Nat} {I : Nat → VS → (Exit → VS → R) → R} {J : Nat → Nat → VS → (Exit → VS → R) → R} : ∀ (c : Code) (j : Nat) (st : VS) (k k' : Exit → VS → R), (∀ p ∈ loopsOf c j, LoopOK P S C fuel I J p) → (∀ p ∈ joinsOf C c j, JoinOK P S C I J p) → (∀ e s, Le (k e s) (k' e s)) →
    Le (codeL P S C I J c j st k) (codeK P S C fuel c j st k') := by
  intro c
  induction c with
  | skip => intro j st k k' _ _ h; exact h _ _
  | region id ops draw => intro j st k k' _ _ h; unfold codeL codeK; exact region_mono fun _ => h _ _
  | seq a b iha ihb =>
    intro j st k k' hl hj h
    unfold codeL codeK
    refine iha j st _ _ (fun p hp => hl p (List.mem_append_left _ hp)) (fun p hp => hj p (List.mem_append_right _ (List.mem_append_left _ hp))) fun e s => ?_
    cases e <;> try exact h _ _
    have hb := fun s => ihb j s k k' (fun p hp => hl p (List.mem_append_right _ hp)) (fun p hp => hj p (List.mem_append_right _ (List.mem_append_right _ hp))) h
    show Le (match joinK C b with | some K => J ((fstR b).getD 0) j (canon K s) k | none => codeL P S C I J b j s k) (codeK P S C fuel b j (joinS C b s) k')
    unfold joinS
    cases hk : joinK C b with
    | none => exact hb s
    | some K =>
      refine Le.trans (hj ((fstR b).getD 0, j, b) ?_ (canon K s) k) (hb _)
      unfold joinsOf
      rw [hk]
      exact List.mem_append_left _ (List.mem_cons_self ..)
  | cond x a b iha ihb =>
    intro j st k k' hl hj h
    have ha := fun s => iha j s k k' (fun p hp => hl p (List.mem_append_left _ hp)) (fun p hp => hj p (List.mem_append_left _ hp)) h
    have hb := fun s => ihb j s k k' (fun p hp => hl p (List.mem_append_right _ hp)) (fun p hp => hj p (List.mem_append_right _ hp)) h
    unfold codeL codeK
    cases ev (get? st.t) x with
    | none => exact Le.refl _
    | some v =>
      cases v with
      | v y =>
        cases y with
        | bool g =>
          cases x with
          | tmp d => exact Le.bif (ha _) (hb _)
          | _ => exact Le.bif (ha _) (hb _)
        | _ => exact Le.refl _
      | _ => exact Le.refl _
  | block id b ih =>
    intro j st k k' hl hj h
    unfold codeL codeK
    refine ih id st _ _ hl hj fun e s => ?_
    cases e <;> try exact h _ _
    exact Le.bif (h _ _) (h _ _)
  | loop b ih =>
    intro j st k k' hl hj h
    unfold codeL codeK
    refine Le.trans (hl (j, b) (List.mem_cons_self ..) st k) ?_
    rw [iter_eq]
    show Le (iterC _ _ k fuel (headOf C j st)) (iterC _ (headOf C j) k' fuel (headOf C j st))
    generalize headOf C j st = s0
    have : ∀ (n : Nat) (s : VS), Le (iterC (codeL P S C I J b j) (headOf C j) k n s) (iterC (codeK P S C fuel b j) (headOf C j) k' n s) := by
      intro n
      induction n with
      | zero => intro s; exact Le.refl _
      | succ n ihn =>
        intro s
        unfold iterC
        refine ih j s _ _ (fun p hp => hl p (List.mem_cons_of_mem _ hp)) hj fun e s' => ?_
        cases e <;> try exact h _ _
        exact ihn _
    exact this fuel s0
  | exit id => intro j st k k' _ _ h; exact h _ _
  | ret => intro j st k k' _ _ h; exact h _ _
  | _ => intro j st k k' _ _ _; exact Le.refl _

variable (P S)
/-- 'funK', its loops and meetings answered by tables. -/
def funL (C : Cfg) (I : Nat → VS → (Exit → VS → R) → R) (J : Nat → Nat → VS → (Exit → VS → R) → R) (f : FuncId) (args : List VV) : R :=
  match P.funcs[f]? with
  | some fn => match fn.body with
    | some c => bif dstsOK fn.ntmps c then (codeL P S C I J c 0 { t := number 0 args, m := [], n := 0 } fun e st => match e with
      | .ret | .normal => resK P fn st
      | _ => none) else none
    | none => none
  | none => none

def loopsIn (f : FuncId) : List (Nat × Code) :=
  match P.funcs[f]? with
  | some fn => match fn.body with
    | some c => loopsOf c 0
    | none => []
  | none => []
def loopAt (f : FuncId) (i : Nat) : Code := match (loopsIn P f)[i]? with
  | some p => p.2
  | none => .skip
def joinsIn (C : Cfg) (f : FuncId) : List (Nat × Nat × Code) :=
  match P.funcs[f]? with
  | some fn => match fn.body with
    | some c => joinsOf C c 0
    | none => []
  | none => []
def joinAt (C : Cfg) (f : FuncId) (i : Nat) : Code := match (joinsIn P C f)[i]? with
  | some p => p.2.2
  | none => .skip

variable {P S}
theorem funL_le {C : Cfg} {fuel : Nat} {I : Nat → VS → (Exit → VS → R) → R} {J : Nat → Nat → VS → (Exit → VS → R) → R} {f : FuncId} (hl : ∀ p ∈ loopsIn P f, LoopOK P S C fuel I J p) (hj : ∀ p ∈ joinsIn P C f, JoinOK P S C I J p) (args : List VV) : Le (funL P S C I J f args) (funK P S C fuel f args) := by
  unfold funL funK
  cases hf : P.funcs[f]? with
  | none => exact Le.refl _
  | some fn =>
    cases hb : fn.body with
    | none => simp only [hb]; exact Le.refl _
    | some c =>
      simp only [hb]
      refine Le.bif (codeL_le c 0 _ _ _ (fun p hp => hl p ?_) (fun p hp => hj p ?_) fun e s => Le.refl _) (Le.refl _)
      · simp only [loopsIn, hf, hb]
        exact hp
      · simp only [joinsIn, hf, hb]
        exact hp

/-- THE WORD FOR A FUNCTION: what 'funL' says at arguments of which the table's answers are known. -/
theorem funL_good (hS : ∀ f, Good P f (unS (S f))) (hf : P.follows .mixedOrders = true) {C : Cfg} {f : FuncId} (hname : (P.funcs[f]?).all (fun fn => !(fn.name == "runtime.NumGoroutine")) = true)
    {g : List VV → R} (h : ∀ args r, g args = some r → ∃ fuel I J, (∀ p ∈ loopsIn P f, LoopOK P S C fuel I J p) ∧ (∀ p ∈ joinsIn P C f, JoinOK P S C I J p) ∧ funL P S C I J f args = some r) : Good P f g := by
  intro args r hr
  obtain ⟨fuel, I, J, hl, hj, hg⟩ := h args r hr
  exact fun_good hS (draw_sound hS) hf C fuel f hname args r (funL_le hl hj args r hg)
end
end Go.Xv
namespace Go.Xv

/-- The places in a value that are not fixed. -/
inductive At where
  | i (n : Int)
  | b (x : Bool)
  | n (x : Nat)
  | c (l : List VV)

def atI : Option At → Int
  | some (.i n) => n
  | _ => 0
def atB : Option At → Bool
  | some (.b n) => n
  | _ => false
def atN : Option At → Nat
  | some (.n n) => n
  | _ => 0
def atC : Option At → List VV
  | some (.c n) => n
  | _ => []

/-- A plain value's form. -/
inductive WV where
  | int (k : IntKind)
  | bool
  | nils
  | agg (l : List WV)
  | tup (l : List WV)
/-- A number's form: fixed, or not. -/
inductive TN where
  | lit (n : Nat)
  | hole
/-- The form of a value. -/
inductive TV where
  | v (x : WV)
  | lp (s : Nat) (o : TN)
  | ls (s : Nat) (o l : TN) (z : Nat)
  | fpx (c : List TV) (o : TN)
  | fsx (c : List TV) (o l : TN) (z : Nat)
  | fp (o : TN)
  | fs (o l : TN) (z : Nat)
  | fn (f : FuncId) (c : List TV)
  | agg (c : List TV)
  | tup (c : List TV)

mutual
def mW : WV → Value → Option (List At)
  | .int k, .int k' n => bif decide (k' = k) then some [.i n] else none
  | .bool, .bool b => some [.b b]
  | .nils, .slice none 0 0 => some []
  | .agg l, .agg cs => mWs l cs.toList
  | .tup l, .tuple cs => mWs l cs.toList
  | _, _ => none
def mWs : List WV → List Value → Option (List At)
  | [], [] => some []
  | t :: ts, v :: vs => match mW t v with
    | none => none
    | some a => match mWs ts vs with
      | none => none
      | some b => some (a ++ b)
  | _, _ => none
end

mutual
def fW : WV → List At → Value × List At
  | .int k, az => (.int k (atI az[0]?), az.drop 1)
  | .bool, az => (.bool (atB az[0]?), az.drop 1)
  | .nils, az => (.slice none 0 0, az)
  | .agg l, az => (.agg (fWs l az).1.toArray, (fWs l az).2)
  | .tup l, az => (.tuple (fWs l az).1.toArray, (fWs l az).2)
def fWs : List WV → List At → List Value × List At
  | [], az => ([], az)
  | t :: ts, az => ((fW t az).1 :: (fWs ts (fW t az).2).1, (fWs ts (fW t az).2).2)
end

def mN : TN → Nat → Option (List At)
  | .lit n, m => bif Nat.beq n m then some [] else none
  | .hole, m => some [.n m]
def fN : TN → List At → Nat × List At
  | .lit n, az => (n, az)
  | .hole, az => (atN az[0]?, az.drop 1)

def app2 : Option (List At) → Option (List At) → Option (List At)
  | some a, some b => some (a ++ b)
  | _, _ => none

mutual
def mT : TV → VV → Option (List At)
  | .v x, .v y => mW x y
  | .lp s o, .lp s' o' => bif Nat.beq s s' then mN o o' else none
  | .ls s o l z, .ls s' o' l' z' => bif Nat.beq s s' && Nat.beq z z' then app2 (mN o o') (mN l l') else none
  | .fpx c o, .fp c' o' => app2 (mTs c c') (mN o o')
  | .fsx c o l z, .fs c' o' l' z' => bif Nat.beq z z' then app2 (mTs c c') (app2 (mN o o') (mN l l')) else none
  | .fp o, .fp c' o' => app2 (some [.c c']) (mN o o')
  | .fs o l z, .fs c' o' l' z' => bif Nat.beq z z' then app2 (some [.c c']) (app2 (mN o o') (mN l l')) else none
  | .fn f c, .fn f' c' => bif Nat.beq f f' then mTs c c' else none
  | .agg c, .agg c' => mTs c c'
  | .tup c, .tup c' => mTs c c'
  | _, _ => none
def mTs : List TV → List VV → Option (List At)
  | [], [] => some []
  | t :: ts, v :: vs => app2 (mT t v) (mTs ts vs)
  | _, _ => none
end

mutual
def fT : TV → List At → VV × List At
  | .v x, az => (.v (fW x az).1, (fW x az).2)
  | .lp s o, az => (.lp s (fN o az).1, (fN o az).2)
  | .ls s o l z, az => (.ls s (fN o az).1 (fN l (fN o az).2).1 z, (fN l (fN o az).2).2)
  | .fpx c o, az => (.fp (fTs c az).1 (fN o (fTs c az).2).1, (fN o (fTs c az).2).2)
  | .fsx c o l z, az => (.fs (fTs c az).1 (fN o (fTs c az).2).1 (fN l (fN o (fTs c az).2).2).1 z, (fN l (fN o (fTs c az).2).2).2)
  | .fp o, az => (.fp (atC az[0]?) (fN o (az.drop 1)).1, (fN o (az.drop 1)).2)
  | .fs o l z, az => (.fs (atC az[0]?) (fN o (az.drop 1)).1 (fN l (fN o (az.drop 1)).2).1 z, (fN l (fN o (az.drop 1)).2).2)
  | .fn f c, az => (.fn f (fTs c az).1, (fTs c az).2)
  | .agg c, az => (.agg (fTs c az).1, (fTs c az).2)
  | .tup c, az => (.tup (fTs c az).1, (fTs c az).2)
def fTs : List TV → List At → List VV × List At
  | [], az => ([], az)
  | t :: ts, az => ((fT t az).1 :: (fTs ts (fT t az).2).1, (fTs ts (fT t az).2).2)
end

theorem beqT {a b : Nat} (h : Nat.beq a b = true) : a = b := Nat.eq_of_beq_eq_true h

theorem bifT {c : Bool} {x : Option (List At)} {l : List At} (h : (bif c then x else none) = some l) : c = true ∧ x = some l := by
  cases c with
  | false => cases h
  | true => exact ⟨rfl, h⟩

mutual
theorem mW_fill : ∀ (t : WV) (v : Value) (az r : List At), mW t v = some az → fW t (az ++ r) = (v, r)
  | .int k, v, az, r, h => by
    cases v with
    | int k' n =>
      simp only [mW] at h
      obtain ⟨h1, h2⟩ := bifT h
      cases h2
      have := of_decide_eq_true h1
      subst this
      simp [fW, atI]
    | _ => simp only [mW] at h; cases h
  | .bool, v, az, r, h => by
    cases v with
    | bool b => simp only [mW] at h; cases h; simp [fW, atB]
    | _ => simp only [mW] at h; cases h
  | .nils, v, az, r, h => by
    cases v with
    | slice a l c =>
      cases a with
      | some a => simp only [mW] at h; cases h
      | none =>
        cases l with
        | succ l => simp only [mW] at h; cases h
        | zero =>
          cases c with
          | succ c => simp only [mW] at h; cases h
          | zero => simp only [mW] at h; cases h; simp [fW]
    | _ => simp only [mW] at h; cases h
  | .agg l, v, az, r, h => by
    cases v with
    | agg cs =>
      simp only [mW] at h
      have := mWs_fill l cs.toList az r h
      simp [fW, this]
    | _ => simp only [mW] at h; cases h
  | .tup l, v, az, r, h => by
    cases v with
    | tuple cs =>
      simp only [mW] at h
      have := mWs_fill l cs.toList az r h
      simp [fW, this]
    | _ => simp only [mW] at h; cases h
theorem mWs_fill : ∀ (t : List WV) (v : List Value) (az r : List At), mWs t v = some az → fWs t (az ++ r) = (v, r)
  | [], v, az, r, h => by
    cases v <;> simp only [mWs] at h <;> (try cases h)
    simp [fWs]
  | t :: ts, v, az, r, h => by
    cases v <;> simp only [mWs] at h <;> (try cases h)
    rename_i v vs
    cases ha : mW t v with
    | none => simp [ha] at h
    | some a =>
      cases hb : mWs ts vs with
      | none => simp [ha, hb] at h
      | some b =>
        simp only [ha, hb, Option.some.injEq] at h
        subst h
        have h1 := mW_fill t v a (b ++ r) ha
        have h2 := mWs_fill ts vs b r hb
        simp [fWs, List.append_assoc, h1, h2]
end

theorem mN_fill (t : TN) (m : Nat) (az r : List At) (h : mN t m = some az) : fN t (az ++ r) = (m, r) := by
  cases t with
  | lit n =>
    simp only [mN] at h
    cases hb : Nat.beq n m with
    | false => rw [hb] at h; cases h
    | true => rw [hb] at h; cases h; simp [fN, beqT hb]
  | hole => simp only [mN] at h; cases h; simp [fN, atN]

theorem app2_some {a b : Option (List At)} {l : List At} (h : app2 a b = some l) : ∃ x y, a = some x ∧ b = some y ∧ l = x ++ y := by
  cases a with
  | none => cases h
  | some x =>
    cases b with
    | none => cases h
    | some y => cases h; exact ⟨x, y, rfl, rfl, rfl⟩

mutual
theorem mT_fill : ∀ (t : TV) (v : VV) (az r : List At), mT t v = some az → fT t (az ++ r) = (v, r)
  | .v x, v, az, r, h => by
    cases v <;> simp only [mT] at h <;> (try cases h)
    have := mW_fill x _ az r h
    simp [fT, this]
  | .lp s o, v, az, r, h => by
    cases v <;> simp only [mT] at h <;> (try cases h)
    obtain ⟨h1, h2⟩ := bifT h
    have := mN_fill o _ az r h2
    simp [fT, this, beqT h1]
  | .ls s o l z, v, az, r, h => by
    cases v <;> simp only [mT] at h <;> (try cases h)
    obtain ⟨h1, h2⟩ := bifT h
    simp only [Bool.and_eq_true] at h1
    obtain ⟨x, y, e1, e2, rfl⟩ := app2_some h2
    have k1 := mN_fill o _ x (y ++ r) e1
    have k2 := mN_fill l _ y r e2
    simp [fT, List.append_assoc, k1, k2, beqT h1.1, beqT h1.2]
  | .fpx c o, v, az, r, h => by
    cases v <;> simp only [mT] at h <;> (try cases h)
    obtain ⟨x, y, e1, e2, rfl⟩ := app2_some h
    have k1 := mTs_fill c _ x (y ++ r) e1
    have k2 := mN_fill o _ y r e2
    simp [fT, List.append_assoc, k1, k2]
  | .fsx c o l z, v, az, r, h => by
    cases v <;> simp only [mT] at h <;> (try cases h)
    obtain ⟨h1, h2⟩ := bifT h
    obtain ⟨x, y', e1, e2, rfl⟩ := app2_some h2
    obtain ⟨y, q, e4, e3, rfl⟩ := app2_some e2
    have k1 := mTs_fill c _ x (y ++ (q ++ r)) e1
    have k2 := mN_fill o _ y (q ++ r) e4
    have k3 := mN_fill l _ q r e3
    simp [fT, List.append_assoc, k1, k2, k3, beqT h1]
  | .fp o, v, az, r, h => by
    cases v <;> simp only [mT] at h <;> (try cases h)
    obtain ⟨x, y, e1, e2, rfl⟩ := app2_some h
    cases e1
    have k2 := mN_fill o _ y r e2
    simp [fT, atC, k2]
  | .fs o l z, v, az, r, h => by
    cases v <;> simp only [mT] at h <;> (try cases h)
    obtain ⟨h1, h2⟩ := bifT h
    obtain ⟨x, y', e1, e2, rfl⟩ := app2_some h2
    obtain ⟨y, q, e4, e3, rfl⟩ := app2_some e2
    cases e1
    have k2 := mN_fill o _ y (q ++ r) e4
    have k3 := mN_fill l _ q r e3
    simp [fT, atC, List.append_assoc, k2, k3, beqT h1]
  | .fn f c, v, az, r, h => by
    cases v <;> simp only [mT] at h <;> (try cases h)
    obtain ⟨h1, h2⟩ := bifT h
    have := mTs_fill c _ az r h2
    simp [fT, this, beqT h1]
  | .agg c, v, az, r, h => by
    cases v <;> simp only [mT] at h <;> (try cases h)
    have := mTs_fill c _ az r h
    simp [fT, this]
  | .tup c, v, az, r, h => by
    cases v <;> simp only [mT] at h <;> (try cases h)
    have := mTs_fill c _ az r h
    simp [fT, this]
theorem mTs_fill : ∀ (t : List TV) (v : List VV) (az r : List At), mTs t v = some az → fTs t (az ++ r) = (v, r)
  | [], v, az, r, h => by
    cases v <;> simp only [mTs] at h <;> (try cases h)
    simp [fTs]
  | t :: ts, v, az, r, h => by
    cases v <;> simp only [mTs] at h <;> (try cases h)
    obtain ⟨x, y, e1, e2, rfl⟩ := app2_some h
    have k1 := mT_fill t _ x (y ++ r) e1
    have k2 := mTs_fill ts _ y r e2
    simp [fTs, List.append_assoc, k1, k2]
end

/-! ### states -/
/-- The form of a block: its cells one by one, or not. -/
inductive TC where
  | ex (l : List TV)
  | hole
structure TB where
  c : TC
  closed : Bool
structure TS where
  t : List (Nat × TV)
  m : List (Nat × TB)
  n : Nat

def mC : TC → List VV → Option (List At)
  | .ex l, c => mTs l c
  | .hole, c => some [.c c]
def fC : TC → List At → List VV × List At
  | .ex l, az => fTs l az
  | .hole, az => (atC az[0]?, az.drop 1)
def mSt : List (Nat × TV) → List (Nat × VV) → Option (List At)
  | [], [] => some []
  | (k, t) :: ts, (k', v) :: vs => bif Nat.beq k k' then app2 (mT t v) (mSt ts vs) else none
  | _, _ => none
def fSt : List (Nat × TV) → List At → List (Nat × VV) × List At
  | [], az => ([], az)
  | (k, t) :: ts, az => ((k, (fT t az).1) :: (fSt ts (fT t az).2).1, (fSt ts (fT t az).2).2)
def mSm : List (Nat × TB) → List (Nat × Blk) → Option (List At)
  | [], [] => some []
  | (k, t) :: ts, (k', v) :: vs => bif Nat.beq k k' && (t.closed == v.closed) then app2 (mC t.c v.c) (mSm ts vs) else none
  | _, _ => none
def fSm : List (Nat × TB) → List At → List (Nat × Blk) × List At
  | [], az => ([], az)
  | (k, t) :: ts, az => ((k, ⟨(fC t.c az).1, t.closed⟩) :: (fSm ts (fC t.c az).2).1, (fSm ts (fC t.c az).2).2)
def mS (t : TS) (s : VS) : Option (List At) := bif Nat.beq t.n s.n then app2 (mSt t.t s.t) (mSm t.m s.m) else none
def fS (t : TS) (az : List At) : VS := ⟨(fSt t.t az).1, (fSm t.m (fSt t.t az).2).1, t.n⟩

theorem mC_fill (t : TC) (m : List VV) (az r : List At) (h : mC t m = some az) : fC t (az ++ r) = (m, r) := by
  cases t with
  | ex l => exact mTs_fill l m az r h
  | hole => simp only [mC] at h; cases h; simp [fC, atC]
theorem mSt_fill : ∀ (t : List (Nat × TV)) (v : List (Nat × VV)) (az r : List At), mSt t v = some az → fSt t (az ++ r) = (v, r)
  | [], v, az, r, h => by
    cases v <;> simp only [mSt] at h <;> (try cases h)
    simp [fSt]
  | (k, t) :: ts, v, az, r, h => by
    cases v <;> simp only [mSt] at h <;> (try cases h)
    rename_i p q
    obtain ⟨h1, h2⟩ := bifT h
    obtain ⟨x, y, e1, e2, rfl⟩ := app2_some h2
    have k1 := mT_fill t _ x (y ++ r) e1
    have k2 := mSt_fill ts _ y r e2
    simp [fSt, List.append_assoc, k1, k2, beqT h1]
theorem mSm_fill : ∀ (t : List (Nat × TB)) (v : List (Nat × Blk)) (az r : List At), mSm t v = some az → fSm t (az ++ r) = (v, r)
  | [], v, az, r, h => by
    cases v <;> simp only [mSm] at h <;> (try cases h)
    simp [fSm]
  | (k, t) :: ts, v, az, r, h => by
    cases v <;> simp only [mSm] at h <;> (try cases h)
    rename_i p q
    obtain ⟨h1, h2⟩ := bifT h
    simp only [Bool.and_eq_true, beq_iff_eq] at h1
    obtain ⟨x, y, e1, e2, rfl⟩ := app2_some h2
    have k1 := mC_fill t.c _ x (y ++ r) e1
    have k2 := mSm_fill ts _ y r e2
    simp [fSm, List.append_assoc, k1, k2, beqT h1.1, h1.2]
theorem mS_fill {t : TS} {s : VS} {az : List At} (h : mS t s = some az) : fS t az = s := by
  obtain ⟨h1, h2⟩ := bifT h
  obtain ⟨x, y, e1, e2, rfl⟩ := app2_some h2
  have k1 := mSt_fill t.t _ x y e1
  have k2 := mSm_fill t.m _ y [] e2
  rw [List.append_nil] at k2
  obtain ⟨a, b, c⟩ := s
  simp only at h1
  simp [fS, k1, k2, beqT h1]
end Go.Xv
namespace Go.Xv

def andI (k : IntKind) (a b : Int) : Int := k.wrap ((BitVec.ofInt k.bits a &&& BitVec.ofInt k.bits b).toNat : Int)
def orI (k : IntKind) (a b : Int) : Int := k.wrap ((BitVec.ofInt k.bits a ||| BitVec.ofInt k.bits b).toNat : Int)
def xorI (k : IntKind) (a b : Int) : Int := k.wrap ((BitVec.ofInt k.bits a ^^^ BitVec.ofInt k.bits b).toNat : Int)
def fuel0 : Nat := 4611686018427387904
theorem Le.ofEq {a b : R} (h : a = b) : Le a b := by
  subst h
  exact Le.refl _

def dn : Nat → List At → List At
  | 0, l => l
  | i + 1, l => (dn i l).drop 1
def nth (l : List At) (i : Nat) : Option At := (dn i l)[0]?
def okT (t : TV) (r : R) : Bool := (r.bind (mT t)).isSome
def outT (t : TV) (r : R) : List At := (r.bind (mT t)).getD []

/-- A function's word: the form of its arguments, the form of its answer. -/
def spec (tin : List TV) (tout : TV) (ok : List At → Bool) (out : List At → List At) (args : List VV) : Option (Bool × VV) :=
  match mTs tin args with
  | some az => some (ok az, (fT tout (out az)).1)
  | none => none

/-- The words of several functions. -/
def words : List (FuncId × (List VV → Option (Bool × VV))) → FuncId → List VV → Option (Bool × VV)
  | [], _, _ => none
  | (f, s) :: r, g, l => bif Nat.beq f g then (match s l with
    | some x => some x
    | none => words r g l) else words r g l

theorem words_good {P : Program} : ∀ {l : List (FuncId × (List VV → Option (Bool × VV)))}, (∀ p ∈ l, Good P p.1 (unS p.2)) → ∀ f, Good P f (unS (words l f))
  | [], _, f => fun args r h => by simp [unS, words] at h
  | (g, s) :: l, hl, f => fun args r h => by
    have ih := words_good (l := l) (fun p hp => hl p (List.mem_cons_of_mem _ hp)) f args r
    unfold unS at h ih
    unfold words at h
    cases hb : Nat.beq g f with
    | false => rw [hb] at h; exact ih h
    | true =>
      rw [hb] at h
      simp only [cond_true] at h
      cases hs : s args with
      | none => rw [hs] at h; exact ih h
      | some x =>
        rw [hs] at h
        simp only at h
        have := hl (g, s) (List.mem_cons_self ..)
        rw [← beqT hb]
        refine this args r ?_
        simp only [unS, hs]
        exact h

/-- A loop's word, at one form of its states. -/
structure LW where
  j : Nat
  t : TS
  L : (Exit → VS → R) → List At → R
def tabI (C : Cfg) : List LW → Nat → VS → (Exit → VS → R) → R
  | [], _, _, _ => none
  | e :: r, j, st, k => bif Nat.beq e.j j then (match mS e.t (headOf C j st) with
    | some az => e.L k az
    | none => tabI C r j st k) else tabI C r j st k

/-- A word for what follows where ways meet, at one form of its states. -/
structure LJ where
  r : Nat
  j : Nat
  t : TS
  L : (Exit → VS → R) → List At → R
def tabJ : List LJ → Nat → Nat → VS → (Exit → VS → R) → R
  | [], _, _, _, _ => none
  | e :: q, r, j, st, k => bif Nat.beq e.r r && Nat.beq e.j j then (match mS e.t st with
    | some az => e.L k az
    | none => tabJ q r j st k) else tabJ q r j st k

section
variable {P : Program} {S : FuncId → List VV → Option (Bool × VV)}

theorem tab_ok {C : Cfg} {fuel : Nat} {I : Nat → VS → (Exit → VS → R) → R} {J : Nat → Nat → VS → (Exit → VS → R) → R} {p : Nat × Code} : ∀ (tb : List LW),
    (∀ e ∈ tb, e.j = p.1 → ∀ k az, Le (e.L k az) (iterC (codeL P S C I J p.2 p.1) (headOf C p.1) k fuel (fS e.t az))) →
    ∀ st k, Le (tabI C tb p.1 st k) (iterC (codeL P S C I J p.2 p.1) (headOf C p.1) k fuel (headOf C p.1 st))
  | [], _, _, _ => Le.none _
  | e :: tb, h, st, k => by
    have ih := tab_ok tb (fun x hx => h x (List.mem_cons_of_mem _ hx)) st k
    unfold tabI
    cases hb : Nat.beq e.j p.1 with
    | false => exact ih
    | true =>
      simp only [cond_true]
      cases hm : mS e.t (headOf C p.1 st) with
      | none => exact ih
      | some az =>
        have := h e (List.mem_cons_self ..) (beqT hb) k az
        rw [mS_fill hm] at this
        exact this

/-- The table's rows are what the loop does. -/
def TabOK (P : Program) (S : FuncId → List VV → Option (Bool × VV)) (C : Cfg) (I : Nat → VS → (Exit → VS → R) → R) (J : Nat → Nat → VS → (Exit → VS → R) → R) (fuel j : Nat) (b : Code) (tb : List LW) : Prop :=
  ∀ e ∈ tb, e.j = j → ∀ k az, Le (e.L k az) (iterC (codeL P S C I J b j) (headOf C j) k fuel (fS e.t az))
theorem tab_nil {C : Cfg} {I : Nat → VS → (Exit → VS → R) → R} {J : Nat → Nat → VS → (Exit → VS → R) → R} {fuel j : Nat} {b : Code} : TabOK P S C I J fuel j b [] := fun _ h => by cases h
theorem tab_cons {C : Cfg} {I : Nat → VS → (Exit → VS → R) → R} {J : Nat → Nat → VS → (Exit → VS → R) → R} {fuel j : Nat} {b : Code} {tb : List LW} {j' : Nat} {t : TS} {L : (Exit → VS → R) → List At → R}
    (h : j' = j → ∀ k az, Le (L k az) (iterC (codeL P S C I J b j) (headOf C j) k fuel (fS t az))) (ht : TabOK P S C I J fuel j b tb) : TabOK P S C I J fuel j b (⟨j', t, L⟩ :: tb) := by
  intro e he
  rcases List.mem_cons.1 he with rfl | he
  · exact h
  · exact ht e he
theorem loop_ok {C : Cfg} {I : Nat → VS → (Exit → VS → R) → R} {J : Nat → Nat → VS → (Exit → VS → R) → R} {fuel j : Nat} {b : Code} (tb : List LW) (hI : I = tabI C tb) (h : TabOK P S C I J fuel j b tb) : LoopOK P S C fuel I J (j, b) := by
  intro st k
  have := tab_ok (P := P) (S := S) (C := C) (fuel := fuel) (I := I) (J := J) (p := (j, b)) tb h st k
  show Le (I j st k) _
  have e : I j st k = tabI C tb j st k := by rw [hI]
  rw [e]
  exact this
theorem loops_of {C : Cfg} {I : Nat → VS → (Exit → VS → R) → R} {J : Nat → Nat → VS → (Exit → VS → R) → R} {fuel : Nat} {f : FuncId} (l : List (Nat × Code)) (hl : loopsIn P f = l) (h : ∀ p ∈ l, LoopOK P S C fuel I J p) : ∀ p ∈ loopsIn P f, LoopOK P S C fuel I J p := by
  rw [hl]
  exact h
theorem all_nil {α : Type} {q : α → Prop} : ∀ p ∈ ([] : List α), q p := fun _ h => by cases h
theorem all_cons {α : Type} {q : α → Prop} {a : α} {l : List α} (h : q a) (hl : ∀ p ∈ l, q p) : ∀ p ∈ a :: l, q p := by
  intro p hp
  rcases List.mem_cons.1 hp with rfl | hp
  · exact h
  · exact hl p hp

/-- The rows for one place where ways meet are what follows there. -/
def JTabOK (P : Program) (S : FuncId → List VV → Option (Bool × VV)) (C : Cfg) (I : Nat → VS → (Exit → VS → R) → R) (J : Nat → Nat → VS → (Exit → VS → R) → R) (r j : Nat) (b : Code) (tb : List LJ) : Prop :=
  ∀ e ∈ tb, e.r = r → e.j = j → ∀ k az, Le (e.L k az) (codeL P S C I J b j (fS e.t az) k)
theorem jtab_nil {C : Cfg} {I : Nat → VS → (Exit → VS → R) → R} {J : Nat → Nat → VS → (Exit → VS → R) → R} {r j : Nat} {b : Code} : JTabOK P S C I J r j b [] := fun _ h => by cases h
theorem jtab_cons {C : Cfg} {I : Nat → VS → (Exit → VS → R) → R} {J : Nat → Nat → VS → (Exit → VS → R) → R} {r j : Nat} {b : Code} {tb : List LJ} {r' j' : Nat} {t : TS} {L : (Exit → VS → R) → List At → R}
    (h : r' = r → j' = j → ∀ k az, Le (L k az) (codeL P S C I J b j (fS t az) k)) (ht : JTabOK P S C I J r j b tb) : JTabOK P S C I J r j b (⟨r', j', t, L⟩ :: tb) := by
  intro e he
  rcases List.mem_cons.1 he with rfl | he
  · exact h
  · exact ht e he
theorem jtab_ok {C : Cfg} {I : Nat → VS → (Exit → VS → R) → R} {J : Nat → Nat → VS → (Exit → VS → R) → R} {r j : Nat} {b : Code} : ∀ (tb : List LJ), JTabOK P S C I J r j b tb → ∀ st k, Le (tabJ tb r j st k) (codeL P S C I J b j st k)
  | [], _, _, _ => Le.none _
  | e :: tb, h, st, k => by
    have ih := jtab_ok tb (fun x hx => h x (List.mem_cons_of_mem _ hx)) st k
    unfold tabJ
    cases hb : (Nat.beq e.r r && Nat.beq e.j j) with
    | false => exact ih
    | true =>
      simp only [cond_true]
      rw [Bool.and_eq_true] at hb
      cases hm : mS e.t st with
      | none => exact ih
      | some az =>
        have := h e (List.mem_cons_self ..) (beqT hb.1) (beqT hb.2) k az
        rw [mS_fill hm] at this
        exact this
theorem join_ok {C : Cfg} {I : Nat → VS → (Exit → VS → R) → R} {J : Nat → Nat → VS → (Exit → VS → R) → R} {r j : Nat} {b : Code} (tb : List LJ) (hJ : J = tabJ tb) (h : JTabOK P S C I J r j b tb) : JoinOK P S C I J (r, j, b) := by
  intro st k
  have := jtab_ok (P := P) (S := S) (C := C) (I := I) (J := J) tb h st k
  show Le (J r j st k) _
  have e : J r j st k = tabJ tb r j st k := by rw [hJ]
  rw [e]
  exact this
theorem joins_of {C : Cfg} {I : Nat → VS → (Exit → VS → R) → R} {J : Nat → Nat → VS → (Exit → VS → R) → R} {f : FuncId} (l : List (Nat × Nat × Code)) (hl : joinsIn P C f = l) (h : ∀ p ∈ l, JoinOK P S C I J p) : ∀ p ∈ joinsIn P C f, JoinOK P S C I J p := by
  rw [hl]
  exact h

theorem fun_spec (hS : ∀ f, Good P f (unS (S f))) (hf : P.follows .mixedOrders = true) {f : FuncId} (hname : (P.funcs[f]?).all (fun fn => !(fn.name == "runtime.NumGoroutine")) = true)
    {C : Cfg} {tin : List TV} {tout : TV} {ok : List At → Bool} {out : List At → List At} {F : List At → R} (fuel : List At → Nat) (I : List At → Nat → VS → (Exit → VS → R) → R) (J : List At → Nat → Nat → VS → (Exit → VS → R) → R)
    (hl : ∀ az, ∀ p ∈ loopsIn P f, LoopOK P S C (fuel az) (I az) (J az) p) (hj : ∀ az, ∀ p ∈ joinsIn P C f, JoinOK P S C (I az) (J az) p) (hF : ∀ az, funL P S C (I az) (J az) f (fTs tin az).1 = F az)
    (hok : ∀ az, ok az = true → F az = some (fT tout (out az)).1) : Good P f (unS (spec tin tout ok out)) := by
  refine funL_good hS hf (C := C) hname fun args r h => ?_
  unfold unS spec at h
  cases hm : mTs tin args with
  | none => rw [hm] at h; cases h
  | some az =>
    rw [hm] at h
    simp only at h
    cases ho : ok az with
    | false => rw [ho] at h; simp at h
    | true =>
      rw [ho] at h
      simp only [Option.some.injEq] at h
      have e := mTs_fill tin args az [] hm
      rw [List.append_nil] at e
      refine ⟨fuel az, I az, J az, hl az, hj az, ?_⟩
      have := hF az
      rw [e] at this
      rw [this, hok az ho, h]

theorem okT_fill {t : TV} {r : R} (h : okT t r = true) : r = some (fT t (outT t r)).1 := by
  unfold okT at h
  cases r with
  | none => simp at h
  | some v =>
    cases hm : mT t v with
    | none => simp [hm] at h
    | some az =>
      have := mT_fill t v az [] hm
      rw [List.append_nil] at this
      simp [outT, hm, this]
end
end Go.Xv
/- Plain arithmetic: wrapping, bits. -/
namespace Go.Xv

theorem wu8 (x : Int) : IntKind.wrap .u8 x = x % 256 := by simp [IntKind.wrap, IntKind.bits, IntKind.signed]
theorem wu16 (x : Int) : IntKind.wrap .u16 x = x % 65536 := by simp [IntKind.wrap, IntKind.bits, IntKind.signed]
theorem wu32 (x : Int) : IntKind.wrap .u32 x = x % 4294967296 := by simp [IntKind.wrap, IntKind.bits, IntKind.signed]
theorem wu64 (x : Int) : IntKind.wrap .u64 x = x % 18446744073709551616 := by simp [IntKind.wrap, IntKind.bits, IntKind.signed]
theorem wi32 (x : Int) : IntKind.wrap .i32 x = (x + 2147483648) % 4294967296 - 2147483648 := by
  simp [IntKind.wrap, IntKind.bits, IntKind.signed]
  split <;> omega
theorem wi64 (x : Int) : IntKind.wrap .i64 x = (x + 9223372036854775808) % 18446744073709551616 - 9223372036854775808 := by
  simp [IntKind.wrap, IntKind.bits, IntKind.signed]
  split <;> omega

def I64 (x : Int) : Prop := -9223372036854775808 ≤ x ∧ x < 9223372036854775808
def U64 (x : Int) : Prop := 0 ≤ x ∧ x < 18446744073709551616
def I32 (x : Int) : Prop := -2147483648 ≤ x ∧ x < 2147483648
def U32 (x : Int) : Prop := 0 ≤ x ∧ x < 4294967296
def U8 (x : Int) : Prop := 0 ≤ x ∧ x < 256

theorem wi64_in {x : Int} (h : I64 x) : IntKind.wrap .i64 x = x := by rw [wi64]; unfold I64 at h; omega
theorem wi32_in {x : Int} (h : I32 x) : IntKind.wrap .i32 x = x := by rw [wi32]; unfold I32 at h; omega
theorem wu64_in {x : Int} (h : U64 x) : IntKind.wrap .u64 x = x := by rw [wu64]; unfold U64 at h; omega
theorem wu32_in {x : Int} (h : U32 x) : IntKind.wrap .u32 x = x := by rw [wu32]; unfold U32 at h; omega
theorem wi64_I (x : Int) : I64 (IntKind.wrap .i64 x) := by rw [wi64]; unfold I64; omega
theorem wu64_U (x : Int) : U64 (IntKind.wrap .u64 x) := by rw [wu64]; unfold U64; omega
theorem wi32_I (x : Int) : I32 (IntKind.wrap .i32 x) := by rw [wi32]; unfold I32; omega
theorem wu32_U (x : Int) : U32 (IntKind.wrap .u32 x) := by rw [wu32]; unfold U32; omega

/-! ### bits -/
theorem bvU64 {a : Int} (h : U64 a) : (BitVec.ofInt 64 a).toNat = a.toNat := by
  unfold U64 at h
  simp only [BitVec.toNat_ofInt]
  omega
theorem bvI64 {a : Int} (_h : I64 a) : (BitVec.ofInt 64 a).toNat = (a % 18446744073709551616).toNat := by
  simp only [BitVec.toNat_ofInt]
  omega
theorem and_u64_bv (a b : Int) : andI .u64 a b = IntKind.wrap .u64 ((BitVec.ofInt 64 a &&& BitVec.ofInt 64 b).toNat : Int) := rfl
theorem or_u64_bv (a b : Int) : orI .u64 a b = IntKind.wrap .u64 ((BitVec.ofInt 64 a ||| BitVec.ofInt 64 b).toNat : Int) := rfl
theorem xor_u64_bv (a b : Int) : xorI .u64 a b = IntKind.wrap .u64 ((BitVec.ofInt 64 a ^^^ BitVec.ofInt 64 b).toNat : Int) := rfl
theorem and_i64_bv (a b : Int) : andI .i64 a b = IntKind.wrap .i64 ((BitVec.ofInt 64 a &&& BitVec.ofInt 64 b).toNat : Int) := rfl
theorem xor_i64_bv (a b : Int) : xorI .i64 a b = IntKind.wrap .i64 ((BitVec.ofInt 64 a ^^^ BitVec.ofInt 64 b).toNat : Int) := rfl
theorem and_u64 {a b : Int} (ha : U64 a) (hb : U64 b) : andI .u64 a b = ((a.toNat &&& b.toNat : Nat) : Int) := by
  rw [and_u64_bv, BitVec.toNat_and, bvU64 ha, bvU64 hb, wu64]
  have h : a.toNat &&& b.toNat ≤ a.toNat := Nat.and_le_left
  unfold U64 at ha
  generalize a.toNat &&& b.toNat = q at *
  omega
theorem or_u64 {a b : Int} (ha : U64 a) (hb : U64 b) : orI .u64 a b = ((a.toNat ||| b.toNat : Nat) : Int) := by
  rw [or_u64_bv, BitVec.toNat_or, bvU64 ha, bvU64 hb, wu64]
  unfold U64 at ha hb
  have h : a.toNat ||| b.toNat < 2 ^ 64 := Nat.or_lt_two_pow (by omega) (by omega)
  generalize a.toNat ||| b.toNat = q at *
  omega
theorem xor_u64 {a b : Int} (ha : U64 a) (hb : U64 b) : xorI .u64 a b = ((a.toNat ^^^ b.toNat : Nat) : Int) := by
  rw [xor_u64_bv, BitVec.toNat_xor, bvU64 ha, bvU64 hb, wu64]
  unfold U64 at ha hb
  have h : a.toNat ^^^ b.toNat < 2 ^ 64 := Nat.xor_lt_two_pow (by omega) (by omega)
  generalize a.toNat ^^^ b.toNat = q at *
  omega
/-- a mask of the low bits -/
theorem mask_u64 (k : Nat) (hk : k ≤ 64) {a : Int} (ha : U64 a) : andI .u64 a ((2 ^ k - 1 : Nat) : Int) = a % (2 ^ k : Nat) := by
  have hp : 2 ^ k ≤ 2 ^ 64 := Nat.pow_le_pow_right (by decide) hk
  have h1 : 1 ≤ 2 ^ k := Nat.one_le_two_pow
  rw [and_u64 ha (by unfold U64; omega), Int.toNat_natCast, Nat.and_two_pow_sub_one_eq_mod]
  unfold U64 at ha
  generalize 2 ^ k = P at *
  have e : a = (a.toNat : Int) := by omega
  rw [e, Int.toNat_natCast]
  rfl
theorem mask1_u64 {a : Int} (ha : U64 a) : andI .u64 a 1 = a % 2 := mask_u64 1 (by omega) ha
theorem mask32_u64 {a : Int} (ha : U64 a) : andI .u64 a 4294967295 = a % 4294967296 := mask_u64 32 (by omega) ha
/-- what has its low bits free, and what has only them -/
theorem or_add_nat (k n m : Nat) (h : m < 2 ^ k) : n * 2 ^ k ||| m = n * 2 ^ k + m := by
  rw [← Nat.shiftLeft_eq, Nat.shiftLeft_add_eq_or_of_lt h]
theorem or_add_u64 (k : Nat) {a b : Int} (ha0 : 0 ≤ a) (hb : 0 ≤ b) (hb' : b < (2 ^ k : Nat)) (hs : a * (2 ^ k : Nat) + b < 18446744073709551616) : orI .u64 (a * (2 ^ k : Nat)) b = a * (2 ^ k : Nat) + b := by
  obtain ⟨n, rfl⟩ := Int.eq_ofNat_of_zero_le ha0
  obtain ⟨m, rfl⟩ := Int.eq_ofNat_of_zero_le hb
  have e : (n : Int) * (2 ^ k : Nat) = ((n * 2 ^ k : Nat) : Int) := by push_cast; rfl
  rw [e] at hs ⊢
  rw [or_u64 (by unfold U64; omega) (by unfold U64; omega), Int.toNat_natCast, Int.toNat_natCast, or_add_nat k n m (by omega)]
  push_cast
  rfl
/-- all bits turned -/
theorem not_u64 {a : Int} (ha : U64 a) : xorI .u64 18446744073709551615 a = 18446744073709551615 - a := by
  have e : BitVec.ofInt 64 18446744073709551615 = BitVec.allOnes 64 := by decide
  rw [xor_u64_bv, e, BitVec.allOnes_xor, BitVec.toNat_not, bvU64 ha, wu64]
  unfold U64 at ha
  omega
theorem not_i64 {a : Int} (ha : I64 a) : xorI .i64 (-1) a = -1 - a := by
  have e : BitVec.ofInt 64 (-1) = BitVec.allOnes 64 := by decide
  rw [xor_i64_bv, e, BitVec.allOnes_xor, BitVec.toNat_not, bvI64 ha, wi64]
  unfold I64 at ha
  omega
/-- signs of bits -/
theorem msb_i64 {a : Int} (ha : I64 a) : (BitVec.ofInt 64 a).msb = decide (a < 0) := by
  rw [BitVec.msb_eq_decide, bvI64 ha]
  unfold I64 at ha
  rw [Bool.eq_iff_iff]
  simp only [decide_eq_true_eq]
  omega
theorem wrap_neg (x : BitVec 64) : (IntKind.wrap .i64 (x.toNat : Int) < 0) ↔ x.msb = true := by
  rw [BitVec.msb_eq_decide, wi64, decide_eq_true_eq]
  have := x.isLt
  omega
theorem and_neg {a b : Int} (ha : I64 a) (hb : I64 b) : (andI .i64 a b < 0) ↔ (a < 0 ∧ b < 0) := by
  rw [and_i64_bv, wrap_neg, BitVec.msb_and, msb_i64 ha, msb_i64 hb]
  simp
theorem xor_neg {a b : Int} (ha : I64 a) (hb : I64 b) : (xorI .i64 a b < 0) ↔ ¬ (a < 0 ↔ b < 0) := by
  rw [xor_i64_bv, wrap_neg, BitVec.msb_xor, msb_i64 ha, msb_i64 hb]
  by_cases h : a < 0 <;> by_cases k : b < 0 <;> simp [h, k]
theorem andI_I (a b : Int) : I64 (andI .i64 a b) := wi64_I _
theorem xorI_I (a b : Int) : I64 (xorI .i64 a b) := wi64_I _
theorem Nat.add_xor (a : Nat) : ∀ b, a + b = 2 * (a &&& b) + (a ^^^ b) := by
  induction a using Nat.strongRecOn with
  | _ a ih =>
    intro b
    by_cases h : a = 0
    · subst h; simp
    · have := ih (a / 2) (by omega) (b / 2)
      have h1 : (a &&& b) = 2 * (a / 2 &&& b / 2) + (a &&& b) % 2 := by
        have := Nat.and_div_two (a := a) (b := b)
        omega
      have h2 : (a ^^^ b) = 2 * (a / 2 ^^^ b / 2) + (a ^^^ b) % 2 := by
        have := Nat.xor_div_two (a := a) (b := b)
        omega
      have h3 : (a &&& b) % 2 = (a % 2) * (b % 2) := by
        rw [Nat.and_mod_two_pow (n := 1)]
        rcases Nat.mod_two_eq_zero_or_one a with h | h <;> rcases Nat.mod_two_eq_zero_or_one b with k | k <;> simp [h, k]
      have h4 : (a ^^^ b) % 2 = (a % 2 + b % 2) % 2 := by
        rw [Nat.xor_mod_two_pow (n := 1)]
        rcases Nat.mod_two_eq_zero_or_one a with h | h <;> rcases Nat.mod_two_eq_zero_or_one b with k | k <;> simp [h, k]
      rcases Nat.mod_two_eq_zero_or_one a with ha | ha <;> rcases Nat.mod_two_eq_zero_or_one b with hb | hb <;> rw [ha, hb] at h3 h4 <;> omega
/-- the middle of two numbers, by bits -/
theorem mid_i64 {a b : Int} (ha : I64 a) (hb : I64 b) : IntKind.wrap .i64 (andI .i64 a b + Int.fdiv (xorI .i64 a b) 2) = (a + b).fdiv 2 := by
  have h := Nat.add_xor (BitVec.ofInt 64 a).toNat (BitVec.ofInt 64 b).toNat
  have hs := xor_neg ha hb
  have hs2 := and_neg ha hb
  revert hs hs2
  rw [and_i64_bv, xor_i64_bv, BitVec.toNat_and, BitVec.toNat_xor]
  rw [bvI64 ha, bvI64 hb] at h ⊢
  have l1 := Nat.xor_lt_two_pow (n := 64) (x := (a % 18446744073709551616).toNat) (y := (b % 18446744073709551616).toNat) (by omega) (by omega)
  have l2 : (a % 18446744073709551616).toNat &&& (b % 18446744073709551616).toNat ≤ _ := Nat.and_le_left
  generalize (a % 18446744073709551616).toNat &&& (b % 18446744073709551616).toNat = p at *
  generalize (a % 18446744073709551616).toNat ^^^ (b % 18446744073709551616).toNat = q at *
  simp only [wi64, Int.fdiv_eq_ediv_of_nonneg _ (show (0 : Int) ≤ 2 by decide)]
  unfold I64 at ha hb
  intro hs hs2
  omega

/-! ### numbers of 128 bits -/
def lo (z : Int) : Int := z % 18446744073709551616
def hi (z : Int) : Int := (z / 18446744073709551616 + 9223372036854775808) % 18446744073709551616 - 9223372036854775808
def val (h l : Int) : Int := h * 18446744073709551616 + l
def W (z : Int) : Int := (z + 170141183460469231731687303715884105728) % 340282366920938463463374607431768211456 - 170141183460469231731687303715884105728
def wd (z : Int) : VV := .v (.agg #[.int .i64 (hi z), .int .u64 (lo z)])
def W128 (z : Int) : Prop := -170141183460469231731687303715884105728 ≤ z ∧ z < 170141183460469231731687303715884105728

theorem lo_U (z : Int) : U64 (lo z) := by unfold U64 lo; omega
theorem hi_I (z : Int) : I64 (hi z) := by unfold I64 hi; omega
theorem val_W {h l : Int} (hh : I64 h) (hl : U64 l) : W128 (val h l) := by unfold W128 val; unfold I64 at hh; unfold U64 at hl; omega
theorem W_W (z : Int) : W128 (W z) := by unfold W128 W; omega
theorem W_in {z : Int} (h : W128 z) : W z = z := by unfold W; unfold W128 at h; omega
theorem val_hl (z : Int) : val (hi z) (lo z) = W z := by unfold val hi lo W; omega
theorem hi_val {h l : Int} (hh : I64 h) (hl : U64 l) : hi (val h l) = h := by unfold hi val; unfold I64 at hh; unfold U64 at hl; omega
theorem lo_val {h l : Int} (hl : U64 l) : lo (val h l) = l := by unfold lo val; unfold U64 at hl; omega
/-- the same but for what goes round -/
def Eqv (x y : Int) : Prop := x % 340282366920938463463374607431768211456 = y % 340282366920938463463374607431768211456
theorem lo_eqv {x y : Int} (h : Eqv x y) : lo x = lo y := by unfold Eqv at h; unfold lo; omega
theorem hi_eqv {x y : Int} (h : Eqv x y) : hi x = hi y := by unfold Eqv at h; unfold hi; omega
theorem wd_eqv {x y : Int} (h : Eqv x y) : wd x = wd y := by unfold wd; rw [lo_eqv h, hi_eqv h]
theorem W_eqv (x : Int) : Eqv (W x) x := by unfold Eqv W; omega
theorem Eqv.rfl {x : Int} : Eqv x x := Eq.refl _
theorem Eqv.symm {x y : Int} (h : Eqv x y) : Eqv y x := Eq.symm h
theorem Eqv.trans {x y z : Int} (h : Eqv x y) (k : Eqv y z) : Eqv x z := Eq.trans h k
theorem Eqv.add {x y z w : Int} (h : Eqv x y) (k : Eqv z w) : Eqv (x + z) (y + w) := by unfold Eqv at *; omega
theorem Eqv.neg {x y : Int} (h : Eqv x y) : Eqv (-x) (-y) := by unfold Eqv at *; omega
theorem Eqv.sub {x y z w : Int} (h : Eqv x y) (k : Eqv z w) : Eqv (x - z) (y - w) := by unfold Eqv at *; omega
theorem Eqv.mul {x y : Int} (c : Int) (h : Eqv x y) : Eqv (x * c) (y * c) := by
  unfold Eqv at *
  rw [Int.mul_emod, h, ← Int.mul_emod]
theorem hl_inj {x y : Int} (hx : W128 x) (hy : W128 y) (h : hi x = hi y) (l : lo x = lo y) : x = y := by
  have := val_hl x
  have := val_hl y
  rw [W_in hx] at *
  rw [W_in hy] at *
  rw [h, l] at *
  omega
theorem hl_W (x : Int) : hi (W x) = hi x ∧ lo (W x) = lo x := ⟨hi_eqv (W_eqv x), lo_eqv (W_eqv x)⟩
end Go.Xv
namespace Go.Xv
open Go.RowKit Go.WideShapes Go.ChangeShapes
section
variable {H : Type} {enc : TypeId × Value → H} {P : Program}

def rowed (P : Program) (ts : List TypeId) : Bool := ts.all fun t => P.readableRec t && decide (t < P.types.size)

theorem trodAll_below (hl : laidOutB P = true) {W W' : World} (hb : Below W.heap.size W W') {sp : Nat → Bool} :
    ∀ {ts : List TypeId} {vs : List Value} {ds : List (DataW H)} {ps : List MemPlace}, rowed P ts = true → DataW.TrodAll enc P W 0 (fun _ => true) true ts vs ds ps → (∀ x ∈ ps, x.block < W.heap.size) →
      (∀ x ∈ ps, sp x.block = true) → DataW.TrodAll enc P W' 0 sp true ts vs ds ps
  | [], _, _, _, _, h, _, _ => by
    obtain ⟨rfl, rfl, rfl⟩ := trodAll_nil h
    rfl
  | t :: ts, _, _, _, hr, h, hlt, hsp => by
    obtain ⟨v, vs, d, ds, p, q, rfl, rfl, rfl, h1, h2⟩ := trodAll_cons h
    simp only [rowed, List.all_cons, Bool.and_eq_true, decide_eq_true_eq] at hr
    exact ⟨p, q, WideElems.Trod_stays hl hr.1.1 hr.1.2 h1 (fun x hx => hb.same (hlt x (by simp [hx]))) (fun x hx => hsp x (by simp [hx])),
      trodAll_below hl hb hr.2 h2 (fun x hx => hlt x (by simp [hx])) (fun x hx => hsp x (by simp [hx])), rfl⟩

theorem law_contract (hl : laidOutB P = true) {n : FuncId} {g : List VV → Option VV} (hg : Good P n g) {fn : Func} {s : ChangeSpec} {apart fresh handsOn again : Bool}
    {bt : TypeId} (hbt : P.underlying bt = some .bool) (hres : fn.resultTypes = #[bt]) (hro : rowed P fn.params.toList = true) (hsv : s.vars = [])
    {W : World} {args : Array Value} {ds gs : List (DataW H)} {before : List MemPlace}
    (hfn : s.fn H ds = { results := [.lit (.bool true)], args := ds })
    (hW : DataW.Whole enc P fn.params.toList s.vars apart W args.toList ds gs before)
    (hrd : ∃ vv : List VV, args.size = vv.length ∧ (∀ (i : Nat) (x : VV), vv[i]? = some x → ∃ y, args[i]? = some y ∧ Rel (fun b => b < W.heap.size) W rho0 x y) ∧ g vv = some (.v (.bool true))) :
    Calls P n args W fun e W' => ∃ v, e = .returned v ∧ s.post enc P fn apart fresh handsOn again W args v W' := by
  obtain ⟨vv, hsz, hrel, hgv⟩ := hrd
  refine ((hg vv _ hgv).2 W args _ (fun _ h => h) hsz hrel).mono fun e W' ⟨v, he, hb, hr⟩ => ⟨v, he, ?_⟩
  obtain rfl : v = .bool true := by
    have := hr.1
    cases this
    rfl
  have hlt := hW.lt
  have hW0 := hW
  obtain ⟨p, q, hA, hV, rfl, hz, hn⟩ := hW
  rw [hsv] at hV
  obtain ⟨rfl, rfl⟩ : gs = [] ∧ q = [] := by
    cases gs with
    | nil => exact ⟨rfl, hV⟩
    | cons => exact hV.elim
  have hps : ∀ x ∈ p, x.block < W.heap.size := fun x hx => hlt x (by simp [hx])
  have hargs : ∀ sp : Nat → Bool, (∀ x ∈ p, sp x.block = true) → DataW.TrodAll enc P W' 0 sp true fn.params.toList args.toList ds p := fun sp hsp =>
    trodAll_below hl hb hro hA hps hsp
  have hresT : ∀ (b : Nat) (sp : Nat → Bool) (hd : Bool), DataW.TrodAll enc P W' b sp hd fn.resultTypes.toList ((Value.bool true).resultList fn.resultTypes.size) [.lit (.bool true)] [] := by
    intro b sp hd
    rw [hres]
    exact ⟨[], [], shut_bool hbt true, rfl, rfl⟩
  have hfn' : s.fn H (ds ++ []) = { results := [.lit (.bool true)], args := ds } := by rw [List.append_nil]; exact hfn
  have hvars : ∀ sp : Nat → Bool, DataW.TrodVars enc P W' sp s.vars [] [] := fun sp => by rw [hsv]; rfl
  refine ⟨ds, [], p ++ [], [], p, [], hW0, ?_, ?_, ?_, hb.frame _, fun _ => ⟨ok_one hres rfl (okWide_bool_mk hbt _), ?_⟩⟩
  · rw [hfn']; exact hresT _ _ _
  · rw [hfn']; exact hargs _ (fun x hx => by simpa using hps x hx)
  · rw [hfn']; exact hvars _
  · refine ⟨_, _, ([] ++ p) ++ [], ⟨[] ++ p, [], trodAll_append (hargs _ (fun _ _ => rfl)) (hresT _ _ _), hvars _, rfl, ?_, ?_⟩, ?_⟩
    · intro b off hp
      rw [hb.frozen (hlt _ (by simpa using hp))]
      exact hz b off (by simpa using hp)
    · intro ha
      simpa using hn ha
    · intro x hx _
      simpa using hx
end
end Go.Xv
namespace Go.Xv
open Go.RowKit Go.WideShapes Go.ChangeShapes

/-- The kinds of a type's cells (none: a bool), if they are integers and bools alone, its fields without a gap. -/
def shFs (P : Program) (g : TypeId → Option (List (Option IntKind))) : Nat → List Field → Option (List (Option IntKind))
  | _, [] => some []
  | off, f :: r => bif Nat.beq f.offset off then (match g f.type with
    | some l => bif Nat.beq l.length (P.cellsOf f.type) then (match shFs P g (off + l.length) r with
      | some q => some (l ++ q)
      | none => none) else none
    | none => none) else none
def shK (P : Program) : Nat → TypeId → Option (List (Option IntKind))
  | 0, _ => none
  | d + 1, t => match P.underlying t with
    | some (.int k) => some [some k]
    | some .bool => some [none]
    | some (.array n e) => match shK P d e with
      | some l => bif Nat.beq l.length (P.cellsOf e) && Nat.beq (n * l.length) (P.cellsOf t) then some (List.replicate n l).flatten else none
      | none => none
    | some (.struct fs) => match shFs P (shK P d) 0 fs.toList with
      | some l => bif Nat.beq l.length (P.cellsOf t) then some l else none
      | none => none
    | _ => none

def fitW : List (Option IntKind) → List Value → Prop
  | [], [] => True
  | some k :: r, .int k' n :: q => k' = k ∧ (Lit.int k n).wf = true ∧ fitW r q
  | none :: r, .bool _ :: q => fitW r q
  | _, _ => False

theorem fitW_append : ∀ {a b : List (Option IntKind)} {x y : List Value}, fitW a x → fitW b y → fitW (a ++ b) (x ++ y)
  | [], _, [], _, _, h => h
  | [], _, _ :: _, _, h, _ => by cases h
  | none :: a, b, x, y, h, h2 => by
    cases x with
    | nil => cases h
    | cons v x => cases v <;> first | exact fitW_append (a := a) h h2 | cases h
  | some k :: a, b, x, y, h, h2 => by
    cases x with
    | nil => cases h
    | cons v x => cases v <;> first | exact ⟨h.1, h.2.1, fitW_append h.2.2 h2⟩ | cases h
theorem fitW_len : ∀ {a : List (Option IntKind)} {x : List Value}, fitW a x → x.length = a.length
  | [], [], _ => rfl
  | [], _ :: _, h => by cases h
  | none :: a, x, h => by
    cases x with
    | nil => cases h
    | cons v x => cases v <;> first | exact congrArg (· + 1) (fitW_len (a := a) h) | cases h
  | some k :: a, x, h => by
    cases x with
    | nil => cases h
    | cons v x => cases v <;> first | exact congrArg (· + 1) (fitW_len h.2.2) | cases h
theorem fitW_some {k : IntKind} {r : List (Option IntKind)} {l : List Value} (h : fitW (some k :: r) l) : ∃ n q, l = .int k n :: q ∧ (Lit.int k n).wf = true ∧ fitW r q := by
  cases l with
  | nil => cases h
  | cons v q =>
    cases v with
    | int k' n => obtain ⟨rfl, h2, h3⟩ := h; exact ⟨n, q, rfl, h2, h3⟩
    | _ => cases h
theorem fitW_none {r : List (Option IntKind)} {l : List Value} (h : fitW (none :: r) l) : ∃ b q, l = .bool b :: q ∧ fitW r q := by
  cases l with
  | nil => cases h
  | cons v q =>
    cases v with
    | bool b => exact ⟨b, q, rfl, h⟩
    | _ => cases h
theorem fitW_nil {l : List Value} (h : fitW [] l) : l = [] := by
  cases l with
  | nil => rfl
  | cons _ _ => cases h

section
variable {H : Type} {enc : TypeId × Value → H} {P : Program} {w : World} {base : Nat} {spare : Nat → Bool} {held : Bool}

theorem trod_arr {t e : TypeId} {n fuel : Nat} {cs : List Value} {x : DataW H × List MemPlace} (ht : P.underlying t = some (.array n e)) (h : DataW.trod enc P w base spare held fuel t cs = some x) :
    ∃ m, fuel = m + 1 ∧ cs.length = P.cellsOf t ∧ ∀ i, i < n → ∃ y, DataW.trod enc P w base spare held m e ((cs.drop (i * P.cellsOf e)).take (P.cellsOf e)) = some y := by
  obtain ⟨xs, m, h1, _, h2, h3, h4⟩ := DataW.trod_array ht h
  refine ⟨m, h1, h2, fun i hi => ?_⟩
  rw [h4 i hi]
  exact ⟨xs[i], List.getElem?_eq_getElem (by omega)⟩

theorem arr_fit {l : List (Option IntKind)} {z : Nat} (hz : l.length = z) : ∀ (n : Nat) (cs : List Value), cs.length = n * z → (∀ i, i < n → fitW l ((cs.drop (i * z)).take z)) → fitW (List.replicate n l).flatten cs
  | 0, cs, h, _ => by
    obtain rfl : cs = [] := by cases cs with
      | nil => rfl
      | cons _ _ => simp at h
    exact trivial
  | n + 1, cs, h, hf => by
    have h0 := hf 0 (by omega)
    rw [Nat.zero_mul, List.drop_zero] at h0
    rw [List.replicate_succ, List.flatten_cons, ← List.take_append_drop z cs]
    refine fitW_append h0 (arr_fit hz n _ (by rw [List.length_drop, h, Nat.succ_mul]; omega) fun i hi => ?_)
    have := hf (i + 1) (by omega)
    rw [List.drop_drop, show z + i * z = (i + 1) * z by rw [Nat.succ_mul]; omega]
    exact this

theorem str_fit {g : TypeId → Option (List (Option IntKind))} {cs : List Value} (N : Nat) (hN : cs.length = N) : ∀ (fs : List Field) (off : Nat) (l : List (Option IntKind)), shFs P g off fs = some l → off + l.length = N →
    (∀ f ∈ fs, ∀ q, g f.type = some q → fitW q ((cs.drop f.offset).take (P.cellsOf f.type))) → fitW l (cs.drop off)
  | [], off, l, h, he, _ => by
    simp only [shFs, Option.some.injEq] at h
    subst h
    rw [List.drop_eq_nil_of_le (by simp at he; omega)]
    exact trivial
  | f :: r, off, l, h, he, hf => by
    unfold shFs at h
    cases h1 : Nat.beq f.offset off with
    | false => rw [h1] at h; cases h
    | true =>
      rw [h1] at h
      simp only [cond_true] at h
      cases h2 : g f.type with
      | none => rw [h2] at h; cases h
      | some a =>
        rw [h2] at h
        simp only at h
        cases h3 : Nat.beq a.length (P.cellsOf f.type) with
        | false => rw [h3] at h; cases h
        | true =>
          rw [h3] at h
          simp only [cond_true] at h
          cases h4 : shFs P g (off + a.length) r with
          | none => rw [h4] at h; cases h
          | some b =>
            rw [h4] at h
            simp only [Option.some.injEq] at h
            subst h
            have e1 := Nat.eq_of_beq_eq_true h1
            have e3 := Nat.eq_of_beq_eq_true h3
            have k1 := hf f (by simp) a h2
            rw [e1, ← e3] at k1
            rw [List.length_append] at he
            have k2 := str_fit N hN r (off + a.length) b h4 (by omega) fun f' hf' => hf f' (by simp [hf'])
            rw [← List.take_append_drop a.length (cs.drop off), List.drop_drop]
            exact fitW_append k1 k2

theorem trod_flat : ∀ (d : Nat) (t : TypeId) (ks : List (Option IntKind)) (fuel : Nat) (cs : List Value) (x : DataW H × List MemPlace), shK P d t = some ks → DataW.trod enc P w base spare held fuel t cs = some x → fitW ks cs
  | 0, _, _, _, _, _, h, _ => by cases h
  | d + 1, t, ks, fuel, cs, x, h, hx => by
    unfold shK at h
    cases ht : P.underlying t with
    | none => rw [ht] at h; cases h
    | some u =>
      rw [ht] at h
      cases u with
      | int k =>
        simp only [Option.some.injEq] at h
        subst h
        obtain ⟨n', h1, _, hw⟩ := DataW.trod_int ht hx
        subst h1
        exact ⟨rfl, hw, trivial⟩
      | bool =>
        simp only [Option.some.injEq] at h
        subst h
        cases fuel with
        | zero => simp [DataW.trod] at hx
        | succ n =>
          unfold DataW.trod at hx
          rw [ht] at hx
          split at hx <;> simp_all
          trivial
      | array n e =>
        simp only at h
        cases he : shK P d e with
        | none => rw [he] at h; cases h
        | some l =>
          rw [he] at h
          simp only at h
          cases hb : (Nat.beq l.length (P.cellsOf e) && Nat.beq (n * l.length) (P.cellsOf t)) with
          | false => rw [hb] at h; cases h
          | true =>
            rw [hb] at h
            simp only [cond_true, Option.some.injEq] at h
            subst h
            rw [Bool.and_eq_true] at hb
            have e1 := Nat.eq_of_beq_eq_true hb.1
            have e2 := Nat.eq_of_beq_eq_true hb.2
            obtain ⟨m, _, hl, hel⟩ := trod_arr ht hx
            refine arr_fit e1 n cs (by rw [hl, ← e2, e1]) fun i hi => ?_
            obtain ⟨y, hy⟩ := hel i hi
            exact trod_flat d e l m _ y he hy
      | struct fs =>
        simp only at h
        cases he : shFs P (shK P d) 0 fs.toList with
        | none => rw [he] at h; cases h
        | some l =>
          rw [he] at h
          simp only at h
          cases hb : Nat.beq l.length (P.cellsOf t) with
          | false => rw [hb] at h; cases h
          | true =>
            rw [hb] at h
            simp only [cond_true, Option.some.injEq] at h
            subst h
            have e1 := Nat.eq_of_beq_eq_true hb
            obtain ⟨xs, m, _, _, hl, hn, hel⟩ := DataW.trod_struct ht hx
            have := str_fit (P := P) (cs := cs) (P.cellsOf t) hl fs.toList 0 l he (by omega) ?_
            · simpa using this
            · intro f hf q hq
              obtain ⟨i, hi⟩ := List.mem_iff_getElem?.1 hf
              have hi' : fs[i]? = some f := by simpa using hi
              have hlt : i < fs.size := by
                rcases Nat.lt_or_ge i fs.size with h | h
                · exact h
                · rw [Array.getElem?_eq_none h] at hi'; cases hi'
              have h1 := hel i f hi'
              have h2 : xs[i]? = some xs[i] := List.getElem?_eq_getElem (by omega)
              rw [h2] at h1
              exact trod_flat d f.type q m _ _ hq h1
      | _ => simp only at h; cases h

theorem open_flat {r : Reach} {b0 : Nat} {t : TypeId} {v : Value} {d : DataW H} {ps : List MemPlace} {ks : List (Option IntKind)} (hs : shK P 20 t = some ks) (ha : isAggT P t = true)
    (hval : Value.okWide P w r b0 t v) (hd : DataW.Trod enc P w base spare held t v d ps) : ∃ l, v = .agg ⟨l⟩ ∧ fitW ks l := by
  have hv : ∃ cs, v = .agg cs := by
    unfold isAggT at ha
    unfold Value.okWide at hval
    cases ht : P.underlying t with
    | none => rw [ht] at ha; cases ha
    | some u =>
      rw [ht] at ha hval
      cases u <;> first | (cases ha; done) | (obtain ⟨cs, h, _⟩ := hval; exact ⟨cs, h⟩)
  obtain ⟨⟨l⟩, rfl⟩ := hv
  obtain ⟨fuel, hf⟩ := hd
  exact ⟨l, rfl, trod_flat 20 t ks fuel _ _ hs hf⟩
theorem open_num {r : Reach} {b0 : Nat} {t : TypeId} {k : IntKind} {v : Value} {d : DataW H} {ps : List MemPlace} (ht : P.underlying t = some (.int k)) (hval : Value.okWide P w r b0 t v) (hd : DataW.Trod enc P w base spare held t v d ps) :
    ∃ n, v = .int k n ∧ (Lit.int k n).wf = true := by
  obtain ⟨n, h1, _, _, h2⟩ := open_int ht hval hd
  exact ⟨n, h1, h2⟩
end

theorem wf_i64 {n : Int} (h : (Lit.int .i64 n).wf = true) : I64 n := by
  simp [Lit.wf, IntKind.min, IntKind.max, IntKind.signed, IntKind.bits] at h
  unfold I64; omega
theorem wf_u64 {n : Int} (h : (Lit.int .u64 n).wf = true) : U64 n := by
  simp [Lit.wf, IntKind.min, IntKind.max, IntKind.signed, IntKind.bits] at h
  unfold U64; omega
theorem wf_i32 {n : Int} (h : (Lit.int .i32 n).wf = true) : I32 n := by
  simp [Lit.wf, IntKind.min, IntKind.max, IntKind.signed, IntKind.bits] at h
  unfold I32; omega
theorem wf_u32 {n : Int} (h : (Lit.int .u32 n).wf = true) : U32 n := by
  simp [Lit.wf, IntKind.min, IntKind.max, IntKind.signed, IntKind.bits] at h
  unfold U32; omega
theorem wf_u8 {n : Int} (h : (Lit.int .u8 n).wf = true) : U8 n := by
  simp [Lit.wf, IntKind.min, IntKind.max, IntKind.signed, IntKind.bits] at h
  unfold U8; omega

/-- plain values as they are -/
theorem rel_plain {St : Nat → Prop} {W : World} {ρ : Rho} (args : Array Value) : ∃ vv : List VV, vv = args.toList.map .v ∧ args.size = vv.length ∧ ∀ (i : Nat) (x : VV), vv[i]? = some x → ∃ y, args[i]? = some y ∧ Rel St W ρ x y := by
  refine ⟨_, rfl, by simp, fun i x h => ?_⟩
  rw [List.getElem?_map] at h
  cases hy : args.toList[i]? with
  | none => rw [hy] at h; cases h
  | some y =>
    rw [hy] at h
    cases h
    exact ⟨y, by simpa using hy, Rel.v ρ y⟩
theorem unS_of {g : List VV → Option (Bool × VV)} {l : List VV} {r : VV} (h : g l = some (true, r)) : unS g l = some r := by
  unfold unS; rw [h]
end Go.Xv
/- What a program's head says, of any program: so that the kernel never reads a long text letter by letter. -/
namespace Go.Xv
open Go.ChangeShapes Go.WideShapes Go.ChangeAt Go.RowKit
def cutW : List Char := [Char.ofNat 99, Char.ofNat 117, Char.ofNat 116]
theorem t_harness : "harness".toList = [Char.ofNat 104, Char.ofNat 97, Char.ofNat 114, Char.ofNat 110, Char.ofNat 101, Char.ofNat 115, Char.ofNat 115] := String.toList_ofList
theorem t_ownmain : "ownmain".toList = [Char.ofNat 111, Char.ofNat 119, Char.ofNat 110, Char.ofNat 109, Char.ofNat 97, Char.ofNat 105, Char.ofNat 110] := String.toList_ofList
theorem t_gc : "gc".toList = [Char.ofNat 103, Char.ofNat 99] := String.toList_ofList
theorem t_spec : "spec".toList = [Char.ofNat 115, Char.ofNat 112, Char.ofNat 101, Char.ofNat 99] := String.toList_ofList
theorem t_carried : "carried".toList = [Char.ofNat 99, Char.ofNat 97, Char.ofNat 114, Char.ofNat 114, Char.ofNat 105, Char.ofNat 101, Char.ofNat 100] := String.toList_ofList
theorem t_cut : "cut".toList = [Char.ofNat 99, Char.ofNat 117, Char.ofNat 116] := String.toList_ofList
theorem t_stop : "stop".toList = [Char.ofNat 115, Char.ofNat 116, Char.ofNat 111, Char.ofNat 112] := String.toList_ofList
theorem t_finals : "finals".toList = [Char.ofNat 102, Char.ofNat 105, Char.ofNat 110, Char.ofNat 97, Char.ofNat 108, Char.ofNat 115] := String.toList_ofList
theorem t_reflectrows : "reflectrows".toList = [Char.ofNat 114, Char.ofNat 101, Char.ofNat 102, Char.ofNat 108, Char.ofNat 101, Char.ofNat 99, Char.ofNat 116, Char.ofNat 114, Char.ofNat 111, Char.ofNat 119, Char.ofNat 115] := String.toList_ofList
theorem t_leanrows : "leanrows".toList = [Char.ofNat 108, Char.ofNat 101, Char.ofNat 97, Char.ofNat 110, Char.ofNat 114, Char.ofNat 111, Char.ofNat 119, Char.ofNat 115] := String.toList_ofList
theorem t_onebuild : "onebuild".toList = [Char.ofNat 111, Char.ofNat 110, Char.ofNat 101, Char.ofNat 98, Char.ofNat 117, Char.ofNat 105, Char.ofNat 108, Char.ofNat 100] := String.toList_ofList
theorem t_publicsums : "publicsums".toList = [Char.ofNat 112, Char.ofNat 117, Char.ofNat 98, Char.ofNat 108, Char.ofNat 105, Char.ofNat 99, Char.ofNat 115, Char.ofNat 117, Char.ofNat 109, Char.ofNat 115] := String.toList_ofList
theorem t_eqguard : "eqguard".toList = [Char.ofNat 101, Char.ofNat 113, Char.ofNat 103, Char.ofNat 117, Char.ofNat 97, Char.ofNat 114, Char.ofNat 100] := String.toList_ofList
theorem t_ownunsafe : "ownunsafe".toList = [Char.ofNat 111, Char.ofNat 119, Char.ofNat 110, Char.ofNat 117, Char.ofNat 110, Char.ofNat 115, Char.ofNat 97, Char.ofNat 102, Char.ofNat 101] := String.toList_ofList
theorem t_libbeside : "libbeside".toList = [Char.ofNat 108, Char.ofNat 105, Char.ofNat 98, Char.ofNat 98, Char.ofNat 101, Char.ofNat 115, Char.ofNat 105, Char.ofNat 100, Char.ofNat 101] := String.toList_ofList
theorem t_ownbeside : "ownbeside".toList = [Char.ofNat 111, Char.ofNat 119, Char.ofNat 110, Char.ofNat 98, Char.ofNat 101, Char.ofNat 115, Char.ofNat 105, Char.ofNat 100, Char.ofNat 101] := String.toList_ofList
theorem t_reflbeside : "reflbeside".toList = [Char.ofNat 114, Char.ofNat 101, Char.ofNat 102, Char.ofNat 108, Char.ofNat 98, Char.ofNat 101, Char.ofNat 115, Char.ofNat 105, Char.ofNat 100, Char.ofNat 101] := String.toList_ofList
theorem t_aliases : "aliases".toList = [Char.ofNat 97, Char.ofNat 108, Char.ofNat 105, Char.ofNat 97, Char.ofNat 115, Char.ofNat 101, Char.ofNat 115] := String.toList_ofList
theorem t_afterinit : "afterinit".toList = [Char.ofNat 97, Char.ofNat 102, Char.ofNat 116, Char.ofNat 101, Char.ofNat 114, Char.ofNat 105, Char.ofNat 110, Char.ofNat 105, Char.ofNat 116] := String.toList_ofList
theorem t_crcplain : "crcplain".toList = [Char.ofNat 99, Char.ofNat 114, Char.ofNat 99, Char.ofNat 112, Char.ofNat 108, Char.ofNat 97, Char.ofNat 105, Char.ofNat 110] := String.toList_ofList
theorem t_roadunsafe : "roadunsafe".toList = [Char.ofNat 114, Char.ofNat 111, Char.ofNat 97, Char.ofNat 100, Char.ofNat 117, Char.ofNat 110, Char.ofNat 115, Char.ofNat 97, Char.ofNat 102, Char.ofNat 101] := String.toList_ofList
theorem t_fmthandon : "fmthandon".toList = [Char.ofNat 102, Char.ofNat 109, Char.ofNat 116, Char.ofNat 104, Char.ofNat 97, Char.ofNat 110, Char.ofNat 100, Char.ofNat 111, Char.ofNat 110] := String.toList_ofList
section
variable {P : Program} {R : List (List Char)}
theorem behind_of {S : List Char} {L : List Char} (io : P.initOrder.toList = L) (h : wordsSigns L = [Char.ofNat 104, Char.ofNat 97, Char.ofNat 114, Char.ofNat 110, Char.ofNat 101, Char.ofNat 115, Char.ofNat 115] :: S :: cutW :: R) (hs : isSumSigns S = true) : behindMainWord (wordsSigns P.initOrder.toList) = cutW :: R := by
  rw [io, h]
  unfold behindMainWord
  dsimp only
  rw [hs, t_harness, t_ownmain]
  rfl
theorem strip_of : stripLifts liftWords (cutW :: R) = ([], cutW :: R) := by
  simp only [liftWords, stripLifts, t_finals, t_reflectrows, t_leanrows, t_onebuild, t_publicsums, t_eqguard, t_ownunsafe, t_libbeside, t_ownbeside, t_reflbeside, t_aliases, t_afterinit, t_crcplain, t_roadunsafe, t_fmthandon]
  rfl
theorem make_of (h : behindMainWord (wordsSigns P.initOrder.toList) = cutW :: R) : P.make = some .cut := by
  unfold Program.make
  rw [h]
  dsimp only
  rw [t_gc, t_spec, t_cut]
  rfl
theorem heads_of (h : behindMainWord (wordsSigns P.initOrder.toList) = cutW :: R) : P.headLifts = [] := by
  unfold Program.headLifts
  rw [h, strip_of]
  dsimp only
  rw [t_cut]
  rfl
theorem lifts_of (h : behindMainWord (wordsSigns P.initOrder.toList) = cutW :: R) : P.liftsFinal = false := by
  unfold Program.liftsFinal
  rw [h, heads_of h]
  dsimp only
  rw [t_carried, t_gc, t_cut]
  rfl
theorem enter_of (h : behindMainWord (wordsSigns P.initOrder.toList) = cutW :: R) (h1 : P.laysLater = false) (h2 : P.bearsReflect = false) (h3 : P.doorFits [] = true) : P.mayEnter = true := by
  unfold Program.mayEnter
  rw [h]
  dsimp only
  rw [strip_of]
  dsimp only
  rw [t_gc, t_spec, t_carried, t_cut, h1, h2, h3]
  rfl
/-- The row's closed facts, with the head's ones given. -/
theorem joined_of {f : FuncId} {fn : Func} {s : ChangeSpec} {c : OpenClaim} (h : behindMainWord (wordsSigns P.initOrder.toList) = cutW :: R) (he : P.mayEnter = true) (hc : c.lifted = false) (hm : c.make = .cut)
    (hk : c.domain.isEmpty = true ∧ c.kinds = [])
    (hx : (c.wf (OpenSpec.ofChange s) && laidOutB P && mapsRowed P && fn.params.all (P.readableRec ·) && namedTie P c.named s.vars && (c.stops == []) && (P.stops == []) && (c.knobs == []) && (P.stopKnobs == []) && (c.inPlace == P.inPlace f) && (c.unfollowed == P.unfollowed f) && (c.recurses == P.recurses f) && (c.named == P.varsNamed f) && (c.maps == (fn.params.toList ++ s.plain.varTypes P).any (P.mapsRec ·)) && (c.ifaces == (fn.params.toList ++ s.plain.varTypes P).any (P.ifacesRec ·)) && (c.mapsOut == P.mapsAmong fn.resultTypes.toList) && (c.loops == (fn.params.toList ++ s.plain.varTypes P).any (P.loopsFrom ·)) && (c.wideKeys == (fn.params.toList ++ s.plain.varTypes P ++ fn.resultTypes.toList).any (P.wideKeysFrom ·)) && s.vars.all (P.varReadable ·) && fn.resultTypes.all (fun t => P.readableRec t && decide (t < P.types.size)) && (c.ifacesOut == fn.resultTypes.toList.any (P.ifacesRec ·)) && (c.loopsOut == fn.resultTypes.toList.any (P.loopsFrom ·)) && (c.plainKeys == P.plainKeys) && c.shortTexts.isNone && P.stopsHeard && (c.pinned == c.pinnedBy) &&
  (c.veiled == (fn.params.toList ++ s.plain.varTypes P ++ fn.resultTypes.toList).any (P.veiledRec ·)) && c.veiledFits P fn.params.toList (fn.params.toList ++ s.plain.varTypes P ++ fn.resultTypes.toList)) = true) : joinedFacts P f fn s c = true := by
  simp only [Bool.and_eq_true] at hx
  unfold joinedFacts
  simp only [Bool.and_eq_true]
  rw [he, lifts_of h, make_of h, hc, hm]
  simp only [and_assoc] at hx ⊢
  simp only [hx, hk, if_true, and_self, BEq.rfl]
end
end Go.Xv
/- The closed facts of the seat's program that its rows ask: its head as a row of letters, and what is read off it. -/
namespace Go.Proofs.YtiahhalhbacgaaaGreat.base
open Go.ChangeShapes Go.WideShapes Go.ChangeAt Go.RowKit Go.Xv
set_option maxRecDepth 100000
def rest : List Char := [Char.ofNat 97, Char.ofNat 116, Char.ofNat 32, Char.ofNat 112, Char.ofNat 101, Char.ofNat 108, Char.ofNat 111, Char.ofNat 114, Char.ofNat 117, Char.ofNat 115, Char.ofNat 47, Char.ofNat 112, Char.ofNat 101, Char.ofNat 108, Char.ofNat 111, Char.ofNat 114, Char.ofNat 117, Char.ofNat 115, Char.ofNat 108, Char.ofNat 97, Char.ofNat 119, Char.ofNat 50, Char.ofNat 55, Char.ofNat 46, Char.ofNat 65, Char.ofNat 116, Char.ofNat 116, Char.ofNat 84, Char.ofNat 101, Char.ofNat 108, Char.ofNat 108, Char.ofNat 115]
def sum : List Char := [Char.ofNat 56, Char.ofNat 100, Char.ofNat 97, Char.ofNat 57, Char.ofNat 99, Char.ofNat 49, Char.ofNat 49, Char.ofNat 48, Char.ofNat 50, Char.ofNat 100, Char.ofNat 102, Char.ofNat 54, Char.ofNat 53, Char.ofNat 55, Char.ofNat 48, Char.ofNat 52, Char.ofNat 54, Char.ofNat 48, Char.ofNat 102, Char.ofNat 56, Char.ofNat 101, Char.ofNat 49, Char.ofNat 48, Char.ofNat 97, Char.ofNat 49, Char.ofNat 56, Char.ofNat 48, Char.ofNat 50, Char.ofNat 55, Char.ofNat 56, Char.ofNat 99, Char.ofNat 101, Char.ofNat 57, Char.ofNat 97, Char.ofNat 97, Char.ofNat 57, Char.ofNat 102, Char.ofNat 48, Char.ofNat 50, Char.ofNat 54, Char.ofNat 54, Char.ofNat 52, Char.ofNat 98, Char.ofNat 56, Char.ofNat 49, Char.ofNat 101, Char.ofNat 55, Char.ofNat 53, Char.ofNat 53, Char.ofNat 101, Char.ofNat 48, Char.ofNat 51, Char.ofNat 102, Char.ofNat 52, Char.ofNat 102, Char.ofNat 101, Char.ofNat 53, Char.ofNat 99, Char.ofNat 52, Char.ofNat 52, Char.ofNat 51, Char.ofNat 52, Char.ofNat 48, Char.ofNat 56]
def signs : List Char := [Char.ofNat 104, Char.ofNat 97, Char.ofNat 114, Char.ofNat 110, Char.ofNat 101, Char.ofNat 115, Char.ofNat 115] ++ (Char.ofNat 32 :: (sum ++ (Char.ofNat 32 :: ([Char.ofNat 99, Char.ofNat 117, Char.ofNat 116] ++ (Char.ofNat 32 :: rest)))))
theorem io : Tryz.prog.initOrder.toList = signs :=
  (congrArg String.toList (show Tryz.prog.initOrder = String.ofList signs by kernel_rfl)).trans String.toList_ofList
theorem first : wordsSigns signs = [Char.ofNat 104, Char.ofNat 97, Char.ofNat 114, Char.ofNat 110, Char.ofNat 101, Char.ofNat 115, Char.ofNat 115] :: sum :: cutW :: wordsSigns rest := by kernel_rfl
theorem sumOK : isSumSigns sum = true := by kernel_rfl
theorem behind : behindMainWord (wordsSigns Tryz.prog.initOrder.toList) = cutW :: wordsSigns rest := behind_of io first sumOK
theorem enter_ : Tryz.prog.mayEnter = true := enter_of behind (by kernel_rfl) (by kernel_rfl) (by kernel_rfl)
theorem own : ownKnob Tryz.prog.godebug = none := by kernel_rfl
theorem laidOut : laidOutB Tryz.prog = true := by kernel_rfl
end Go.Proofs.YtiahhalhbacgaaaGreat.base
