import PyProof.Rows.All
import Wide.All
import OpenK.AllK
import Wide.FinOn
import HandS.Base
import HandS.Call
import HandS.List
import HandS.Comp
import HandS.Ends
import HandS.Dict
import HandS.Words
import HandS.WordsList
import HandS.Evl
import HandS.TupAny
import HandS.TupMul
import HandS.TupLen
import PySem.Challenge.RW_weightkeepers_k21_whole_cosets
import HandS.IsInst
import KE.SortData
import KE.DataFind
import HandS.Conv
import KE.KDictCopyH
import KE.KExcSuper
import HandS.Exc
import HandS.ExcOwn
import HandS.WordsExc
import HandS.ExcField
set_option Elab.async false
set_option linter.all false
set_option maxRecDepth 100000
/-! K21Mirror: the program's defs as plain functions over lists of natural numbers. -/
namespace K21

abbrev W := List Nat

def addW (v w : W) (p : Nat) : W := List.zipWith (fun a b => (a + b) % p) v w
def scaledW (v : W) (m p : Nat) : W := v.map fun x => x * m % p
def dotW (v w : W) (p : Nat) : Nat := (List.zipWith (fun a b => a * b) v w).sum % p
def clearedW (row head : W) (c p : Nat) : W := addW row (scaledW head ((p - row.getD c 0) % p) p) p
def inverseW (a p : Nat) : Nat := ((List.range' 1 (p - 1)).find? fun k => a * k % p == 1).getD 0

/-- one turn of reduced: rest, found, pivots -/
structure Red where
  rest : List W
  found : List W
  piv : List Nat
def redStep (p : Nat) (s : Red) (c : Nat) : Red :=
  match s.rest.filter (fun r => r.getD c 0 != 0) with
  | [] => s
  | h :: _ =>
    let head := scaledW h (inverseW (h.getD c 0) p) p
    { rest := (s.rest.erase h).map fun r => clearedW r head c p
      found := (s.found.map fun r => clearedW r head c p) ++ [head]
      piv := s.piv ++ [c] }
def redAll (rows : List W) (n p : Nat) : Red := (List.range n).foldl (redStep p) ⟨rows, [], []⟩
def freeWord (t : List W) (piv : List Nat) (n p f : Nat) : W :=
  (List.range piv.length).foldl (fun w k => w.set (piv.getD k 0) ((p - (t.getD k []).getD f 0) % p)) ((List.replicate n 0).set f 1)
def kernelW (rows : List W) (n p : Nat) : List W :=
  let r := redAll rows n p
  ((List.range n).filter fun f => !r.piv.contains f).map fun f => freeWord r.found r.piv n p f

def weightW (w : W) : Nat := (w.filter fun x => x != 0).length
/-- one more than the last place that is not 0 -/
def lastW : W → Nat
  | [] => 0
  | x :: r => match lastW r with
    | 0 => if x == 0 then 0 else 1
    | l + 1 => l + 2
def heavierOne (p : Nat) (w : W) : List W :=
  (List.range' (lastW w) (w.length - lastW w)).flatMap fun c => (List.range' 1 (p - 1)).map fun a => w.set c a
def heavierW (ws : List W) (p : Nat) : List W := ws.flatMap (heavierOne p)

/-! tables: keys and values in order -/
abbrev Tb := List (W × List W)
def getT (t : Tb) (k : W) : Option (List W) := (t.find? fun e => e.1 == k).map (·.2)
def putT (t : Tb) (k : W) (v : List W) : Tb := if (t.any fun e => e.1 == k) then t.map (fun e => if e.1 == k then (e.1, v) else e) else t ++ [(k, v)]
def addT (t : Tb) (k w : W) : Tb := putT t k ((getT t k).getD [] ++ [w])
def keyW (checks : List W) (p : Nat) (w : W) : W := checks.map fun r => dotW r w p

def freshStep (checks : List W) (p : Nat) (table fresh : Tb) (w : W) : Tb :=
  let k := keyW checks p w
  if (getT table k).isSome then fresh else addT fresh k w
def freshOf (checks : List W) (p : Nat) (table : Tb) (layer : List W) : Tb := layer.foldl (freshStep checks p table) []
def mergeT (t u : Tb) : Tb := u.foldl (fun t e => putT t e.1 e.2) t
/-- the guards (true of every draw) keep the walk's sizes small -/
def cosLoop (checks : List W) (p count : Nat) : Nat → Tb → List W → Option Tb
  | 0, _, _ => none
  | m + 1, table, layer =>
    if table.length < count then
      if layer.length ≤ 300 then
        if (!table.isEmpty) || decide ((freshOf checks p table layer).length ≤ 1) then cosLoop checks p count m (mergeT table (freshOf checks p table layer)) (heavierW layer p) else none
      else none
    else some table

/-! sorting -/
def leW : W → W → Bool
  | [], _ => true
  | _ :: _, [] => false
  | x :: xs, y :: ys => if x < y then true else if y < x then false else leW xs ys
def insW (w : W) : List W → List W
  | [] => [w]
  | x :: r => if leW w x then w :: x :: r else x :: insW w r
def sortW (ws : List W) : List W := ws.foldr insW []

/-- sorted is asked of words that are not empty, or of at most one -/
def sortable (ws : List W) : Bool := decide (ws.length ≤ 1000) && (ws.all (fun w => !w.isEmpty) || decide (ws.length ≤ 1))
def cosetsW (p n k : Nat) (checks : List W) : Option Tb :=
  match cosLoop checks p (p ^ (n - k)) (n + 2) [] [List.replicate n 0] with
  | none => none
  | some t => if sortable (t.map (·.1)) && t.all (fun e => sortable e.2) then some ((sortW (t.map (·.1))).map fun key => (key, sortW ((getT t key).getD []))) else none
def maxN (ns : List Nat) : Nat := ns.foldl Nat.max 0
def minN : List Nat → Nat
  | [] => 0
  | x :: r => r.foldl Nat.min x
def radiusW (t : Tb) : Nat := maxN (t.map fun e => weightW (e.2.headD []))
def decidedW (p k : Nat) (t : Tb) : Nat := p ^ k * (t.filter fun e => e.2.length == 1).length

/-! the law -/
def allW (n p : Nat) : List W := match n with
  | 0 => [[]]
  | m + 1 => (allW m p).flatMap fun w => (List.range p).map fun a => w ++ [a]
def lawTable (n p : Nat) (checks : List W) : Tb := (allW n p).foldl (fun t w => addT t (keyW checks p w) w) []
/-- the due pair, the radius and the number of decided words so far -/
def dueStep (tbl : Tb) (s : Tb × Nat × Nat) (key : W) : Tb × Nat × Nat :=
  let ws := (getT tbl key).getD []
  let least := minN (ws.map weightW)
  let lead := ws.filter fun w => weightW w == least
  (s.1 ++ [(key, lead)], Nat.max s.2.1 least, s.2.2 + (if lead.length == 1 then ws.length else 0))
def goodT (tb : Tb) : Bool := (!tb.isEmpty && decide (tb.length ≤ 1000)) && tb.all (fun e => !e.2.isEmpty && e.2.all fun w => decide (w.length ≤ 100))
def lawOk (p n : Nat) (t : List W) : Bool :=
  let checks := kernelW t n p
  let tbl := lawTable n p checks
  let keys := allW (n - t.length) p
  let due := keys.foldl (dueStep tbl) ([], 0, 0)
  (keys.all fun k => !((getT tbl k).getD []).isEmpty) &&
  match cosetsW p n t.length checks with
  | none => false
  | some told => decide (t.length ≤ n) && goodT told && told == due.1 && radiusW told == due.2.1 && decidedW p t.length told == due.2.2

end K21

set_option maxRecDepth 100000
set_option maxHeartbeats 4000000
/-! K21Base: words in the heap, what evaluates to what. -/
namespace K21
open PySem L2
open Evl (Ex)

/-! ### the text by places -/
def top (i : Nat) : Stmt := PySem.Challenge.pw_weightkeepers_k21_whole_cosets.main.body.getD i (.Pass ⟨0, 0, 0, 0⟩)

/-! ### tuples stay -/
def TX (H H' : Hp) : Prop := ∀ a xs, H a = some (.tup xs) → H' a = some (.tup xs)
theorem TX.refl (H : Hp) : TX H H := fun _ _ h => h
theorem TX.trans {H H1 H2 : Hp} (a : TX H H1) (b : TX H1 H2) : TX H H2 := fun x o h => b x o (a x o h)
theorem TX.of {H H' : Hp} (e : Ex H H') : TX H H' := fun a xs h => e a _ h
theorem TX.upd {H : Hp} {a : Addr} {o : HO} (h : ∀ xs, H a ≠ some (.tup xs)) : TX H (upd H a o) := fun b xs e => by
  rw [upd_ne (fun z => h xs (by rw [← z]; exact e))]
  exact e
theorem TX.updL {H : Hp} {a : Addr} {o : HO} {ys : List V} (h : H a = some (.lst ys)) : TX H (L2.upd H a o) := TX.upd fun xs e => by rw [h] at e; cases e
theorem TX.updT {H : Hp} {a : Addr} {o : HO} {ks : List (List Key × V)} (h : H a = some (.dT ks)) : TX H (L2.upd H a o) := TX.upd fun xs e => by rw [h] at e; cases e
theorem TX.updN {H : Hp} {a : Addr} {o : HO} (h : H a = none) : TX H (L2.upd H a o) := TX.upd fun xs e => by rw [h] at e; cases e

/-! ### words in the heap -/
def iv (w : W) : List V := w.map fun n => V.int ((n : Nat) : Int)
theorem iv_len (w : W) : (iv w).length = w.length := List.length_map ..
theorem iv_get {w : W} {i : Nat} (h : i < w.length) : (iv w)[i]? = some (.int ((w.getD i 0 : Nat) : Int)) := by
  unfold iv
  rw [List.getElem?_map, List.getElem?_eq_getElem h, List.getD_eq_getElem?_getD, List.getElem?_eq_getElem h]
  rfl
/-- v is the word w -/
def Wd (H : Hp) (w : W) (v : V) : Prop := ∃ a, v = .ref a ∧ H a = some (.tup (iv w))
theorem Wd.tx {H H' : Hp} {w : W} {v : V} (e : TX H H') (h : Wd H w v) : Wd H' w v := by
  obtain ⟨a, r, h⟩ := h
  exact ⟨a, r, e _ _ h⟩
theorem Wd.ex {H H' : Hp} {w : W} {v : V} (e : Ex H H') (h : Wd H w v) : Wd H' w v := h.tx (TX.of e)
abbrev Wds (H : Hp) : List W → List V → Prop := Paired (Wd H)
theorem Paired.imp {α β : Type} {F G : α → β → Prop} : ∀ {l : List α} {m : List β}, Paired F l m → (∀ a b, F a b → G a b) → Paired G l m
  | _, _, .nil, _ => .nil
  | _, _, .cons r t, f => .cons (f _ _ r) (Paired.imp t f)
theorem Wds.tx {H H' : Hp} {ws : List W} {vs : List V} (e : TX H H') (h : Wds H ws vs) : Wds H' ws vs := Paired.imp h fun _ _ q => q.tx e
/-- v is a tuple, a list of words -/
def WT (H : Hp) (ws : List W) (v : V) : Prop := ∃ a us, v = .ref a ∧ H a = some (.tup us) ∧ Wds H ws us
theorem WT.tx {H H' : Hp} {ws : List W} {v : V} (e : TX H H') (h : WT H ws v) : WT H' ws v := by
  obtain ⟨a, us, r, h, p⟩ := h
  exact ⟨a, us, r, e _ _ h, Wds.tx e p⟩
def WL (H : Hp) (ws : List W) (v : V) : Prop := ∃ a us, v = .ref a ∧ H a = some (.lst us) ∧ Wds H ws us
theorem WL.ex {H H' : Hp} {ws : List W} {v : V} (e : Ex H H') (h : WL H ws v) : WL H' ws v := by
  obtain ⟨a, us, r, h, p⟩ := h
  exact ⟨a, us, r, e _ _ h, Wds.tx (TX.of e) p⟩
theorem pair_get {α β : Type} {F : α → β → Prop} : ∀ {l : List α} {m : List β} {i : Nat} {x : β}, Paired F l m → m[i]? = some x → ∃ a, l[i]? = some a ∧ F a x
  | _, _, i, _, .nil, h => by simp at h
  | _, _, 0, x, .cons r _, h => by
    rw [List.getElem?_cons_zero] at h
    cases h
    exact ⟨_, rfl, r⟩
  | _, _, i + 1, x, .cons _ t, h => by
    rw [List.getElem?_cons_succ] at h
    rw [List.getElem?_cons_succ]
    exact pair_get t h
theorem pair_getL {α β : Type} {F : α → β → Prop} : ∀ {l : List α} {m : List β} {i : Nat} {a : α}, Paired F l m → l[i]? = some a → ∃ x, m[i]? = some x ∧ F a x
  | _, _, i, _, .nil, h => by simp at h
  | _, _, 0, x, .cons r _, h => by
    rw [List.getElem?_cons_zero] at h
    cases h
    exact ⟨_, rfl, r⟩
  | _, _, i + 1, x, .cons _ t, h => by
    rw [List.getElem?_cons_succ] at h
    rw [List.getElem?_cons_succ]
    exact pair_getL t h
theorem pair_app {α β : Type} {F : α → β → Prop} : ∀ {l l' : List α} {m m' : List β}, Paired F l m → Paired F l' m' → Paired F (l ++ l') (m ++ m')
  | _, _, _, _, .nil, h => h
  | _, _, _, _, .cons r t, h => .cons r (pair_app t h)
theorem pair_snoc {α β : Type} {F : α → β → Prop} {l : List α} {m : List β} {a : α} {x : β} (h : Paired F l m) (r : F a x) : Paired F (l ++ [a]) (m ++ [x]) := pair_app h (.cons r .nil)
theorem pair_len {α β : Type} {F : α → β → Prop} {l : List α} {m : List β} (h : Paired F l m) : l.length = m.length := Paired.length h

/-! ### what evaluates to what: the value bears P -/
abbrev PV := V → Hp → Prop
def EvP (te : TE) (σ : L2.St) (H : Hp) (P : PV) : Prop := ∀ H1, Ex H H1 → ∀ Q : VK, (∀ v H2, Ex H1 H2 → P v H2 → Q v H2) → te σ H1 Q
/-- a new list, its items bear P -/
def EvN (te : TE) (σ : L2.St) (H : Hp) (P : List V → Hp → Prop) : Prop := ∀ H1, Ex H H1 → ∀ Q : VK, (∀ p us H2, H1 p = none → Ex H1 H2 → H2 p = some (.lst us) → P us H2 → Q (.ref p) H2) → te σ H1 Q
/-- arguments -/
def EvA (ta : TA) (σ : L2.St) (H : Hp) (P : List V → Hp → Prop) : Prop := ∀ H1, Ex H H1 → ∀ Q : List V → Hp → Prop, (∀ vs H2, Ex H1 H2 → P vs H2 → Q vs H2) → ta σ H1 Q
/-- a test's outcome -/
def EvB (tt : TT) (σ : L2.St) (H : Hp) (b : Bool) : Prop := ∀ H1, Ex H H1 → ∀ Q : Bool → Hp → Prop, (∀ H2, Ex H1 H2 → Q b H2) → tt σ H1 Q
abbrev IsI (n : Int) : PV := fun v _ => v = .int n
abbrev IsN (n : Nat) : PV := fun v _ => v = .int ((n : Nat) : Int)
abbrev IsW (w : W) : PV := fun v H => Wd H w v
abbrev IsWT (ws : List W) : PV := fun v H => WT H ws v
abbrev IsWL (ws : List W) : PV := fun v H => WL H ws v
abbrev IsB (b : Bool) : PV := fun v _ => v = .bl b
abbrev Is (x : V) : PV := fun v _ => v = x

section
variable {K : PySem.W.Frag} {σ : L2.St} {H H' : Hp} {ta tb te tc : TE} {tr : TA} {P P1 P2 : PV}
theorem EvP.ex (e : Ex H H') (h : EvP te σ H P) : EvP te σ H' P := fun H1 a Q q => h H1 (e.trans a) Q q
theorem EvB.ex {t : TT} {b : Bool} (e : Ex H H') (h : EvB t σ H b) : EvB t σ H' b := fun H1 a Q q => h H1 (e.trans a) Q q
theorem EvA.ex {PA : List V → Hp → Prop} (e : Ex H H') (h : EvA tr σ H PA) : EvA tr σ H' PA := fun H1 a Q q => h H1 (e.trans a) Q q
theorem EvP.imp (h : EvP te σ H P) (f : ∀ v H1, Ex H H1 → P v H1 → P2 v H1) : EvP te σ H P2 := fun H1 a Q q => h H1 a Q fun v H2 e p => q v H2 e (f v H2 (a.trans e) p)
/-- then: P1 of the first, whatever comes is asked from the heap behind -/
theorem EvP.go (h : EvP te σ H P) {Q : VK} (q : ∀ v H2, Ex H H2 → P v H2 → Q v H2) : te σ H Q := h H (Ex.refl H) Q q
theorem EvN.go {PN : List V → Hp → Prop} (h : EvN te σ H PN) {Q : VK} (q : ∀ p us H2, H p = none → Ex H H2 → H2 p = some (.lst us) → PN us H2 → Q (.ref p) H2) : te σ H Q := h H (Ex.refl H) Q q
theorem EvB.go {t : TT} {b : Bool} (h : EvB t σ H b) {Q : Bool → Hp → Prop} (q : ∀ H2, Ex H H2 → Q b H2) : t σ H Q := h H (Ex.refl H) Q q
theorem ev_var {i : Nat} {v : V} (h : σ[i]? = some (some v)) (p : ∀ H1, Ex H H1 → P v H1) : EvP (tVar i) σ H P := fun H1 e Q q => ⟨v, h, q v H1 (Ex.refl H1) (p H1 e)⟩
theorem ev_v {i : Nat} {v : V} (h : σ[i]? = some (some v)) : EvP (tVar i) σ H (Is v) := ev_var h fun _ _ => rfl
theorem ev_w {i : Nat} {v : V} {w : W} (h : σ[i]? = some (some v)) (p : Wd H w v) : EvP (tVar i) σ H (IsW w) := ev_var h fun _ e => p.ex e
theorem ev_c {v : V} : EvP (tC v) σ H (Is v) := fun H1 _ Q q => q v H1 (Ex.refl H1) rfl
theorem ev_isN {n m : Int} (h : EvP te σ H (IsI n)) (e : n = m) : EvP te σ H (IsI m) := e ▸ h
/-- an operator on two ints -/
theorem ev_i2 {C : Int → Int → Prop} {g : Int → Int → V} {i j : Int} (ha : EvP ta σ H (IsI i)) (hb : EvP tb σ H (IsI j)) (hc : C i j) : EvP (tOp (rI C g) ta tb) σ H (Is (g i j)) := fun H1 e Q q =>
  ha H1 e _ fun x H2 e2 p => hb H2 (e.trans e2) _ fun y H3 e3 p' => ⟨i, j, p, p', hc, q _ H3 (e2.trans e3) rfl⟩
theorem ev_i2' {g : Int → Int → V} {i j : Int} (ha : EvP ta σ H (IsI i)) (hb : EvP tb σ H (IsI j)) : EvP (tOp (rI0 g) ta tb) σ H (Is (g i j)) := fun H1 e Q q =>
  ha H1 e _ fun x H2 e2 p => hb H2 (e.trans e2) _ fun y H3 e3 p' => ⟨i, j, p, p', q _ H3 (e2.trans e3) rfl⟩
theorem ev_nilL : EvN (tLst tNil) σ H (fun us _ => us = []) := fun H1 _ Q q => ⟨Nat.zero_le _, fun p hp => q p [] _ hp (Ex.new hp) upd_same rfl⟩
theorem ev_neg {i : Int} (ha : EvP ta σ H (IsI i)) : EvP (tUn (rU fun i => .int (-i)) ta) σ H (IsI (-i)) := fun H1 e Q q =>
  ha H1 e _ fun x H2 e2 p => ⟨i, p, q _ H2 e2 rfl⟩
theorem ev_eq {x y : V} (ha : EvP ta σ H (Is x)) (hb : EvP tb σ H (Is y)) (hs : scal x y = true) : EvP (tOp rEq ta tb) σ H (IsB (decide (x = y))) := fun H1 e Q q =>
  ha H1 e _ fun u H2 e2 p => hb H2 (e.trans e2) _ fun v H3 e3 p' => by
    subst p; subst p'
    exact ⟨hs, q _ H3 (e2.trans e3) rfl⟩
theorem ev_ne {x y : V} (ha : EvP ta σ H (Is x)) (hb : EvP tb σ H (Is y)) (hs : scal x y = true) : EvP (tOp rNe ta tb) σ H (IsB (!decide (x = y))) := fun H1 e Q q =>
  ha H1 e _ fun u H2 e2 p => hb H2 (e.trans e2) _ fun v H3 e3 p' => by
    subst p; subst p'
    exact ⟨hs, q _ H3 (e2.trans e3) rfl⟩
/-- an item of a word -/
theorem ev_wix {w : W} {i : Nat} (ha : EvP ta σ H (IsW w)) (hb : EvP tb σ H (IsN i)) (hi : i < w.length) : EvP (tOp (rIxT K) ta tb) σ H (IsN (w.getD i 0)) := fun H1 e Q q =>
  ha H1 e _ fun x H2 e2 p => hb H2 (e.trans e2) _ fun y H3 e3 p' => by
    obtain ⟨a, rfl, h⟩ := p.ex e3
    exact ⟨a, _, _, _, rfl, p', SqT.of h, atI_nat (iv_get hi), q _ H3 (e2.trans e3) rfl⟩
/-- tests -/
theorem eb_B {b : Bool} (h : EvP te σ H (IsB b)) : EvB (tB te) σ H b := fun H1 e Q q => h H1 e _ fun v H2 e2 p => ⟨b, p, q H2 e2⟩
theorem eb_T {b : Bool} (h : EvP te σ H (IsB b)) : EvB (tTest te) σ H b := fun H1 e Q q => h H1 e _ fun v H2 e2 p => ⟨b, p, q H2 e2⟩
theorem eb_yes : EvB tYes σ H true := fun H1 _ Q q => q H1 (Ex.refl H1)
theorem eb_not {t : TT} {b : Bool} (h : EvB t σ H b) : EvB (tNot t) σ H (!b) := fun H1 e Q q => h H1 e _ fun H2 e2 => q H2 e2
theorem eb_or {t u : TT} {a b : Bool} (h1 : EvB t σ H a) (h2 : a = false → EvB u σ H b) : EvB (tOr t u) σ H (a || b) := fun H1 e Q q => h1 H1 e _ fun H2 e2 => by
  cases a with
  | true =>
    show Q true H2
    exact q H2 e2
  | false =>
    show u σ H2 Q
    exact h2 rfl H2 (e.trans e2) Q fun H3 e3 => q H3 (e2.trans e3)
theorem eb_is {t : TT} {a b : Bool} (h : EvB t σ H a) (e : a = b) : EvB t σ H b := e ▸ h
/-- arguments -/
theorem ea_nil : EvA tNil σ H (fun vs _ => vs = []) := fun H1 _ Q q => q [] H1 (Ex.refl H1) rfl
theorem ea_cons {PR PL : List V → Hp → Prop} (h : EvP te σ H P) (hr : ∀ v H1, Ex H H1 → P v H1 → EvA tr σ H1 (fun vs H2 => PL (v :: vs) H2)) : EvA (tCons te tr) σ H PL := fun H1 e Q q =>
  h H1 e _ fun v H2 e2 p => hr v H2 (e.trans e2) p H2 (Ex.refl H2) _ fun vs H3 e3 p3 => q (v :: vs) H3 (e2.trans e3) p3
theorem ea_1 (h : EvP te σ H P) : EvA (tCons te tNil) σ H (fun vs H2 => ∃ v, vs = [v] ∧ P v H2) := fun H1 e Q q =>
  h H1 e _ fun v H2 e2 p => q [v] H2 e2 ⟨v, rfl, p⟩
theorem ea_2 (h : EvP ta σ H P1) (h' : EvP tb σ H P2) (m : ∀ v H1 H2, Ex H1 H2 → P1 v H1 → P1 v H2) : EvA (tCons ta (tCons tb tNil)) σ H (fun vs H2 => ∃ v u, vs = [v, u] ∧ P1 v H2 ∧ P2 u H2) := fun H1 e Q q =>
  h H1 e _ fun v H2 e2 p => h' H2 (e.trans e2) _ fun u H3 e3 p' => q [v, u] H3 (e2.trans e3) ⟨v, u, rfl, m v H2 H3 e3 p, p'⟩
theorem ea_3 {P3 : PV} (h : EvP ta σ H P1) (h' : EvP tb σ H P2) (h3 : EvP tc σ H P3) (m : ∀ v H1 H2, Ex H1 H2 → P1 v H1 → P1 v H2) (m2 : ∀ v H1 H2, Ex H1 H2 → P2 v H1 → P2 v H2) :
    EvA (tCons ta (tCons tb (tCons tc tNil))) σ H (fun vs H2 => ∃ v u w, vs = [v, u, w] ∧ P1 v H2 ∧ P2 u H2 ∧ P3 w H2) := fun H1 e Q q =>
  h H1 e _ fun v H2 e2 p => h' H2 (e.trans e2) _ fun u H3 e3 p' => h3 H3 ((e.trans e2).trans e3) _ fun w H4 e4 p4 => q [v, u, w] H4 ((e2.trans e3).trans e4) ⟨v, u, w, rfl, m v H2 H4 (e3.trans e4) p, m2 u H3 H4 e4 p', p4⟩
theorem ea_4 {P3 P4 : PV} {td : TE} (h : EvP ta σ H P1) (h' : EvP tb σ H P2) (h3 : EvP tc σ H P3) (h4 : EvP td σ H P4) (m : ∀ v H1 H2, Ex H1 H2 → P1 v H1 → P1 v H2) (m2 : ∀ v H1 H2, Ex H1 H2 → P2 v H1 → P2 v H2) (m3 : ∀ v H1 H2, Ex H1 H2 → P3 v H1 → P3 v H2) :
    EvA (tCons ta (tCons tb (tCons tc (tCons td tNil)))) σ H (fun vs H2 => ∃ v u w x, vs = [v, u, w, x] ∧ P1 v H2 ∧ P2 u H2 ∧ P3 w H2 ∧ P4 x H2) := fun H1 e Q q =>
  h H1 e _ fun v H2 e2 p => h' H2 (e.trans e2) _ fun u H3 e3 p' => h3 H3 ((e.trans e2).trans e3) _ fun w H4 e4 p4 => h4 H4 (((e.trans e2).trans e3).trans e4) _ fun x H5 e5 p5 => q [v, u, w, x] H5 (((e2.trans e3).trans e4).trans e5) ⟨v, u, w, x, rfl, m v H2 H5 ((e3.trans e4).trans e5) p, m2 u H3 H5 (e4.trans e5) p', m3 w H4 H5 e5 p4, p5⟩
/-- a call: the promise is asked at the arguments -/
theorem ev_call {sp : Sp} {dvs : List V} {E : XK} {PL : List V → Hp → Prop} (h : EvA tr σ H PL) (hs : ∀ vs H1, Ex H H1 → PL vs H1 → ∀ Q : VK, (∀ v H2, Ex H1 H2 → P v H2 → Q v H2) → sp (vs ++ dvs) H1 Q E) : EvP (tCall sp dvs E tr) σ H P := fun H1 e Q q =>
  h H1 e _ fun vs H2 e2 p => hs vs H2 (e.trans e2) p Q fun v H3 e3 p3 => q v H3 (e2.trans e3) p3
theorem ev_cb {r : List V → Hp → VK → Prop} {PL : List V → Hp → Prop} (h : EvA tr σ H PL) (hs : ∀ vs H1, Ex H H1 → PL vs H1 → ∀ Q : VK, (∀ v H2, Ex H1 H2 → P v H2 → Q v H2) → r vs H1 Q) : EvP (tCB r tr) σ H P := fun H1 e Q q =>
  h H1 e _ fun vs H2 e2 p => hs vs H2 (e.trans e2) p Q fun v H3 e3 p3 => q v H3 (e2.trans e3) p3
/-! ### built-ins -/
def rTup (K : PySem.W.Frag) : List V → Hp → VK → Prop := fun xs H Q => ∃ p ys, xs = [.ref p] ∧ ((SqL K H p ys ∧ ∀ l, H l = none → Q (.ref l) (upd H l (.tup ys))) ∨ (SqT K H p ys ∧ Q (.ref p) H))
theorem cr_tup {X : Cx} : CallR X (.type "tuple") (rTup X.K) := call_tuple_of
theorem cr_len {X : Cx} : CallR X (.builtin "len") (Evl.rLenS X.K) := call_len_seq
/-- tuple of a new list -/
theorem ev_tupN {PN : List V → Hp → Prop} (h : EvN te σ H PN) (m : ∀ us H1 H2, Ex H1 H2 → PN us H1 → PN us H2) : EvP (tCB (rTup K) (tCons te tNil)) σ H (fun v H2 => ∃ a us, v = .ref a ∧ H2 a = some (.tup us) ∧ PN us H2) := fun H1 e Q q =>
  h H1 e _ fun p us H2 hp e2 h2 pn => ⟨p, us, rfl, .inl ⟨SqL.of h2, fun l hl => q _ _ (e2.trans (Ex.new hl)) ⟨l, us, rfl, upd_same, m _ _ _ (Ex.new hl) pn⟩⟩⟩
theorem ev_tupW {w : W} (h : EvN te σ H (fun us _ => us = iv w)) : EvP (tCB (rTup K) (tCons te tNil)) σ H (IsW w) := (ev_tupN h fun _ _ _ _ q => q).imp fun v H1 _ ⟨a, us, r, h, e⟩ => ⟨a, r, by rw [h, e]⟩
theorem ev_tupWT {ws : List W} (h : EvN te σ H (fun us H2 => Wds H2 ws us)) : EvP (tCB (rTup K) (tCons te tNil)) σ H (IsWT ws) := (ev_tupN h fun _ _ _ e q => Wds.tx (TX.of e) q).imp fun v H1 _ ⟨a, us, r, h, e⟩ => ⟨a, us, r, h, e⟩
theorem ev_lenW {w : W} (h : EvP te σ H (IsW w)) : EvP (tCB (Evl.rLenS K) (tCons te tNil)) σ H (IsN w.length) := fun H1 e Q q =>
  h H1 e _ fun v H2 e2 ⟨a, r, h⟩ => ⟨a, _, by rw [r], .inr (SqT.of h), by rw [iv_len]; exact q _ H2 e2 rfl⟩
theorem ev_lenWT {ws : List W} (h : EvP te σ H (IsWT ws)) : EvP (tCB (Evl.rLenS K) (tCons te tNil)) σ H (IsN ws.length) := fun H1 e Q q =>
  h H1 e _ fun v H2 e2 ⟨a, us, r, h, p⟩ => ⟨a, _, by rw [r], .inr (SqT.of h), by rw [← pair_len p]; exact q _ H2 e2 rfl⟩
theorem ev_lenWL {ws : List W} (h : EvP te σ H (IsWL ws)) : EvP (tCB (Evl.rLenS K) (tCons te tNil)) σ H (IsN ws.length) := fun H1 e Q q =>
  h H1 e _ fun v H2 e2 ⟨a, us, r, h, p⟩ => ⟨a, _, by rw [r], .inl (SqL.of h), by rw [← pair_len p]; exact q _ H2 e2 rfl⟩
theorem ev_lenN {PN : List V → Hp → Prop} {n : Nat} (h : EvN te σ H PN) (hn : ∀ us H1, PN us H1 → us.length = n) : EvP (tCB (Evl.rLenS K) (tCons te tNil)) σ H (IsN n) := fun H1 e Q q =>
  h H1 e _ fun p us H2 _ e2 h2 pn => ⟨p, _, rfl, .inl (SqL.of h2), by rw [hn us H2 pn]; exact q _ H2 e2 rfl⟩

/-! ### comprehensions: over items that stand for as -/
theorem sz_small {n : Nat} (h : n < 100000) : n < sizeLine := Nat.lt_of_lt_of_le h (by decide)
variable {α β : Type} {R : Hp → β → V → Prop}
/-- what stands at D when i items were taken -/
def Cw (R : Hp → β → V → Prop) (H : Hp) (as : List α) (f : α → Bool) (g : α → β) (D : Addr) (i : Nat) (H' : Hp) : Prop :=
  H D = none ∧ Ex H H' ∧ ∃ us, H' D = some (.lst us) ∧ Paired (R H') (((as.take i).filter f).map g) us
theorem take_one {as : List α} {i : Nat} {a : α} (h : as[i]? = some a) : as.take (i + 1) = as.take i ++ [a] := by
  obtain ⟨h1, h2⟩ := List.getElem?_eq_some_iff.mp h
  rw [List.take_succ, h]
  rfl
theorem cw_turn {as : List α} {f : α → Bool} {g : α → β} {D : Addr} {i : Nat} {a : α} {σ2 : L2.St} {t : TT} (mono : ∀ H H' b v, TX H H' → R H b v → R H' b v) (p : Cw R H as f g D i H') (hz : as.length < 100000) (ha : as[i]? = some a)
    (ht : EvB t σ2 H (f a)) (he : f a = true → EvP te σ2 H (fun v H2 => R H2 (g a) v)) :
    t σ2 H' fun b H3 => if b = true then te σ2 H3 fun y H4 => ∃ acc, H4 D = some (.lst acc) ∧ acc.length < sizeLine ∧ Cw R H as f g D (i + 1) (upd H4 D (.lst (acc ++ [y]))) else Cw R H as f g D (i + 1) H3 := by
  obtain ⟨p1, p2, us, p3, p4⟩ := p
  refine ht H' p2 _ fun H3 e3 => ?_
  cases hf : f a with
  | true =>
    show te σ2 H3 fun y H4 => ∃ acc, H4 D = some (.lst acc) ∧ acc.length < sizeLine ∧ Cw R H as f g D (i + 1) (upd H4 D (.lst (acc ++ [y])))
    refine he hf H3 (p2.trans e3) _ fun y H4 e4 q => ⟨us, e4 D _ (e3 D _ p3), ?_, p1, Ex.mut ((p2.trans e3).trans e4) p1, _, upd_same, ?_⟩
    · have h1 := pair_len p4
      have h2 : (((as.take i).filter f).map g).length ≤ as.length := by
        rw [List.length_map]
        exact Nat.le_trans (List.length_filter_le _ _) (by rw [List.length_take]; exact Nat.min_le_right _ _)
      exact sz_small (by omega)
    · have tx : TX H4 (upd H4 D (.lst (us ++ [y]))) := TX.updL (e4 D _ (e3 D _ p3))
      rw [take_one ha, List.filter_append, List.map_append]
      have e1 : List.filter f [a] = [a] := by rw [List.filter_cons, if_pos hf] <;> rfl
      rw [e1]
      exact pair_snoc (Paired.imp p4 fun _ _ r => mono _ _ _ _ (((TX.of e3).trans (TX.of e4)).trans tx) r) (mono _ _ _ _ tx q)
  | false =>
    show Cw R H as f g D (i + 1) H3
    refine ⟨p1, p2.trans e3, us, e3 D _ p3, ?_⟩
    rw [take_one ha, List.filter_append, List.map_append]
    have e1 : List.filter f [a] = [] := by rw [List.filter_cons, if_neg (by rw [hf]; decide)] <;> rfl
    rw [e1, List.map_nil, List.append_nil]
    exact Paired.imp p4 fun _ _ r => mono _ _ _ _ (TX.of e3) r
/-- over range(n) -/
theorem lc_r {t : TT} {ta : TA} {j n : Nat} {vs : List Nat} (f : Nat → Bool) (g : Nat → β) (mono : ∀ H H' b v, TX H H' → R H b v → R H' b v) (h : EvA ta σ H (fun us _ => us = [.int ((n : Nat) : Int)])) (hn : n ≤ 40000) (hw : ∀ x, wipe ((wipe σ vs).set j (some x)) vs = wipe σ vs)
    (ht : ∀ (i : Nat) H1, Ex H H1 → i < n → EvB t ((wipe σ vs).set j (some (.int ((i : Nat) : Int)))) H1 (f i)) (he : ∀ (i : Nat) H1, Ex H H1 → i < n → f i = true → EvP te ((wipe σ vs).set j (some (.int ((i : Nat) : Int)))) H1 (fun v H2 => R H2 (g i) v)) :
    EvN (tLc (iRng1 ta) (gName j) t te vs) σ H (fun us H2 => Paired (R H2) (((List.range n).filter f).map g) us) := fun H0 e Q q => h H0 e _ fun ws H1 e1 ew => ⟨n, ew, by omega, by omega, fun D hD =>
  lc_range (lo := 0) (n := ((n : Nat) : Int).toNat) (Cw R H1 (List.range n) f g D) ⟨hD, Ex.new hD, [], upd_same, .nil⟩ (fun i H' hi p => by
    have hi' : i < n := by omega
    have e0 : (0 : Int) + (i : Int) = (i : Int) := Int.zero_add _
    show wipe ((wipe σ vs).set j (some (.int ((0 : Int) + (i : Int))))) vs = wipe σ vs ∧ t ((wipe σ vs).set j (some (.int ((0 : Int) + (i : Int))))) H' fun b H3 => if b = true then te ((wipe σ vs).set j (some (.int ((0 : Int) + (i : Int))))) H3 fun y H4 => ∃ acc, H4 D = some (.lst acc) ∧ acc.length < sizeLine ∧ Cw R H1 (List.range n) f g D (i + 1) (upd H4 D (.lst (acc ++ [y]))) else Cw R H1 (List.range n) f g D (i + 1) H3
    rw [e0]
    exact ⟨hw _, cw_turn mono p (by rw [List.length_range]; omega) (by rw [List.getElem?_range hi']) (ht i H1 (e.trans e1) hi') (fun hf => he i H1 (e.trans e1) hi' hf)⟩) (fun H' p => by
      obtain ⟨p1, p2, us, p3, p4⟩ := p
      have en : ((n : Nat) : Int).toNat = n := by omega
      rw [en, List.take_of_length_le (by rw [List.length_range]; omega)] at p4
      exact q D us H' (Evl.fresh_back e1 p1) (e1.trans p2) p3 p4)⟩
/-- over a list whose items stand for as -/
theorem lc_l {t : TT} {tl : TE} {j : Nat} {vs : List Nat} (as : List α) (S : Hp → α → V → Prop) (f : α → Bool) (g : α → β) (mono : ∀ H H' b v, TX H H' → R H b v → R H' b v)
    (h : EvP tl σ H (fun v H2 => ∃ a us, v = .ref a ∧ H2 a = some (.lst us) ∧ Paired (S H2) as us)) (hz : as.length < 100000) (hw : ∀ x, wipe ((wipe σ vs).set j (some x)) vs = wipe σ vs)
    (ht : ∀ (a : α) (x : V) H1, Ex H H1 → a ∈ as → S H1 a x → (∀ H2, Ex H1 H2 → EvB t ((wipe σ vs).set j (some x)) H2 (f a))) (he : ∀ (a : α) (x : V) H1, Ex H H1 → a ∈ as → S H1 a x → f a = true → ∀ H2, Ex H1 H2 → EvP te ((wipe σ vs).set j (some x)) H2 (fun v H2 => R H2 (g a) v)) :
    EvN (tLc (iList K tl) (gName j) t te vs) σ H (fun us H2 => Paired (R H2) ((as.filter f).map g) us) := fun H0 e Q q => h H0 e _ fun v H1 e1 ⟨a, xs, r, hx, hp⟩ => ⟨a, r, ⟨xs, SqL.of hx⟩, fun D hD =>
  lc_list (xs := xs) (Cw R H1 as f g D) ⟨hD, Ex.new hD, [], upd_same, .nil⟩ (fun i H' _ p => SqL.of (p.2.1 a _ hx)) (fun i x H' hi p => by
    obtain ⟨α0, h1, h2⟩ := pair_get hp hi
    have hm := List.mem_of_getElem? h1
    exact ⟨hw x, cw_turn mono p hz h1 (ht α0 x H1 (e.trans e1) hm h2 H1 (Ex.refl _)) (fun hf => he α0 x H1 (e.trans e1) hm h2 hf H1 (Ex.refl _))⟩) (fun H' p => by
      obtain ⟨p1, p2, us, p3, p4⟩ := p
      rw [← pair_len hp, List.take_of_length_le (Nat.le_refl _)] at p4
      exact q D us H' (Evl.fresh_back e1 p1) (e1.trans p2) p3 p4)⟩
/-- over a tuple whose items stand for as -/
theorem lc_t {t : TT} {tl : TE} {j : Nat} {vs : List Nat} (as : List α) (S : Hp → α → V → Prop) (f : α → Bool) (g : α → β) (mono : ∀ H H' b v, TX H H' → R H b v → R H' b v)
    (h : EvP tl σ H (fun v H2 => ∃ a us, v = .ref a ∧ H2 a = some (.tup us) ∧ Paired (S H2) as us)) (hz : as.length < 100000) (hw : ∀ x, wipe ((wipe σ vs).set j (some x)) vs = wipe σ vs)
    (ht : ∀ (a : α) (x : V) H1, Ex H H1 → a ∈ as → S H1 a x → (∀ H2, Ex H1 H2 → EvB t ((wipe σ vs).set j (some x)) H2 (f a))) (he : ∀ (a : α) (x : V) H1, Ex H H1 → a ∈ as → S H1 a x → f a = true → ∀ H2, Ex H1 H2 → EvP te ((wipe σ vs).set j (some x)) H2 (fun v H2 => R H2 (g a) v)) :
    EvN (tLc (iTup K tl) (gName j) t te vs) σ H (fun us H2 => Paired (R H2) ((as.filter f).map g) us) := fun H0 e Q q => h H0 e _ fun v H1 e1 ⟨a, xs, r, hx, hp⟩ => ⟨a, r, ⟨xs, SqT.of hx⟩, fun D hD =>
  lc_tup (xs := xs) (Cw R H1 as f g D) ⟨hD, Ex.new hD, [], upd_same, .nil⟩ (fun i H' _ p => SqT.of (p.2.1 a _ hx)) (fun i x H' hi p => by
    obtain ⟨α0, h1, h2⟩ := pair_get hp hi
    have hm := List.mem_of_getElem? h1
    exact ⟨hw x, cw_turn mono p hz h1 (ht α0 x H1 (e.trans e1) hm h2 H1 (Ex.refl _)) (fun hf => he α0 x H1 (e.trans e1) hm h2 hf H1 (Ex.refl _))⟩) (fun H' p => by
      obtain ⟨p1, p2, us, p3, p4⟩ := p
      rw [← pair_len hp, List.take_of_length_le (Nat.le_refl _)] at p4
      exact q D us H' (Evl.fresh_back e1 p1) (e1.trans p2) p3 p4)⟩
/-- the items are numbers -/
abbrev RN : Hp → Nat → V → Prop := fun _ n v => v = .int ((n : Nat) : Int)
theorem rn_mono : ∀ (H H' : Hp) (b : Nat) (v : V), TX H H' → RN H b v → RN H' b v := fun _ _ _ _ _ h => h
theorem rn_iv {H : Hp} : ∀ {ns : List Nat} {us : List V}, Paired (RN H) ns us → us = iv ns
  | _, _, .nil => rfl
  | _, _, .cons r t => by
    have e := rn_iv t
    unfold iv at e ⊢
    rw [List.map_cons, ← e, r]
theorem iv_pair {H : Hp} : ∀ w : W, Paired (RN H) w (iv w)
  | [] => .nil
  | n :: r => .cons rfl (iv_pair r)
abbrev RW : Hp → W → V → Prop := fun H w v => Wd H w v
theorem rw_mono : ∀ (H H' : Hp) (b : W) (v : V), TX H H' → RW H b v → RW H' b v := fun _ _ _ _ e h => h.tx e
theorem filt_true (as : List α) : as.filter (fun _ => true) = as := List.filter_eq_self.mpr fun _ _ => rfl
theorem EvN.imp {PN PM : List V → Hp → Prop} (h : EvN te σ H PN) (f : ∀ us H1, Ex H H1 → PN us H1 → PM us H1) : EvN te σ H PM := fun H1 e Q q => h H1 e Q fun p us H2 hp e2 h2 pn => q p us H2 hp e2 h2 (f us H2 (e.trans e2) pn)
end
/-! ### statements -/
section
variable {K : PySem.W.Frag} {σ : L2.St} {H : Hp} {te ta tb : TE} {P : PV} {D : Ends} {u t1 t2 : TS} {t : TT} {b : Bool}
theorem q_asg {i : Nat} (h : EvP te σ H P) (k : ∀ v H1, Ex H H1 → P v H1 → u D (σ.set i (some v)) H1) : tSeq (tAsg te (gName i)) u D σ H := h H (Ex.refl H) _ fun v H1 e p => k v H1 e p
theorem s_asg {i : Nat} (h : EvP te σ H P) (k : ∀ v H1, Ex H H1 → P v H1 → D.nx (σ.set i (some v)) H1) : tAsg te (gName i) D σ H := h H (Ex.refl H) _ fun v H1 e p => k v H1 e p
theorem q_asgN {i : Nat} {PN : List V → Hp → Prop} (h : EvN te σ H PN) (k : ∀ p us H1, H p = none → Ex H H1 → H1 p = some (.lst us) → PN us H1 → u D (σ.set i (some (.ref p))) H1) : tSeq (tAsg te (gName i)) u D σ H := h H (Ex.refl H) _ fun p us H1 hp e h1 q => k p us H1 hp e h1 q
theorem s_asgN {i : Nat} {PN : List V → Hp → Prop} (h : EvN te σ H PN) (k : ∀ p us H1, H p = none → Ex H H1 → H1 p = some (.lst us) → PN us H1 → D.nx (σ.set i (some (.ref p))) H1) : tAsg te (gName i) D σ H := h H (Ex.refl H) _ fun p us H1 hp e h1 q => k p us H1 hp e h1 q
theorem s_ret (h : EvP te σ H P) (k : ∀ v H1, Ex H H1 → P v H1 → D.rt v H1) : tRet te D σ H := h H (Ex.refl H) _ k
theorem q_if (h : EvB t σ H b) (h1 : b = true → ∀ H1, Ex H H1 → t1 { D with nx := u D } σ H1) (h2 : b = false → ∀ H1, Ex H H1 → t2 { D with nx := u D } σ H1) : tSeq (tIfS t t1 t2) u D σ H := h H (Ex.refl H) _ fun H1 e => by
  cases b with
  | true => exact h1 rfl H1 e
  | false => exact h2 rfl H1 e
theorem s_if (h : EvB t σ H b) (h1 : b = true → ∀ H1, Ex H H1 → t1 D σ H1) (h2 : b = false → ∀ H1, Ex H H1 → t2 D σ H1) : tIfS t t1 t2 D σ H := h H (Ex.refl H) _ fun H1 e => by
  cases b with
  | true => exact h1 rfl H1 e
  | false => exact h2 rfl H1 e
/-- xs.append(e) -/
theorem q_app {l : Addr} {xs : List V} (hl : H l = some (.lst xs)) (ha : EvP ta σ H (Is (.ref l))) (h : EvP te σ H P) (hz : xs.length < 100000) (k : ∀ v H1, Ex H H1 → P v H1 → u D σ (upd H1 l (.lst (xs ++ [v])))) :
    tSeq (tDrop (tBM K "list" rAppend ta (tCons te tNil))) u D σ H := ha H (Ex.refl H) _ fun x H1 e1 ex => by
  subst ex
  exact ⟨Or.inl ⟨rfl, xs, SqL.of (e1 l _ hl)⟩, h H1 e1 _ fun v H2 e2 p => ⟨l, xs, v, rfl, rfl, e2 l _ (e1 l _ hl), sz_small hz, k v H2 (e1.trans e2) p⟩⟩
theorem s_app {l : Addr} {xs : List V} (hl : H l = some (.lst xs)) (ha : EvP ta σ H (Is (.ref l))) (h : EvP te σ H P) (hz : xs.length < 100000) (k : ∀ v H1, Ex H H1 → P v H1 → D.nx σ (upd H1 l (.lst (xs ++ [v])))) :
    tDrop (tBM K "list" rAppend ta (tCons te tNil)) D σ H := ha H (Ex.refl H) _ fun x H1 e1 ex => by
  subst ex
  exact ⟨Or.inl ⟨rfl, xs, SqL.of (e1 l _ hl)⟩, h H1 e1 _ fun v H2 e2 p => ⟨l, xs, v, rfl, rfl, e2 l _ (e1 l _ hl), sz_small hz, k v H2 (e1.trans e2) p⟩⟩
/-- for i in range(n) -/
theorem q_forR {ta : TA} {j n : Nat} (h : EvA ta σ H (fun us _ => us = [.int ((n : Nat) : Int)])) (hn : n ≤ 40000) (Pv : Nat → L2.St → Hp → Prop) (h0 : ∀ H1, Ex H H1 → Pv 0 σ H1)
    (hs : ∀ (i : Nat) σ' H', i < n → Pv i σ' H' → t1 { D with nx := Pv (i + 1), ct := Pv (i + 1), bk := u D } (σ'.set j (some (.int ((i : Nat) : Int)))) H') (hd : ∀ σ' H', Pv n σ' H' → u D σ' H') : tSeq (tFor (iRng1 ta) (gName j) t1) u D σ H :=
  h H (Ex.refl H) _ fun us H1 e ew => ⟨n, ew, by omega, by omega, for_range (lo := 0) (n := ((n : Nat) : Int).toNat) Pv (h0 H1 e) (fun i σ' H' hi p => by
    have e0 : (0 : Int) + (i : Int) = (i : Int) := Int.zero_add _
    show t1 { D with nx := Pv (i + 1), ct := Pv (i + 1), bk := u D } (σ'.set j (some (.int ((0 : Int) + (i : Int))))) H'
    rw [e0]
    exact hs i σ' H' (by omega) p) (fun σ' H' p => by
      rw [show ((n : Nat) : Int).toNat = n by omega] at p
      exact hd σ' H' p)⟩
theorem s_forR {ta : TA} {j n : Nat} (h : EvA ta σ H (fun us _ => us = [.int ((n : Nat) : Int)])) (hn : n ≤ 40000) (Pv : Nat → L2.St → Hp → Prop) (h0 : ∀ H1, Ex H H1 → Pv 0 σ H1)
    (hs : ∀ (i : Nat) σ' H', i < n → Pv i σ' H' → t1 { D with nx := Pv (i + 1), ct := Pv (i + 1), bk := D.nx } (σ'.set j (some (.int ((i : Nat) : Int)))) H') (hd : ∀ σ' H', Pv n σ' H' → D.nx σ' H') : tFor (iRng1 ta) (gName j) t1 D σ H :=
  q_forR (u := fun D σ H => D.nx σ H) (D := D) h hn Pv h0 hs hd
theorem ea_n {n : Nat} (h : EvP te σ H (IsN n)) : EvA (tCons te tNil) σ H (fun us _ => us = [.int ((n : Nat) : Int)]) := fun H1 e Q q => h H1 e _ fun v H2 e2 p => q [v] H2 e2 (by rw [p])
/-- for x in a list that stands -/
theorem q_forL {a : Addr} {xs : List V} {tl : TE} {j : Nat} (h : EvP tl σ H (Is (.ref a))) (hx : H a = some (.lst xs)) (Pv : Nat → L2.St → Hp → Prop) (h0 : ∀ H1, Ex H H1 → Pv 0 σ H1) (hl : ∀ i σ' H', i ≤ xs.length → Pv i σ' H' → H' a = some (.lst xs))
    (hs : ∀ (i : Nat) x σ' H', xs[i]? = some x → Pv i σ' H' → t1 { D with nx := Pv (i + 1), ct := Pv (i + 1), bk := u D } (σ'.set j (some x)) H') (hd : ∀ σ' H', Pv xs.length σ' H' → u D σ' H') : tSeq (tFor (iList K tl) (gName j) t1) u D σ H :=
  h H (Ex.refl H) _ fun v H1 e ev => ⟨a, ev, ⟨xs, SqL.of (e a _ hx)⟩, for_list (xs := xs) Pv (h0 H1 e) (fun i σ' H' hi p => SqL.of (hl i σ' H' hi p)) hs hd⟩
theorem s_forL {a : Addr} {xs : List V} {tl : TE} {j : Nat} (h : EvP tl σ H (Is (.ref a))) (hx : H a = some (.lst xs)) (Pv : Nat → L2.St → Hp → Prop) (h0 : ∀ H1, Ex H H1 → Pv 0 σ H1) (hl : ∀ i σ' H', i ≤ xs.length → Pv i σ' H' → H' a = some (.lst xs))
    (hs : ∀ (i : Nat) x σ' H', xs[i]? = some x → Pv i σ' H' → t1 { D with nx := Pv (i + 1), ct := Pv (i + 1), bk := D.nx } (σ'.set j (some x)) H') (hd : ∀ σ' H', Pv xs.length σ' H' → D.nx σ' H') : tFor (iList K tl) (gName j) t1 D σ H :=
  q_forL (u := fun D σ H => D.nx σ H) (D := D) h hx Pv h0 hl hs hd
end
/-! ### the built-ins' names are free -/
structure Blt (mg : Str → Option Value) : Prop where
  tuple : mg "tuple" = none
  range : mg "range" = none
  len : mg "len" = none
  sum : mg "sum" = none
  isinstance : mg "isinstance" = none
  int : mg "int" = none
  bool : mg "bool" = none
  list : mg "list" = none
  sorted : mg "sorted" = none
  max : mg "max" = none
  min : mg "min" = none
  abs : mg "abs" = none
end K21

set_option maxRecDepth 100000
set_option maxHeartbeats 4000000
/-! K21D1: add, scaled, dot, cleared. -/
namespace K21
open PySem L2
open Evl (Ex)
abbrev sAdd : Stmt := top 11
abbrev sScaled : Stmt := top 12
abbrev sDot : Stmt := top 13
abbrev sCleared : Stmt := top 15
section
variable {P : Program} {w : World} {K : PySem.W.Frag} {mg : Str → Option Value} {base : Heap}
/-- back from a def: a value that bears P -/
def Ret (PP : PV) (H : Hp) (Q : VK) : Prop := ∀ v H2, Ex H H2 → PP v H2 → Q v H2

def spAdd : Sp := fun vs H Q _ => ∃ (v w : W) (p : Nat) (x y : V), vs = [x, y, .int ((p : Nat) : Int)] ∧ Wd H v x ∧ Wd H w y ∧ v.length = w.length ∧ v.length ≤ 100 ∧ 0 < p ∧ Ret (IsW (addW v w p)) H Q
theorem scAdd : FnScope ["v", "w", "p", "k"] ["v", "w", "p"] (defScope sAdd) := ⟨rfl, rfl, rfl, by decide +kernel, rfl, by decide +kernel, by decide +kernel⟩
theorem addW_range (v w : W) (p : Nat) (h : v.length = w.length) : ((List.range v.length).map fun k => (v.getD k 0 + w.getD k 0) % p) = addW v w p := by
  unfold addW
  apply List.ext_getElem
  · simp [h]
  · intro i h1 h2
    simp only [List.length_map, List.length_range] at h1
    simp [List.getElem_zipWith, List.getD_eq_getElem?_getD, List.getElem?_eq_getElem h1, List.getElem?_eq_getElem (show i < w.length by omega)]
theorem ok_add {f : Addr} {fd : FuncData} (F : Fun K "add" "add" sAdd f fd) (B : Blt mg) : FnOk P w K mg base CX0 1 f fd ["v", "w", "p"] spAdd := by
  refine F.ok scAdd (fun vs H Q E h => ?_) (fun cdv A outer s H vs Q E hr h => ?_)
  · obtain ⟨v, w, p, x, y, rfl, _⟩ := h
    rfl
  · obtain ⟨v, w, p, x, y, rfl, hv, hw, hl, h100, hp, k⟩ := h
    refine ⟨_, pss_one (ps_ret (pe_callTy cr_tup (by rfl) B.tuple PyProof.Rows.boot_tuple (pa_cons
      (pe_lc (own := [("k", 3)]) (g := gName 3) (tt := tYes) rfl scAdd.nd (pi_range1 (by rfl) B.range (pa_cons (pe_callB cr_len (by rfl) B.len PySem.boot_len (pa_cons (pv 0) pa_nil)) pa_nil))
        (blkOk_by (own := [("k", 3)]) (N := ["v", "w", "p", "k"]) (sc := defScope sAdd) (by decide +kernel)) (fun _ _ _ _ _ => pg_name (i := 3) scAdd.nd rfl (Or.inl rfl)) (fun _ _ _ _ _ => pts_nil)
        (fun _ _ _ _ _ => pe_op op_mod (pe_op op_add (pe_ix (r := rIxT K) ix_tup (pv 0) (pv 3) (fun _ _ => rfl)) (pe_ix (r := rIxT K) ix_tup (pv 1) (pv 3) (fun _ _ => rfl))) (pv 2))) pa_nil))), ?_⟩
    refine EvP.go (P := IsW (addW v w p)) (ev_tupW ?_) k
    refine EvN.imp (lc_r (n := v.length) (R := RN) (fun _ => true) (fun i => (v.getD i 0 + w.getD i 0) % p) rn_mono ?_ (by omega) (fun _ => rfl) (fun _ _ _ _ => eb_yes) (fun i H1 e hi _ => ?_)) (fun us H1 _ q => ?_)
    · refine fun H1 e Q q => ea_1 (ev_lenW (ev_w rfl hv)) H1 e Q fun vs H2 e2 ⟨u, r, h⟩ => q vs H2 e2 (by rw [r, h])
    · refine ev_i2 (i := ((v.getD i 0 : Nat) : Int) + ((w.getD i 0 : Nat) : Int)) (j := ((p : Nat) : Int)) (ev_i2' (ev_wix (ev_w rfl (hv.ex e)) (ev_v rfl) hi) (ev_wix (ev_w rfl (hw.ex e)) (ev_v rfl) (by omega))) (ev_v rfl) (by omega)
    · rw [rn_iv q, filt_true, addW_range v w p hl]

/-! ### scaled: the multiple as any whole number that is m modulo p -/
def spScaled : Sp := fun vs H Q _ => ∃ (v : W) (a : Int) (m p : Nat) (x : V), vs = [x, .int a, .int ((p : Nat) : Int)] ∧ Wd H v x ∧ v.length ≤ 100 ∧ (∀ n ∈ v, n < 1000) ∧ 0 < p ∧ a % ((p : Nat) : Int) = ((m : Nat) : Int) ∧ Ret (IsW (scaledW v m p)) H Q
theorem scScaled : FnScope ["v", "a", "p", "item"] ["v", "a", "p"] (defScope sScaled) := ⟨rfl, rfl, rfl, by decide +kernel, rfl, by decide +kernel, by decide +kernel⟩
theorem scaled_one {a : Int} {n m p : Nat} (e : a % ((p : Nat) : Int) = ((m : Nat) : Int)) : (((n : Nat) : Int) * a) % ((p : Nat) : Int) = ((n * m % p : Nat) : Int) := by
  rw [Int.mul_emod, e, Int.natCast_emod, Int.natCast_mul]
  rw [Int.mul_emod ((n : Nat) : Int) ((m : Nat) : Int)]
  have em : ((m : Nat) : Int) % ((p : Nat) : Int) = ((m : Nat) : Int) := by rw [← e, Int.emod_emod_of_dvd _ (Int.dvd_refl _)]
  rw [em]
theorem ok_scaled {f : Addr} {fd : FuncData} (F : Fun K "scaled" "scaled" sScaled f fd) (B : Blt mg) : FnOk P w K mg base CX0 1 f fd ["v", "a", "p"] spScaled := by
  refine F.ok scScaled (fun vs H Q E h => ?_) (fun cdv A outer s H vs Q E hr h => ?_)
  · obtain ⟨v, a, m, p, x, rfl, _⟩ := h
    rfl
  · obtain ⟨v, a, m, p, x, rfl, hv, h100, hs, hp, hm, k⟩ := h
    refine ⟨_, pss_one (ps_ret (pe_callTy cr_tup (by rfl) B.tuple PyProof.Rows.boot_tuple (pa_cons
      (pe_lc (own := [("item", 3)]) (g := gName 3) (tt := tYes) rfl scScaled.nd (pi_tup (pv 0))
        (blkOk_by (own := [("item", 3)]) (N := ["v", "a", "p", "item"]) (sc := defScope sScaled) (by decide +kernel)) (fun _ _ _ _ _ => pg_name (i := 3) scScaled.nd rfl (Or.inl rfl)) (fun _ _ _ _ _ => pts_nil)
        (fun _ _ _ _ _ => pe_op op_mod (pe_op op_mul (pv 3) (pv 1)) (pv 2))) pa_nil))), ?_⟩
    refine EvP.go (P := IsW (scaledW v m p)) (ev_tupW ?_) k
    refine EvN.imp (lc_t v RN (R := RN) (fun _ => true) (fun n => n * m % p) rn_mono ?_ (by omega) (fun _ => rfl) (fun _ _ _ _ _ _ _ _ => eb_yes) (fun n x H1 e hn hx _ H2 e2 => ?_)) (fun us H1 _ q => ?_)
    · exact ev_var rfl fun H1 e => by
        obtain ⟨b, r, hb⟩ := hv.ex e
        exact ⟨b, _, r, hb, iv_pair v⟩
    · rw [hx]
      have h1 := hs n hn
      refine (ev_i2 (i := ((n : Nat) : Int) * a) (j := ((p : Nat) : Int)) (ev_i2 (i := ((n : Nat) : Int)) (j := a) (ev_v rfl) (ev_v rfl) (Or.inl (by omega))) (ev_v rfl) (by omega)).imp fun v H3 _ q => ?_
      rw [q]
      show V.int (((n : Nat) : Int) * a % ((p : Nat) : Int)) = _
      rw [scaled_one hm]
    · rw [rn_iv q, filt_true]
      rfl

/-! ### dot -/
def spDot : Sp := fun vs H Q _ => ∃ (v w : W) (p : Nat) (x y : V), vs = [x, y, .int ((p : Nat) : Int)] ∧ Wd H v x ∧ Wd H w y ∧ v.length = w.length ∧ v.length ≤ 100 ∧ (∀ n ∈ v, n < 1000) ∧ 0 < p ∧ Ret (IsN (dotW v w p)) H Q
theorem scDot : FnScope ["v", "w", "p", "k"] ["v", "w", "p"] (defScope sDot) := ⟨rfl, rfl, rfl, by decide +kernel, rfl, by decide +kernel, by decide +kernel⟩
theorem dotW_range (v w : W) (h : v.length = w.length) : ((List.range v.length).map fun k => v.getD k 0 * w.getD k 0) = List.zipWith (fun a b => a * b) v w := by
  apply List.ext_getElem
  · simp [h]
  · intro i h1 h2
    simp only [List.length_map, List.length_range] at h1
    simp [List.getElem_zipWith, List.getD_eq_getElem?_getD, List.getElem?_eq_getElem h1, List.getElem?_eq_getElem (show i < w.length by omega)]
theorem sum_iv : ∀ l : List Nat, (l.map fun n => ((n : Nat) : Int)).sum = ((l.sum : Nat) : Int)
  | [] => rfl
  | n :: r => by
    rw [List.map_cons, List.sum_cons, List.sum_cons, sum_iv r, Int.natCast_add]
theorem iv_ints (l : List Nat) : iv l = (l.map fun n => ((n : Nat) : Int)).map V.int := by
  unfold iv
  rw [List.map_map]
  rfl
/-- sum of a new list of numbers -/
theorem ev_sumN {σ : L2.St} {H : Hp} {te : TE} {l : List Nat} (h : EvN te σ H (fun us _ => us = iv l)) : EvP (tCB (rSum K) (tCons te tNil)) σ H (IsN l.sum) := fun H1 e Q q =>
  h H1 e _ fun p us H2 _ e2 h2 pn => ⟨p, l.map fun n => ((n : Nat) : Int), rfl, SqL.of (by rw [← iv_ints, ← pn]; exact h2), by rw [sum_iv]; exact q _ H2 e2 rfl⟩
theorem ok_dot {f : Addr} {fd : FuncData} (F : Fun K "dot" "dot" sDot f fd) (B : Blt mg) : FnOk P w K mg base CX0 1 f fd ["v", "w", "p"] spDot := by
  refine F.ok scDot (fun vs H Q E h => ?_) (fun cdv A outer s H vs Q E hr h => ?_)
  · obtain ⟨v, w, p, x, y, rfl, _⟩ := h
    rfl
  · obtain ⟨v, w, p, x, y, rfl, hv, hw, hl, h100, hs, hp, k⟩ := h
    refine ⟨_, pss_one (ps_ret (pe_op op_mod (pe_callB (cr_sum rfl) (by rfl) B.sum PyProof.Rows.boot_sum (pa_cons
      (pe_lc (own := [("k", 3)]) (g := gName 3) (tt := tYes) rfl scDot.nd (pi_range1 (by rfl) B.range (pa_cons (pe_callB cr_len (by rfl) B.len PySem.boot_len (pa_cons (pv 0) pa_nil)) pa_nil))
        (blkOk_by (own := [("k", 3)]) (N := ["v", "w", "p", "k"]) (sc := defScope sDot) (by decide +kernel)) (fun _ _ _ _ _ => pg_name (i := 3) scDot.nd rfl (Or.inl rfl)) (fun _ _ _ _ _ => pts_nil)
        (fun _ _ _ _ _ => pe_op op_mul (pe_ix (r := rIxT K) ix_tup (pv 0) (pv 3) (fun _ _ => rfl)) (pe_ix (r := rIxT K) ix_tup (pv 1) (pv 3) (fun _ _ => rfl)))) pa_nil)) (pv 2))), ?_⟩
    refine EvP.go (P := IsN (dotW v w p)) ?_ k
    refine (ev_i2 (i := (((List.zipWith (fun a b => a * b) v w).sum : Nat) : Int)) (j := ((p : Nat) : Int)) (ev_sumN ?_) (ev_v rfl) (by omega)).imp fun v H3 _ q => by
      rw [q]
      show V.int _ = V.int ((((List.zipWith (fun a b => a * b) _ w).sum % p : Nat) : Int))
      rw [Int.natCast_emod]
    refine EvN.imp (lc_r (n := v.length) (R := RN) (fun _ => true) (fun i => v.getD i 0 * w.getD i 0) rn_mono ?_ (by omega) (fun _ => rfl) (fun _ _ _ _ => eb_yes) (fun i H1 e hi _ => ?_)) (fun us H1 _ q => ?_)
    · refine fun H1 e Q q => ea_1 (ev_lenW (ev_w rfl hv)) H1 e Q fun vs H2 e2 ⟨u, r, h⟩ => q vs H2 e2 (by rw [r, h])
    · have h1 : v.getD i 0 < 1000 := by
        rw [List.getD_eq_getElem?_getD, List.getElem?_eq_getElem hi]
        exact hs _ (List.getElem_mem hi)
      refine (ev_i2 (i := ((v.getD i 0 : Nat) : Int)) (j := ((w.getD i 0 : Nat) : Int)) (ev_wix (ev_w rfl (hv.ex e)) (ev_v rfl) hi) (ev_wix (ev_w rfl (hw.ex e)) (ev_v rfl) (by omega)) (Or.inl (by omega))).imp fun u H3 _ q => by
        rw [q]
        show V.int _ = V.int (((v.getD i 0 * w.getD i 0 : Nat) : Int))
        rw [Int.natCast_mul]
    · rw [rn_iv q, filt_true, dotW_range v w hl]

/-! ### the calls -/
section
variable {σ : L2.St} {H : Hp} {ta tb tc td : TE} {E : XK}
theorem ev_add {v w : W} {p : Nat} (ha : EvP ta σ H (IsW v)) (hb : EvP tb σ H (IsW w)) (hc : EvP tc σ H (IsN p)) (h1 : v.length = w.length) (h2 : v.length ≤ 100) (h3 : 0 < p) :
    EvP (tCall spAdd [] E (tCons ta (tCons tb (tCons tc tNil)))) σ H (IsW (addW v w p)) :=
  ev_call (ea_3 ha hb hc (fun _ _ _ e q => Wd.ex e q) (fun _ _ _ e q => Wd.ex e q)) fun vs H1 e ⟨v1, v2, v3, ev, q1, q2, q3⟩ Q q => ⟨v, w, p, v1, v2, by rw [ev, q3]; rfl, q1, q2, h1, h2, h3, q⟩
theorem ev_scaled {v : W} {a : Int} {m p : Nat} (ha : EvP ta σ H (IsW v)) (hb : EvP tb σ H (IsI a)) (hc : EvP tc σ H (IsN p)) (h2 : v.length ≤ 100) (hs : ∀ n ∈ v, n < 1000) (h3 : 0 < p) (hm : a % ((p : Nat) : Int) = ((m : Nat) : Int)) :
    EvP (tCall spScaled [] E (tCons ta (tCons tb (tCons tc tNil)))) σ H (IsW (scaledW v m p)) :=
  ev_call (ea_3 ha hb hc (fun _ _ _ e q => Wd.ex e q) (fun _ _ _ e q => q)) fun vs H1 e ⟨v1, v2, v3, ev, q1, q2, q3⟩ Q q => ⟨v, a, m, p, v1, by rw [ev, q2, q3]; rfl, q1, h2, hs, h3, hm, q⟩
theorem ev_dot {v w : W} {p : Nat} (ha : EvP ta σ H (IsW v)) (hb : EvP tb σ H (IsW w)) (hc : EvP tc σ H (IsN p)) (h1 : v.length = w.length) (h2 : v.length ≤ 100) (hs : ∀ n ∈ v, n < 1000) (h3 : 0 < p) :
    EvP (tCall spDot [] E (tCons ta (tCons tb (tCons tc tNil)))) σ H (IsN (dotW v w p)) :=
  ev_call (ea_3 ha hb hc (fun _ _ _ e q => Wd.ex e q) (fun _ _ _ e q => Wd.ex e q)) fun vs H1 e ⟨v1, v2, v3, ev, q1, q2, q3⟩ Q q => ⟨v, w, p, v1, v2, by rw [ev, q3]; rfl, q1, q2, h1, h2, hs, h3, q⟩
end

/-! ### cleared -/
/-- a word of the length n over p -/
def Ok (n p : Nat) (w : W) : Prop := w.length = n ∧ ∀ x ∈ w, x < p
theorem Ok.get {n p : Nat} {w : W} (h : Ok n p w) {i : Nat} (hi : i < n) : w.getD i 0 < p := by
  have hl : i < w.length := by rw [h.1]; exact hi
  rw [List.getD_eq_getElem?_getD, List.getElem?_eq_getElem hl]
  exact h.2 _ (List.getElem_mem hl)
theorem Ok.scaled {n p : Nat} {w : W} (h : Ok n p w) (m : Nat) (hp : 0 < p) : Ok n p (scaledW w m p) := by
  refine ⟨by unfold scaledW; rw [List.length_map]; exact h.1, fun x hx => ?_⟩
  unfold scaledW at hx
  obtain ⟨y, _, rfl⟩ := List.mem_map.mp hx
  exact Nat.mod_lt _ hp
theorem Ok.add {n p : Nat} {v w : W} (h : Ok n p v) (h' : Ok n p w) (hp : 0 < p) : Ok n p (addW v w p) := by
  refine ⟨by unfold addW; rw [List.length_zipWith, h.1, h'.1, Nat.min_self], fun x hx => ?_⟩
  unfold addW at hx
  obtain ⟨i, hi, rfl⟩ := List.getElem_of_mem hx
  rw [List.getElem_zipWith]
  exact Nat.mod_lt _ hp
theorem Ok.cleared {n p c : Nat} {v w : W} (h : Ok n p v) (h' : Ok n p w) (hp : 0 < p) : Ok n p (clearedW v w c p) := h.add (h'.scaled _ hp) hp
def spCleared : Sp := fun vs H Q _ => ∃ (r h : W) (c n p : Nat) (x y : V), vs = [x, y, .int ((c : Nat) : Int), .int ((p : Nat) : Int)] ∧ Wd H r x ∧ Wd H h y ∧ Ok n p r ∧ Ok n p h ∧ c < n ∧ n ≤ 20 ∧ 0 < p ∧ p ≤ 10 ∧ Ret (IsW (clearedW r h c p)) H Q
theorem scCleared : FnScope ["row", "head", "at", "p"] ["row", "head", "at", "p"] (defScope sCleared) := ⟨rfl, rfl, rfl, by decide +kernel, rfl, by decide +kernel, by decide +kernel⟩
theorem neg_mod {c p : Nat} (h : c < p) : (-((c : Nat) : Int)) % ((p : Nat) : Int) = (((p - c) % p : Nat) : Int) := by
  have e : -((c : Nat) : Int) = ((p - c : Nat) : Int) + ((p : Nat) : Int) * (-1) := by omega
  rw [e, Int.add_mul_emod_self_left, Int.natCast_emod]
theorem ok_cleared {f fA fS : Addr} {fd fdA fdS : FuncData} (F : Fun K "cleared" "cleared" sCleared f fd) (B : Blt mg) (FA : Fun K "add" "add" sAdd fA fdA) (gA : mg "add" = some (.ref fA)) (FS : Fun K "scaled" "scaled" sScaled fS fdS) (gS : mg "scaled" = some (.ref fS)) :
    FnOk P w K mg base CX0 2 f fd ["row", "head", "at", "p"] spCleared := by
  have GA : FnOk P w K mg base CX0 1 fA fdA ["v", "w", "p"] spAdd := ok_add FA B
  have GS : FnOk P w K mg base CX0 1 fS fdS ["v", "a", "p"] spScaled := ok_scaled FS B
  have bA : Binds K fdA ["v", "w", "p"] [] := FA.binds fun _ _ _ _ _ _ us hl => match us, hl with | [_, _, _], _ => rfl
  have bS : Binds K fdS ["v", "a", "p"] [] := FS.binds fun _ _ _ _ _ _ us hl => match us, hl with | [_, _, _], _ => rfl
  refine F.ok scCleared (fun vs H Q E h => ?_) (fun cdv A outer s H vs Q E hr h => ?_)
  · obtain ⟨r, h, c, n, p, x, y, rfl, _⟩ := h
    rfl
  · obtain ⟨r, h, c, n, p, x, y, rfl, hr1, hh, or, oh, hc, hn, hp, hp10, k⟩ := h
    refine ⟨_, pss_one (ps_ret (pe_call GA hr (by rfl) gA FA.kp bA .nil pass0 (pa_cons (pv 0) (pa_cons (pe_call GS hr (by rfl) gS FS.kp bS .nil pass0 (pa_cons (pv 1) (pa_cons (pe_un un_neg (pe_ix ix_tup (pv 0) (pv 2) (fun _ _ => rfl))) (pa_cons (pv 3) pa_nil)))) (pa_cons (pv 3) pa_nil))))), ?_⟩
    refine EvP.go (P := IsW (clearedW r h c p)) ?_ k
    have hlt := or.get hc
    exact ev_add (ev_w (i := 0) rfl hr1) (ev_scaled (ev_w (i := 1) rfl hh) (ev_neg (ev_wix (ev_w (i := 0) rfl hr1) (ev_v (i := 2) rfl) (by rw [or.1]; exact hc))) (ev_v (i := 3) rfl) (by rw [oh.1]; omega) (fun n hn => Nat.lt_of_lt_of_le (oh.2 n hn) (by omega)) hp (neg_mod hlt)) (ev_v (i := 3) rfl)
      (by rw [(oh.scaled _ hp).1, or.1]) (by rw [or.1]; omega) hp
theorem ev_cleared {σ : L2.St} {H : Hp} {ta tb tc td : TE} {E : XK} {r h : W} {c n p : Nat} (ha : EvP ta σ H (IsW r)) (hb : EvP tb σ H (IsW h)) (hc : EvP tc σ H (IsN c)) (hd : EvP td σ H (IsN p)) (or : Ok n p r) (oh : Ok n p h) (hcn : c < n) (hn : n ≤ 20) (hp : 0 < p) (hp10 : p ≤ 10) :
    EvP (tCall spCleared [] E (tCons ta (tCons tb (tCons tc (tCons td tNil))))) σ H (IsW (clearedW r h c p)) :=
  ev_call (ea_4 ha hb hc hd (fun _ _ _ e q => Wd.ex e q) (fun _ _ _ e q => Wd.ex e q) (fun _ _ _ _ q => q)) fun vs H1 e ⟨v1, v2, v3, v4, ev, q1, q2, q3, q4⟩ Q q => ⟨r, h, c, n, p, v1, v2, by rw [ev, q3, q4]; rfl, q1, q2, or, oh, hcn, hn, hp, hp10, q⟩
end
end K21

set_option maxRecDepth 100000
set_option maxHeartbeats 4000000
/-! K21D2: is_integer, inverse, power, is_word, weight. -/
namespace K21
open PySem L2
open Evl (Ex)
abbrev sIsint : Stmt := top 6
abbrev sInverse : Stmt := top 7
abbrev sPower : Stmt := top 8
abbrev sIsword : Stmt := top 10
abbrev sWeight : Stmt := top 19
section
variable {P : Program} {w : World} {K : PySem.W.Frag} {mg : Str → Option Value} {base : Heap}
/-! ### is_integer -/
def spIsint : Sp := fun vs H Q _ => ∃ i : Int, vs = [.int i] ∧ Ret (IsB true) H Q
theorem scIsint : FnScope ["value"] ["value"] (defScope sIsint) := ⟨rfl, rfl, rfl, by decide +kernel, rfl, by decide +kernel, by decide +kernel⟩
theorem ev_isi {σ : L2.St} {H : Hp} {te : TE} {P1 : PV} {t T : String} {b : Bool} (h : EvP te σ H P1) (ty : ∀ v H1, P1 v H1 → TyX K H1 v (.type t)) (hk : kitB t T = some b) : EvP (tCB (rIsi K) (tCons te (tCons (tC (.ty T)) tNil))) σ H (IsB b) := fun H1 e Q q =>
  h H1 e _ fun v H2 e2 p => ⟨v, .ty T, .type t, .type T, b, rfl, .ty T, ty v H2 p, kit_ty hk, q _ H2 e2 rfl⟩
theorem ok_isint {f : Addr} {fd : FuncData} (F : Fun K "is_integer" "is_integer" sIsint f fd) (B : Blt mg) : FnOk P w K mg base CX0 1 f fd ["value"] spIsint := by
  refine F.ok scIsint (fun vs H Q E h => ?_) (fun cdv A outer s H vs Q E hr h => ?_)
  · obtain ⟨i, rfl, _⟩ := h
    rfl
  · obtain ⟨i, rfl, k⟩ := h
    refine ⟨_, pss_one (ps_ret (pe_and (pe_callB call_isi (by rfl) B.isinstance (by decide +kernel) (pa_cons (pv 0) (pa_cons (pe_bltn (v := .ty "int") (by rfl) B.int PyProof.Rows.boot_int rfl) pa_nil)))
      (pe_one (pe_not (pe_callB call_isi (by rfl) B.isinstance (by decide +kernel) (pa_cons (pv 0) (pa_cons (pe_bltn (v := .ty "bool") (by rfl) B.bool PyProof.Rows.boot_bool rfl) pa_nil))))))), ?_⟩
    refine ev_isi (K := K) (T := "int") (t := "int") (ev_v (i := 0) (v := .int i) rfl) (fun v H1 p => by rw [p]; exact .base (.int i)) (b := true) (by decide +kernel) H (Ex.refl H) _ fun v H2 e2 p => ⟨true, p, iteT ?_⟩
    refine ev_isi (K := K) (T := "bool") (t := "int") (ev_v (i := 0) (v := .int i) rfl) (fun v H1 p => by rw [p]; exact .base (.int i)) (b := false) (by decide +kernel) H2 (Ex.refl H2) _ fun v H3 e3 p => ⟨false, p, k _ H3 (e2.trans e3) rfl⟩
theorem ev_isint {σ : L2.St} {H : Hp} {te : TE} {E : XK} {i : Int} (h : EvP te σ H (IsI i)) : EvP (tCall spIsint [] E (tCons te tNil)) σ H (IsB true) :=
  ev_call (ea_1 h) fun vs H1 e ⟨v, ev, q1⟩ Q q => ⟨i, by rw [ev, q1]; rfl, q⟩

/-! ### inverse -/
def HasInv (a p : Nat) : Prop := ∃ k, 0 < k ∧ k < p ∧ a * k % p = 1
def spInverse : Sp := fun vs H Q _ => ∃ a p : Nat, vs = [.int ((a : Nat) : Int), .int ((p : Nat) : Int)] ∧ HasInv a p ∧ p ≤ 10 ∧ Ret (IsN (inverseW a p)) H Q
theorem scInverse : FnScope ["a", "p", "k"] ["a", "p"] (defScope sInverse) := ⟨rfl, rfl, rfl, by decide +kernel, rfl, by decide +kernel, by decide +kernel⟩
theorem inverse_at {a p i : Nat} (hi : i + 1 < p) (h : a * (i + 1) % p = 1) (hb : ∀ k, k < i → a * (k + 1) % p ≠ 1) : inverseW a p = i + 1 := by
  unfold inverseW
  have e : (List.range' 1 (p - 1)).find? (fun k => a * k % p == 1) = some (i + 1) := by
    rw [List.find?_range'_eq_some]
    refine ⟨by simp [h], by simp; omega, fun j h1 h2 => ?_⟩
    have q := hb (j - 1) (by omega)
    rw [show j - 1 + 1 = j by omega] at q
    simp [q]
  rw [e]
  rfl
theorem ok_inverse {f : Addr} {fd : FuncData} (F : Fun K "inverse" "inverse" sInverse f fd) (B : Blt mg) : FnOk P w K mg base CX0 1 f fd ["a", "p"] spInverse := by
  refine F.ok scInverse (fun vs H Q E h => ?_) (fun cdv A outer s H vs Q E hr h => ?_)
  · obtain ⟨a, p, rfl, _⟩ := h
    rfl
  · obtain ⟨a, p, rfl, hi, h10, k⟩ := h
    refine ⟨_, pss_cons (ps_for PassesOwn.never rfl (pi_range2 (by rfl) B.range (pa_cons pe_int (pa_cons (pv 1) pa_nil))) (pg_name (i := 2) scInverse.nd rfl (Or.inl rfl))
      (pss_one (ps_if (pt_cmpR op_eq (pe_op op_mod (pe_op op_mul (pv 0) (pv 2)) (pv 1)) pe_int (nomark _)) (pss_one (ps_ret (pv 2))) pss_nil))) (pss_one ps_never), ?_⟩
    refine ⟨_, rfl, 1, ((p : Nat) : Int), rfl, ⟨by omega, by omega, by omega, by omega⟩, ?_⟩
    refine for_range (lo := 1) (n := (((p : Nat) : Int) - 1).toNat) (fun i σ' H' => Ex H H' ∧ (∃ z, σ' = [some (.int ((a : Nat) : Int)), some (.int ((p : Nat) : Int)), z]) ∧ ∀ j, j < i → a * (j + 1) % p ≠ 1) ⟨Ex.refl H, ⟨none, rfl⟩, fun j h => absurd h (Nat.not_lt_zero _)⟩ ?_ ?_
    · rintro i σ H' hn ⟨e, ⟨z, rfl⟩, hb⟩
      have hip : i + 1 < p := by omega
      refine EvB.go (b := decide (a * (i + 1) % p = 1)) (eb_is (eb_T (ev_eq (x := .int ((a * (i + 1) % p : Nat) : Int)) (y := .int 1) ?_ ev_c rfl)) ?_) fun H2 e2 => ?_
      · refine EvP.imp (ev_i2 (i := ((a * (i + 1) : Nat) : Int)) (j := ((p : Nat) : Int)) ((ev_i2 (i := ((a : Nat) : Int)) (j := (1 : Int) + ((i : Nat) : Int)) (ev_v rfl) (ev_v rfl) (Or.inr (by omega))).imp fun v H3 _ q => ?_) (ev_v rfl) (by omega)) fun v H3 _ q => ?_
        · rw [q]
          show V.int _ = V.int _
          rw [Int.natCast_mul, show ((i + 1 : Nat) : Int) = 1 + ((i : Nat) : Int) by omega]
        · rw [q]
          show V.int _ = V.int _
          rw [Int.natCast_emod]
      · by_cases h1 : a * (i + 1) % p = 1
        · rw [h1]
          rfl
        · rw [decide_eq_false h1]
          exact decide_eq_false fun z => h1 (by injection z with z; omega)
      · refine ite2 (fun h1 => ?_) (fun h1 => ?_)
        · have h1 := of_decide_eq_true h1
          refine ⟨_, rfl, k _ _ (e.trans e2) ?_⟩
          show V.int _ = V.int _
          rw [inverse_at hip h1 hb]
          congr 1
          omega
        · refine ⟨e.trans e2, ⟨_, rfl⟩, fun j hj => ?_⟩
          by_cases hji : j = i
          · rw [hji]
            exact fun z => h1 (decide_eq_true z)
          · exact hb j (by omega)
    · rintro σ H' ⟨_, _, hb⟩
      obtain ⟨j, h0, h1, h2⟩ := hi
      exact hb (j - 1) (by omega) (by rw [show j - 1 + 1 = j by omega]; exact h2)
theorem ev_inverse {σ : L2.St} {H : Hp} {ta tb : TE} {E : XK} {a p : Nat} (h : EvP ta σ H (IsN a)) (h' : EvP tb σ H (IsN p)) (hi : HasInv a p) (h10 : p ≤ 10) : EvP (tCall spInverse [] E (tCons ta (tCons tb tNil))) σ H (IsN (inverseW a p)) :=
  ev_call (ea_2 h h' fun _ _ _ _ q => q) fun vs H1 e ⟨v, u, ev, q1, q2⟩ Q q => ⟨a, p, by rw [ev, q1, q2]; rfl, hi, h10, q⟩

/-! ### power -/
def spPower : Sp := fun vs H Q _ => ∃ a k : Nat, vs = [.int ((a : Nat) : Int), .int ((k : Nat) : Int)] ∧ a ≤ 10 ∧ k ≤ 20 ∧ Ret (IsN (a ^ k)) H Q
theorem scPower : FnScope ["a", "k", "total", "_"] ["a", "k"] (defScope sPower) := ⟨rfl, rfl, rfl, by decide +kernel, rfl, by decide +kernel, by decide +kernel⟩
theorem ok_power {f : Addr} {fd : FuncData} (F : Fun K "power" "power" sPower f fd) (B : Blt mg) : FnOk P w K mg base CX0 1 f fd ["a", "k"] spPower := by
  refine F.ok scPower (fun vs H Q E h => ?_) (fun cdv A outer s H vs Q E hr h => ?_)
  · obtain ⟨a, k, rfl, _⟩ := h
    rfl
  · obtain ⟨a, n, rfl, ha, hn, k⟩ := h
    refine ⟨_, pss_cons (ps_set (i := 2) scPower.nd rfl (Or.inl rfl) pe_int) (pss_cons (ps_for PassesOwn.never rfl (pi_range1 (by rfl) B.range (pa_cons (pv 1) pa_nil)) (pg_name (i := 3) scPower.nd rfl (Or.inl rfl))
      (pss_one (ps_set (i := 2) scPower.nd rfl (Or.inl rfl) (pe_op op_mul (pv 2) (pv 0))))) (pss_one (ps_ret (pv 2)))), ?_⟩
    refine ⟨_, rfl, ((n : Nat) : Int), rfl, by omega, by omega, ?_⟩
    refine for_range (lo := 0) (n := ((n : Nat) : Int).toNat) (fun i σ' H' => Ex H H' ∧ ∃ z, σ' = [some (.int ((a : Nat) : Int)), some (.int ((n : Nat) : Int)), some (.int ((a ^ i : Nat) : Int)), z]) ⟨Ex.refl H, none, rfl⟩ ?_ ?_
    · rintro i σ H' hi ⟨e, z, rfl⟩
      refine EvP.go (P := IsN (a ^ (i + 1))) ?_ fun v H2 e2 p => ⟨e.trans e2, some (.int (0 + ((i : Nat) : Int))), by rw [p]; rfl⟩
      refine (ev_i2 (i := ((a ^ i : Nat) : Int)) (j := ((a : Nat) : Int)) (ev_v rfl) (ev_v rfl) (Or.inr (by omega))).imp fun v H3 _ q => ?_
      rw [q]
      show V.int _ = V.int _
      rw [Nat.pow_succ, Int.natCast_mul]
    · rintro σ H' ⟨e, z, rfl⟩
      refine ⟨_, rfl, k _ _ e ?_⟩
      show V.int _ = V.int _
      rw [show ((n : Nat) : Int).toNat = n by omega]
theorem ev_power {σ : L2.St} {H : Hp} {ta tb : TE} {E : XK} {a k : Nat} (h : EvP ta σ H (IsN a)) (h' : EvP tb σ H (IsN k)) (ha : a ≤ 10) (hk : k ≤ 20) : EvP (tCall spPower [] E (tCons ta (tCons tb tNil))) σ H (IsN (a ^ k)) :=
  ev_call (ea_2 h h' fun _ _ _ _ q => q) fun vs H1 e ⟨v, u, ev, q1, q2⟩ Q q => ⟨a, k, by rw [ev, q1, q2]; rfl, ha, hk, q⟩

/-! ### is_word: of a word it says True -/
def spIsword : Sp := fun vs H Q _ => ∃ (v : W) (n p : Nat) (x : V), vs = [x, .int ((p : Nat) : Int), .int ((n : Nat) : Int)] ∧ Wd H v x ∧ Ok n p v ∧ Ret (IsB true) H Q
theorem scIsword : FnScope ["value", "p", "n", "item"] ["value", "p", "n"] (defScope sIsword) := ⟨rfl, rfl, rfl, by decide +kernel, rfl, by decide +kernel, by decide +kernel⟩
theorem ok_isword {f fI : Addr} {fd fdI : FuncData} (F : Fun K "is_word" "is_word" sIsword f fd) (B : Blt mg) (FI : Fun K "is_integer" "is_integer" sIsint fI fdI) (gI : mg "is_integer" = some (.ref fI)) : FnOk P w K mg base CX0 2 f fd ["value", "p", "n"] spIsword := by
  have GI : FnOk P w K mg base CX0 1 fI fdI ["value"] spIsint := ok_isint FI B
  have bI : Binds K fdI ["value"] [] := FI.binds fun _ _ _ _ _ _ us hl => match us, hl with | [_], _ => rfl
  refine F.ok scIsword (fun vs H Q E h => ?_) (fun cdv A outer s H vs Q E hr h => ?_)
  · obtain ⟨v, n, p, x, rfl, _⟩ := h
    rfl
  · obtain ⟨v, n, p, x, rfl, hv, ov, k⟩ := h
    refine ⟨_, pss_cons (ps_if (PW.pt (pw_or (pt_not (pt_val (pe_callB call_isi (by rfl) B.isinstance (by decide +kernel) (pa_cons (pv 0) (pa_cons (pe_bltn (v := .ty "tuple") (by rfl) B.tuple PyProof.Rows.boot_tuple rfl) pa_nil)))))
        (pw_or1 (pt_cmpR op_ne (pe_callB cr_len (by rfl) B.len PySem.boot_len (pa_cons (pv 0) pa_nil)) (pv 2) (nomark _))))) (pss_one (ps_ret pe_bl)) pss_nil)
      (pss_cons (ps_for PassesOwn.never rfl (pi_tup (pv 0)) (pg_name (i := 3) scIsword.nd rfl (Or.inl rfl))
        (pss_one (ps_if (PW.pt (pw_or (pt_not (pt_val (pe_call GI hr (by rfl) gI FI.kp bI .nil pass0 (pa_cons (pv 3) pa_nil)))) (pw_or (pt_cmpR op_lt (pv 3) pe_int (nomark _)) (pw_or1 (pt_cmpR op_ge (pv 3) (pv 1) (nomark _)))))) (pss_one (ps_ret pe_bl)) pss_nil)))
      (pss_one (ps_ret pe_bl))), ?_⟩
    obtain ⟨a, rfl, ha⟩ := hv
    refine EvB.go (b := false) (eb_is (eb_or (eb_not (eb_B (ev_isi (K := K) (t := "tuple") (T := "tuple") (b := true) (ev_w (i := 0) rfl ⟨a, rfl, ha⟩) (fun u H1 p => by obtain ⟨c, rfl, hc⟩ := p; exact .base (.tup hc)) (by decide +kernel))))
      (fun _ => eb_T (ev_ne (x := .int ((v.length : Nat) : Int)) (y := .int ((n : Nat) : Int)) (ev_lenW (ev_w (i := 0) rfl ⟨a, rfl, ha⟩)) (ev_v (i := 2) rfl) rfl))) ?_) fun H2 e2 => ?_
    · rw [ov.1]
      simp
    · refine iteF ?_
      refine ⟨_, rfl, a, rfl, ⟨_, SqT.of (e2 a _ ha)⟩, ?_⟩
      refine for_tup (xs := iv v) (fun i σ' H' => Ex H H' ∧ ∃ z, σ' = [some (.ref a), some (.int ((p : Nat) : Int)), some (.int ((n : Nat) : Int)), z]) ⟨e2, none, rfl⟩ (fun i σ' H' _ p => SqT.of (p.1 a _ ha)) ?_ ?_
      · rintro i x σ H' hx ⟨e, z, rfl⟩
        have hi : i < v.length := by
          have := (List.getElem?_eq_some_iff.mp hx).1
          rw [iv_len] at this
          exact this
        have ex : x = .int ((v.getD i 0 : Nat) : Int) := Option.some.inj (hx.symm.trans (iv_get hi))
        have hlt := ov.get (show i < n by rw [← ov.1]; exact hi)
        subst ex
        refine EvB.go (b := false) (eb_is (eb_or (eb_not (eb_B (ev_isint (i := ((v.getD i 0 : Nat) : Int)) (ev_v (i := 3) rfl)))) (fun _ => eb_or (eb_T ((ev_i2' (i := ((v.getD i 0 : Nat) : Int)) (j := 0) (ev_v (i := 3) rfl) ev_c).imp fun u H3 _ q => q)) (fun _ => eb_T ((ev_i2' (i := ((v.getD i 0 : Nat) : Int)) (j := ((p : Nat) : Int)) (ev_v (i := 3) rfl) (ev_v (i := 1) rfl)).imp fun u H3 _ q => q)))) ?_) fun H3 e3 => ?_
        · rw [decide_eq_false (by omega), decide_eq_false (by omega)]
          rfl
        · exact iteF ⟨e.trans e3, _, rfl⟩
      · rintro σ H' ⟨e, z, rfl⟩
        exact k _ _ e rfl
theorem ev_isword {σ : L2.St} {H : Hp} {ta tb tc : TE} {E : XK} {v : W} {n p : Nat} (ha : EvP ta σ H (IsW v)) (hb : EvP tb σ H (IsN p)) (hc : EvP tc σ H (IsN n)) (ov : Ok n p v) :
    EvP (tCall spIsword [] E (tCons ta (tCons tb (tCons tc tNil)))) σ H (IsB true) :=
  ev_call (ea_3 ha hb hc (fun _ _ _ e q => Wd.ex e q) (fun _ _ _ e q => q)) fun vs H1 e ⟨v1, v2, v3, ev, q1, q2, q3⟩ Q q => ⟨v, n, p, v1, by rw [ev, q2, q3]; rfl, q1, ov, q⟩

/-! ### weight -/
def spWeight : Sp := fun vs H Q _ => ∃ (v : W) (x : V), vs = [x] ∧ Wd H v x ∧ v.length ≤ 100 ∧ Ret (IsN (weightW v)) H Q
theorem scWeight : FnScope ["word", "item"] ["word"] (defScope sWeight) := ⟨rfl, rfl, rfl, by decide +kernel, rfl, by decide +kernel, by decide +kernel⟩
theorem ok_weight {f : Addr} {fd : FuncData} (F : Fun K "weight" "weight" sWeight f fd) (B : Blt mg) : FnOk P w K mg base CX0 1 f fd ["word"] spWeight := by
  refine F.ok scWeight (fun vs H Q E h => ?_) (fun cdv A outer s H vs Q E hr h => ?_)
  · obtain ⟨v, x, rfl, _⟩ := h
    rfl
  · obtain ⟨v, x, rfl, hv, h100, k⟩ := h
    refine ⟨_, pss_one (ps_ret (pe_callB cr_len (by rfl) B.len PySem.boot_len (pa_cons
      (pe_lc (own := [("item", 1)]) (g := gName 1) (tt := tTest (tOp rNe (tVar 1) (tC (.int 0)))) rfl scWeight.nd (pi_tup (pv 0))
        (blkOk_by (own := [("item", 1)]) (N := ["word", "item"]) (sc := defScope sWeight) (by decide +kernel)) (fun _ _ _ _ _ => pg_name (i := 1) scWeight.nd rfl (Or.inl rfl)) (fun _ _ _ _ _ => pts_one (pt_cmpR op_ne (pv 1) pe_int (nomark _)))
        (fun _ _ _ _ _ => pv 1)) pa_nil))), ?_⟩
    refine EvP.go (P := IsN (weightW v)) (ev_lenN (PN := fun us H2 => Paired (RN H2) ((v.filter fun x => x != 0).map fun n => n) us) ?_ fun us H1 q => ?_) k
    · refine lc_t v RN (R := RN) (fun n => n != 0) (fun n => n) rn_mono ?_ (by omega) (fun _ => rfl) (fun n x H1 e hn hx H2 e2 => ?_) (fun n x H1 e hn hx _ H2 e2 => ?_)
      · exact ev_var rfl fun H1 e => by
          obtain ⟨b, r, hb⟩ := hv.ex e
          exact ⟨b, _, r, hb, iv_pair v⟩
      · rw [hx]
        refine eb_is (eb_T (ev_ne (x := .int ((n : Nat) : Int)) (y := .int 0) (ev_v rfl) ev_c rfl)) ?_
        by_cases h0 : n = 0
        · subst h0
          rfl
        · rw [decide_eq_false (fun z => h0 (by injection z with z; omega))]
          simp [h0]
      · rw [hx]
        exact ev_v rfl
    · rw [← pair_len q, List.length_map]
      rfl
theorem ev_weight {σ : L2.St} {H : Hp} {ta : TE} {E : XK} {v : W} (h : EvP ta σ H (IsW v)) (h100 : v.length ≤ 100) : EvP (tCall spWeight [] E (tCons ta tNil)) σ H (IsN (weightW v)) :=
  ev_call (ea_1 h) fun vs H1 e ⟨x, ev, q1⟩ Q q => ⟨v, x, by rw [ev]; rfl, q1, h100, q⟩
end
end K21

set_option maxRecDepth 100000
set_option maxHeartbeats 4000000
/-! K21Rules: words as data; list.remove of a word; sorted of words. -/
namespace K21
open PySem L2
open Evl (Ex)

/-! ### words as data -/
def dI (n : Nat) : PyData := .int ((n : Nat) : Int)
def dW (w : W) : PyData := .tuple (w.map dI)
theorem eqvAll_dI : ∀ a b : W, PyData.eqvAll (a.map dI) (b.map dI) = (a == b)
  | [], [] => rfl
  | [], _ :: _ => rfl
  | _ :: _, [] => rfl
  | x :: a, y :: b => by
    rw [List.map_cons, List.map_cons, PyData.eqvAll, eqvAll_dI a b, List.cons_beq_cons]
    have e : PyData.eqv (dI x) (dI y) = (x == y) := by
      show (((x : Nat) : Int) == ((y : Nat) : Int)) = (x == y)
      by_cases h : x = y
      · subst h; simp
      · rw [beq_eq_false_iff_ne.mpr h, beq_eq_false_iff_ne.mpr (fun z => h (by omega))]
    rw [e]
theorem eqv_dW (a b : W) : PyData.eqv (dW a) (dW b) = (a == b) := eqvAll_dI a b
theorem canLay_dI : ∀ w : W, PyData.canLayAll0 (w.map dI) = true
  | [] => rfl
  | x :: w => by rw [List.map_cons, PyData.canLayAll0, canLay_dI w]; rfl
theorem canLay_dW (w : W) : (dW w).canLay0 = true := canLay_dI w
theorem plain_dW (w : W) : (dW w).plain = true := PyData.plain_of_canLay0 _ (canLay_dW w)
theorem plainAll_dW : ∀ ws : List W, PyData.plainAll (ws.map dW) = true
  | [] => rfl
  | w :: ws => by rw [List.map_cons, PyData.plainAll, plain_dW w, plainAll_dW ws]; rfl
theorem depth_dI : ∀ w : W, PyData.depthAll (w.map dI) = 0
  | [] => rfl
  | x :: w => by
    rw [List.map_cons, PyData.depthAll, depth_dI w]
    rfl
theorem depth_dW (w : W) : (dW w).depth = 1 := by
  show PyData.depthAll (w.map dI) + 1 = 1
  rw [depth_dI]
section
variable {K : PySem.W.Frag} {H : Hp}
theorem dp_iv : ∀ w : W, DpAll K H (iv w) (w.map dI)
  | [] => .nil
  | n :: w => .cons (.int _) (dp_iv w)
theorem dp_w {w : W} {v : V} (h : Wd H w v) : Dp K H v (dW w) := by
  obtain ⟨a, rfl, h⟩ := h
  exact .tup (SqT.of h) (dp_iv w)
theorem dp_ws : ∀ {ws : List W} {vs : List V}, Wds H ws vs → DpAll K H vs (ws.map dW)
  | _, _, .nil => .nil
  | _, _, .cons r t => .cons (dp_w r) (dp_ws t)
end

/-! ### list.remove of a word that is in -/
def rRemW : V → List V → Hp → VK → Prop := fun x xs H Q => ∃ (l : Addr) (us : List V) (y : V) (ws : List W) (w : W) (j : Nat), x = .ref l ∧ xs = [y] ∧ H l = some (.lst us) ∧ Wds H ws us ∧ Wd H w y ∧ ws.findIdx? (fun v => v == w) = some j ∧ Q .non (upd H l (.lst (us.eraseIdx j)))
theorem place_dW (ws : List W) (w : W) : SeqAt.dataPlace (ws.map dW) (dW w) = ws.findIdx? (fun v => v == w) := by
  unfold SeqAt.dataPlace
  rw [List.findIdx?_map]
  congr 1
  funext v
  exact eqv_dW v w
theorem mt_remW {X : Cx} (hu : X.A.units + 65 < cLine) : MtR X "list.remove" rRemW := by
  intro pins s σ H x xs v us Q I rx rxs h
  obtain ⟨l, uv, y, ws, w, j, rfl, rfl, hH, hws, hw, hj, q⟩ := h
  cases rx
  cases rxs with
  | cons ry rt =>
    rename_i uy ut
    cases rt
    obtain ⟨bs, r1⟩ := Dp.reads I (dW w) y uy (dp_w hw) ry
    obtain ⟨z, its, n, r, hl, e⟩ := I.lstM hH
    obtain ⟨as, h4⟩ := Dp.readsAll I (ws.map dW) _ its (dp_ws hws) r
    have hsz : its.toArray.size ≤ sizeLine := by rw [List.size_toArray, ← hl]; exact z
    have hd : min (PyData.depthAll (ws.map dW)) (dW w).depth ≤ 1 := by rw [depth_dW]; exact Nat.min_le_right _ _
    refine SeqAt.remove_list_data (vs := its.toArray) (xs := ws.map dW) (d := dW w) (j := j) ⟨_, e, rfl, n, rfl⟩ (show ReadsAll s.heap its.toArray.toList _ as from h4) r1 (plainAll_dW ws) (plain_dW w) (by omega) (by rw [place_dW]; exact hj) hsz ?_
    have rr := r.eraseIdx j
    refine ⟨.non, _, I.lset (its' := its.eraseIdx j) (t' := s.toks) hH e ?_ rr ?_, rfl, q⟩
    · show its.toArray.eraseIdxIfInBounds j = (its.eraseIdx j).toArray
      rw [List.eraseIdxIfInBounds_toArray]
    · have := List.length_eraseIdx_le uv j
      omega

/-! ### the order of words -/
theorem lt_cast : ∀ a b : W, (decide (a.map (fun n => ((n : Nat) : Int)) < b.map fun n => ((n : Nat) : Int))) = !leW b a
  | [], [] => by simp [leW]
  | [], _ :: _ => by simp [leW]
  | _ :: _, [] => by simp [leW]
  | x :: a, y :: b => by
    have ih := lt_cast a b
    rw [List.map_cons, List.map_cons]
    unfold leW
    by_cases h1 : y < x
    · rw [if_pos h1]
      simp [List.cons_lt_cons_iff]
      constructor <;> omega
    · rw [if_neg h1]
      by_cases h2 : x < y
      · rw [if_pos h2]
        simp [List.cons_lt_cons_iff]
        omega
      · rw [if_neg h2]
        have e : x = y := by omega
        subst e
        rw [← ih]
        simp [List.cons_lt_cons_iff]
theorem row_cast (w : W) : w.map dI = (w.map fun n => ((n : Nat) : Int)).map PyData.int := by
  rw [List.map_map]
  rfl
theorem le_dW : PySem.W.dataLe false dW = leW := by
  funext a b
  show (!PySem.W.dataLt (dW b) (dW a)) = _
  unfold dW
  rw [PySem.W.dataLt_tuple]
  show (!PySem.W.rowLt (b.map dI) (a.map dI)) = _
  rw [row_cast, row_cast, PySem.W.dataLt_ints, lt_cast]
  simp
theorem leW_total : ∀ a b : W, (leW a b || leW b a) = true
  | [], _ => by simp [leW]
  | _ :: _, [] => by simp [leW]
  | x :: a, y :: b => by
    have ih := leW_total a b
    unfold leW
    by_cases h1 : x < y
    · simp [h1]
    · by_cases h2 : y < x
      · simp [h2]
      · simp [h1, h2]
        simpa using ih
theorem leW_trans : ∀ a b c : W, leW a b = true → leW b c = true → leW a c = true
  | [], _, _, _, _ => by simp [leW]
  | _ :: _, [], _, h, _ => by simp [leW] at h
  | _ :: _, _ :: _, [], _, h => by simp [leW] at h
  | x :: a, y :: b, z :: c, h1, h2 => by
    have ih := leW_trans a b c
    unfold leW at h1 h2 ⊢
    by_cases a1 : x < y
    · by_cases a2 : y < z
      · rw [if_pos (by omega)]
      · rw [if_neg a2] at h2
        by_cases a3 : z < y
        · rw [if_pos a3] at h2; cases h2
        · rw [if_pos (by omega)]
    · rw [if_neg a1] at h1
      by_cases a4 : y < x
      · rw [if_pos a4] at h1; cases h1
      · rw [if_neg a4] at h1
        by_cases a2 : y < z
        · rw [if_pos (by omega)]
        · rw [if_neg a2] at h2
          by_cases a3 : z < y
          · rw [if_pos a3] at h2; cases h2
          · rw [if_neg a3] at h2
            rw [if_neg (by omega), if_neg (by omega)]
            exact ih h1 h2
theorem leW_anti : ∀ a b : W, leW a b = true → leW b a = true → a = b
  | [], [], _, _ => rfl
  | [], _ :: _, _, h => by simp [leW] at h
  | _ :: _, [], h, _ => by simp [leW] at h
  | x :: a, y :: b, h1, h2 => by
    have ih := leW_anti a b
    unfold leW at h1 h2
    by_cases a1 : x < y
    · rw [if_neg (by omega), if_pos a1] at h2; cases h2
    · rw [if_neg a1] at h1
      by_cases a4 : y < x
      · rw [if_pos a4] at h1; cases h1
      · rw [if_neg a4] at h1
        rw [if_neg a4, if_neg a1] at h2
        rw [ih h1 h2, show x = y by omega]
theorem insW_perm (w : W) : ∀ ws : List W, (insW w ws).Perm (w :: ws)
  | [] => .refl _
  | x :: r => by
    unfold insW
    by_cases h : leW w x = true
    · rw [if_pos h]
    · rw [if_neg h]
      exact ((insW_perm w r).cons x).trans (.swap w x r)
theorem insW_sorted (w : W) : ∀ ws : List W, ws.Pairwise (fun a b => leW a b = true) → (insW w ws).Pairwise fun a b => leW a b = true
  | [], _ => List.pairwise_singleton _ _
  | x :: r, h => by
    obtain ⟨h1, h2⟩ := List.pairwise_cons.mp h
    unfold insW
    by_cases e : leW w x = true
    · rw [if_pos e]
      exact List.pairwise_cons.mpr ⟨fun y hy => (List.mem_cons.mp hy).elim (fun z => z ▸ e) fun z => leW_trans _ _ _ e (h1 y z), h⟩
    · rw [if_neg e]
      refine List.pairwise_cons.mpr ⟨fun y hy => ?_, insW_sorted w r h2⟩
      rcases List.mem_cons.mp ((insW_perm w r).mem_iff.mp hy) with z | z
      · have t := leW_total w x
        rw [Bool.or_eq_true] at t
        rw [z]
        exact t.resolve_left e
      · exact h1 y z
theorem sortW_perm : ∀ ws : List W, (sortW ws).Perm ws
  | [] => .refl _
  | w :: ws => (insW_perm w (sortW ws)).trans ((sortW_perm ws).cons w)
theorem sortW_sorted : ∀ ws : List W, (sortW ws).Pairwise fun a b => leW a b = true
  | [] => .nil
  | w :: ws => insW_sorted w _ (sortW_sorted ws)
theorem sortW_is (ws : List W) : ws.mergeSort leW = sortW ws :=
  List.Perm.eq_of_pairwise (le := fun a b => leW a b = true) (fun a b _ _ h1 h2 => leW_anti a b h1 h2) (List.pairwise_mergeSort leW_trans leW_total ws) (sortW_sorted ws) ((List.mergeSort_perm ws leW).trans (sortW_perm ws).symm)

/-! ### sorted -/
section
open PySem.W PySem.Calls PyProof.Rows
theorem alikeAll_dI : ∀ a b : W, alikeAll (a.map dI) (b.map dI) = true
  | [], _ => by simp [alikeAll]
  | _ :: _, [] => by simp [alikeAll]
  | x :: a, y :: b => by
    rw [List.map_cons, List.map_cons, alikeAll, alikeAll_dI a b]
    simp [alike, dI]
theorem alike_dW (a b : W) : alike (dW a) (dW b) = true := by
  unfold dW
  rw [alike]
  exact alikeAll_dI a b
variable {prog : Program} {w : World} {A : Around} {s : Shared}
/-- at most one value is sorted without a question -/
theorem sortsAt_short {vs : List Value} {ds : List PyData} (e : EachIs (fun v d => ∃ as, Reads s.heap v d as) vs ds) (hal : AllAlike ds) (hn : ∀ d, d ∈ ds → d ≠ .none) (h1 : vs.length ≤ 1) (hu : ∀ d, d ∈ ds → A.units + d.depth < cLine) : SortsAt prog w A s (dataKind s.heap ds) vs := by
  refine ⟨fun v hv => ?_, general', ?_, fun h2 => absurd h2 (by omega)⟩
  · obtain ⟨d, hd, as, r⟩ := e.left v hv
    exact ⟨_, dataKind_some hal hd r⟩
  · intro E x y a b Q ha hb hq
    obtain ⟨d, as, hd, ra, rfl⟩ := dataKind_inv ha
    obtain ⟨d', as', hd', rb, rfl⟩ := dataKind_inv hb
    have ek : keyLt' general' x y = oneLt' false x y := rfl
    rw [ek]
    exact oneLt_alike (f := false) (fun z => Bool.noConfusion z) ra rb (hal d hd d' hd') (hn d hd) (Nat.lt_of_le_of_lt (Nat.add_le_add_left (Nat.min_le_left _ _) _) (hu d hd)) hq
theorem sortsAt_w {vs : List Value} {ws : List W} (e : EachIs (fun v b => ∃ as, Reads s.heap v (dW b) as) vs ws) (hc : (∀ w ∈ ws, w ≠ []) ∨ ws.length ≤ 1) (hu : A.units + 1 < cLine) : SortsAt prog w A s (dataKind s.heap (ws.map dW)) vs := by
  have er := each_map (R := fun v d => ∃ as, Reads s.heap v d as) dW e
  have hal : AllAlike (ws.map dW) := AllAlike.of alike_dW
  have hd : ∀ d, d ∈ ws.map dW → A.units + d.depth < cLine := fun d hd => by
    obtain ⟨v, _, rfl⟩ := List.mem_map.mp hd
    rw [depth_dW]
    exact hu
  rcases hc with hc | hc
  · refine SortsAt.data er hal (.inl fun d hd => ?_) hd
    obtain ⟨v, hv, rfl⟩ := List.mem_map.mp hd
    cases v with
    | nil => exact absurd rfl (hc _ hv)
    | cons x r => exact ⟨_, _, rfl⟩
  · refine sortsAt_short er hal (fun d hd => ?_) (by rw [e.length]; exact hc) hd
    obtain ⟨v, _, rfl⟩ := List.mem_map.mp hd
    intro z
    cases z
end
section
open PySem.W PySem.Calls PyProof.Rows
variable {X : Cx} {pins : List (Addr × Obj)} {σ : L2.St} {H : Hp} {s : Shared} {Q : VK}
/-- the value of a word, as a row of the heap -/
def WdV (H : Hp) (u : Value) (w : W) : Prop := ∃ a, u = .ref a ∧ H a = some (.tup (iv w))
theorem wdV_of : ∀ {ws : List W} {vs : List V} {us : List Value}, Wds H ws vs → Vals vs us → EachIs (WdV H) us ws
  | _, _, _, .nil, .nil => .nil
  | _, _, _, .cons ⟨a, e, h⟩ t, .cons r rt => by
    subst e
    exact .cons ⟨a, r, h⟩ (wdV_of t rt)
theorem wdV_back : ∀ {ws : List W} {us : List Value}, EachIs (WdV H) us ws → ∃ vs, Wds H ws vs ∧ Vals vs us
  | _, _, .nil => ⟨[], .nil, .nil⟩
  | _, _, .cons ⟨a, e, h⟩ t => by
    obtain ⟨vs, h1, h2⟩ := wdV_back t
    subst e
    exact ⟨.ref a :: vs, .cons ⟨a, rfl, h⟩ h1, .cons rfl h2⟩
theorem WdV.reads (I : Inv X pins σ H s) {u : Value} {w : W} (h : WdV H u w) : ∃ as, Reads s.heap u (dW w) as := by
  obtain ⟨a, rfl, h⟩ := h
  exact Dp.reads I (dW w) (.ref a) _ (dp_w ⟨a, rfl, h⟩) rfl
/-- a new list of the words, sorted in its place, handed back -/
theorem sort_core {E : Value → Shared → Prop} {vs : List Value} {ws : List W} (I : Inv X pins σ H s) (e : EachIs (WdV H) vs ws) (hc : (∀ w ∈ ws, w ≠ []) ∨ ws.length ≤ 1) (hz : ws.length ≤ 100000) (hu : X.A.units + 64 < cLine)
    (q : ∀ p us, H p = none → Wds H (sortW ws) us → Q (.ref p) (upd H p (.lst us))) :
    wpAny (model X.prog X.w) X.A.in1 (do let l ← newList vs; let _ ← holding [l] (call (.builtin "list.sort") [l] []); ret l) (fun fin s' => ∃ r, fin = .done (.ret r) ∧ EP X pins σ Q r s') E s := by
  have hl : vs.length = ws.length := e.length
  have hzl : vs.length ≤ sizeLine := by rw [hl]; exact Nat.le_trans hz (by decide)
  refine wpAny_bind (wpAny_newList ?_ hzl)
  have hoL : (s.heap.push (seqObj "list" vs.toArray 0)).get? s.heap.objs.size = some (seqObj "list" vs.toArray 0) := Heap.get?_push_size _ rfl
  have old : ∀ b o, s.heap.get? b = some o → (sortingHeap (s.heap.push (seqObj "list" vs.toArray 0)) s.heap.objs.size vs).get? b = some o := fun b o hb =>
    sortingHeap_old (Nat.ne_of_lt (Heap.lt_size hb)) (Heap.get?_push_of_some _ hb)
  have er : EachIs (fun v b => ∃ as, Reads (sortingHeap (s.heap.push (seqObj "list" vs.toArray 0)) s.heap.objs.size vs) v (dW b) as) vs ws := e.mono fun v b hv => by
    obtain ⟨as, r⟩ := hv.reads I
    exact ⟨as, PyProof.Rows.Reads.keeps old r⟩
  show wpAny _ _ _ _ _ { s with heap := s.heap.push (seqObj "list" vs.toArray 0) }
  refine wpAny_bind (wpAny_holding (wpAny_call_entry PyProof.Rows.slot_list_sort ⟨_, hoL, rfl⟩ PyProof.Rows.entry_list_sort
    (list_sort_vals (κ := dataKind (sortingHeap (s.heap.push (seqObj "list" vs.toArray 0)) s.heap.objs.size vs) (ws.map dW)) (s := { s with heap := s.heap.push (seqObj "list" vs.toArray 0) }) hoL
      (sortsAt_w (s := { s with heap := sortingHeap (s.heap.push (seqObj "list" vs.toArray 0)) s.heap.objs.size vs }) er hc (by have : X.A.in1.in1.units ≤ X.A.units + 2 := Nat.le_refl _
                                                                                                                                omega)) hzl ⟨_, rfl, ?_⟩)
    (PyProof.Rows.args_list_sort _)))
  have eo : EachIs (WdV H) (sortVals (dataKind (sortingHeap (s.heap.push (seqObj "list" vs.toArray 0)) s.heap.objs.size vs) (ws.map dW)) false vs vs) (ws.mergeSort (dataLe false dW)) := sortVals_data false e er (AllAlike.of alike_dW)
  rw [le_dW, sortW_is] at eo
  obtain ⟨uv, h1, h2⟩ := wdV_back eo
  obtain ⟨c, hc'⟩ := sortedHeap_at (vs := vs) (out := (sortVals (dataKind (sortingHeap (s.heap.push (seqObj "list" vs.toArray 0)) s.heap.objs.size vs) (ws.map dW)) false vs vs).toArray) hoL
  have hlen : uv.length ≤ sizeLine := by
    rw [h2.length, ← hl.trans (sortW_perm ws).length_eq.symm |>.trans eo.length.symm]
    exact hzl
  refine wpAny_pure ⟨_, rfl, .ref s.heap.objs.size, upd H s.heap.objs.size (.lst uv), I.laid (t' := s.toks) (fun b u hb => ?_) (Nat.le_refl _) ⟨hlen, _, c, h2, hc'⟩, rfl, q _ _ (I.hok.fresh (Nat.le_refl _)) h1⟩
  have hlt : b < s.heap.objs.size := Heap.lt_size hb
  rw [PyProof.Rows.sortedHeap_old (Nat.ne_of_lt hlt) (by rw [size_push']; exact Nat.lt_succ_of_lt hlt)]
  exact Heap.get?_push_of_some _ hb
/-- sorted(t), t a tuple of words -/
def rSortT : List V → Hp → VK → Prop := fun xs H Q => ∃ (a : Addr) (us : List V) (ws : List W), xs = [.ref a] ∧ H a = some (.tup us) ∧ Wds H ws us ∧ ((∀ w ∈ ws, w ≠ []) ∨ ws.length ≤ 1) ∧ ws.length ≤ 100000 ∧ ∀ p vs, H p = none → Wds H (sortW ws) vs → Q (.ref p) (upd H p (.lst vs))
theorem cr_sortT (hu : X.A.units + 64 < cLine) : CallR X (.builtin "sorted") rSortT := by
  intro pins s σ H xs us Q I r q
  obtain ⟨a, uv, ws, rfl, ha, hw, hc, hz, q⟩ := q
  obtain ⟨u, rfl, rx⟩ := vals1 r
  cases rx
  obtain ⟨z, its, rv, o, h1, h2, n, h3⟩ := (show ObjOk X.prog X.w H s.heap a (.tup uv) from I.hok a _ ha)
  refine Calls.call_function_entry PyProof.Rows.kind_sorted PyProof.Rows.plain_sorted PyProof.Rows.entry_sorted (PyProof.Rows.args_sorted1 _) ?_
  unfold Builtin.«sorted»
  refine wpAny_bind (m := checkCount "sorted" 1 1 _) (wpAny_pure ?_)
  refine wpAny_bind (wpAny_collect_seq a (T := "tuple") (.inr rfl) h1 h2 h3 (fun h' hk => ?_) (by rw [List.size_toArray, ← rv.length]; exact z))
  exact sort_core (I.kept (h' := h') (t' := s.toks) hk) (wdV_of hw rv) hc hz hu q
/-- sorted(d), d a dict whose keys are words -/
def rSortD : List V → Hp → VK → Prop := fun xs H Q => ∃ (d : Addr) (kvs : List (List Key × V)) (ws : List W), xs = [.ref d] ∧ H d = some (.dT kvs) ∧ (kvs.map fun kv => kv.1.map kV) = ws.map iv ∧ ((∀ w ∈ ws, w ≠ []) ∨ ws.length ≤ 1) ∧ ws.length ≤ 100000 ∧ ∀ p vs, H p = none → Wds H (sortW ws) vs → Q (.ref p) (upd H p (.lst vs))
theorem keys_wds : ∀ {kvs : List (List Key × V)} {ks : List (List Key × Addr × Value)} {ws : List W}, Paired (fun (p : List Key × V) (q : List Key × Addr × Value) => p.1 = q.1 ∧ H q.2.1 = some (.tup (p.1.map kV)) ∧ RelV p.2 q.2.2) kvs ks → (kvs.map fun kv => kv.1.map kV) = ws.map iv →
    EachIs (WdV H) (ks.map fun x => Value.ref x.2.1) ws
  | _, _, [], .nil, _ => .nil
  | _, _, _ :: _, .nil, h => by simp at h
  | _, _, [], .cons _ _, h => by simp at h
  | _, _, w :: ws, .cons r t, h => by
    rw [List.map_cons, List.map_cons] at h
    injection h with h1 h2
    exact .cons ⟨_, rfl, by rw [← h1]; exact r.2.1⟩ (keys_wds t h2)
theorem cr_sortD (hcalm : X.calm = true) (hu : X.A.units + 64 < cLine) : CallR X (.builtin "sorted") rSortD := by
  intro pins s σ H xs us Q I r q
  obtain ⟨d, kvs, ws, rfl, hd, hk, hc, hz, q⟩ := q
  obtain ⟨u, rfl, rx⟩ := vals1 r
  cases rx
  obtain ⟨z, hs, ks, pr, o, es, ep, ho, hx, hdt, he, hn⟩ := (show ObjOk X.prog X.w H s.heap d (.dT kvs) from I.hok d _ hd)
  have l1 : es.size = ks.length := size_of_entries he
  have l2 : kvs.length = ks.length := Paired.length pr
  refine Calls.call_function_entry PyProof.Rows.kind_sorted PyProof.Rows.plain_sorted PyProof.Rows.entry_sorted (PyProof.Rows.args_sorted1 _) ?_
  unfold Builtin.«sorted»
  refine wpAny_bind (m := checkCount "sorted" 1 1 _) (wpAny_pure ?_)
  refine wpAny_bind (PySem.W.kdu_collect (A := X.A.in1) (kdl_raw hs hx hdt) (I.ok.hd hcalm) ho (by omega) fun h' tk acc hkp hacc => ?_)
  have ea : acc.toList = ks.map fun x => Value.ref x.2.1 := by
    have hl : acc.toList.length = ks.length := by rw [Array.length_toList, hacc.1]; exact l1
    apply List.ext_getElem?
    intro j
    rw [List.getElem?_map]
    cases hj : acc.toList[j]? with
    | none =>
      have h1 := List.getElem?_eq_none_iff.mp hj
      rw [List.getElem?_eq_none (by omega)]
      all_goals rfl
    | some v =>
      obtain ⟨en, hen, hv⟩ := hacc.2 j v (by rw [← Array.getElem?_toList]; exact hj)
      have qe := entry_at he j
      rw [hen] at qe
      cases hb : ks[j]? with
      | none =>
        rw [hb] at qe
        exact nomatch (show some en = none from qe)
      | some b =>
        rw [hb] at qe
        have e2 : en = entryOfKey (tupleKind (mixKind X.prog X.w)) b := Option.some.inj qe
        rw [hv, e2]
        all_goals rfl
  rw [ea]
  exact sort_core (I.kept (h' := h') (t' := tk) hkp) (keys_wds pr hk) hc hz hu q
end
end K21

set_option maxRecDepth 100000
set_option maxHeartbeats 8000000
/-! K21D3: reduced. -/
namespace K21
open PySem L2
open Evl (Ex)
abbrev sReduced : Stmt := top 14
/-! ### the mathematics -/
def P7 (p : Nat) : Prop := p = 2 ∨ p = 3 ∨ p = 5 ∨ p = 7
theorem P7.pos {p : Nat} (h : P7 p) : 0 < p := by unfold P7 at h; omega
theorem P7.le {p : Nat} (h : P7 p) : p ≤ 10 := by unfold P7 at h; omega
theorem P7.two {p : Nat} (h : P7 p) : 2 ≤ p := by unfold P7 at h; omega
theorem P7.inv {p a : Nat} (h : P7 p) (h0 : 0 < a) (h1 : a < p) : HasInv a p := by
  have key : ∀ p ∈ [2, 3, 5, 7], ∀ a ∈ List.range p, a ≠ 0 → ∃ k ∈ List.range p, 0 < k ∧ a * k % p = 1 := by decide
  have hp : p ∈ [2, 3, 5, 7] := by unfold P7 at h; simp; omega
  obtain ⟨k, hk, k0, k1⟩ := key p hp a (List.mem_range.mpr h1) (by omega)
  exact ⟨k, k0, List.mem_range.mp hk, k1⟩
structure RedOk (n p : Nat) (S : Red) : Prop where
  rest : ∀ r ∈ S.rest, Ok n p r
  found : ∀ r ∈ S.found, Ok n p r
  len : S.piv.length = S.found.length
  piv : ∀ c ∈ S.piv, c < n
theorem redStep_nil {p c : Nat} {S : Red} (h : S.rest.filter (fun r => r.getD c 0 != 0) = []) : redStep p S c = S := by
  unfold redStep
  rw [h]
abbrev headOf (p c : Nat) (h : W) : W := scaledW h (inverseW (h.getD c 0) p) p
theorem redStep_cons {p c : Nat} {S : Red} {h : W} {t : List W} (e : S.rest.filter (fun r => r.getD c 0 != 0) = h :: t) :
    redStep p S c = { rest := (S.rest.erase h).map fun r => clearedW r (headOf p c h) c p, found := (S.found.map fun r => clearedW r (headOf p c h) c p) ++ [headOf p c h], piv := S.piv ++ [c] } := by
  unfold redStep
  rw [e]
theorem head_in {c : Nat} {S : Red} {h : W} {t : List W} (e : S.rest.filter (fun r => r.getD c 0 != 0) = h :: t) : h ∈ S.rest ∧ h.getD c 0 ≠ 0 := by
  have q : h ∈ S.rest.filter (fun r => r.getD c 0 != 0) := by rw [e]; exact List.mem_cons_self
  obtain ⟨q1, q2⟩ := List.mem_filter.mp q
  exact ⟨q1, by simpa using q2⟩
theorem RedOk.step {n p c : Nat} {S : Red} (O : RedOk n p S) (hc : c < n) (hp : 0 < p) : RedOk n p (redStep p S c) := by
  cases e : S.rest.filter (fun r => r.getD c 0 != 0) with
  | nil => rw [redStep_nil e]; exact O
  | cons h t =>
    rw [redStep_cons e]
    have hh := (O.rest h (head_in e).1).scaled (inverseW (h.getD c 0) p) hp
    refine ⟨fun r hr => ?_, fun r hr => ?_, ?_, fun d hd => ?_⟩
    · obtain ⟨y, hy, rfl⟩ := List.mem_map.mp hr
      exact (O.rest y (List.mem_of_mem_erase hy)).cleared hh hp
    · rcases List.mem_append.mp hr with hr | hr
      · obtain ⟨y, hy, rfl⟩ := List.mem_map.mp hr
        exact (O.found y hy).cleared hh hp
      · rw [List.mem_singleton.mp hr]
        exact hh
    · show (S.piv ++ [c]).length = _
      rw [List.length_append, List.length_append, List.length_map, O.len] <;> rfl
    · rcases List.mem_append.mp hd with hd | hd
      · exact O.piv d hd
      · rw [List.mem_singleton.mp hd]
        exact hc
theorem inverseW_lt {a p : Nat} (hp : 0 < p) : inverseW a p < p := by
  unfold inverseW
  cases e : (List.range' 1 (p - 1)).find? (fun k => a * k % p == 1) with
  | none => exact hp
  | some k =>
    have h := List.mem_of_find?_eq_some e
    rw [List.mem_range'_1] at h
    show k < p
    omega
def redAt (rows : List W) (p i : Nat) : Red := (List.range i).foldl (redStep p) ⟨rows, [], []⟩
theorem redAt_succ (rows : List W) (p i : Nat) : redAt rows p (i + 1) = redStep p (redAt rows p i) i := by
  unfold redAt
  rw [List.range_succ, List.foldl_append]
  rfl
theorem redAt_ok {rows : List W} {n p : Nat} (h : ∀ r ∈ rows, Ok n p r) (hp : 0 < p) : ∀ i, i ≤ n → RedOk n p (redAt rows p i)
  | 0, _ => ⟨h, fun _ z => absurd z (by simp [redAt]), rfl, fun _ z => absurd z (by simp [redAt])⟩
  | i + 1, hi => by
    rw [redAt_succ]
    exact (redAt_ok h hp i (by omega)).step (by omega) hp
theorem redAt_small {rows : List W} {p : Nat} : ∀ i, (redAt rows p i).rest.length ≤ rows.length ∧ (redAt rows p i).found.length ≤ i
  | 0 => ⟨Nat.le_refl _, Nat.le_refl _⟩
  | i + 1 => by
    obtain ⟨h1, h2⟩ := redAt_small (rows := rows) (p := p) i
    rw [redAt_succ]
    cases e : (redAt rows p i).rest.filter (fun r => r.getD i 0 != 0) with
    | nil => rw [redStep_nil e]; exact ⟨h1, by omega⟩
    | cons h t =>
      rw [redStep_cons e]
      refine ⟨?_, ?_⟩
      · show (((redAt rows p i).rest.erase h).map _).length ≤ _
        rw [List.length_map]
        exact Nat.le_trans List.length_erase_le h1
      · show (((redAt rows p i).found.map _) ++ [_]).length ≤ _
        rw [List.length_append, List.length_map, List.length_singleton]
        omega
theorem erase_at : ∀ {ws : List W} {h : W}, h ∈ ws → ∃ j, ws.findIdx? (fun v => v == h) = some j ∧ ws.eraseIdx j = ws.erase h
  | [], h, hm => absurd hm (by simp)
  | w :: ws, h, hm => by
    by_cases e : w = h
    · subst e
      exact ⟨0, by rw [List.findIdx?_cons, if_pos (beq_self_eq_true _)], by rw [List.erase_cons_head] <;> rfl⟩
    · have hb : (w == h) = false := beq_eq_false_iff_ne.mpr e
      obtain ⟨j, h1, h2⟩ := erase_at (ws := ws) ((List.mem_cons.mp hm).resolve_left fun z => e z.symm)
      refine ⟨j + 1, ?_, ?_⟩
      · rw [List.findIdx?_cons, hb, h1]
        rfl
      · rw [List.eraseIdx_cons_succ, h2, List.erase_cons_tail (by rw [hb]; decide)]
theorem pair_erase {α β : Type} {F : α → β → Prop} : ∀ {l : List α} {m : List β} (j : Nat), Paired F l m → Paired F (l.eraseIdx j) (m.eraseIdx j)
  | _, _, j, .nil => by
    rw [List.eraseIdx_nil, List.eraseIdx_nil]
    exact .nil
  | _, _, 0, .cons r t => t
  | _, _, j + 1, .cons r t => .cons r (pair_erase j t)

section
variable {P : Program} {w : World} {K : PySem.W.Frag} {mg : Str → Option Value} {base : Heap}
/-! ### further evaluations -/
section
variable {σ : L2.St} {H : Hp} {ta tb te : TE}
theorem ev_lixW {ws : List W} {i : Nat} {w : W} (ha : EvP ta σ H (IsWL ws)) (hb : EvP tb σ H (IsN i)) (hi : ws[i]? = some w) : EvP (tOp (rIxL K) ta tb) σ H (IsW w) := fun H1 e Q q =>
  ha H1 e _ fun x H2 e2 p => hb H2 (e.trans e2) _ fun y H3 e3 p' => by
    obtain ⟨a, us, rfl, h, hp⟩ := WL.ex e3 p
    obtain ⟨u, hu, hw⟩ := pair_getL hp hi
    exact ⟨a, _, _, _, rfl, p', SqL.of h, atI_nat hu, q _ H3 (e2.trans e3) hw⟩
theorem ev_tixW {ws : List W} {i : Nat} {w : W} (ha : EvP ta σ H (IsWT ws)) (hb : EvP tb σ H (IsN i)) (hi : ws[i]? = some w) : EvP (tOp (rIxT K) ta tb) σ H (IsW w) := fun H1 e Q q =>
  ha H1 e _ fun x H2 e2 p => hb H2 (e.trans e2) _ fun y H3 e3 p' => by
    obtain ⟨a, us, rfl, h, hp⟩ := WT.tx (TX.of e3) p
    obtain ⟨u, hu, hw⟩ := pair_getL hp hi
    exact ⟨a, _, _, _, rfl, p', SqT.of h, atI_nat hu, q _ H3 (e2.trans e3) hw⟩
/-- tuple of a word is the word -/
theorem ev_tupSame {w : W} (h : EvP te σ H (IsW w)) : EvP (tCB (rTup K) (tCons te tNil)) σ H (IsW w) := fun H1 e Q q =>
  h H1 e _ fun v H2 e2 p => by
    obtain ⟨a, rfl, ha⟩ := id p
    exact ⟨a, _, rfl, .inr ⟨SqT.of ha, q _ H2 e2 p⟩⟩
/-- tuple of a list that stands -/
theorem ev_tupL {P1 : PV} {PN : List V → Hp → Prop} (h : EvP te σ H (fun v H2 => ∃ a us, v = .ref a ∧ H2 a = some (.lst us) ∧ PN us H2)) (m : ∀ us H1 H2, Ex H1 H2 → PN us H1 → PN us H2) : EvP (tCB (rTup K) (tCons te tNil)) σ H (fun v H2 => ∃ a us, v = .ref a ∧ H2 a = some (.tup us) ∧ PN us H2) := fun H1 e Q q =>
  h H1 e _ fun v H2 e2 ⟨p, us, r, h2, pn⟩ => ⟨p, us, by rw [r], .inl ⟨SqL.of h2, fun l hl => q _ _ (e2.trans (Ex.new hl)) ⟨l, us, rfl, upd_same, m _ _ _ (Ex.new hl) pn⟩⟩⟩
theorem ev_tupLW {ws : List W} (h : EvP te σ H (IsWL ws)) : EvP (tCB (rTup K) (tCons te tNil)) σ H (IsWT ws) := ev_tupL (P1 := Is .non) h fun _ _ _ e q => Wds.tx (TX.of e) q
theorem ev_tupLI {w : W} (h : EvP te σ H (fun v H2 => ∃ a, v = .ref a ∧ H2 a = some (.lst (iv w)))) : EvP (tCB (rTup K) (tCons te tNil)) σ H (IsW w) :=
  (ev_tupL (P1 := Is .non) (PN := fun us _ => us = iv w) (h.imp fun v H1 _ ⟨a, r, q⟩ => ⟨a, _, r, q, rfl⟩) fun _ _ _ _ q => q).imp fun v H1 _ ⟨a, us, r, h, e⟩ => ⟨a, r, by rw [h, e]⟩
end
section
variable {σ : L2.St} {H : Hp} {ta tb te : TE} {D : Ends} {u : TS}
/-- xs.remove(w), w in xs -/
theorem q_rem {l : Addr} {ur : List V} {ws : List W} {h : W} {j : Nat} (hl : H l = some (.lst ur)) (hw : Wds H ws ur) (ha : EvP ta σ H (Is (.ref l))) (he : EvP te σ H (IsW h)) (hj : ws.findIdx? (fun v => v == h) = some j) (k : ∀ H1, Ex H H1 → u D σ (upd H1 l (.lst (ur.eraseIdx j)))) :
    tSeq (tDrop (tBM K "list" rRemW ta (tCons te tNil))) u D σ H := ha H (Ex.refl H) _ fun x H1 e1 ex => by
  subst ex
  exact ⟨Or.inl ⟨rfl, ur, SqL.of (e1 l _ hl)⟩, he H1 e1 _ fun v H2 e2 p => ⟨l, ur, v, ws, h, j, rfl, rfl, e2 l _ (e1 l _ hl), Wds.tx (TX.of (e1.trans e2)) hw, p, hj, k H2 (e1.trans e2)⟩⟩
/-- two new lists, one behind the other -/
theorem ev_cat {PN PM : List V → Hp → Prop} (ha : EvN ta σ H PN) (hb : EvN tb σ H PM) (m : ∀ us H1 H2, Ex H1 H2 → PN us H1 → PN us H2) (l1 : ∀ us H1, PN us H1 → us.length ≤ 40000) (l2 : ∀ us H1, PM us H1 → us.length ≤ 40000) (m2 : ∀ us H1 H2, Ex H1 H2 → PM us H1 → PM us H2 := by intro _ _ _ e q; first | exact Wds.tx (TX.of e) q | exact q) :
    EvN (tOp rCat ta tb) σ H (fun us H2 => ∃ u1 u2, us = u1 ++ u2 ∧ PN u1 H2 ∧ PM u2 H2) := fun H1 e Q q =>
  ha H1 e _ fun p up H2 hp e2 h2 q2 => hb H2 (e.trans e2) _ fun r ur H3 hr e3 h3 q3 => ⟨p, r, up, ur, rfl, rfl, e3 _ _ h2, h3, by
    have a1 := l1 _ _ q2
    have a2 := l2 _ _ q3
    rw [sizeLine_eq]
    omega, fun d hd => q d _ _ (Evl.fresh_back (e2.trans e3) hd) ((e2.trans e3).trans (Ex.new hd)) upd_same ⟨up, ur, rfl, m _ _ _ (e3.trans (Ex.new hd)) q2, m2 _ _ _ (Ex.new hd) q3⟩⟩
/-- a list of one word -/
theorem ev_lst1 {w : W} (h : EvP te σ H (IsW w)) (m : ∀ v H1 H2, Ex H1 H2 → Wd H1 w v → Wd H2 w v) : EvN (tLst (tCons te tNil)) σ H (fun us H2 => Wds H2 [w] us) := fun H1 e Q q =>
  h H1 e _ fun v H2 e2 p => ⟨by show 1 ≤ sizeLine; decide, fun d hd => q d _ _ (Evl.fresh_back e2 hd) (e2.trans (Ex.new hd)) upd_same (.cons (m _ _ _ (Ex.new hd) p) .nil)⟩
/-- a pair -/
theorem ev_tup2 {P1 P2 : PV} (ha : EvP ta σ H P1) (hb : EvP tb σ H P2) (m : ∀ v H1 H2, Ex H1 H2 → P1 v H1 → P1 v H2) (m' : ∀ v H1 H2, Ex H1 H2 → P1 v H1 → P1 v H2) (m2 : ∀ v H1 H2, Ex H1 H2 → P2 v H1 → P2 v H2) :
    EvP (tTup (tCons ta (tCons tb tNil))) σ H (fun v H2 => ∃ a b c, v = .ref a ∧ H2 a = some (.tup [b, c]) ∧ P1 b H2 ∧ P2 c H2) := fun H1 e Q q =>
  ha H1 e _ fun x H2 e2 p => hb H2 (e.trans e2) _ fun y H3 e3 p' => ⟨by show 2 ≤ sizeLine; decide, fun d hd => q _ _ ((e2.trans e3).trans (Ex.new hd)) ⟨d, x, y, rfl, upd_same, m _ _ _ (e3.trans (Ex.new hd)) p, m2 _ _ _ (Ex.new hd) p'⟩⟩
end
/-- a walk by one rule or another -/
theorem pi_or {X : Cx} {tg e : Expr} {w1 w2 : TI} (h1 : PI X tg e w1) (h2 : PI X tg e w2) : PI X tg e (fun σ H R => w1 σ H R ∨ w2 σ H R) := ⟨fun pins s σ H R I h => h.elim (h1.run pins s σ H R I) (h2.run pins s σ H R I)⟩
theorem lc_or1 {w1 w2 : TI} {g : TG} {t : TT} {te : TE} {vs : List Nat} {σ : L2.St} {H : Hp} {PN : List V → Hp → Prop} (h : EvN (tLc w1 g t te vs) σ H PN) : EvN (tLc (fun σ H R => w1 σ H R ∨ w2 σ H R) g t te vs) σ H PN := fun H1 e Q q => Or.inl (h H1 e Q q)
theorem lc_or2 {w1 w2 : TI} {g : TG} {t : TT} {te : TE} {vs : List Nat} {σ : L2.St} {H : Hp} {PN : List V → Hp → Prop} (h : EvN (tLc w2 g t te vs) σ H PN) : EvN (tLc (fun σ H R => w1 σ H R ∨ w2 σ H R) g t te vs) σ H PN := fun H1 e Q q => Or.inr (h H1 e Q q)

def IsRed (S : Red) : PV := fun v H => ∃ a b c, v = .ref a ∧ H a = some (.tup [b, c]) ∧ WT H S.found b ∧ Wd H S.piv c
def spReduced : Sp := fun vs H Q _ => ∃ (rows : List W) (n p : Nat) (x : V), vs = [x, .int ((n : Nat) : Int), .int ((p : Nat) : Int)] ∧ (WL H rows x ∨ WT H rows x) ∧ (∀ r ∈ rows, Ok n p r) ∧ rows.length ≤ 100 ∧ n ≤ 20 ∧ P7 p ∧ Ret (IsRed (redAll rows n p)) H Q
abbrev nReduced : List Str := ["rows", "width", "p", "rest", "found", "pivots", "at", "heads", "head", "row"]
theorem scReduced : FnScope nReduced ["rows", "width", "p"] (defScope sReduced) := ⟨rfl, rfl, rfl, by decide +kernel, rfl, by decide +kernel, by decide +kernel⟩
def RInv (H : Hp) (n p : Nat) (rows : List W) (x : V) (i : Nat) (σ' : L2.St) (H' : Hp) : Prop :=
  Ex H H' ∧ ∃ (lr lf lp : Addr) (ur uf : List V) (z6 z7 z8 : Option V), σ' = [some x, some (.int ((n : Nat) : Int)), some (.int ((p : Nat) : Int)), some (.ref lr), some (.ref lf), some (.ref lp), z6, z7, z8, none] ∧ H lr = none ∧ H lf = none ∧ H lp = none ∧ lr ≠ lf ∧ lr ≠ lp ∧ lf ≠ lp ∧
    H' lr = some (.lst ur) ∧ Wds H' (redAt rows p i).rest ur ∧ H' lf = some (.lst uf) ∧ Wds H' (redAt rows p i).found uf ∧ H' lp = some (.lst (iv (redAt rows p i).piv))
theorem blkRow {nm : Scope} (h : blkC nReduced (defScope sReduced) nm [("row", 9)] = true) : BlkOk nReduced (defScope sReduced) nm [("row", 9)] := blkOk_by h
theorem ok_reduced {f fS fI fC : Addr} {fd fdS fdI fdC : FuncData} (F : Fun K "reduced" "reduced" sReduced f fd) (B : Blt mg)
    (FS : Fun K "scaled" "scaled" sScaled fS fdS) (gS : mg "scaled" = some (.ref fS)) (FI : Fun K "inverse" "inverse" sInverse fI fdI) (gI : mg "inverse" = some (.ref fI)) (FC : Fun K "cleared" "cleared" sCleared fC fdC) (gC : mg "cleared" = some (.ref fC))
    (GC : FnOk P w K mg base CX0 2 fC fdC ["row", "head", "at", "p"] spCleared) : FnOk P w K mg base CX0 3 f fd ["rows", "width", "p"] spReduced := by
  have GS : FnOk P w K mg base CX0 1 fS fdS ["v", "a", "p"] spScaled := ok_scaled FS B
  have GI : FnOk P w K mg base CX0 1 fI fdI ["a", "p"] spInverse := ok_inverse FI B
  have bS : Binds K fdS ["v", "a", "p"] [] := FS.binds fun _ _ _ _ _ _ us hl => match us, hl with | [_, _, _], _ => rfl
  have bI : Binds K fdI ["a", "p"] [] := FI.binds fun _ _ _ _ _ _ us hl => match us, hl with | [_, _], _ => rfl
  have bC : Binds K fdC ["row", "head", "at", "p"] [] := FC.binds fun _ _ _ _ _ _ us hl => match us, hl with | [_, _, _, _], _ => rfl
  refine F.ok scReduced (fun vs H Q E h => ?_) (fun cdv A outer s H vs Q E hr h => ?_)
  · obtain ⟨rows, n, p, x, rfl, _⟩ := h
    rfl
  · obtain ⟨rows, n, p, x, rfl, hx, hok, h100, hn, hp, k⟩ := h
    have hr1 : Room 1 _ := hr.mono (by decide)
    have hu : (A.deeper (PyProof.Rows.envOfC (Str.ofString "reduced") (defScope sReduced) s.heap.objs.size f cdv)).units + 65 < cLine := by have := hr.un; omega
    refine ⟨_, pss_cons (ps_setLc (i := 3) (own := [("row", 9)]) (g := gName 9) (tt := tYes) rfl scReduced.nd rfl rfl (sw_true rfl rfl rfl (by decide +kernel)) (pi_or (pi_list (pv 0)) (pi_tup (pv 0))) (blkRow (by decide +kernel))
          (fun _ _ _ _ _ => pg_name (i := 9) scReduced.nd rfl (Or.inl rfl)) (fun _ _ _ _ _ => pts_nil) (fun _ _ _ _ _ => pe_callTy (r := rTup K) cr_tup (by rfl) B.tuple PyProof.Rows.boot_tuple (pa_cons (pv 9) pa_nil)))
      (pss_cons (ps_set (i := 4) scReduced.nd rfl (Or.inl rfl) (pe_lst pa_nil))
      (pss_cons (ps_set (i := 5) scReduced.nd rfl (Or.inl rfl) (pe_lst pa_nil))
      (pss_cons (ps_for PassesOwn.never rfl (pi_range1 (by rfl) B.range (pa_cons (pv 1) pa_nil)) (pg_name (i := 6) scReduced.nd rfl (Or.inr rfl))
        (pss_cons (ps_setLc (i := 7) (own := [("row", 9)]) (g := gName 9) (tt := tTest (tOp rNe (tOp (rIxT K) (tVar 9) (tVar 6)) (tC (.int 0)))) rfl scReduced.nd rfl rfl (sw_true rfl rfl rfl (by decide +kernel)) (pi_list (pv 3)) (blkRow (by decide +kernel))
          (fun _ _ _ _ _ => pg_name (i := 9) scReduced.nd rfl (Or.inl rfl)) (fun _ _ _ _ _ => pts_one (pt_cmpR op_ne (pe_ix (r := rIxT K) ix_tup (pv 9) (pv 6) (fun _ _ => rfl)) pe_int (nomark _))) (fun _ _ _ _ _ => pv 9))
        (pss_one (ps_if (pt_cmpR op_gt (pe_callB cr_len (by rfl) B.len PySem.boot_len (pa_cons (pv 7) pa_nil)) pe_int (nomark _))
          (pss_cons (ps_set (i := 8) scReduced.nd rfl (Or.inr rfl) (pe_call GS hr1 (by rfl) gS FS.kp bS .nil pass0 (pa_cons (pe_ix ix_list (pv 7) pe_int (fun _ _ => rfl)) (pa_cons (pe_call GI hr1 (by rfl) gI FI.kp bI .nil pass0 (pa_cons (pe_ix ix_tup (pe_ix ix_list (pv 7) pe_int (fun _ _ => rfl)) (pv 6) (fun _ _ => rfl)) (pa_cons (pv 2) pa_nil))) (pa_cons (pv 2) pa_nil)))))
          (pss_cons (ps_expr (pe_bm PySem.F.plainAttrs_list PySem.F.slot_list_remove PySem.F.type_list_remove (mt_remW hu) (pv 3) (pa_cons (pe_ix ix_list (pv 7) pe_int (fun _ _ => rfl)) pa_nil)))
          (pss_cons (ps_setLc (i := 3) (own := [("row", 9)]) (g := gName 9) (tt := tYes) rfl scReduced.nd rfl rfl (sw_true rfl rfl rfl (by decide +kernel)) (pi_list (pv 3)) (blkRow (by decide +kernel))
            (fun _ _ _ _ _ => pg_name (i := 9) scReduced.nd rfl (Or.inl rfl)) (fun _ _ _ _ _ => pts_nil) (fun _ _ _ _ _ => pe_call GC hr (by rfl) gC FC.kp bC .nil pass0 (pa_cons (pv 9) (pa_cons (pv 8) (pa_cons (pv 6) (pa_cons (pv 2) pa_nil))))))
          (pss_cons (ps_set (i := 4) scReduced.nd rfl (Or.inl rfl) (pe_op op_cat (pe_lc (own := [("row", 9)]) (g := gName 9) (tt := tYes) rfl scReduced.nd (pi_list (pv 4)) (blkRow (by decide +kernel))
            (fun _ _ _ _ _ => pg_name (i := 9) scReduced.nd rfl (Or.inl rfl)) (fun _ _ _ _ _ => pts_nil) (fun _ _ _ _ _ => pe_call GC hr (by rfl) gC FC.kp bC .nil pass0 (pa_cons (pv 9) (pa_cons (pv 8) (pa_cons (pv 6) (pa_cons (pv 2) pa_nil)))))) (pe_lst (pa_cons (pv 8) pa_nil))))
          (pss_one (ps_expr (pe_bm PySem.F.plainAttrs_list PySem.F.slot_list_append PySem.F.type_list_append mt_append (pv 5) (pa_cons (pv 6) pa_nil))))))))
          pss_nil))))
      (pss_one (ps_ret (pe_tup (pa_cons (pe_callTy cr_tup (by rfl) B.tuple PyProof.Rows.boot_tuple (pa_cons (pv 4) pa_nil)) (pa_cons (pe_callTy cr_tup (by rfl) B.tuple PyProof.Rows.boot_tuple (pa_cons (pv 5) pa_nil)) pa_nil)))))))), ?_⟩
    have hu10 : p ≤ 10 := hp.le
    have hp0 : 0 < p := hp.pos
    refine q_asgN (PN := fun us H2 => Wds H2 rows us) ?_ fun lr ur H1 nr x1 hlr hwr => ?_
    · have body : ∀ {H0 H1 H2 : Hp} {r : W} {y : V}, Ex H1 H2 → Wd H1 r y → EvP (tCB (rTup K) (tCons (tVar 9) tNil)) ((wipe (start nReduced [x, V.int ((n : Nat) : Int), V.int ((p : Nat) : Int)]) [9]).set 9 (some y)) H2 (fun v H3 => RW H3 r v) := fun e2 q => ev_tupSame (ev_w rfl (q.ex e2))
      rcases hx with hx | hx
      · refine lc_or1 (EvN.imp (lc_l rows RW (R := RW) (fun _ => true) (fun r => r) rw_mono ?_ (by omega) (fun _ => rfl) (fun _ _ _ _ _ _ _ _ => eb_yes) (fun r y H1 e hr hy _ H2 e2 => body (H0 := H) e2 hy)) fun us H1 _ q => ?_)
        · exact ev_var rfl fun H1 e => WL.ex e hx
        · rw [filt_true, List.map_id'] at q
          exact q
      · refine lc_or2 (EvN.imp (lc_t rows RW (R := RW) (fun _ => true) (fun r => r) rw_mono ?_ (by omega) (fun _ => rfl) (fun _ _ _ _ _ _ _ _ => eb_yes) (fun r y H1 e hr hy _ H2 e2 => body (H0 := H) e2 hy)) fun us H1 _ q => ?_)
        · exact ev_var rfl fun H1 e => WT.tx (TX.of e) hx
        · rw [filt_true, List.map_id'] at q
          exact q
    refine q_asgN (PN := fun us _ => us = []) ev_nilL fun lf uf H2 nf x2 hlf hf0 => ?_
    refine q_asgN (PN := fun us _ => us = []) ev_nilL fun lp up H3 np x3 hlp hp0' => ?_
    subst hf0 hp0'
    have nf0 : H lf = none := Evl.fresh_back x1 nf
    have np0 : H lp = none := Evl.fresh_back (x1.trans x2) np
    refine q_forR (n := n) (ea_n (ev_v rfl)) (by omega) (RInv H n p rows x) (fun H4 x4 => ⟨((x1.trans x2).trans x3).trans x4, lr, lf, lp, ur, [], none, none, none, rfl, nr, nf0, np0, ?_, ?_, ?_, ?_, ?_, ?_, .nil, ?_⟩) ?_ ?_
    · exact ne_of_none hlr nf
    · exact ne_of_none (x2 _ _ hlr) np
    · exact ne_of_none hlf np
    · exact x4 _ _ (x3 _ _ (x2 _ _ hlr))
    · exact Wds.tx (TX.of ((x2.trans x3).trans x4)) hwr
    · exact x4 _ _ (x3 _ _ hlf)
    · exact x4 _ _ hlp
    · -- a turn
      rintro i σ' H' hi ⟨e, lr, lf, lp, ur, uf, z6, z7, z8, rfl, n1, n2, n3, d1, d2, d3, hr', wr, hf', wf, hp'⟩
      have O := redAt_ok hok hp0 i (by omega)
      have sm := redAt_small (rows := rows) (p := p) i
      generalize hS : redAt rows p i = S at O sm wr wf hp'
      refine q_asgN (PN := fun us H2 => Wds H2 (S.rest.filter fun r => r.getD i 0 != 0) us) ?_ fun lh uh H2 nh x2 hlh whs => ?_
      · refine EvN.imp (lc_l S.rest RW (R := RW) (fun r => r.getD i 0 != 0) (fun r => r) rw_mono ?_ (by omega) (fun _ => rfl) (fun r y H1 e hr hy H2 e2 => ?_) (fun r y H1 e hr hy _ H2 e2 => ev_w rfl (hy.ex e2))) fun us H1 _ q => ?_
        · exact ev_var rfl fun H1 e => ⟨lr, ur, rfl, e _ _ hr', Wds.tx (TX.of e) wr⟩
        · refine eb_is (eb_T (ev_ne (x := .int ((r.getD i 0 : Nat) : Int)) (y := .int 0) (ev_wix (ev_w rfl (hy.ex e2)) (ev_v rfl) (by rw [(O.rest r hr).1]; exact hi)) ev_c rfl)) ?_
          by_cases h0 : r.getD i 0 = 0
          · rw [h0]
            rfl
          · rw [decide_eq_false (fun z => h0 (by injection z with z; omega))]
            exact (show true = _ from (bne_iff_ne.mpr h0).symm)
        · rw [List.map_id'] at q
          exact q
      have hr2 := x2 _ _ hr'
      have hf2 := x2 _ _ hf'
      have hp2 := x2 _ _ hp'
      have evH : ∀ {H5 : Hp} {z : Option V} {hs : List W}, S.rest.filter (fun r => r.getD i 0 != 0) = hs → Ex H2 H5 → EvP (tVar 7) [some x, some (.int ((n : Nat) : Int)), some (.int ((p : Nat) : Int)), some (.ref lr), some (.ref lf), some (.ref lp), some (.int ((i : Nat) : Int)), some (.ref lh), z, none] H5 (IsWL hs) := fun eh e5 => ev_var rfl fun H6 e6 => ⟨lh, uh, rfl, (e5.trans e6) _ _ hlh, by rw [← eh]; exact Wds.tx (TX.of (e5.trans e6)) whs⟩
      refine s_if (b := decide (0 < (S.rest.filter fun r => r.getD i 0 != 0).length)) (eb_is (eb_T ((ev_i2' (i := (((S.rest.filter fun r => r.getD i 0 != 0).length : Nat) : Int)) (j := 0) (ev_lenWL (evH rfl (Ex.refl _))) ev_c).imp fun u H3 _ q => q)) ?_) (fun hb H3 x3 => ?_) (fun hb H3 x3 => ?_)
      · by_cases h0 : 0 < (S.rest.filter fun r => r.getD i 0 != 0).length
        · rw [decide_eq_true h0, decide_eq_true (by omega)]
        · rw [decide_eq_false h0, decide_eq_false (by omega)]
      · cases hfil : S.rest.filter (fun r => r.getD i 0 != 0) with
        | nil => rw [hfil] at hb; exact absurd hb (by decide)
        | cons h t =>
          obtain ⟨hin, hne⟩ := head_in hfil
          have oh := O.rest h hin
          have hlt := oh.get hi
          have hinv : HasInv (h.getD i 0) p := hp.inv (by omega) hlt
          have il := inverseW_lt (a := h.getD i 0) hp0
          have ohd : Ok n p (headOf p i h) := oh.scaled _ hp0
          have hl1 : i < h.length := by rw [oh.1]; exact hi
          refine q_asg (P := IsW (headOf p i h)) (ev_scaled (a := ((inverseW (h.getD i 0) p : Nat) : Int)) (ev_lixW (i := 0) (evH hfil x3) ev_c rfl) (ev_inverse (ev_wix (ev_lixW (i := 0) (evH hfil x3) ev_c rfl) (ev_v rfl) hl1) (ev_v rfl) hinv hu10) (ev_v rfl) (by rw [oh.1]; omega) (fun m hm => Nat.lt_of_lt_of_le (oh.2 m hm) (by omega)) hp0 ?_) fun vh H4 x4 hvh => ?_
          · rw [Int.emod_eq_of_lt (by omega) (by omega)]
          obtain ⟨j, hj, hje⟩ := erase_at hin
          refine q_rem (x4 _ _ (x3 _ _ hr2)) (Wds.tx (TX.of ((x2.trans x3).trans x4)) wr) (ev_v rfl) (ev_lixW (i := 0) (evH hfil (x3.trans x4)) ev_c rfl) hj fun H5 x5 => ?_
          have h5r := x5 _ _ (x4 _ _ (x3 _ _ hr2))
          have tx5 : TX H5 (upd H5 lr (.lst (ur.eraseIdx j))) := TX.updL h5r
          have e5 : Ex H (upd H5 lr (.lst (ur.eraseIdx j))) := Ex.mut ((((e.trans x2).trans x3).trans x4).trans x5) n1
          have tx' : TX H' (upd H5 lr (.lst (ur.eraseIdx j))) := (TX.of (((x2.trans x3).trans x4).trans x5)).trans tx5
          have hf5 : upd H5 lr (.lst (ur.eraseIdx j)) lf = some (.lst uf) := by rw [upd_ne (Ne.symm d1)]; exact x5 _ _ (x4 _ _ (x3 _ _ hf2))
          have hp5 : upd H5 lr (.lst (ur.eraseIdx j)) lp = some (.lst (iv S.piv)) := by rw [upd_ne (Ne.symm d2)]; exact x5 _ _ (x4 _ _ (x3 _ _ hp2))
          have wr5 : Wds (upd H5 lr (.lst (ur.eraseIdx j))) (S.rest.erase h) (ur.eraseIdx j) := by rw [← hje]; exact pair_erase j (Wds.tx tx' wr)
          have wf5 : Wds (upd H5 lr (.lst (ur.eraseIdx j))) S.found uf := Wds.tx tx' wf
          have vh5 : Wd (upd H5 lr (.lst (ur.eraseIdx j))) (headOf p i h) vh := (hvh.ex x5).tx tx5
          have hr5 : upd H5 lr (.lst (ur.eraseIdx j)) lr = some (.lst (ur.eraseIdx j)) := upd_same
          generalize upd H5 lr (.lst (ur.eraseIdx j)) = H6 at e5 hf5 hp5 wr5 wf5 vh5 hr5
          refine q_asgN (PN := fun us H2 => Wds H2 ((S.rest.erase h).map fun r => clearedW r (headOf p i h) i p) us) ?_ fun lr2 ur2 H7 nr7 x7 hr7 wr7 => ?_
          · refine EvN.imp (lc_l (S.rest.erase h) RW (R := RW) (fun _ => true) (fun r => clearedW r (headOf p i h) i p) rw_mono (ev_var rfl fun H1 e => ⟨lr, _, rfl, e _ _ hr5, Wds.tx (TX.of e) wr5⟩) ?_ (fun _ => rfl) (fun _ _ _ _ _ _ _ _ => eb_yes) (fun r y H1 e hm hy _ H2 e2 => ?_)) fun us H1 _ q => ?_
            · have := List.length_erase_le (a := h) (l := S.rest)
              omega
            · exact ev_cleared (n := n) (ev_w rfl (hy.ex e2)) (ev_w rfl (vh5.ex (e.trans e2))) (ev_v rfl) (ev_v rfl) (O.rest r (List.mem_of_mem_erase hm)) ohd hi hn hp0 hu10
            · rw [filt_true] at q
              exact q
          refine q_asgN (PN := fun us H2 => Wds H2 ((S.found.map fun r => clearedW r (headOf p i h) i p) ++ [headOf p i h]) us) ?_ fun lf2 uf2 H8 nf8 x8 hf8 wf8 => ?_
          · refine EvN.imp (ev_cat (PN := fun us H2 => Wds H2 (S.found.map fun r => clearedW r (headOf p i h) i p) us) (PM := fun us H2 => Wds H2 [headOf p i h] us) ?_ (ev_lst1 (ev_w rfl (vh5.ex x7)) fun _ _ _ e q => Wd.ex e q) (fun _ _ _ e q => Wds.tx (TX.of e) q) (fun us H1 q => ?_) (fun us H1 q => ?_)) fun us H1 _ ⟨u1, u2, eu, q1, q2⟩ => ?_
            · refine EvN.imp (lc_l S.found RW (R := RW) (fun _ => true) (fun r => clearedW r (headOf p i h) i p) rw_mono (ev_var rfl fun H1 e => ⟨lf, _, rfl, e _ _ (x7 _ _ hf5), Wds.tx (TX.of (x7.trans e)) wf5⟩) ?_ (fun _ => rfl) (fun _ _ _ _ _ _ _ _ => eb_yes) (fun r y H1 e hm hy _ H2 e2 => ?_)) fun us H1 _ q => ?_
              · omega
              · exact ev_cleared (n := n) (ev_w rfl (hy.ex e2)) (ev_w rfl (vh5.ex ((x7.trans e).trans e2))) (ev_v rfl) (ev_v rfl) (O.found r hm) ohd hi hn hp0 hu10
              · rw [filt_true] at q
                exact q
            · rw [← pair_len q, List.length_map]
              omega
            · rw [← pair_len q]
              show 1 ≤ 40000
              omega
            · rw [eu]
              exact pair_app q1 q2
          have hp8 := x8 _ _ (x7 _ _ hp5)
          refine s_app hp8 (ev_v rfl) (ev_v rfl) ?_ fun v H9 x9 ev => ?_
          · rw [iv_len, O.len]
            omega
          · subst ev
            have hp9 := x9 _ _ hp8
            have tx9 : TX H9 (upd H9 lp (.lst (iv S.piv ++ [.int ((i : Nat) : Int)]))) := TX.updL hp9
            have ne1 : lr2 ≠ lp := fun z => by rw [z, hp5] at nr7; cases nr7
            have ne2 : lf2 ≠ lp := fun z => by rw [z, x7 _ _ hp5] at nf8; cases nf8
            have ne3 : lr2 ≠ lf2 := fun z => by rw [← z, hr7] at nf8; cases nf8
            refine ⟨Ex.mut (((e5.trans x7).trans x8).trans x9) n3, lr2, lf2, lp, ur2, uf2, _, _, _, rfl, Evl.fresh_back e5 nr7, Evl.fresh_back (e5.trans x7) nf8, n3, ne3, ne1, ne2, ?_, ?_, ?_, ?_, ?_⟩
            · rw [upd_ne ne1]
              exact x9 _ _ (x8 _ _ hr7)
            · rw [redAt_succ, hS, redStep_cons hfil]
              exact Wds.tx ((TX.of (x8.trans x9)).trans tx9) wr7
            · rw [upd_ne ne2]
              exact x9 _ _ hf8
            · rw [redAt_succ, hS, redStep_cons hfil]
              exact Wds.tx ((TX.of x9).trans tx9) wf8
            · rw [redAt_succ, hS, redStep_cons hfil, upd_same]
              show some (HO.lst (iv S.piv ++ [_])) = some (HO.lst (iv (S.piv ++ [i])))
              unfold iv
              rw [List.map_append]
              rfl
      · have hnil : S.rest.filter (fun r => r.getD i 0 != 0) = [] := by
          have h0 := of_decide_eq_false hb
          exact List.eq_nil_of_length_eq_zero (by omega)
        have es : redAt rows p (i + 1) = S := by rw [redAt_succ, hS, redStep_nil hnil]
        refine ⟨(e.trans x2).trans x3, lr, lf, lp, ur, uf, _, _, _, rfl, n1, n2, n3, d1, d2, d3, x3 _ _ hr2, ?_, x3 _ _ hf2, ?_, ?_⟩
        · rw [es]
          exact Wds.tx (TX.of (x2.trans x3)) wr
        · rw [es]
          exact Wds.tx (TX.of (x2.trans x3)) wf
        · rw [es]
          exact x3 _ _ hp2
    · -- the end
      rintro σ' H' ⟨e, lr, lf, lp, ur, uf, z6, z7, z8, rfl, n1, n2, n3, d1, d2, d3, hr', wr, hf', wf, hp'⟩
      have eA : redAll rows n p = redAt rows p n := rfl
      refine s_ret (P := IsRed (redAll rows n p)) ?_ fun v H1 x1 q => k v H1 (e.trans x1) q
      rw [eA]
      have h1 : EvP (tCB (rTup K) (tCons (tVar 4) tNil)) [some x, some (.int ((n : Nat) : Int)), some (.int ((p : Nat) : Int)), some (.ref lr), some (.ref lf), some (.ref lp), z6, z7, z8, none] H' (IsWT (redAt rows p n).found) := ev_tupLW (ev_var rfl fun H1 e1 => ⟨lf, uf, rfl, e1 _ _ hf', Wds.tx (TX.of e1) wf⟩)
      have h2 : EvP (tCB (rTup K) (tCons (tVar 5) tNil)) [some x, some (.int ((n : Nat) : Int)), some (.int ((p : Nat) : Int)), some (.ref lr), some (.ref lf), some (.ref lp), z6, z7, z8, none] H' (IsW (redAt rows p n).piv) := ev_tupLI (ev_var rfl fun H1 e1 => ⟨lp, rfl, e1 _ _ hp'⟩)
      exact (ev_tup2 h1 h2 (fun _ _ _ e q => WT.tx (TX.of e) q) (fun _ _ _ e q => WT.tx (TX.of e) q) (fun _ _ _ e q => Wd.ex e q)).imp fun v H1 _ q => q
end
end K21

set_option maxRecDepth 100000
set_option maxHeartbeats 8000000
/-! K21D4: kernel. -/
namespace K21
open PySem L2
open Evl (Ex)
abbrev sKernel : Stmt := top 16
/-! ### the mathematics -/
def freeAt (t : List W) (piv : List Nat) (n p f k : Nat) : W := (List.range k).foldl (fun w k => w.set (piv.getD k 0) ((p - (t.getD k []).getD f 0) % p)) ((List.replicate n 0).set f 1)
theorem freeAt_succ (t : List W) (piv : List Nat) (n p f k : Nat) : freeAt t piv n p f (k + 1) = (freeAt t piv n p f k).set (piv.getD k 0) ((p - (t.getD k []).getD f 0) % p) := by
  unfold freeAt
  rw [List.range_succ, List.foldl_append]
  rfl
theorem freeAt_ok {t : List W} {piv : List Nat} {n p f : Nat} (hp : 2 ≤ p) : ∀ k, Ok n p (freeAt t piv n p f k)
  | 0 => by
    refine ⟨by simp [freeAt], fun x hx => ?_⟩
    rcases List.mem_or_eq_of_mem_set hx with h | h
    · rw [(List.mem_replicate.mp h).2]; omega
    · omega
  | k + 1 => by
    rw [freeAt_succ]
    have ih := freeAt_ok (t := t) (piv := piv) (n := n) (f := f) hp k
    refine ⟨by rw [List.length_set]; exact ih.1, fun x hx => ?_⟩
    rcases List.mem_or_eq_of_mem_set hx with h | h
    · exact ih.2 x h
    · rw [h]
      exact Nat.mod_lt _ (by omega)
/-- the words for the free places below i -/
def kerAt (S : Red) (n p i : Nat) : List W := ((List.range i).filter fun f => !S.piv.contains f).map fun f => freeWord S.found S.piv n p f
theorem kerAt_yes {S : Red} {n p i : Nat} (h : S.piv.contains i = false) : kerAt S n p (i + 1) = kerAt S n p i ++ [freeWord S.found S.piv n p i] := by
  unfold kerAt
  rw [List.range_succ, List.filter_append, List.map_append, List.filter_cons, if_pos (by rw [h]; rfl)]
  rfl
theorem kerAt_no {S : Red} {n p i : Nat} (h : S.piv.contains i = true) : kerAt S n p (i + 1) = kerAt S n p i := by
  unfold kerAt
  rw [List.range_succ, List.filter_append, List.map_append, List.filter_cons, if_neg (by rw [h]; decide)]
  simp
theorem kerAt_len (S : Red) (n p i : Nat) : (kerAt S n p i).length ≤ i := by
  unfold kerAt
  rw [List.length_map]
  exact Nat.le_trans (List.length_filter_le _ _) (by rw [List.length_range]; exact Nat.le_refl _)
theorem kernelW_ok {rows : List W} {n p : Nat} (hp : 2 ≤ p) : ∀ r ∈ kernelW rows n p, Ok n p r := by
  intro r hr
  unfold kernelW at hr
  obtain ⟨f, _, rfl⟩ := List.mem_map.mp hr
  exact freeAt_ok hp _
theorem inV_iv (i : Nat) : ∀ l : List Nat, inV (.int ((i : Nat) : Int)) (iv l) = l.contains i
  | [] => rfl
  | x :: r => by
    show (eqV (.int ((x : Nat) : Int)) (.int ((i : Nat) : Int)) || inV (.int ((i : Nat) : Int)) (iv r)) = _
    rw [inV_iv i r, List.contains_cons]
    show ((((x : Nat) : Int) == ((i : Nat) : Int)) || _) = _
    by_cases h : x = i
    · subst h; simp
    · rw [beq_eq_false_iff_ne.mpr (fun z => h (by omega)), beq_eq_false_iff_ne.mpr (fun z => h z.symm)]
theorem flat_iv : ∀ l : List Nat, (iv l).all flatV = true
  | [] => rfl
  | x :: r => by
    show (flatV (.int ((x : Nat) : Int)) && (iv r).all flatV) = true
    rw [flat_iv r]
    rfl
theorem iv_set (w : W) (i n : Nat) : (iv w).set i (.int ((n : Nat) : Int)) = iv (w.set i n) := by
  unfold iv
  rw [List.map_set]
theorem iv_zero (n : Nat) : (List.replicate n ([V.int 0] : List V)).flatten = iv (List.replicate n 0) := by
  induction n with
  | zero => rfl
  | succ n ih =>
    rw [List.replicate_succ, List.flatten_cons, ih]
    rfl
section
variable {P : Program} {w : World} {K : PySem.W.Frag} {mg : Str → Option Value} {base : Heap}
section
variable {σ : L2.St} {H : Hp} {ta tb te tl ti : TE} {D : Ends} {u : TS}
/-- [0] * n -/
theorem ev_zeros {n : Nat} (h : EvP te σ H (IsN n)) (hn : n ≤ 1000) : EvN (tOp rRep (tLst (tCons (tC (.int 0)) tNil)) te) σ H (fun us _ => us = iv (List.replicate n 0)) := fun H1 e Q q =>
  ⟨by show 1 ≤ sizeLine; decide, fun l hl => h (upd H1 l (.lst [.int 0])) (e.trans (Ex.new hl)) _ fun v H2 e2 p => ⟨l, ((n : Nat) : Int), [.int 0], rfl, p, e2 _ _ upd_same, by omega, by omega, by
    show 1 * ((n : Nat) : Int).toNat ≤ sizeLine
    rw [sizeLine_eq]
    omega, fun d hd => by
      have en : ((n : Nat) : Int).toNat = n := by omega
      rw [en]
      exact q d _ _ (Evl.fresh_back ((Ex.new hl).trans e2) hd) (((Ex.new hl).trans e2).trans (Ex.new hd)) upd_same (iv_zero n)⟩⟩
theorem ixN_nat {n j : Nat} (hj : j < n) : ixN n ((j : Nat) : Int) = some j := by
  unfold ixN
  rw [if_pos (by omega), if_pos (by omega)]
  simp
/-- word[i] = e, a list of numbers -/
theorem q_setI {l : Addr} {w : W} {i n : Nat} (hl : H l = some (.lst (iv w))) (h : EvP te σ H (IsN n)) (ho : EvP ta σ H (Is (.ref l))) (hi : EvP tb σ H (IsN i)) (hj : i < w.length) (k : ∀ H1, Ex H H1 → u D σ (upd H1 l (.lst (iv (w.set i n))))) :
    tSeq (tAsg te (gSub ta tb rSetL)) u D σ H := h H (Ex.refl H) _ fun v H1 e1 p => ho H1 e1 _ fun x H2 e2 ex => hi H2 (e1.trans e2) _ fun y H3 e3 p' => by
  subst ex p p'
  exact ⟨l, iv w, _, i, rfl, rfl, ((e1.trans e2).trans e3) l _ hl, ixN_nat (by rw [iv_len]; exact hj), by
    rw [iv_set]
    exact k H3 ((e1.trans e2).trans e3)⟩
theorem s_setI {l : Addr} {w : W} {i n : Nat} (hl : H l = some (.lst (iv w))) (h : EvP te σ H (IsN n)) (ho : EvP ta σ H (Is (.ref l))) (hi : EvP tb σ H (IsN i)) (hj : i < w.length) (k : ∀ H1, Ex H H1 → D.nx σ (upd H1 l (.lst (iv (w.set i n))))) :
    tAsg te (gSub ta tb rSetL) D σ H := q_setI (u := fun D σ H => D.nx σ H) (D := D) hl h ho hi hj k
/-- not in a tuple of numbers -/
theorem eb_notin {i : Nat} {l : List Nat} (h : EvP ta σ H (IsN i)) (ht : EvP tb σ H (IsW l)) : EvB (tTest (tOp (rIn K true) ta tb)) σ H (!l.contains i) := fun H1 e Q q =>
  h H1 e _ fun v H2 e2 p => ht H2 (e.trans e2) _ fun y H3 e3 ⟨a, r, ha⟩ => by
    subst p
    exact ⟨a, iv l, r, .inr (SqT.of ha), rfl, flat_iv l, _, rfl, by
      show Q (if true = true then !inV _ (iv l) else _) H3
      rw [if_pos rfl, inV_iv]
      exact q H3 (e2.trans e3)⟩
end
/-- a pair, its parts into two slots -/
theorem q_asg2 {σ : L2.St} {H : Hp} {te : TE} {D : Ends} {u : TS} {i j : Nat} {P2 : V → V → Hp → Prop} (h : EvP te σ H (fun v H2 => ∃ a b c, v = .ref a ∧ H2 a = some (.tup [b, c]) ∧ P2 b c H2)) (k : ∀ b c H1, Ex H H1 → P2 b c H1 → u D ((σ.set i (some b)).set j (some c)) H1) :
    tSeq (tAsg te (gTup K 2 (gCons (gName i) (gCons (gName j) gNil)))) u D σ H := h H (Ex.refl H) _ fun v H1 e ⟨a, b, c, r, ha, p⟩ =>
  ⟨a, [b, c], r, SqT.of ha, rfl, b, [c], rfl, c, [], rfl, rfl, k b c H1 e p⟩
def spKernel : Sp := fun vs H Q _ => ∃ (rows : List W) (n p : Nat) (x : V), vs = [x, .int ((n : Nat) : Int), .int ((p : Nat) : Int)] ∧ (WL H rows x ∨ WT H rows x) ∧ (∀ r ∈ rows, Ok n p r) ∧ rows.length ≤ 100 ∧ n ≤ 20 ∧ P7 p ∧ Ret (IsWT (kernelW rows n p)) H Q
abbrev nKernel : List Str := ["rows", "width", "p", "table", "pivots", "found", "free", "word", "k"]
theorem scKernel : FnScope nKernel ["rows", "width", "p"] (defScope sKernel) := ⟨rfl, rfl, rfl, by decide +kernel, rfl, by decide +kernel, by decide +kernel⟩
def KInv (H : Hp) (n p : Nat) (S : Red) (x b c : V) (i : Nat) (σ' : L2.St) (H' : Hp) : Prop :=
  Ex H H' ∧ ∃ (lf : Addr) (uf : List V) (z6 z7 z8 : Option V), σ' = [some x, some (.int ((n : Nat) : Int)), some (.int ((p : Nat) : Int)), some b, some c, some (.ref lf), z6, z7, z8] ∧ H lf = none ∧ H' lf = some (.lst uf) ∧ Wds H' (kerAt S n p i) uf
def FInv (H : Hp) (n p : Nat) (S : Red) (x b c : V) (lf : Addr) (uf : List V) (lw : Addr) (i k : Nat) (σ' : L2.St) (H' : Hp) : Prop :=
  Ex H H' ∧ ∃ z8 : Option V, σ' = [some x, some (.int ((n : Nat) : Int)), some (.int ((p : Nat) : Int)), some b, some c, some (.ref lf), some (.int ((i : Nat) : Int)), some (.ref lw), z8] ∧ H' lf = some (.lst uf) ∧ Wds H' (kerAt S n p i) uf ∧ H' lw = some (.lst (iv (freeAt S.found S.piv n p i k)))
theorem ok_kernel {f fR : Addr} {fd fdR : FuncData} (F : Fun K "kernel" "kernel" sKernel f fd) (B : Blt mg) (FR : Fun K "reduced" "reduced" sReduced fR fdR) (gR : mg "reduced" = some (.ref fR)) (GR : FnOk P w K mg base CX0 3 fR fdR ["rows", "width", "p"] spReduced) :
    FnOk P w K mg base CX0 4 f fd ["rows", "width", "p"] spKernel := by
  have bR : Binds K fdR ["rows", "width", "p"] [] := FR.binds fun _ _ _ _ _ _ us hl => match us, hl with | [_, _, _], _ => rfl
  refine F.ok scKernel (fun vs H Q E h => ?_) (fun cdv A outer s H vs Q E hr h => ?_)
  · obtain ⟨rows, n, p, x, rfl, _⟩ := h
    rfl
  · obtain ⟨rows, n, p, x, rfl, hx, hok, h100, hn, hp, k⟩ := h
    refine ⟨_, pss_cons (ps_asg (pe_call GR hr (by rfl) gR FR.kp bR .nil pass0 (pa_cons (pv 0) (pa_cons (pv 1) (pa_cons (pv 2) pa_nil)))) (pg_tup rfl (pgs_cons (pg_name (i := 3) scKernel.nd rfl (Or.inl rfl)) (pgs_cons (pg_name (i := 4) scKernel.nd rfl (Or.inl rfl)) pgs_nil))))
      (pss_cons (ps_set (i := 5) scKernel.nd rfl (Or.inl rfl) (pe_lst pa_nil))
      (pss_cons (ps_for PassesOwn.never rfl (pi_range1 (by rfl) B.range (pa_cons (pv 1) pa_nil)) (pg_name (i := 6) scKernel.nd rfl (Or.inl rfl))
        (pss_one (ps_if (pt_cmpR op_notIn_seq (pv 6) (pv 4) (by rfl))
          (pss_cons (ps_set (i := 7) scKernel.nd rfl (Or.inl rfl) (pe_op op_rep (pe_lst (pa_cons pe_int pa_nil)) (pv 1)))
          (pss_cons (ps_asg pe_int (pg_sub (pv 7) (pv 6) set_list))
          (pss_cons (ps_for PassesOwn.never rfl (pi_range1 (by rfl) B.range (pa_cons (pe_callB cr_len (by rfl) B.len PySem.boot_len (pa_cons (pv 4) pa_nil)) pa_nil)) (pg_name (i := 8) scKernel.nd rfl (Or.inl rfl))
            (pss_one (ps_asg (pe_op op_mod (pe_un un_neg (pe_ix ix_tup (pe_ix ix_tup (pv 3) (pv 8) (fun _ _ => rfl)) (pv 6) (fun _ _ => rfl))) (pv 2)) (pg_sub (pv 7) (pe_ix ix_tup (pv 4) (pv 8) (fun _ _ => rfl)) set_list))))
          (pss_one (ps_expr (pe_bm PySem.F.plainAttrs_list PySem.F.slot_list_append PySem.F.type_list_append mt_append (pv 5) (pa_cons (pe_callTy cr_tup (by rfl) B.tuple PyProof.Rows.boot_tuple (pa_cons (pv 7) pa_nil)) pa_nil)))))))
          pss_nil)))
      (pss_one (ps_ret (pe_callTy cr_tup (by rfl) B.tuple PyProof.Rows.boot_tuple (pa_cons (pv 5) pa_nil)))))), ?_⟩
    have hp0 := hp.pos
    have O := redAt_ok hok hp0 n (Nat.le_refl n)
    have sm := redAt_small (rows := rows) (p := p) n
    have eK : kernelW rows n p = kerAt (redAt rows p n) n p n := rfl
    have eA : redAll rows n p = redAt rows p n := rfl
    rw [eK] at k
    rw [← eA] at O sm k
    generalize hS : redAll rows n p = S at O sm k
    refine q_asg2 (P2 := fun b c H1 => WT H1 S.found b ∧ Wd H1 S.piv c) ?_ fun b c H1 x1 ⟨hb, hc⟩ => ?_
    · have hPx : ∀ H1, Ex H H1 → (WL H1 rows x ∨ WT H1 rows x) := fun H1 e => hx.elim (fun z => .inl (z.ex e)) fun z => .inr (z.tx (TX.of e))
      refine (ev_call (P := IsRed S) (ea_3 (P1 := fun v H1 => v = x) (P2 := IsN n) (P3 := IsN p) (ev_v rfl) (ev_v rfl) (ev_v rfl) (fun _ _ _ _ q => q) (fun _ _ _ _ q => q)) fun vs H1 e ⟨v1, v2, v3, ev, q1, q2, q3⟩ Q q => ⟨rows, n, p, x, by rw [ev, q1, q2, q3]; rfl, hPx H1 e, hok, h100, hn, hp, ?_⟩).imp fun v H1 _ q => q
      rw [hS]
      exact q
    refine q_asgN (PN := fun us _ => us = []) ev_nilL fun lf uf H2 nf x2 hlf hf0 => ?_
    subst hf0
    refine q_forR (n := n) (ea_n (ev_v rfl)) (by omega) (KInv H1 n p S x b c) (fun H3 x3 => ⟨x2.trans x3, lf, [], none, none, none, rfl, nf, x3 _ _ hlf, .nil⟩) ?_ ?_
    · rintro i σ' H' hi ⟨e, lf, uf, z6, z7, z8, rfl, n1, hf, wf⟩
      refine s_if (b := !S.piv.contains i) (eb_notin (ev_v rfl) (ev_w rfl (hc.ex e))) (fun hb' H3 x3 => ?_) (fun hb' H3 x3 => ?_)
      · have hni : S.piv.contains i = false := by
          cases q : S.piv.contains i with
          | false => rfl
          | true => rw [q] at hb'; cases hb'
        refine q_asgN (PN := fun us _ => us = iv (List.replicate n 0)) (ev_zeros (ev_v rfl) (by omega)) fun lw uw H4 nw x4 hlw hw0 => ?_
        subst hw0
        have e4 : Ex H1 H4 := (e.trans x3).trans x4
        have nlw : H1 lw = none := Evl.fresh_back (e.trans x3) nw
        refine q_setI (n := 1) (w := List.replicate n 0) (i := i) hlw ev_c (ev_v rfl) (ev_v rfl) (by rw [List.length_replicate]; exact hi) fun H5 x5 => ?_
        have hlw5 := x5 _ _ hlw
        have tx5 : TX H5 (upd H5 lw (.lst (iv ((List.replicate n 0).set i 1)))) := TX.updL hlw5
        have nfw : lf ≠ lw := fun z => by rw [← z, x3 _ _ hf] at nw; cases nw
        refine q_forR (n := S.piv.length) (ea_n (ev_lenW (w := S.piv) (ev_var rfl fun H6 e6 => ((hc.ex (e4.trans x5)).tx tx5).ex e6))) ?_ (FInv H1 n p S x b c lf uf lw i) (fun H6 x6 => ⟨(Ex.mut (e4.trans x5) nlw).trans x6, z8, ?_, ?_, ?_, ?_⟩) ?_ ?_
        · rw [O.len]
          omega
        · rfl
        · refine x6 _ _ ?_
          rw [upd_ne nfw]
          exact x5 _ _ (x4 _ _ (x3 _ _ hf))
        · exact Wds.tx ((TX.of ((x3.trans x4).trans x5)).trans (tx5.trans (TX.of x6))) wf
        · exact x6 _ _ upd_same
        · rintro k' σ2 H6 hk ⟨e6, z8, rfl, hf6, wf6, hw6⟩
          have hkf : k' < S.found.length := by rw [← O.len]; exact hk
          have hg : S.found[k']? = some (S.found.getD k' []) := by rw [List.getD_eq_getElem?_getD, List.getElem?_eq_getElem hkf]; rfl
          have hgo : Ok n p (S.found.getD k' []) := by
            rw [List.getD_eq_getElem?_getD, List.getElem?_eq_getElem hkf]
            exact O.found _ (List.getElem_mem hkf)
          have hpc : S.piv.getD k' 0 < n := by
            rw [List.getD_eq_getElem?_getD, List.getElem?_eq_getElem hk]
            exact O.piv _ (List.getElem_mem hk)
          have ofr := freeAt_ok (t := S.found) (piv := S.piv) (n := n) (p := p) (f := i) hp.two k'
          refine s_setI (n := (p - (S.found.getD k' []).getD i 0) % p) (w := freeAt S.found S.piv n p i k') (i := S.piv.getD k' 0) hw6 ?_ (ev_v rfl) (ev_wix (w := S.piv) (i := k') (ev_w rfl (hc.ex e6)) (ev_v rfl) hk) (by rw [ofr.1]; exact hpc) fun H7 x7 => ?_
          · refine (ev_i2 (i := -(((S.found.getD k' []).getD i 0 : Nat) : Int)) (j := ((p : Nat) : Int)) (ev_neg (ev_wix (ev_tixW (ws := S.found) (i := k') (ev_var rfl fun H7 e7 => hb.tx (TX.of (e6.trans e7))) (ev_v rfl) hg) (ev_v rfl) (by rw [hgo.1]; exact hi))) (ev_v rfl) (by omega)).imp fun v H7 _ q => ?_
            rw [q]
            show V.int _ = V.int _
            rw [neg_mod (hgo.get hi)]
          · have hw7 := x7 _ _ hw6
            refine ⟨Ex.mut (e6.trans x7) nlw, _, rfl, ?_, ?_, ?_⟩
            · rw [upd_ne nfw]
              exact x7 _ _ hf6
            · exact Wds.tx ((TX.of x7).trans (TX.updL hw7)) wf6
            · rw [upd_same, freeAt_succ]
        · rintro σ2 H6 ⟨e6, z8, rfl, hf6, wf6, hw6⟩
          have hl1 : uf.length < 100000 := by
            rw [← pair_len wf6]
            have := kerAt_len S n p i
            omega
          refine s_app (P := IsW (freeAt S.found S.piv n p i S.piv.length)) hf6 (ev_v rfl) (ev_tupLI (ev_var rfl fun H7 e7 => ⟨lw, rfl, e7 _ _ hw6⟩)) hl1 fun v H7 x7 hv => ?_
          have hf7 := x7 _ _ hf6
          have tx7 : TX H7 (upd H7 lf (.lst (uf ++ [v]))) := TX.updL hf7
          refine ⟨Ex.mut (e6.trans x7) n1, lf, _, _, _, _, rfl, n1, upd_same, ?_⟩
          rw [kerAt_yes hni]
          exact pair_snoc (Wds.tx ((TX.of x7).trans tx7) wf6) (hv.tx tx7)
      · have hyi : S.piv.contains i = true := by
          cases q : S.piv.contains i with
          | true => rfl
          | false => rw [q] at hb'; cases hb'
        refine ⟨e.trans x3, lf, uf, _, _, _, rfl, n1, x3 _ _ hf, ?_⟩
        rw [kerAt_no hyi]
        exact Wds.tx (TX.of x3) wf
    · rintro σ' H' ⟨e, lf, uf, z6, z7, z8, rfl, n1, hf, wf⟩
      exact s_ret (ev_tupLW (ws := kerAt S n p n) (ev_var rfl fun H1 e1 => ⟨lf, uf, rfl, e1 _ _ hf, Wds.tx (TX.of e1) wf⟩)) fun v H2 x2 q => k v H2 ((x1.trans e).trans x2) q
theorem ev_kernel {σ : L2.St} {H : Hp} {ta tb tc : TE} {E : XK} {rows : List W} {n p : Nat} (ha : EvP ta σ H (IsWT rows)) (hb : EvP tb σ H (IsN n)) (hc : EvP tc σ H (IsN p)) (hok : ∀ r ∈ rows, Ok n p r) (h100 : rows.length ≤ 100) (hn : n ≤ 20) (hp : P7 p) :
    EvP (tCall spKernel [] E (tCons ta (tCons tb (tCons tc tNil)))) σ H (IsWT (kernelW rows n p)) :=
  ev_call (ea_3 ha hb hc (fun _ _ _ e q => WT.tx (TX.of e) q) (fun _ _ _ _ q => q)) fun vs H1 e ⟨v1, v2, v3, ev, q1, q2, q3⟩ Q q => ⟨rows, n, p, v1, by rw [ev, q2, q3]; rfl, .inr q1, hok, h100, hn, hp, q⟩
end
end K21

set_option maxRecDepth 100000
set_option maxHeartbeats 4000000
/-! K21R2: dict.update of dicts whose keys are tuples; tuple * any small count. -/
namespace K21
open PySem L2 PySem.Spec PyProof.Rows
open Evl (Ex)
def putAllT (kvs more : List (List Key × V)) : List (List Key × V) := more.foldl (fun acc kv => putK acc kv.1 kv.2) kvs
theorem KT_putAll {H : Hp} {more : List (List Key × V)} {ms : List (List Key × Addr × Value)} {kvs : List (List Key × V)} {xs : List (List Key × Addr × Value)} (r : KT H more ms) (h : KT H kvs xs) : KT H (putAllT kvs more) (storedAllH xs ms) := by
  induction r generalizing kvs xs with
  | nil => exact h
  | @cons p q ps qs hq t ih =>
    obtain ⟨h1, h2, h3⟩ := hq
    have e := h.put p.1 (b := q.2.1) (y := p.2) (u := q.2.2) h2 h3
    rw [show storedH xs p.1 q.2.1 q.2.2 = storedH xs q.1 q.2.1 q.2.2 by rw [h1]] at e
    exact ih e
theorem putAllT_len : ∀ (more kvs : List (List Key × V)), (putAllT kvs more).length ≤ kvs.length + more.length
  | [], kvs => Nat.le_refl _
  | p :: r, kvs => by
    have h1 := putAllT_len r (putK kvs p.1 p.2)
    have h2 := length_putK kvs p.1 p.2
    show (putAllT (putK kvs p.1 p.2) r).length ≤ _
    rw [List.length_cons]
    omega
def tDUpd (td ty : TE) : TE := fun σ H Q => td σ H fun x H1 => ∃ a, x = .ref a ∧ IsD H1 a ∧ ty σ H1 fun y H2 => ∃ o kvs more, y = .ref o ∧ a ≠ o ∧ H2 a = some (.dT kvs) ∧ H2 o = some (.dT more) ∧ (kvs ≠ [] ∨ more.length ≤ 1) ∧ kvs.length + more.length ≤ 100000 ∧ Q .non (upd H2 a (.dT (putAllT kvs more)))
section
variable {X : Cx} {o e : Expr} {apos cpos : Pos} {td ty : TE}
theorem pe_dupd (hu : X.A.units + 1 < cLine) (ho : PE X o td) (he : PE X e ty) (m : M1 X o "update" apos e cpos) : PE X (.Call (.Attribute o "update" apos) [e] [] cpos) (tDUpd td ty) := by
  refine ⟨fun pins s σ H Q I h => ?_⟩
  refine wpAny_Call_method m.base m.few m.line PySem.F.plainAttrs_dict PySem.F.slot_dict_update PySem.F.type_dict_update (thn (ho.run pins s σ H _ I h) fun u s1 ⟨x, H1, I1, rx, a, ex, d, q1⟩ => ?_)
  subst ex
  obtain rfl : u = Value.ref a := rx
  obtain ⟨t1, t2, _⟩ := isD_at I1 d
  refine ⟨t1, t2, ?_⟩
  rw [m.trees]
  refine Calls.callWith_builtin rfl (Calls.evalArgs_plain (Calls.spliced_cons (thn (he.run pins s1 σ H1 _ I1 q1) fun iv s2 ⟨y, H2, I2, ry, b, kvs, more, ey, hne, ha, hb, hap, hsz, q2⟩ => Calls.spliced_nil ?_)))
  subst ey
  obtain rfl : iv = Value.ref b := ry
  obtain ⟨z, hd, xs, rel, dd⟩ := dt_of I2.hok ha
  obtain ⟨z2, hd2, ms, rel2, dd2⟩ := dt_of I2.hok hb
  have l1 := Paired.length rel
  have l2 := Paired.length rel2
  obtain ⟨_, _, _, _, _, _, _, his2, _⟩ := id dd2
  have hl : (putAllT kvs more).length ≤ sizeLine := by
    have := putAllT_len more kvs
    rw [sizeLine_eq]
    omega
  refine call_update_dictH (tupleKind_room_in1 hu) hne hd2 dd dd2 ?_ (by rw [sizeLine_eq]; omega) fun h' dd' ho' hs => ⟨.non, _, ?_, rfl, q2⟩
  · rcases hap with h | h
    · refine .inl fun h0 => h ?_
      subst h0
      exact List.eq_nil_of_length_eq_zero l1
    · refine .inr ⟨fun x hx => ?_, ?_⟩
      · obtain ⟨oo, its, n, h1, h2, h3, _⟩ := his2 x hx
        exact ⟨oo, h1, h2⟩
      · rw [l2] at h
        match ms, h with
        | [], _ => exact List.nodup_nil
        | [x], _ => exact List.nodup_cons.mpr ⟨fun z => (nomatch z), List.nodup_nil⟩
        | _ :: _ :: _, h => simp at h
  · obtain ⟨q, es, ep, hq, h2, h3, h4, _, h5⟩ := dd'
    refine d_write (t' := s2.toks) I2 (by rw [ha]; exact True.intro) hs ⟨q, hq⟩ ⟨hl, hd, _, (KT_putAll rel2 rel).keeps fun c ys ec => ?_, q, es, ep, hq, h2, h3, h4, h5⟩
    rw [L2.upd_ne (ne_of ec ha (fun z => nomatch z))]
    exact ec
end

/-! ### tuple * 0, tuple * 1 -/
theorem tuple_mul1 (l : Addr) (items : Array Value) (n : Nat) (dd : Option Addr) (sl : Array (Option Value)) (u : Tok) :
    Meets (Builtin.«tuple.__mul__» ⟨[.ref l, .int 1 u], []⟩) (fun _ R s => s.heap.get? l = some { cls := .type "tuple", dict := dd, data := .seq items n, slots := sl } ∧ R (.ok (.ret (Value.ref l))) s) :=
  .of_wp fun prog w A R s h => by
    obtain ⟨hp, g, d, tk, os⟩ := s
    obtain ⟨hl, h⟩ := h
    have f1 := AutoSeq1.idx_int
    have c0 : (decide ((1:Int) < -(2 ^ 63)) || decide ((1:Int) ≥ 2 ^ 63)) = false := by decide
    have c1 : (items.isEmpty || (1:Int) == 1) = true := by simp
    wp_walk using wpAny_loadPart' hl
    repeat (first
      | (refine wpAny_ite_false (decide_eq_false (by rw [c0]; exact Bool.false_ne_true)) ?_; wp_walk using wpAny_loadPart' hl)
      | (refine wpAny_ite_true (decide_eq_true c1) ?_; wp_walk using wpAny_loadPart' hl))
    all_goals first | exact ⟨_, rfl, h⟩ | skip
theorem tuple_mul0 (l : Addr) (items : Array Value) (n : Nat) (dd : Option Addr) (sl : Array (Option Value)) (u : Tok) (hi : items.isEmpty = false) :
    Meets (Builtin.«tuple.__mul__» ⟨[.ref l, .int 0 u], []⟩) (fun _ R s => s.heap.get? l = some { cls := .type "tuple", dict := dd, data := .seq items n, slots := sl } ∧
      R (.ok (.ret (Value.ref s.heap.objs.size))) { s with heap := s.heap.push { cls := Value.type "tuple", data := Data.seq #[] }, toks := s.toks }) :=
  .of_wp fun prog w A R s h => by
    obtain ⟨hp, g, d, tk, os⟩ := s
    obtain ⟨hl, h⟩ := h
    have f1 := AutoSeq1.idx_int
    have c0 : (decide ((0:Int) < -(2 ^ 63)) || decide ((0:Int) ≥ 2 ^ 63)) = false := by decide
    have c1 : (items.isEmpty || (0:Int) == 1) = false := by rw [hi]; decide
    have c2 : (decide ((0:Int) ≤ 0) || items.isEmpty) = true := by simp
    wp_walk using wpAny_loadPart' hl
    repeat (first
      | (refine wpAny_ite_false (decide_eq_false (by rw [c0]; exact Bool.false_ne_true)) ?_; wp_walk using wpAny_loadPart' hl)
      | (refine wpAny_ite_false (decide_eq_false (by rw [c1]; exact Bool.false_ne_true)) ?_; wp_walk using wpAny_loadPart' hl)
      | (refine wpAny_ite_true (decide_eq_true c2) ?_; wp_walk using wpAny_loadPart' hl))
    all_goals first | exact ⟨_, rfl, h⟩ | skip
def rRepA (K : PySem.W.Frag) : R2 := fun x y H Q => ∃ l k xs, x = .ref l ∧ y = .int ((k : Nat) : Int) ∧ SqT K H l xs ∧ xs ≠ [] ∧ k ≤ 1000 ∧ xs.length ≤ 1000 ∧ (k = 1 → Q (.ref l) H) ∧ (k ≠ 1 → ∀ p, H p = none → Q (.ref p) (upd H p (.tup (List.replicate k xs).flatten)))
theorem op_repA {X : Cx} : OpR X (binaryOp .Mult) (rRepA X.K) := by
  intro pins s σ H x y v u Q I rx ry h
  obtain ⟨l, k, xs, rfl, rfl, hT, hne, h2, hz, q1, q2⟩ := h
  by_cases k0 : k = 0
  · subst k0
    have q := q2 (by omega)
    cases rx
    obtain ⟨t, rfl⟩ := ry
    obtain ⟨its, r, ⟨⟨cls, dd, data, sl⟩, ho, hc, n, hd⟩, hs⟩ := I.tuple hT
    simp only at hc hd
    subst hc hd
    have hi : its.toArray.isEmpty = false := by
      cases its with
      | nil =>
        cases xs with
        | nil => exact absurd rfl hne
        | cons a b => cases r
      | cons a b => rfl
    refine wpAny_binaryOp_repeat_ref (T := "tuple") (U := "int") (by decide) ⟨_, ho, rfl⟩ (fun s' => typeIs_int s' _ t) noFill_tuple_mul F.fills_int_mul F.slot_int_rmul repeat_tuple F.slot_int_index.lookup
      (call_meets F.slot_int_rmul (typeIs_int s _ t) F.entry_int_rmul (F.args_int_rmul_2 _ _) (int_rmul_tuple _ t l its.toArray n dd sl)
        ⟨ho, rfl, ⟨_, ho, rfl⟩, call_meets F.slot_tuple_mul ⟨_, ho, rfl⟩ F.entry_tuple_mul (F.args_tuple_mul_2 _ _) (tuple_mul0 l its.toArray n dd sl t hi) ⟨ho, ?_⟩⟩)
    refine ⟨.ref s.heap.objs.size, _, I.laid (t' := s.toks) (o := .tup (List.replicate 0 xs).flatten) (fun b ob q => Heap.get?_push_of_some _ q) (Nat.le_refl _) ?_, rfl, q _ (I.hok.fresh (Nat.le_refl _))⟩
    exact ⟨Nat.zero_le _, [], .nil, IsTup.new _ _⟩
  · by_cases k1 : k = 1
    · subst k1
      have q := q1 rfl
      cases rx
      obtain ⟨t, rfl⟩ := ry
      obtain ⟨its, r, ⟨⟨cls, dd, data, sl⟩, ho, hc, n, hd⟩, hs⟩ := I.tuple hT
      simp only at hc hd
      subst hc hd
      refine wpAny_binaryOp_repeat_ref (T := "tuple") (U := "int") (by decide) ⟨_, ho, rfl⟩ (fun s' => typeIs_int s' _ t) noFill_tuple_mul F.fills_int_mul F.slot_int_rmul repeat_tuple F.slot_int_index.lookup
        (call_meets F.slot_int_rmul (typeIs_int s _ t) F.entry_int_rmul (F.args_int_rmul_2 _ _) (int_rmul_tuple _ t l its.toArray n dd sl)
          ⟨ho, rfl, ⟨_, ho, rfl⟩, call_meets F.slot_tuple_mul ⟨_, ho, rfl⟩ F.entry_tuple_mul (F.args_tuple_mul_2 _ _) (tuple_mul1 l its.toArray n dd sl t) ⟨ho, ?_⟩⟩)
      exact ⟨.ref l, H, I, rfl, q⟩
    · exact op_repT pins s σ H _ _ v u Q I rx ry ⟨l, _, xs, rfl, rfl, hT, hne, by omega, by omega, hz, by
        rw [show ((k : Nat) : Int).toNat = k by omega]
        exact q2 k1⟩
end K21

set_option maxRecDepth 100000
set_option maxHeartbeats 4000000
/-! K21R3: tables in the heap; words joined and cut. -/
namespace K21
open PySem L2
open Evl (Ex)
/-! ### tables -/
def kq (w : W) : List Key := w.map fun n => (Sum.inl ((n : Nat) : Int) : Key)
theorem kq_iv (w : W) : (kq w).map kV = iv w := by
  unfold kq iv
  rw [List.map_map]
  rfl
theorem kq_inj : ∀ {a b : W}, kq a = kq b → a = b
  | [], [], _ => rfl
  | [], _ :: _, h => by simp [kq] at h
  | _ :: _, [], h => by simp [kq] at h
  | x :: a, y :: b, h => by
    unfold kq at h
    rw [List.map_cons, List.map_cons] at h
    injection h with h1 h2
    injection h1 with h1
    rw [kq_inj (a := a) (b := b) h2, show x = y by omega]
/-- the rows of a dict stand for a table -/
abbrev TbR (H : Hp) : Tb → List (List Key × V) → Prop := Paired fun e kv => kv.1 = kq e.1 ∧ WT H e.2 kv.2
theorem TbR.tx {H H' : Hp} {t : Tb} {kvs : List (List Key × V)} (e : TX H H') (h : TbR H t kvs) : TbR H' t kvs := Paired.imp h fun _ _ q => ⟨q.1, q.2.tx e⟩
theorem TbR.get {H : Hp} {t : Tb} {kvs : List (List Key × V)} (r : TbR H t kvs) (w : W) : (getT t w = none ∧ valV kvs (kq w) = none) ∨ ∃ ws v, getT t w = some ws ∧ valV kvs (kq w) = some v ∧ WT H ws v := by
  unfold getT
  induction r with
  | nil => exact .inl ⟨rfl, rfl⟩
  | @cons e kv es kvs h t ih =>
    obtain ⟨h1, h2⟩ := h
    rw [List.find?_cons]
    by_cases q : e.1 = w
    · subst q
      rw [beq_self_eq_true]
      exact .inr ⟨e.2, kv.2, rfl, valV_pos h1, h2⟩
    · rw [beq_eq_false_iff_ne.mpr q, valV_neg (fun z => q (kq_inj (h1.symm.trans z)))]
      exact ih
theorem TbR.any {H : Hp} {t : Tb} {kvs : List (List Key × V)} (r : TbR H t kvs) (w : W) : (kvs.any fun kv => decide (kv.1 = kq w)) = t.any fun e => e.1 == w := by
  induction r with
  | nil => rfl
  | @cons e kv es kvs h t ih =>
    rw [List.any_cons, List.any_cons, ih, h.1]
    congr 1
    by_cases q : e.1 = w
    · rw [q]
      simp
    · rw [beq_eq_false_iff_ne.mpr q, decide_eq_false fun z => q (kq_inj z)]
theorem TbR.put {H : Hp} {t : Tb} {kvs : List (List Key × V)} (r : TbR H t kvs) {w : W} {ws : List W} {v : V} (h : WT H ws v) : TbR H (putT t w ws) (putK kvs (kq w) v) := by
  unfold putT putK
  rw [r.any w]
  by_cases q : (t.any fun e => e.1 == w) = true
  · rw [if_pos q, if_pos q]
    clear q
    induction r with
    | nil => exact .nil
    | @cons e kv es kvs h1 t ih =>
      rw [List.map_cons, List.map_cons]
      refine .cons ?_ ih
      by_cases q : e.1 = w
      · rw [if_pos (by rw [h1.1, q]), if_pos (by rw [q, beq_self_eq_true])]
        exact ⟨h1.1, h⟩
      · rw [if_neg (fun z => q (kq_inj (h1.1.symm.trans z))), if_neg (by rw [beq_eq_false_iff_ne.mpr q]; decide)]
        exact h1
  · rw [if_neg q, if_neg q]
    exact pair_snoc r ⟨rfl, h⟩
theorem TbR.merge {H : Hp} {t u : Tb} {kvs more : List (List Key × V)} (r : TbR H t kvs) (r2 : TbR H u more) : TbR H (mergeT t u) (putAllT kvs more) := by
  induction r2 generalizing t kvs with
  | nil => exact r
  | @cons e kv es more h1 _ ih =>
    have q := r.put (w := e.1) h1.2
    rw [← h1.1] at q
    exact ih q
theorem TbR.keys {H : Hp} {t : Tb} {kvs : List (List Key × V)} (r : TbR H t kvs) : (kvs.map fun kv => kv.1.map kV) = (t.map (·.1)).map iv := by
  induction r with
  | nil => rfl
  | cons h1 _ ih => rw [List.map_cons, List.map_cons, List.map_cons, ih, h1.1, kq_iv]
section
variable {K : PySem.W.Frag} {σ : L2.St} {H H' : Hp} {ta tb te tc td : TE} {D : Ends} {u : TS}
/-- d.get(k, ()) -/
theorem ev_get {d : Addr} {kvs : List (List Key × V)} {t : Tb} {w : W} (h : EvP td σ H (Is (.ref d))) (hd : H d = some (.dT kvs)) (r : TbR H t kvs) (hk : EvP te σ H (IsW w)) : EvP (tDGet2 td te (tTup tNil)) σ H (IsWT ((getT t w).getD [])) := fun H1 e Q q =>
  h H1 e _ fun x H2 e2 ex => ⟨d, ex, .inr ⟨kvs, .inl ((e.trans e2) _ _ hd)⟩, hk H2 (e.trans e2) _ fun y H3 e3 ⟨b, ey, hb⟩ => ⟨Nat.zero_le _, fun p hp => by
    have tx : TX H (upd H3 p (.tup [])) := TX.of (((e.trans e2).trans e3).trans (Ex.new hp))
    have e4 : Ex H3 (upd H3 p (.tup [])) := Ex.new hp
    refine ⟨valV kvs (kq w), ?_, q ((valV kvs (kq w)).getD (.ref p)) _ ((e2.trans e3).trans e4) ?_⟩
    · rw [ey]
      refine DGet.t (k := kq w) (kvs := kvs) (e4 _ _ (e3 _ _ ((e.trans e2) _ _ hd))) (by rw [kq_iv]; exact e4 _ _ hb)
    · rcases r.get w with ⟨h1, h2⟩ | ⟨ws, v, h1, h2, h3⟩
      · rw [h1, h2]
        exact ⟨p, [], rfl, upd_same, .nil⟩
      · rw [h1, h2]
        exact h3.tx tx⟩⟩
/-- d[k], there -/
theorem ev_dix {d : Addr} {kvs : List (List Key × V)} {t : Tb} {w : W} (h : EvP td σ H (Is (.ref d))) (hd : H d = some (.dT kvs)) (r : TbR H t kvs) (hk : EvP te σ H (IsW w)) (hs : (getT t w).isSome = true) : EvP (tDGet td te) σ H (IsWT ((getT t w).getD [])) := fun H1 e Q q =>
  h H1 e _ fun x H2 e2 ex => hk H2 (e.trans e2) _ fun y H3 e3 ⟨b, ey, hb⟩ => by
    rcases r.get w with ⟨h1, h2⟩ | ⟨ws, v, h1, h2, h3⟩
    · rw [h1] at hs
      cases hs
    · refine ⟨d, v, ex, ?_, q _ _ (e2.trans e3) ?_⟩
      · rw [ey, ← h2]
        exact DGet.t (k := kq w) (kvs := kvs) (((e.trans e2).trans e3) _ _ hd) (by rw [kq_iv]; exact hb)
      · rw [h1]
        exact h3.tx (TX.of ((e.trans e2).trans e3))
/-- k not in d -/
theorem eb_dnotin {d : Addr} {kvs : List (List Key × V)} {t : Tb} {w : W} (hk : EvP te σ H (IsW w)) (h : EvP td σ H (Is (.ref d))) (hd : H d = some (.dT kvs)) (r : TbR H t kvs) : EvB (tTest (tDNotIn te td)) σ H (!(getT t w).isSome) := fun H1 e Q q =>
  hk H1 e _ fun y H2 e2 ⟨b, ey, hb⟩ => h H2 (e.trans e2) _ fun x H3 e3 ex => ⟨d, valV kvs (kq w), ex, by
    rw [ey]
    exact DGet.t (k := kq w) (kvs := kvs) (((e.trans e2).trans e3) _ _ hd) (by rw [kq_iv]; exact e3 _ _ hb), ⟨_, rfl, by
    rcases r.get w with ⟨h1, h2⟩ | ⟨ws, v, h1, h2, h3⟩
    · rw [h1] at q
      rw [h2]
      exact q _ (e2.trans e3)
    · rw [h1] at q
      rw [h2]
      exact q _ (e2.trans e3)⟩⟩
/-- d[k] = a tuple of words -/
theorem q_dput {d : Addr} {kvs : List (List Key × V)} {t : Tb} {w : W} {ws : List W} (hd : H d = some (.dT kvs)) (r : TbR H t kvs) (hz : kvs.length < 100000) (hv : EvP tc σ H (IsWT ws)) (h : EvP td σ H (Is (.ref d))) (hk : EvP te σ H (IsW w))
    (k : ∀ H1 kvs', Ex H H1 → TbR (upd H1 d (.dT kvs')) (putT t w ws) kvs' → u D σ (upd H1 d (.dT kvs'))) : tSeq (sDPut td te tc) u D σ H := hv H (Ex.refl H) _ fun v H1 e1 pv => h H1 e1 _ fun x H2 e2 ex => hk H2 (e1.trans e2) _ fun y H3 e3 ⟨b, ey, hb⟩ => by
  have hd3 := ((e1.trans e2).trans e3) _ _ hd
  refine ⟨d, _, ex, by rw [ey]; exact DPut.t (k := kq w) hd3 (by rw [kq_iv]; exact hb) (sz_small hz), ?_⟩
  have tx : TX H3 (upd H3 d (.dT (putK kvs (kq w) v))) := TX.updT hd3
  exact k H3 _ ((e1.trans e2).trans e3) ((r.tx ((TX.of ((e1.trans e2).trans e3)).trans tx)).put (pv.tx ((TX.of (e2.trans e3)).trans tx)))
theorem s_dput {d : Addr} {kvs : List (List Key × V)} {t : Tb} {w : W} {ws : List W} (hd : H d = some (.dT kvs)) (r : TbR H t kvs) (hz : kvs.length < 100000) (hv : EvP tc σ H (IsWT ws)) (h : EvP td σ H (Is (.ref d))) (hk : EvP te σ H (IsW w))
    (k : ∀ H1 kvs', Ex H H1 → TbR (upd H1 d (.dT kvs')) (putT t w ws) kvs' → D.nx σ (upd H1 d (.dT kvs'))) : sDPut td te tc D σ H := q_dput (u := fun D σ H => D.nx σ H) (D := D) hd r hz hv h hk k
/-- d.update(d2) -/
theorem q_dupd {d o : Addr} {kvs more : List (List Key × V)} {t t2 : Tb} (hd : H d = some (.dT kvs)) (r : TbR H t kvs) (ho : H o = some (.dT more)) (r2 : TbR H t2 more) (hne : d ≠ o) (hap : t ≠ [] ∨ t2.length ≤ 1) (hz : t.length ≤ 40000) (hz2 : t2.length ≤ 40000)
    (h : EvP td σ H (Is (.ref d))) (hk : EvP te σ H (Is (.ref o))) (k : ∀ H1 kvs', Ex H H1 → TbR (upd H1 d (.dT kvs')) (mergeT t t2) kvs' → u D σ (upd H1 d (.dT kvs'))) : tSeq (tDrop (tDUpd td te)) u D σ H := h H (Ex.refl H) _ fun x H1 e1 ex => by
  have l1 := pair_len r
  have l2 := pair_len r2
  refine ⟨d, ex, .inr ⟨kvs, .inl (e1 _ _ hd)⟩, hk H1 e1 _ fun y H2 e2 ey => ?_⟩
  have hd3 := (e1.trans e2) _ _ hd
  have tx : TX H2 (upd H2 d (.dT (putAllT kvs more))) := TX.updT hd3
  refine ⟨o, kvs, more, ey, hne, hd3, (e1.trans e2) _ _ ho, hap.imp (fun h0 z => h0 (List.eq_nil_of_length_eq_zero (by rw [l1, z]; rfl))) (fun h0 => by omega), by omega, ?_⟩
  exact k H2 _ (e1.trans e2) ((r.tx ((TX.of (e1.trans e2)).trans tx)).merge (r2.tx ((TX.of (e1.trans e2)).trans tx)))
theorem ev_lenD {d : Addr} {kvs : List (List Key × V)} {t : Tb} (h : EvP td σ H (Is (.ref d))) (hd : H d = some (.dT kvs)) (r : TbR H t kvs) : EvP (tCB rLenT (tCons td tNil)) σ H (IsN t.length) := fun H1 e Q q =>
  h H1 e _ fun v H2 e2 ev => ⟨d, kvs, by rw [ev], (e.trans e2) _ _ hd, by rw [← pair_len r]; exact q _ H2 e2 rfl⟩

/-! ### words joined and cut -/
theorem ev_catV {PX PY : List V → Hp → Prop} (ha : EvP ta σ H (fun v H2 => ∃ a us, v = .ref a ∧ H2 a = some (.tup us) ∧ PX us H2)) (hb : EvP tb σ H (fun v H2 => ∃ a us, v = .ref a ∧ H2 a = some (.tup us) ∧ PY us H2))
    (m : ∀ us H1 H2, Ex H1 H2 → PX us H1 → PX us H2) (m2 : ∀ us H1 H2, Ex H1 H2 → PY us H1 → PY us H2) (l1 : ∀ us H1, PX us H1 → us.length ≤ 40000) (l2 : ∀ us H1, PY us H1 → us.length ≤ 40000) :
    EvP (tOp (rCatA K) ta tb) σ H (fun v H2 => ∃ a us, v = .ref a ∧ H2 a = some (.tup us) ∧ ∃ u1 u2, us = u1 ++ u2 ∧ PX u1 H2 ∧ PY u2 H2) := fun H1 e Q q =>
  ha H1 e _ fun x H2 e2 ⟨a, us, ex, h1, p1⟩ => hb H2 (e.trans e2) _ fun y H3 e3 ⟨b, ws, ey, h2, p2⟩ => by
    have a1 := l1 _ _ p1
    have a2 := l2 _ _ p2
    have h1' := e3 _ _ h1
    have p1' := m _ _ _ e3 p1
    refine ⟨a, b, us, ws, ex, ey, SqT.of h1', SqT.of h2, by rw [sizeLine_eq]; omega, fun z => ?_, fun _ z => ?_, fun _ _ p hp => ?_⟩
    · subst z
      exact q _ _ (e2.trans e3) ⟨b, ws, rfl, h2, [], ws, rfl, p1', p2⟩
    · subst z
      exact q _ _ (e2.trans e3) ⟨a, us, rfl, h1', us, [], (List.append_nil us).symm, p1', p2⟩
    · exact q _ _ ((e2.trans e3).trans (Ex.new hp)) ⟨p, _, rfl, upd_same, us, ws, rfl, m _ _ _ (Ex.new hp) p1', m2 _ _ _ (Ex.new hp) p2⟩
theorem iv_app (v w : W) : iv (v ++ w) = iv v ++ iv w := List.map_append
theorem ev_catW {v w : W} (ha : EvP ta σ H (IsW v)) (hb : EvP tb σ H (IsW w)) (l1 : v.length ≤ 1000) (l2 : w.length ≤ 1000) : EvP (tOp (rCatA K) ta tb) σ H (IsW (v ++ w)) := by
  refine (ev_catV (PX := fun us _ => us = iv v) (PY := fun us _ => us = iv w) (ha.imp fun x H1 _ ⟨a, r, h⟩ => ⟨a, _, r, h, rfl⟩) (hb.imp fun x H1 _ ⟨a, r, h⟩ => ⟨a, _, r, h, rfl⟩) (fun _ _ _ _ q => q) (fun _ _ _ _ q => q) (fun us _ q => by rw [q, iv_len]; omega) (fun us _ q => by rw [q, iv_len]; omega)).imp ?_
  rintro x H1 _ ⟨a, us, r, h, u1, u2, rfl, rfl, rfl⟩
  exact ⟨a, r, by rw [iv_app]; exact h⟩
theorem ev_catWT {v w : List W} (ha : EvP ta σ H (IsWT v)) (hb : EvP tb σ H (IsWT w)) (l1 : v.length ≤ 10000) (l2 : w.length ≤ 10000) : EvP (tOp (rCatA K) ta tb) σ H (IsWT (v ++ w)) := by
  refine (ev_catV (PX := fun us H2 => Wds H2 v us) (PY := fun us H2 => Wds H2 w us) ha hb (fun _ _ _ e q => Wds.tx (TX.of e) q) (fun _ _ _ e q => Wds.tx (TX.of e) q) (fun us _ q => by rw [← pair_len q]; omega) (fun us _ q => by rw [← pair_len q]; omega)).imp ?_
  rintro x H1 _ ⟨a, us, r, h, u1, u2, rfl, p1, p2⟩
  exact ⟨a, _, r, h, pair_app p1 p2⟩
/-- (n,): a word of one number -/
theorem ev_one {n : Nat} (h : EvP te σ H (IsN n)) : EvP (tTup (tCons te tNil)) σ H (IsW [n]) := fun H1 e Q q =>
  h H1 e _ fun v H2 e2 p => ⟨by show 1 ≤ sizeLine; decide, fun d hd => q _ _ (e2.trans (Ex.new hd)) ⟨d, rfl, by rw [p]; exact upd_same⟩⟩
/-- (w,): a tuple of one word -/
theorem ev_oneW {w : W} (h : EvP te σ H (IsW w)) : EvP (tTup (tCons te tNil)) σ H (IsWT [w]) := fun H1 e Q q =>
  h H1 e _ fun v H2 e2 p => ⟨by show 1 ≤ sizeLine; decide, fun d hd => q _ _ (e2.trans (Ex.new hd)) ⟨d, [v], rfl, upd_same, .cons (p.ex (Ex.new hd)) .nil⟩⟩
/-- () -/
theorem ev_tup0 : EvP (tTup tNil) σ H (IsWT []) := fun H1 e Q q => ⟨Nat.zero_le _, fun d hd => q _ _ (Ex.new hd) ⟨d, [], rfl, upd_same, .nil⟩⟩
theorem ev_word0 : EvP (tTup tNil) σ H (IsW []) := fun H1 e Q q => ⟨Nat.zero_le _, fun d hd => q _ _ (Ex.new hd) ⟨d, rfl, upd_same⟩⟩
/-- w[:hi] -/
theorem ev_cutHi {w : W} {hi : Nat} (h : EvP ta σ H (IsW w)) (h' : EvP tb σ H (IsN hi)) (hz : w.length ≤ 1000) : EvP (tSl (rSlA K) ta tNoPart (tPart tb)) σ H (IsW (w.take hi)) := fun H1 e Q q =>
  h H1 e _ fun x H2 e2 p => h' H2 (e.trans e2) _ fun y H3 e3 ey => ⟨_, ey, by
    obtain ⟨a, r, ha⟩ := p.ex e3
    refine ⟨a, iv w, r, SqT.of ha, fun hw => q _ _ (e2.trans e3) ⟨a, rfl, ?_⟩, fun _ p hp => q _ _ ((e2.trans e3).trans (Ex.new hp)) ⟨p, rfl, ?_⟩⟩
    · have h2 := hw.2
      rw [HT.sIx_nat, iv_len] at h2
      rw [List.take_of_length_le (by omega)]
      exact ha
    · rw [upd_same]
      unfold cutV
      rw [HT.sIx_none, HT.sIx_nat, List.drop_zero, Nat.sub_zero]
      unfold iv
      rw [← List.map_take, List.length_map]
      congr 3
      rw [List.take_eq_take_iff]
      omega⟩
/-- w[lo:] -/
theorem ev_cutLo {w : W} {lo : Nat} (h : EvP ta σ H (IsW w)) (h' : EvP tb σ H (IsN lo)) (hz : w.length ≤ 1000) : EvP (tSl (rSlA K) ta (tPart tb) tNoPart) σ H (IsW (w.drop lo)) := fun H1 e Q q =>
  h H1 e _ fun x H2 e2 p => h' H2 (e.trans e2) _ fun y H3 e3 ey => ⟨_, ey, by
    obtain ⟨a, r, ha⟩ := p.ex e3
    refine ⟨a, iv w, r, SqT.of ha, fun hw => q _ _ (e2.trans e3) ⟨a, rfl, ?_⟩, fun _ p hp => q _ _ ((e2.trans e3).trans (Ex.new hp)) ⟨p, rfl, ?_⟩⟩
    · have h2 := hw.1
      rw [HT.sIx_nat, iv_len] at h2
      by_cases l0 : lo = 0
      · subst l0
        exact ha
      · have : w.length = 0 := by omega
        rw [List.eq_nil_of_length_eq_zero this] at ha ⊢
        rw [List.drop_nil]
        exact ha
    · rw [upd_same]
      unfold cutV
      rw [HT.sIx_none, HT.sIx_nat]
      unfold iv
      rw [← List.map_drop, List.length_map, ← List.map_take]
      congr 3
      by_cases hl : lo ≤ w.length
      · rw [Nat.min_eq_left hl, List.take_of_length_le (by rw [List.length_drop]; omega)]
      · rw [Nat.min_eq_right (by omega), List.drop_of_length_le (Nat.le_refl _), List.drop_of_length_le (by omega), List.take_nil]⟩
/-- (0,) * n -/
theorem ev_zerosT {n : Nat} (h : EvP te σ H (IsN n)) (hn : n ≤ 1000) : EvP (tOp (rRepA K) (tTup (tCons (tC (.int 0)) tNil)) te) σ H (IsW (List.replicate n 0)) := fun H1 e Q q =>
  ⟨by show 1 ≤ sizeLine; decide, fun l hl => h (upd H1 l (.tup [.int 0])) (e.trans (Ex.new hl)) _ fun v H2 e2 p => ⟨l, n, [.int 0], rfl, p, SqT.of (e2 _ _ upd_same), by simp, by omega, by simp, fun h1 => by
      subst h1
      exact q _ _ ((Ex.new hl).trans e2) ⟨l, rfl, e2 _ _ upd_same⟩, fun _ d hd => q _ _ (((Ex.new hl).trans e2).trans (Ex.new hd)) ⟨d, rfl, by rw [upd_same, iv_zero]⟩⟩⟩
/-- for i in range(lo, hi) -/
theorem q_forR2 {t1 : TS} {ta : TA} {j lo hi : Nat} (h : EvA ta σ H (fun us _ => us = [.int ((lo : Nat) : Int), .int ((hi : Nat) : Int)])) (hn : hi ≤ 40000) (hl : lo ≤ hi) (Pv : Nat → L2.St → Hp → Prop) (h0 : ∀ H1, Ex H H1 → Pv 0 σ H1)
    (hs : ∀ (i : Nat) σ' H', lo + i < hi → Pv i σ' H' → t1 { D with nx := Pv (i + 1), ct := Pv (i + 1), bk := u D } (σ'.set j (some (.int ((lo + i : Nat) : Int)))) H') (hd : ∀ σ' H', Pv (hi - lo) σ' H' → u D σ' H') : tSeq (tFor (iRng2 ta) (gName j) t1) u D σ H :=
  h H (Ex.refl H) _ fun us H1 e ew => ⟨lo, hi, ew, by omega, for_range (lo := ((lo : Nat) : Int)) (n := (((hi : Nat) : Int) - ((lo : Nat) : Int)).toNat) Pv (h0 H1 e) (fun i σ' H' hi p => by
    show t1 { D with nx := Pv (i + 1), ct := Pv (i + 1), bk := u D } (σ'.set j (some (.int (((lo : Nat) : Int) + (i : Int))))) H'
    rw [show ((lo : Nat) : Int) + ((i : Nat) : Int) = ((lo + i : Nat) : Int) by omega]
    exact hs i σ' H' (by omega) p) (fun σ' H' p => by
      rw [show (((hi : Nat) : Int) - ((lo : Nat) : Int)).toNat = hi - lo by omega] at p
      exact hd σ' H' p)⟩
theorem s_forR2 {t1 : TS} {ta : TA} {j lo hi : Nat} (h : EvA ta σ H (fun us _ => us = [.int ((lo : Nat) : Int), .int ((hi : Nat) : Int)])) (hn : hi ≤ 40000) (hl : lo ≤ hi) (Pv : Nat → L2.St → Hp → Prop) (h0 : ∀ H1, Ex H H1 → Pv 0 σ H1)
    (hs : ∀ (i : Nat) σ' H', lo + i < hi → Pv i σ' H' → t1 { D with nx := Pv (i + 1), ct := Pv (i + 1), bk := D.nx } (σ'.set j (some (.int ((lo + i : Nat) : Int)))) H') (hd : ∀ σ' H', Pv (hi - lo) σ' H' → D.nx σ' H') : tFor (iRng2 ta) (gName j) t1 D σ H :=
  q_forR2 (u := fun D σ H => D.nx σ H) (D := D) h hn hl Pv h0 hs hd
theorem ea_nn {n m : Nat} (h : EvP ta σ H (IsN n)) (h' : EvP tb σ H (IsN m)) : EvA (tCons ta (tCons tb tNil)) σ H (fun us _ => us = [.int ((n : Nat) : Int), .int ((m : Nat) : Int)]) := fun H1 e Q q => ea_2 h h' (fun _ _ _ _ q => q) H1 e Q fun vs H2 e2 ⟨a, b, r, p1, p2⟩ => q vs H2 e2 (by rw [r, p1, p2])
end
end K21

set_option maxRecDepth 100000
set_option maxHeartbeats 4000000
/-! K21D5: heavier. -/
namespace K21
open PySem L2
open Evl (Ex)
abbrev sHeavier : Stmt := top 23
/-! ### the mathematics -/
theorem lastW_le : ∀ w : W, lastW w ≤ w.length
  | [] => Nat.le_refl _
  | x :: r => by
    have ih := lastW_le r
    unfold lastW
    rw [List.length_cons]
    split
    · split <;> omega
    · omega
theorem lastW_zero : ∀ (w : W) (i : Nat), lastW w ≤ i → w.getD i 0 = 0
  | [], i, _ => by simp
  | x :: r, i, h => by
    have ih := lastW_zero r
    unfold lastW at h
    split at h
    · rename_i e
      cases i with
      | zero =>
        by_cases q : (x == 0) = true
        · simpa using q
        · rw [if_neg q] at h
          omega
      | succ i =>
        rw [List.getD_cons_succ]
        exact ih i (by omega)
    · rename_i l e
      cases i with
      | zero => omega
      | succ i =>
        rw [List.getD_cons_succ]
        exact ih i (by omega)
theorem lastW_ne : ∀ (w : W) (l : Nat), lastW w = l + 1 → w.getD l 0 ≠ 0
  | [], l, h => by unfold lastW at h; omega
  | x :: r, l, h => by
    have ih := lastW_ne r
    unfold lastW at h
    split at h
    · by_cases q : (x == 0) = true
      · rw [if_pos q] at h
        omega
      · rw [if_neg q] at h
        have : l = 0 := by omega
        subst this
        simpa using q
    · rename_i m e
      have : l = m + 1 := by omega
      subst this
      rw [List.getD_cons_succ]
      exact ih m e
def nzs (w : W) : List Nat := (List.range w.length).filter fun i => w.getD i 0 != 0
theorem mem_nzs {w : W} {i : Nat} : i ∈ nzs w ↔ i < w.length ∧ w.getD i 0 ≠ 0 := by
  unfold nzs
  rw [List.mem_filter, List.mem_range]
  simp
/-- the greatest of the places that are not 0, and -1 -/
theorem last_max {w : W} {m : Int} (hm : m ∈ (nzs w).map (fun n => ((n : Nat) : Int)) ++ [-1]) (hx : ∀ y ∈ (nzs w).map (fun n => ((n : Nat) : Int)) ++ [-1], y ≤ m) : m = ((lastW w : Nat) : Int) - 1 := by
  have h1 : m ≤ ((lastW w : Nat) : Int) - 1 := by
    rcases List.mem_append.mp hm with h | h
    · obtain ⟨i, hi, rfl⟩ := List.mem_map.mp h
      obtain ⟨_, h0⟩ := mem_nzs.mp hi
      have : i < lastW w := by
        rcases Nat.lt_or_ge i (lastW w) with q | q
        · exact q
        · exact absurd (lastW_zero w i q) h0
      omega
    · rw [List.mem_singleton.mp h]
      omega
  have h2 : ((lastW w : Nat) : Int) - 1 ≤ m := by
    cases e : lastW w with
    | zero =>
      have := hx (-1) (List.mem_append.mpr (.inr (List.mem_singleton.mpr rfl)))
      omega
    | succ l =>
      have hl := lastW_le w
      have := hx ((l : Nat) : Int) (List.mem_append.mpr (.inl (List.mem_map.mpr ⟨l, mem_nzs.mpr ⟨by omega, lastW_ne w l e⟩, rfl⟩)))
      omega
  omega
def hv2 (w : W) (c j : Nat) : List W := (List.range' 1 j).map fun a => w.set c a
def hv1 (p : Nat) (w : W) (i : Nat) : List W := (List.range' (lastW w) i).flatMap fun c => hv2 w c (p - 1)
theorem hv2_succ (w : W) (c j : Nat) : hv2 w c (j + 1) = hv2 w c j ++ [w.set c (1 + j)] := by
  unfold hv2
  rw [List.range'_1_concat, List.map_append]
  rfl
theorem hv1_succ (p : Nat) (w : W) (i : Nat) : hv1 p w (i + 1) = hv1 p w i ++ hv2 w (lastW w + i) (p - 1) := by
  unfold hv1
  rw [List.range'_1_concat, List.flatMap_append, List.flatMap_cons, List.flatMap_nil, List.append_nil]
theorem hv2_len (w : W) (c j : Nat) : (hv2 w c j).length = j := by
  unfold hv2
  rw [List.length_map, List.length_range']
theorem hv1_len (p : Nat) (w : W) : ∀ i, (hv1 p w i).length = i * (p - 1)
  | 0 => by unfold hv1; simp
  | i + 1 => by rw [hv1_succ, List.length_append, hv1_len p w i, hv2_len, Nat.succ_mul]
theorem heavier_take {ws : List W} {i : Nat} {w : W} (p : Nat) (h : ws[i]? = some w) : heavierW (ws.take (i + 1)) p = heavierW (ws.take i) p ++ hv1 p w (w.length - lastW w) := by
  unfold heavierW
  rw [take_one h, List.flatMap_append, List.flatMap_cons, List.flatMap_nil, List.append_nil]
  rfl
theorem heavierOne_len {p n : Nat} {w : W} (h : w.length ≤ n) : (heavierOne p w).length ≤ n * (p - 1) := by
  show (hv1 p w (w.length - lastW w)).length ≤ _
  rw [hv1_len]
  exact Nat.mul_le_mul_right _ (by omega)
theorem heavierW_len {p n : Nat} : ∀ {ws : List W}, (∀ w ∈ ws, w.length ≤ n) → (heavierW ws p).length ≤ ws.length * (n * (p - 1))
  | [], _ => by unfold heavierW; simp
  | w :: ws, h => by
    have ih := heavierW_len (p := p) (ws := ws) fun w hw => h w (List.mem_cons_of_mem _ hw)
    have h1 := heavierOne_len (p := p) (h w List.mem_cons_self)
    unfold heavierW at ih ⊢
    rw [List.flatMap_cons, List.length_append, List.length_cons, Nat.succ_mul]
    omega
theorem set_cut (w : W) (c a : Nat) (h : c < w.length) : (w.take c ++ [a]) ++ w.drop (c + 1) = w.set c a := by
  rw [List.set_eq_take_append_cons_drop, if_pos h, List.append_assoc]
  rfl
theorem heavierW_mem {p : Nat} {ws : List W} {v : W} (h : v ∈ heavierW ws p) : ∃ w ∈ ws, ∃ c a, c < w.length ∧ 0 < a ∧ a < p ∧ v = w.set c a := by
  unfold heavierW at h
  obtain ⟨w, hw, h⟩ := List.mem_flatMap.mp h
  unfold heavierOne at h
  obtain ⟨c, hc, h⟩ := List.mem_flatMap.mp h
  obtain ⟨a, ha, rfl⟩ := List.mem_map.mp h
  have hl := lastW_le w
  rw [List.mem_range'_1] at hc ha
  exact ⟨w, hw, c, a, by omega, by omega, by omega, rfl⟩
theorem heavierW_ok {n p : Nat} {ws : List W} (h : ∀ w ∈ ws, Ok n p w) : ∀ v ∈ heavierW ws p, Ok n p v := by
  intro v hv
  obtain ⟨w, hw, c, a, hc, h0, ha, rfl⟩ := heavierW_mem hv
  have o := h w hw
  refine ⟨by rw [List.length_set]; exact o.1, fun x hx => ?_⟩
  rcases List.mem_or_eq_of_mem_set hx with h | h
  · exact o.2 x h
  · rw [h]; exact ha

section
variable {K : PySem.W.Frag} {σ : L2.St} {H : Hp} {ta tb : TE}
theorem ev_last {w : W} (ha : EvN ta σ H (fun us _ => us = iv (nzs w))) (hb : EvN tb σ H (fun us _ => us = [.int (-1)])) (hz : w.length ≤ 1000) : EvP (tCB (rMax K) (tCons (tOp rCat ta tb) tNil)) σ H (IsI (((lastW w : Nat) : Int) - 1)) := by
  have hl : (nzs w).length ≤ 1000 := by
    have : (nzs w).length ≤ (List.range w.length).length := List.length_filter_le _ _
    rw [List.length_range] at this
    omega
  intro H1 e Q q
  refine ev_cat ha hb (fun _ _ _ _ q => q) (fun us _ q => by rw [q, iv_len]; omega) (fun us _ q => by rw [q]; decide) (fun _ _ _ _ q => q) H1 e _ ?_
  rintro p us H2 hp e2 h2 ⟨u1, u2, rfl, rfl, rfl⟩
  refine ⟨p, (nzs w).map (fun n => ((n : Nat) : Int)) ++ [-1], rfl, SqL.of (by rw [List.map_append, ← iv_ints]; exact h2), by simp, fun m h1 h3 => ?_⟩
  rw [last_max h1 h3]
  exact q _ _ e2 rfl
theorem ev_neg1 : EvN (tLst (tCons (tUn (rU fun i => .int (-i)) (tC (.int 1))) tNil)) σ H (fun us _ => us = [.int (-1)]) := fun H1 _ Q q => ⟨1, rfl, by show 1 ≤ sizeLine; decide, fun p hp => q p _ _ hp (Ex.new hp) upd_same rfl⟩
end
section
variable {P : Program} {w : World} {K : PySem.W.Frag} {mg : Str → Option Value} {base : Heap}
def spHeavier : Sp := fun vs H Q _ => ∃ (ws : List W) (p : Nat) (x : V), vs = [x, .int ((p : Nat) : Int)] ∧ WL H ws x ∧ (∀ w ∈ ws, w.length ≤ 20) ∧ ws.length ≤ 300 ∧ 0 < p ∧ p ≤ 10 ∧ Ret (IsWL (heavierW ws p)) H Q
abbrev nHeavier : List Str := ["words", "p", "found", "word", "last", "at", "a", "k"]
theorem scHeavier : FnScope nHeavier ["words", "p"] (defScope sHeavier) := ⟨rfl, rfl, rfl, by decide +kernel, rfl, by decide +kernel, by decide +kernel⟩
def HvInv (H : Hp) (x : V) (p : Nat) (ls : List W) (σ' : L2.St) (H' : Hp) : Prop :=
  Ex H H' ∧ ∃ (lf : Addr) (uf : List V) (z3 z4 z5 z6 : Option V), σ' = [some x, some (.int ((p : Nat) : Int)), some (.ref lf), z3, z4, z5, z6, none] ∧ H lf = none ∧ H' lf = some (.lst uf) ∧ Wds H' ls uf
def HvIn2 (H : Hp) (x y : V) (p : Nat) (l : Int) (lf : Addr) (ls : List W) (σ' : L2.St) (H' : Hp) : Prop :=
  Ex H H' ∧ ∃ (uf : List V) (z5 z6 : Option V), σ' = [some x, some (.int ((p : Nat) : Int)), some (.ref lf), some y, some (.int l), z5, z6, none] ∧ H' lf = some (.lst uf) ∧ Wds H' ls uf
def HvIn3 (H : Hp) (x y : V) (p : Nat) (l : Int) (c : Nat) (lf : Addr) (ls : List W) (σ' : L2.St) (H' : Hp) : Prop :=
  Ex H H' ∧ ∃ (uf : List V) (z6 : Option V), σ' = [some x, some (.int ((p : Nat) : Int)), some (.ref lf), some y, some (.int l), some (.int ((c : Nat) : Int)), z6, none] ∧ H' lf = some (.lst uf) ∧ Wds H' ls uf
theorem ok_heavier {f : Addr} {fd : FuncData} (F : Fun K "heavier" "heavier" sHeavier f fd) (B : Blt mg) : FnOk P w K mg base CX0 1 f fd ["words", "p"] spHeavier := by
  refine F.ok scHeavier (fun vs H Q E h => ?_) (fun cdv A outer s H vs Q E hr h => ?_)
  · obtain ⟨ws, p, x, rfl, _⟩ := h
    rfl
  · obtain ⟨ws, p, x, rfl, hx, hok, h300, hp0, hp, k⟩ := h
    obtain ⟨la, us, rfl, hla, hws⟩ := hx
    refine ⟨_, pss_cons (ps_set (i := 2) scHeavier.nd rfl (Or.inl rfl) (pe_lst pa_nil))
      (pss_cons (ps_for PassesOwn.never rfl (pi_list (pv 0)) (pg_name (i := 3) scHeavier.nd rfl (Or.inr rfl))
        (pss_cons (ps_set (i := 4) scHeavier.nd rfl (Or.inl rfl) (pe_callB (cr_max rfl) (by rfl) B.max PyProof.Rows.boot_max (pa_cons (pe_op op_cat
            (pe_lc (own := [("k", 7)]) (g := gName 7) (tt := tTest (tOp rNe (tOp (rIxT K) (tVar 3) (tVar 7)) (tC (.int 0)))) rfl scHeavier.nd (pi_range1 (by rfl) B.range (pa_cons (pe_callB cr_len (by rfl) B.len PySem.boot_len (pa_cons (pv 3) pa_nil)) pa_nil))
              (blkOk_by (own := [("k", 7)]) (N := nHeavier) (sc := defScope sHeavier) (by decide +kernel)) (fun _ _ _ _ _ => pg_name (i := 7) scHeavier.nd rfl (Or.inl rfl)) (fun _ _ _ _ _ => pts_one (pt_cmpR op_ne (pe_ix (r := rIxT K) ix_tup (pv 3) (pv 7) (fun _ _ => rfl)) pe_int (nomark _)))
              (fun _ _ _ _ _ => pv 7)) (pe_lst (pa_cons (pe_un un_neg pe_int) pa_nil))) pa_nil)))
        (pss_one (ps_for PassesOwn.never rfl (pi_range2 (by rfl) B.range (pa_cons (pe_op op_add (pv 4) pe_int) (pa_cons (pe_callB cr_len (by rfl) B.len PySem.boot_len (pa_cons (pv 3) pa_nil)) pa_nil))) (pg_name (i := 5) scHeavier.nd rfl (Or.inl rfl))
          (pss_one (ps_for PassesOwn.never rfl (pi_range2 (by rfl) B.range (pa_cons pe_int (pa_cons (pv 1) pa_nil))) (pg_name (i := 6) scHeavier.nd rfl (Or.inl rfl))
            (pss_one (ps_expr (pe_bm PySem.F.plainAttrs_list PySem.F.slot_list_append PySem.F.type_list_append mt_append (pv 2) (pa_cons
              (pe_op op_catA (pe_op op_catA (pe_slice sl_tupA (pv 3) po_none (po_some (pv 5))) (pe_tup (pa_cons (pv 6) pa_nil))) (pe_slice sl_tupA (pv 3) (po_some (pe_op op_add (pv 5) pe_int)) po_none)) pa_nil))))))))))
      (pss_one (ps_ret (pv 2)))), ?_⟩
    refine q_asgN (PN := fun us _ => us = []) ev_nilL fun lf uf H2 nf x2 hlf hf0 => ?_
    subst hf0
    have hz : us.length = ws.length := (pair_len hws).symm
    have lenI : ∀ i, (heavierW (ws.take i) p).length ≤ 60000 := fun i => by
      have h1 := heavierW_len (p := p) (n := 20) (ws := ws.take i) fun w hw => hok w (List.mem_of_mem_take hw)
      have h2 : (ws.take i).length ≤ 300 := by
        rw [List.length_take]
        omega
      have h3 : (ws.take i).length * (20 * (p - 1)) ≤ 300 * (20 * 9) := Nat.mul_le_mul h2 (Nat.mul_le_mul_left _ (by omega))
      omega
    refine q_forL (a := la) (xs := us) (ev_v rfl) (x2 _ _ hla) (fun i => HvInv H (.ref la) p (heavierW (ws.take i) p)) (fun H3 x3 => ⟨x2.trans x3, lf, [], none, none, none, none, rfl, nf, x3 _ _ hlf, .nil⟩) (fun i σ' H' _ q => q.1 _ _ hla) ?_ ?_
    · rintro i y σ' H' hy ⟨e, lf, uf, z3, z4, z5, z6, rfl, n1, hf, wf⟩
      obtain ⟨w, hw, hyw⟩ := pair_get hws hy
      have hwl : w.length ≤ 20 := hok w (List.mem_of_getElem? hw)
      have hll := lastW_le w
      refine q_asg (P := IsI (((lastW w : Nat) : Int) - 1)) (ev_last ?_ ev_neg1 (by omega)) fun v H3 x3 ev => ?_
      · refine (lc_r (n := w.length) (R := RN) (fun i => w.getD i 0 != 0) (fun i => i) rn_mono ?_ (by omega) (fun _ => rfl) (fun i H1 e1 hi => ?_) (fun i H1 e1 hi _ => ev_v rfl)).imp fun us H1 _ q => ?_
        · exact ea_n (ev_lenW (ev_w rfl (hyw.ex e)))
        · refine eb_is (eb_T (ev_ne (x := .int ((w.getD i 0 : Nat) : Int)) (y := .int 0) (ev_wix (ev_w rfl (hyw.ex (e.trans e1))) (ev_v rfl) hi) ev_c rfl)) ?_
          by_cases h0 : w.getD i 0 = 0
          · rw [h0]; rfl
          · rw [decide_eq_false (fun z => h0 (by injection z with z; omega))]
            rw [bne_iff_ne.mpr h0]
            rfl
        · rw [rn_iv q, List.map_id']
          rfl
      · subst ev
        have e3 := e.trans x3
        refine s_forR2 (lo := lastW w) (hi := w.length) (ea_nn ?_ (ev_lenW (ev_w rfl (hyw.ex e3)))) (by omega) hll (fun i2 => HvIn2 H (.ref la) y p (((lastW w : Nat) : Int) - 1) lf (heavierW (ws.take i) p ++ hv1 p w i2)) (fun H4 x4 => ⟨e3.trans x4, uf, z5, z6, rfl, x4 _ _ (x3 _ _ hf), ?_⟩) ?_ ?_
        · refine (ev_i2' (i := ((lastW w : Nat) : Int) - 1) (j := 1) (ev_v rfl) ev_c).imp fun v H4 _ q => ?_
          rw [q]
          show V.int _ = V.int _
          congr 1
          omega
        · show Wds H4 (heavierW (ws.take i) p ++ hv1 p w 0) uf
          rw [show hv1 p w 0 = [] from rfl, List.append_nil]
          exact Wds.tx ((TX.of x3).trans (TX.of x4)) wf
        · rintro i2 σ2 H4 hi2 ⟨e4, uf2, z5, z6, rfl, hf4, wf4⟩
          refine s_forR2 (lo := 1) (hi := p) (ea_nn ev_c (ev_v rfl)) (by omega) (by omega) (fun i3 => HvIn3 H (.ref la) y p (((lastW w : Nat) : Int) - 1) (lastW w + i2) lf ((heavierW (ws.take i) p ++ hv1 p w i2) ++ hv2 w (lastW w + i2) i3)) (fun H5 x5 => ⟨e4.trans x5, uf2, z6, rfl, x5 _ _ hf4, ?_⟩) ?_ ?_
          · show Wds H5 ((heavierW (ws.take i) p ++ hv1 p w i2) ++ hv2 w (lastW w + i2) 0) uf2
            rw [show hv2 w (lastW w + i2) 0 = [] from rfl, List.append_nil]
            exact Wds.tx (TX.of x5) wf4
          · rintro i3 σ3 H5 hi3 ⟨e5, uf3, z6, rfl, hf5, wf5⟩
            have hln : uf3.length < 100000 := by
              rw [← pair_len wf5, List.length_append, List.length_append, hv1_len, hv2_len]
              have h1 := lenI i
              have h2 : i2 * (p - 1) ≤ 20 * 9 := Nat.mul_le_mul (by omega) (by omega)
              omega
            refine s_app (P := IsW (w.set (lastW w + i2) (1 + i3))) hf5 (ev_v rfl) ?_ hln fun v H6 x6 hv => ?_
            · rw [← set_cut w (lastW w + i2) (1 + i3) hi2]
              refine ev_catW (ev_catW (ev_cutHi (ev_w rfl (hyw.ex e5)) (ev_v rfl) (by omega)) (ev_one (ev_v rfl)) (by rw [List.length_take]; omega) (by show 1 ≤ 1000; omega)) (ev_cutLo (ev_w rfl (hyw.ex e5)) ?_ (by omega)) (by rw [List.length_append, List.length_take]; simp; omega) (by rw [List.length_drop]; omega)
              exact (ev_i2' (i := ((lastW w + i2 : Nat) : Int)) (j := 1) (ev_v rfl) ev_c).imp fun v H6 _ q => q
            · have hf6 := x6 _ _ hf5
              have tx6 : TX H6 (upd H6 lf (.lst (uf3 ++ [v]))) := TX.updL hf6
              refine ⟨Ex.mut (e5.trans x6) n1, _, _, rfl, upd_same, ?_⟩
              rw [hv2_succ, ← List.append_assoc]
              exact pair_snoc (Wds.tx ((TX.of x6).trans tx6) wf5) (hv.tx tx6)
          · rintro σ3 H5 ⟨e5, uf3, z6, rfl, hf5, wf5⟩
            refine ⟨e5, uf3, _, _, rfl, hf5, ?_⟩
            rw [hv1_succ, ← List.append_assoc]
            exact wf5
        · rintro σ2 H4 ⟨e4, uf2, z5, z6, rfl, hf4, wf4⟩
          refine ⟨e4, lf, uf2, _, _, _, _, rfl, n1, hf4, ?_⟩
          rw [heavier_take p hw]
          exact wf4
    · rintro σ' H' ⟨e, lf, uf, z3, z4, z5, z6, rfl, n1, hf, wf⟩
      rw [hz, List.take_length] at wf
      exact ⟨_, rfl, k _ H' e ⟨lf, uf, rfl, hf, wf⟩⟩
theorem ev_heavier {σ : L2.St} {H : Hp} {ta tb : TE} {E : XK} {ws : List W} {p : Nat} (h : EvP ta σ H (IsWL ws)) (h' : EvP tb σ H (IsN p)) (hok : ∀ w ∈ ws, w.length ≤ 20) (h300 : ws.length ≤ 300) (hp0 : 0 < p) (hp : p ≤ 10) :
    EvP (tCall spHeavier [] E (tCons ta (tCons tb tNil))) σ H (IsWL (heavierW ws p)) :=
  ev_call (ea_2 h h' fun _ _ _ e q => WL.ex e q) fun vs H1 e ⟨v, u, ev, q1, q2⟩ Q q => ⟨ws, p, v, by rw [ev, q2]; rfl, q1, hok, h300, hp0, hp, q⟩
end
end K21

set_option maxRecDepth 100000
set_option maxHeartbeats 4000000
/-! K21Exc: Refused(reason): made, raised, its reason read. -/
namespace K21
def sRinit : PySem.Stmt := L2.inClass (top 4) 0
end K21
namespace PySem
namespace RefX
open PySem.W PySem.Calls PyProof.Rows PySem.HandSPX
open K21 (sRinit)
abbrev rEnv (L f : Addr) (cda : Addr) (cc : Addr) : Env := ksEnv "Refused.__init__" (L2.defScope sRinit) L f (.ref cda) cc
/-- what the written part says of Refused, at C, and of its __init__, at fI -/
structure RefTxt (P : Program) (K : Frag) (mg : Str → Option Value) (C fI : Addr) : Prop where
  gC : mg "Refused" = some (.ref C)
  gS : mg "super" = none
  cls : ∃ nm q N bs bm sn sub ab col dd k0 k1 k2 k3 k5, K.lookup C = some (excClassObj nm q C N bs bm true sn sub ab col dd k0 k1 k2 k3 k5 "ValueError.__new__") ∧ refsVE bm = true
  sa : findIn K (.ref C) "__setattr__" = some (some (.builtin "object.__setattr__"))
  xf : L2.XfC K C
  noN : findIn K (.ref C) "reason" = some none
  iC : findIn K (.ref C) "__init__" = some (some (.ref fI))
  tC : typeIn K (.ref fI) = some (.type "function")
  kC : keepIn K (.ref C) = true
  tyC : typeIn K (.ref C) = some (.type "type")
  te : exmOne K (.ref C) (.ref C) = some true
  sup : ks_superIn K C C "__init__" = some (some (.builtin "ValueError.__init__"))
  veC : subIn K (.ref C) (.type "ValueError") = some true
  selfC : mroIn K C (.ref C) = some true
  opq : nsIn K cStatics "thirdparty.any" = some none
  top : (P.main.scope.names.lookup ("super" : Str)).isSome = false
  fn : ∃ (oc : Value) (od : Option Addr) (doc pm : Value) (an : Option Addr) (cda cc : Addr) (ct : Value) (osl : Array (Option Value)) (ccl : Value) (cdd : Option Addr) (vs : Array Value) (ccs : Array (Option Value)) (file : Str) (tf : Tok) (cl : Value) (cld : Option Addr) (csl : Array (Option Value)),
    K.lookup fI = some ⟨oc, od, .func (ksFn "__init__" "Refused.__init__" (L2.defArgs sRinit) (L2.defBody sRinit) (L2.defScope sRinit) .none .none doc pm an (.ref cda) ct cc), osl⟩ ∧ codeIn K (.ref cda) "Refused.__init__" = true ∧
    K.lookup cda = some ⟨ccl, cdd, .fields vs, ccs⟩ ∧ vs[2]? = some (.str file tf) ∧ ((P.main.file : Str) == file) = true ∧ K.lookup cc = some ⟨cl, cld, .cell (some (.ref C)), csl⟩
theorem one_size (v : Value) : [v].length ≤ sizeLine := by
  rw [sizeLine_eq]
  exact (by decide : 1 ≤ 16777216)
/-- what __init__ leaves of a fresh exception at x -/
structure InitEnd (h h' : Heap) (x C dx t1 : Addr) (v : Value) : Prop where
  keep : ∀ b o, b ≠ x → h.get? b = some o → h'.get? b = some o
  obj : h'.get? x = some { cls := .ref C, dict := some dx, data := .fields #[.ref t1, .none, .none, .none, .bool false, .none] }
  dbig : h.objs.size ≤ dx
  dne : dx ≠ x
  ns : h'.Ns1 dx (fun y => if y = "reason" then some v else none)
/-- a made Refused -/
structure OwnMade (h h' : Heap) (e C d : Addr) (v : Value) : Prop where
  keep : ∀ b o, h.get? b = some o → h'.get? b = some o
  new : h.objs.size ≤ e
  obj : ∃ oe vs, h'.get? e = some oe ∧ oe.cls = .ref C ∧ oe.dict = some d ∧ oe.data = .fields vs ∧ vs[1]? = some .none
  dbig : h.objs.size ≤ d
  dne : d ≠ e
  ns : h'.Ns1 d (fun y => if y = "reason" then some v else none)
section
variable {prog : Program} {w : World} {A : Around} {E : Value → Shared → Prop} {R : Result → Shared → Prop} {s : Shared} {K : Frag} {mg mb : Str → Option Value} {C fI : Addr}
theorem ref_init (T : RefTxt prog K mg C fI) {x t0 : Addr} {v : Value} (X : K.In s.heap) (hlim : s.heap.NoLimit) (G : s.heap.Ns mainGlobals mg) (B : s.heap.Ns builtinsNs mb) (hb : mb "super" = bootBuiltins "super") (hx : s.heap.get? x = some (excO C t0)) (hnx : K.lookup x = none) (hroom : A.depth < recursionLimit)
    (hq : ∀ h' tk dx t1, InitEnd s.heap h' x C dx t1 v → R (.ok (.ret .none)) { s with heap := h', toks := tk }) :
    codeAny (model prog w) A (.call (.ref fI) ⟨[.ref x, v], []⟩) R s := by
  obtain ⟨oc, od, doc, pm, an, cda, cc, ct, osl, ccl, cdd, vs, ccs, file, tf, cl, cld, csl, ho, hcd, hcda, hvs, hfile, hcell⟩ := T.fn
  obtain ⟨nm, q, N, bs, bm, sn, sub, ab, col, dd, k0, k1, k2, k3, k5, hC, hbm⟩ := T.cls
  have hcl : clsIn K C = some { name := nm, bases := bs, mro := .ref C :: bm, ns := N, qualname := q, hasDict := true, slotNames := sn, subclasses := sub, abstract := ab, collection := col, hasDel := false } := by unfold clsIn; rw [hC] <;> rfl
  have hCx : x ≠ C := fun z => by rw [← z] at hC; rw [hnx] at hC; cases hC
  refine ks_codeAny_call_defAt (fd := ksFn "__init__" "Refused.__init__" (L2.defArgs sRinit) (L2.defBody sRinit) (L2.defScope sRinit) .none .none doc pm an (.ref cda) ct cc) (body := L2.defBody sRinit) (binds := [("self", .ref x), ("reason", v)]) hroom (X _ _ ho) rfl hlim (codeRec_of X hcd) rfl (BindsTo.of_eq rfl)
    (show ∀ x ∈ (L2.defScope sRinit).names, x.2 ≠ .cell by decide +kernel) (locs rfl) (fun h₁ hn k => ?_) rfl rfl rfl
  obtain ⟨hp, g, d, t, os⟩ := s
  have X₁ : K.In h₁ := X.keeps k
  have hx₁ := k _ _ hx
  show _root_.PySem.wpAt (model prog w) (A.deeper (rEnv hp.objs.size fI cda cc)) (.func (L2.defBody sRinit) (rEnv hp.objs.size fI cda cc)) (execs (L2.defBody sRinit) (rEnv hp.objs.size fI cda cc)) _ _ ⟨h₁, g, d, t + 2, os⟩
  refine ks_wpAt_execs_cons (ks_wpAt_Expr_any (ks_wpAt_MethodCall ?_ rfl) rfl rfl)
  refine ks_wpAt_super_base (env := rEnv hp.objs.size fI cda cc) rfl rfl rfl rfl (X₁ _ _ ho) rfl rfl rfl (X₁ _ _ hcda) rfl hvs hfile T.top ?_
  refine ks_loadName_global rfl rfl (Calls.loadGlobal_builtin (env := rEnv hp.objs.size fI cda cc) (G.keeps k) T.gS (B.keeps k) (hb.trans PyProof.Rows.Boot.super) ⟨rfl, ?_⟩)
  refine wpAny_loadName_free rfl rfl rfl ⟨_, X₁ _ _ hcell, rfl⟩ ?_
  refine wpAny_loadName_local (v := .ref x) rfl rfl hn rfl ?_
  refine ks_wpAny_isType_cls (X₁ _ _ hC) rfl ⟨rfl, ?_⟩
  refine ks_wpAny_call_super (X₁ _ _ hC) rfl hx₁ rfl (fun c e => by cases e) (looks_mroIn X₁ T.selfC) (fun h2 e2 k2 => ?_)
  have X₂ : K.In h2 := X₁.keeps k2
  have hx2 := k2 _ _ hx₁
  have I2 : W.InstAt h2 x (excO C t0) C none := ⟨hx2, rfl, rfl, trivial⟩
  have hm := T.sup
  unfold ks_superIn at hm
  rw [hcl] at hm
  refine kxs_getMethod kxs_ValueError (l₀ := .ref C :: bm) e2 (looks_opaque X₂ T.opq) (fun A Q E s k q => wpAny_bind ((looks_clsIn X₂ hcl) A _ E s k (wpAny_pure q))) rfl X₂ hm (I2.type.andThen (looks_subIn X₂ T.veC)) hCx rfl ?_
  have k3 : ∀ b o, h2.get? b = some o → (h2.push (kxs_mw "ValueError.__init__" x)).get? b = some o := fun b o e => Heap.get?_push_of_some _ e
  have hu : (h2.push (kxs_mw "ValueError.__init__" x)).get? h2.objs.size = some (kxs_mw "ValueError.__init__" x) := Heap.get?_push_size _ rfl
  refine kxs_callWith (i := "ValueError.__init__") (x := x) rfl (Calls.evalArgs_plain (Calls.spliced_cons ?_))
  refine wpAny_Name (wpAny_loadName_local (v := v) rfl rfl (hn.keeps fun b o e => k3 b o (k2 b o e)) rfl (Calls.spliced_nil ⟨hu, ?_⟩)) rfl
  show wpAny _ _ (call (.ref h2.objs.size) [v]) _ _ _
  refine wpAny_call (codeAny_of_tree ?_)
  show wpAny _ _ (callAny (.ref h2.objs.size) ⟨[v], []⟩) _ _ _
  simp only [callAny]
  refine wpAny_bind (wpAny_load hu ?_)
  simp only [kxs_mw, show (Value.type "method-wrapper" == Value.type "method" || Value.type "method-wrapper" == Value.type "builtin_function_or_method" || Value.type "method-wrapper" == Value.type "method-wrapper") = true by decide, if_true]
  refine KFB.if_so (by decide) ?_
  refine wpAny_bind (check_bound_init F.excBase_ValueError.toExcCallFacts (k3 _ _ (k2 _ _ (k _ _ (X _ _ hC)))) (k3 _ _ hx2) rfl ?_)
  refine wpAny_bind (wpAny_pure (wpAny_pure ?_))
  refine ⟨plainId_quiet F.excBase_ValueError.init.plain _, codeAny_builtin F.excBase_ValueError.initEntry ?_⟩
  refine exc_init_tree (cls := .ref C) (t0 := t0) (dv := none) (c2 := .none) (c3 := .none) (b4 := .bool false) (k3 _ _ hx2) (one_size v) fun h4 k4 hx4 _ => ?_
  refine wpAt_of_wpAny ?_
  have hne : hp.objs.size ≠ x := Nat.ne_of_gt (Heap.lt_size hx)
  have kk : ∀ b o, b ≠ x → hp.get? b = some o → h4.get? b = some o := fun b o hb e => k4 b o hb (k3 b o (k2 b o (k b o e)))
  have X₄ : K.In h4 := fun b o e => kk b o (fun z => by rw [z, hnx] at e; cases e) (X b o e)
  have hn4 : h4.Ns hp.objs.size (fun y => ([("self", .ref x), ("reason", v)] : List (Str × Value)).reverse.lookup y) := by
    obtain ⟨o, es, ep, ho, hr⟩ := hn
    exact ⟨o, es, ep, k4 _ _ hne (k3 _ _ (k2 _ _ ho)), hr⟩
  refine wpAny_execs_cons (plainObj_wpAny_Assign_Attribute ?_)
  refine wpAny_Name (wpAny_loadName_local (v := v) rfl rfl hn4 rfl ?_) rfl
  refine wpAny_Name (wpAny_loadName_local (v := .ref x) rfl rfl hn4 rfl ?_) rfl
  refine set_plain X₄ (od := none) ⟨hx4, rfl, rfl, trivial⟩ T.sa ?_
  refine exc_osa X₄ hx4 hcl (show refsVE (.ref C :: bm) = true from hbm) rfl T.noN (fun h₅ tk₅ dx k₅ dn dne hx₅ hn₅ => ?_)
  show wpAny _ _ (execs _ _) _ _ _
  have sz : hp.objs.size < h4.objs.size := hn4.lt
  exact wpAny_execs_nil (hq h₅ tk₅ dx _ ⟨fun b o hb e => k₅ b o hb (kk b o hb e), hx₅, Nat.le_of_lt (Nat.lt_of_lt_of_le sz dn), dne, hn₅⟩)
theorem ref_made (T : RefTxt prog K mg C fI) {v : Value} (X : K.In s.heap) (hlim : s.heap.NoLimit) (G : s.heap.Ns mainGlobals mg) (B : s.heap.Ns builtinsNs mb) (hb : mb "super" = bootBuiltins "super") (hroom : A.depth + 1 < recursionLimit)
    (hq : ∀ h' tk e d, OwnMade s.heap h' e C d v → R (.ok (.ret (.ref e))) { s with heap := h', toks := tk }) :
    codeAny (model prog w) A (.call (.ref C) ⟨[v], []⟩) R s := by
  obtain ⟨nm, q, N, bs, bm, sn, sub, ab, col, dd, k0, k1, k2, k3, k5, hC, hbm⟩ := T.cls
  obtain ⟨hp, g, dr, tk, os⟩ := s
  have k : ∀ b o, hp.get? b = some o → ((hp.push (kdv_tup [v])).push (excO C hp.objs.size)).get? b = some o := fun b o e => Heap.get?_push_of_some _ (Heap.get?_push_of_some _ e)
  have hget : ((hp.push (kdv_tup [v])).push (excO C hp.objs.size)).get? (hp.objs.size + 1) = some (excO C hp.objs.size) := by heap_get
  have hnx : K.lookup (hp.objs.size + 1) = none := by
    cases e : K.lookup (hp.objs.size + 1) with
    | none => rfl
    | some o =>
      have z : hp.get? (hp.objs.size + 1) = some o := X _ _ e
      exact absurd (Nat.lt_of_succ_lt (Heap.lt_size z)) (Nat.lt_irrefl _)
  refine call_own F.excBase_ValueError (fun X => refsVE_contains X bm hbm) (X _ _ hC) (looks_findIn X T.iC) (fun self => bind_fn X self T.tC) (one_size v) ?_
  refine ref_init (s := ⟨(hp.push (kdv_tup [v])).push (excO C hp.objs.size), g, dr, tk, os⟩) T (X.keeps k) (hlim.keeps k) (G.keeps k) (B.keeps k) hb hget hnx ?_ fun h' tk' dx t1 ⟨k', hx, dn, dne, hns⟩ => ?_
  · show A.depth + 1 < recursionLimit
    exact hroom
  · have old : ∀ b o, hp.get? b = some o → h'.get? b = some o := fun b o e => k' b o (Nat.ne_of_lt (Nat.lt_succ_of_lt (Heap.lt_size e))) (k b o e)
    have z : hp.objs.size + 1 + 1 ≤ dx := by
      first
        | (simpa only [Heap.size_push] using dn)
        | exact dn
        | (have q := dn; rw [Heap.size_push, Heap.size_push] at q; exact q)
    exact ⟨rfl, hq h' tk' (hp.objs.size + 1) dx ⟨old, Nat.le_succ _, ⟨_, _, hx, rfl, rfl, rfl, rfl⟩, Nat.le_trans (Nat.le_trans (Nat.le_succ _) (Nat.le_succ _)) z, dne, hns⟩⟩
end
end RefX
end PySem
namespace K21
open PySem L2 PySem.Spec PyProof.Rows
theorem relO_ref {v : V} {v' : Value} (r : RelV v v') (f : Str) : RelO (List.lookup f [(("reason" : Str), v)]) (if f = "reason" then some v' else none) := by
  by_cases hw : f = "reason"
  · subst hw
    rw [if_pos rfl]
    have q : List.lookup ("reason" : Str) [(("reason" : Str), v)] = some v := by simp [List.lookup]
    rw [q]
    exact r
  · rw [if_neg hw]
    have qw : (f == ("reason" : Str)) = false := by simpa using hw
    have q2 : List.lookup f [(("reason" : Str), v)] = none := by simp [List.lookup, qw]
    rw [q2]
    trivial
section
variable {X : Cx} {C fI : Addr}
/-- Refused(e) -/
def tMkRef (C : Addr) (ta : TA) : L2.St → Hp → XK → Prop := fun σ H Q => ta σ H fun vs H1 => ∃ v, vs = [v] ∧ ∀ d, H1 d = none → Q (.ref C) (some d) (L2.upd H1 d (.xd [(("reason" : Str), v)]))
theorem pmk_ref {a : Expr} {ta : TA} {p pos : Pos} {k : Nat} (T : PySem.RefX.RefTxt X.prog X.K X.mg C fI) (hr : Room k X.A) (ha : PA X [a] ta) (hg : Gl X "Refused" := by rfl)
    (he : starEach (a :: []) X.env = (false, eval a X.env) :: starEach [] X.env := by rfl) (hpl : (backTo pos (starEach [] X.env)).any (·.1) = false := by rfl) :
    PMk X (.Call (.Name "Refused" p) [a] [] pos) (tMkRef C ta) := by
  intro pins s σ H Q I h
  refine wpAny_Call_Name_kw (ld_glob I hg T.gC ?_)
  refine PySem.W.callWith_K (h₀ := X.base) I.ok.mod.kin T.kC (thn (ha.run pos pins s σ H _ I h) fun us s1 hh => ?_) he hpl
  obtain ⟨vs, H1, I1, r1, v, ev, q1⟩ := hh
  subst ev
  refine ⟨I1.kIn, ?_⟩
  cases r1 with
  | cons rv rn =>
    rename_i v' us'
    cases rn
    show wpAny _ _ (call (.ref C) [v']) _ _ _
    have hlim := I1.nolimit
    obtain ⟨mb, b1, b2⟩ := I1.mod.blt
    have G := I1.mod.glob.keeps I1.bk
    have Bn := b1.keeps I1.bk
    obtain ⟨hp, g, dr, tk, os⟩ := s1
    refine wpAny_call (PySem.RefX.ref_made T I1.kIn hlim G Bn (b2 "super" (by decide)) (by have := hr.dp; omega) fun h' tk' e d M => ?_)
    show MkP X pins σ Q (.ref e) ⟨h', g, dr, tk', os⟩
    obtain ⟨oe, fv, hoe, hc, hd, hdat, h1⟩ := M.obj
    have hns := M.ns
    obtain ⟨G', g1, g2⟩ := restrict h' fun b => decide (b ≠ e)
    have gk : ∀ b, b ≠ e → G'.get? b = h'.get? b := fun b hb => g1 b (decide_eq_true hb)
    have ge : G'.get? e = none := g2 e (by simp)
    have old : ∀ b o, hp.get? b = some o → G'.get? b = some o := fun b o q => (gk b (Nat.ne_of_lt (Nat.lt_of_lt_of_le (Heap.lt_size q) M.new))).trans (M.keep b o q)
    have ob : ObjOk X.prog X.w (L2.upd H1 d (.xd [(("reason" : Str), v)])) G' d (.xd [(("reason" : Str), v)]) :=
      ⟨_, hns.at (fun o q => (gk d M.dne).trans q), fun f => relO_ref rv f⟩
    have J : Inv X pins σ (L2.upd H1 d (.xd [(("reason" : Str), v)])) ⟨G', g, dr, tk', os⟩ := I1.laid (t' := tk') old M.dbig ob
    refine ⟨e, oe, fv, ⟨G', g, dr, tk', os⟩, _, .ref C, some d, rfl, J, fun b o q => ?_, ge, hoe, ⟨hc, hd⟩, hdat, h1, ?_, rfl, I1.bare, raises_own T.xf.exC T.tyC, q1 d (I1.hok.fresh M.dbig)⟩
    · by_cases hb : b = e
      · have q' : G'.get? b = some o := q
        rw [hb, ge] at q'; cases q'
      · exact (gk b hb).symm.trans q
    · rw [L2.upd_ne (Ne.symm M.dne)]
      exact I1.hok.fresh M.new
/-- raise Refused(e) -/
def tRaiseRef (C : Addr) (W : WX) (ta : TA) : TS := fun _ σ H => tMkRef C ta σ H fun cls d H' => W cls d σ H'
theorem ps_raiseRef {a : Expr} {ta : TA} {W : WX} {p pos pos2 : Pos} {k : Nat} (hc : X.calm = true) (T : PySem.RefX.RefTxt X.prog X.K X.mg C fI) (hr : Room k X.A) (tk : Takes X W) (ha : PA X [a] ta) (hg : Gl X "Refused" := by rfl)
    (he : starEach (a :: []) X.env = (false, eval a X.env) :: starEach [] X.env := by rfl) (hpl : (backTo pos (starEach [] X.env)).any (·.1) = false := by rfl) :
    PS X (.Raise (some (.Call (.Name "Refused" p) [a] [] pos)) none pos2) (tRaiseRef C W ta) := ps_raise hc tk (pmk_ref T hr ha hg he hpl)
end
end K21

set_option maxRecDepth 100000
set_option maxHeartbeats 4000000
/-! K21D6: check_prime, Code.__init__, Code.size, Code.checks. -/
namespace K21
open PySem L2
open Evl (Ex)
abbrev sPrime : Stmt := top 31
abbrev sCinit : Stmt := inClass (top 32) 0
abbrev sSize : Stmt := inClass (top 32) 3
abbrev sChecks : Stmt := inClass (top 32) 6
def cf (p n k : Nat) (r v : V) : List (Str × V) := [("p", .int ((p : Nat) : Int)), ("n", .int ((n : Nat) : Int)), ("rows", r), ("k", .int ((k : Nat) : Int)), ("_pivots", v)]
/-- the code of the table t stands at a -/
def CodeAt (C : Addr) (H : Hp) (p n : Nat) (t : List W) (a : Addr) : Prop := ∃ dx vr vp, H a = some (.ins C dx (cf p n t.length vr vp)) ∧ WT H t vr
theorem CodeAt.ex {C : Addr} {H H' : Hp} {p n : Nat} {t : List W} {a : Addr} (e : Ex H H') (h : CodeAt C H p n t a) : CodeAt C H' p n t a := by
  obtain ⟨dx, vr, vp, h1, h2⟩ := h
  exact ⟨dx, vr, vp, e _ _ h1, h2.tx (TX.of e)⟩
structure CodeC (K : PySem.W.Frag) (C : Addr) : Prop where
  cl : Cls K C
  nP : NoAttr K C "p"
  nN : NoAttr K C "n"
  nR : NoAttr K C "rows"
  nK : NoAttr K C "k"
  nV : NoAttr K C "_pivots"
/-- the module's constants -/
structure Cst (K : PySem.W.Frag) (mg : Str → Option Value) : Prop where
  primes : ∃ a, mg "PRIMES" = some (.ref a) ∧ ∀ H, SqT K H a (iv [2, 3, 5, 7])
  len : ∃ t, mg "MOST_LENGTH" = some (.int 12 t)
  words : ∃ t, mg "MOST_WORDS" = some (.int 4096 t)
  cosets : ∃ t, mg "MOST_COSETS" = some (.int 4096 t)
section
variable {K : PySem.W.Frag} {σ : L2.St} {H : Hp} {ta tb te : TE} {D : Ends} {u : TS} {C : Addr}
theorem ev_fld {a dx : Addr} {fs : List (Str × V)} {f : Str} {v : V} {P : PV} (h : EvP ta σ H (Is (.ref a))) (ha : H a = some (.ins C dx fs)) (c : Cls K C) (n : NoAttr K C f) (l : fs.lookup f = some v) (p : ∀ H1, Ex H H1 → P v H1) : EvP (tFld K ta f) σ H P := fun H1 e Q q =>
  h H1 e _ fun x H2 e2 ex => ⟨a, C, dx, fs, v, ex, (e.trans e2) _ _ ha, c, n, l, q v H2 e2 (p H2 (e.trans e2))⟩
variable {p n : Nat} {t : List W} {a : Addr}
theorem ev_cp (h : EvP ta σ H (Is (.ref a))) (c : CodeC K C) (ca : CodeAt C H p n t a) : EvP (tFld K ta "p") σ H (IsN p) := by
  obtain ⟨dx, vr, vp, h1, h2⟩ := ca
  exact ev_fld h h1 c.cl c.nP rfl fun _ _ => rfl
theorem ev_cn (h : EvP ta σ H (Is (.ref a))) (c : CodeC K C) (ca : CodeAt C H p n t a) : EvP (tFld K ta "n") σ H (IsN n) := by
  obtain ⟨dx, vr, vp, h1, h2⟩ := ca
  exact ev_fld h h1 c.cl c.nN rfl fun _ _ => rfl
theorem ev_ck (h : EvP ta σ H (Is (.ref a))) (c : CodeC K C) (ca : CodeAt C H p n t a) : EvP (tFld K ta "k") σ H (IsN t.length) := by
  obtain ⟨dx, vr, vp, h1, h2⟩ := ca
  exact ev_fld h h1 c.cl c.nK rfl fun _ _ => rfl
theorem ev_cr (h : EvP ta σ H (Is (.ref a))) (c : CodeC K C) (ca : CodeAt C H p n t a) : EvP (tFld K ta "rows") σ H (IsWT t) := by
  obtain ⟨dx, vr, vp, h1, h2⟩ := ca
  exact ev_fld h h1 c.cl c.nR rfl fun H1 e => h2.tx (TX.of e)
/-- not in a tuple of numbers of the written part -/
theorem eb_notinK {i : Nat} {l : List Nat} (h : EvP ta σ H (IsN i)) (ht : EvP tb σ H (Is (.ref a))) (hl : ∀ H, SqT K H a (iv l)) : EvB (tTest (tOp (rIn K true) ta tb)) σ H (!l.contains i) := fun H1 e Q q =>
  h H1 e _ fun v H2 e2 p => ht H2 (e.trans e2) _ fun y H3 e3 r => by
    subst p
    exact ⟨a, iv l, r, .inr (hl H3), rfl, flat_iv l, _, rfl, by
      show Q (if true = true then !inV _ (iv l) else _) H3
      rw [if_pos rfl, inV_iv]
      exact q H3 (e2.trans e3)⟩
/-- isinstance(x, (list, tuple)) -/
theorem ev_isLT {te : TE} {ty : String} {P : PV} (h : EvP te σ H P) (hty : ∀ v H1, P v H1 → TyX K H1 v (.type ty)) (m : ∀ v H1 H2, Ex H1 H2 → P v H1 → P v H2) (hk : PySem.W.kitAny K (.type ty) [.type "list", .type "tuple"] = some true) :
    EvP (tCB (rIsiT K) (tCons te (tCons (tTup (tCons (tC (.ty "list")) (tCons (tC (.ty "tuple")) tNil))) tNil))) σ H (IsB true) := fun H1 e Q q =>
  h H1 e _ fun v H2 e2 p => ⟨by show 2 ≤ sizeLine; decide, fun d hd => ⟨v, d, _, .type ty, [.type "list", .type "tuple"], true, rfl, upd_same, .cons (.ty _) (.cons (.ty _) .nil), hty _ _ (m _ _ _ (Ex.new hd) p), hk, q _ _ (e2.trans (Ex.new hd)) rfl⟩⟩
/-- for x in a tuple that stands -/
theorem q_forT {a : Addr} {xs : List V} {tl : TE} {j : Nat} {t1 : TS} (h : EvP tl σ H (Is (.ref a))) (hx : H a = some (.tup xs)) (Pv : Nat → L2.St → Hp → Prop) (h0 : ∀ H1, Ex H H1 → Pv 0 σ H1) (hl : ∀ i σ' H', i ≤ xs.length → Pv i σ' H' → H' a = some (.tup xs))
    (hs : ∀ (i : Nat) x σ' H', xs[i]? = some x → Pv i σ' H' → t1 { D with nx := Pv (i + 1), ct := Pv (i + 1), bk := u D } (σ'.set j (some x)) H') (hd : ∀ σ' H', Pv xs.length σ' H' → u D σ' H') : tSeq (tFor (iTup K tl) (gName j) t1) u D σ H :=
  h H (Ex.refl H) _ fun v H1 e ev => ⟨a, ev, ⟨xs, SqT.of (e a _ hx)⟩, for_tup (xs := xs) Pv (h0 H1 e) (fun i σ' H' hi p => SqT.of (hl i σ' H' hi p)) hs hd⟩
theorem q_forW1 {w1 w2 : TI} {g : TG} {t1 : TS} (h : tSeq (tFor w1 g t1) u D σ H) : tSeq (tFor (fun σ H R => w1 σ H R ∨ w2 σ H R) g t1) u D σ H := Or.inl h
theorem q_forW2 {w1 w2 : TI} {g : TG} {t1 : TS} (h : tSeq (tFor w2 g t1) u D σ H) : tSeq (tFor (fun σ H R => w1 σ H R ∨ w2 σ H R) g t1) u D σ H := Or.inr h
/-- e.f = v -/
theorem q_fld {a dx : Addr} {fs : List (Str × V)} {f : Str} {P : PV} (h : EvP te σ H P) (ho : EvP ta σ H (Is (.ref a))) (ha : H a = some (.ins C dx fs)) (c : Cls K C) (n : NoAttr K C f) (hz : fs.length < 1000)
    (k : ∀ v H1, Ex H H1 → (∃ H0, Ex H0 H1 ∧ P v H0) → u D σ (L2.upd H1 a (.ins C dx (putF f v fs)))) : tSeq (sFld K ta te f) u D σ H := h H (Ex.refl H) _ fun v H1 e1 p => ho H1 e1 _ fun x H2 e2 ex => ⟨a, C, dx, fs, ex, (e1.trans e2) _ _ ha, c, n, hz, k v H2 (e1.trans e2) ⟨H1, e2, p⟩⟩
theorem s_fld {a dx : Addr} {fs : List (Str × V)} {f : Str} {P : PV} (h : EvP te σ H P) (ho : EvP ta σ H (Is (.ref a))) (ha : H a = some (.ins C dx fs)) (c : Cls K C) (n : NoAttr K C f) (hz : fs.length < 1000)
    (k : ∀ v H1, Ex H H1 → (∃ H0, Ex H0 H1 ∧ P v H0) → D.nx σ (L2.upd H1 a (.ins C dx (putF f v fs)))) : sFld K ta te f D σ H := q_fld (u := fun D σ H => D.nx σ H) (D := D) h ho ha c n hz k
/-- f(..) as a statement -/
theorem q_exp {P : PV} (h : EvP te σ H P) (k : ∀ H1, Ex H H1 → u D σ H1) : tSeq (tDrop te) u D σ H := h H (Ex.refl H) _ fun _ H1 e _ => k H1 e
end
section
variable {P : Program} {w : World} {K : PySem.W.Frag} {mg : Str → Option Value} {base : Heap} {C : Addr}
/-! ### check_prime -/
def spPrime : Sp := fun vs H Q _ => ∃ p : Nat, vs = [.int ((p : Nat) : Int)] ∧ P7 p ∧ Ret (Is .non) H Q
theorem scPrime : FnScope ["p"] ["p"] (defScope sPrime) := ⟨rfl, rfl, rfl, by decide +kernel, rfl, by decide +kernel, by decide +kernel⟩
theorem p7_in {p : Nat} (h : P7 p) : [2, 3, 5, 7].contains p = true := by
  rcases h with h | h | h | h <;> subst h <;> rfl
theorem ok_prime {f fI : Addr} {fd fdI : FuncData} (F : Fun K "check_prime" "check_prime" sPrime f fd) (B : Blt mg) (T : Cst K mg) (FI : Fun K "is_integer" "is_integer" sIsint fI fdI) (gI : mg "is_integer" = some (.ref fI)) : FnOk P w K mg base CX0 2 f fd ["p"] spPrime := by
  have GI : FnOk P w K mg base CX0 1 fI fdI ["value"] spIsint := ok_isint FI B
  have bI : Binds K fdI ["value"] [] := FI.binds fun _ _ _ _ _ _ us hl => match us, hl with | [_], _ => rfl
  obtain ⟨aP, gP, hP⟩ := T.primes
  refine F.ok scPrime (fun vs H Q E h => ?_) (fun cdv A outer s H vs Q E hr h => ?_)
  · obtain ⟨p, rfl, _⟩ := h
    rfl
  · obtain ⟨p, rfl, hp, k⟩ := h
    refine ⟨_, pss_one (ps_if (PW.pt (pw_or (pt_not (pt_val (pe_call GI hr (by rfl) gI FI.kp bI .nil pass0 (pa_cons (pv 0) pa_nil)))) (pw_or1 (pt_cmpR op_notIn_seq (pv 0) (pe_glob (v := .ref aP) (by rfl) gP rfl) (by rfl))))) (pss_one ps_never) pss_nil), ?_⟩
    refine s_if (b := false) (eb_is (eb_or (eb_not (eb_B (ev_isint (i := ((p : Nat) : Int)) (ev_v rfl)))) (fun _ => eb_notinK (ev_v rfl) ev_c hP)) ?_) (fun z => by cases z) fun _ H1 e => k _ H1 e rfl
    rw [p7_in hp]
    rfl
theorem ev_prime {σ : L2.St} {H : Hp} {te : TE} {E : XK} {p : Nat} (h : EvP te σ H (IsN p)) (hp : P7 p) : EvP (tCall spPrime [] E (tCons te tNil)) σ H (Is .non) :=
  ev_call (ea_1 h) fun vs H1 e ⟨v, ev, q1⟩ Q q => ⟨p, by rw [ev, q1]; rfl, hp, q⟩
/-! ### size, checks -/
def spSize (C : Addr) : Sp := fun vs H Q _ => ∃ (a : Addr) (p n : Nat) (t : List W), vs = [.ref a] ∧ CodeAt C H p n t a ∧ p ≤ 10 ∧ t.length ≤ 20 ∧ Ret (IsN (p ^ t.length)) H Q
theorem scSize : FnScope ["self"] ["self"] (defScope sSize) := ⟨rfl, rfl, rfl, by decide +kernel, rfl, by decide +kernel, by decide +kernel⟩
theorem ok_size {f fP : Addr} {fd fdP : FuncData} (F : Fun K "size" "Code.size" sSize f fd) (B : Blt mg) (c : CodeC K C) (FP : Fun K "power" "power" sPower fP fdP) (gP : mg "power" = some (.ref fP)) : FnOk P w K mg base CX0 2 f fd ["self"] (spSize C) := by
  have GP : FnOk P w K mg base CX0 1 fP fdP ["a", "k"] spPower := ok_power FP B
  have bP : Binds K fdP ["a", "k"] [] := FP.binds fun _ _ _ _ _ _ us hl => match us, hl with | [_, _], _ => rfl
  refine F.ok scSize (fun vs H Q E h => ?_) (fun cdv A outer s H vs Q E hr h => ?_)
  · obtain ⟨a, p, n, t, rfl, _⟩ := h
    rfl
  · obtain ⟨a, p, n, t, rfl, ca, hp, hk, k⟩ := h
    refine ⟨_, pss_one (ps_ret (pe_call GP hr (by rfl) gP FP.kp bP .nil pass0 (pa_cons (pe_fld (pv 0) rfl) (pa_cons (pe_fld (pv 0) rfl) pa_nil)))), ?_⟩
    exact EvP.go (P := IsN (p ^ t.length)) (ev_power (ev_cp (ev_v rfl) c ca) (ev_ck (ev_v rfl) c ca) hp hk) k
def spChecks (C : Addr) : Sp := fun vs H Q _ => ∃ (a : Addr) (p n : Nat) (t : List W), vs = [.ref a] ∧ CodeAt C H p n t a ∧ (∀ r ∈ t, Ok n p r) ∧ t.length ≤ 100 ∧ n ≤ 20 ∧ P7 p ∧ Ret (IsWT (kernelW t n p)) H Q
theorem scChecks : FnScope ["self"] ["self"] (defScope sChecks) := ⟨rfl, rfl, rfl, by decide +kernel, rfl, by decide +kernel, by decide +kernel⟩
theorem ok_checks {f fK : Addr} {fd fdK : FuncData} (F : Fun K "checks" "Code.checks" sChecks f fd) (B : Blt mg) (c : CodeC K C) (FK : Fun K "kernel" "kernel" sKernel fK fdK) (gK : mg "kernel" = some (.ref fK)) (GK : FnOk P w K mg base CX0 4 fK fdK ["rows", "width", "p"] spKernel) :
    FnOk P w K mg base CX0 5 f fd ["self"] (spChecks C) := by
  have bK : Binds K fdK ["rows", "width", "p"] [] := FK.binds fun _ _ _ _ _ _ us hl => match us, hl with | [_, _, _], _ => rfl
  refine F.ok scChecks (fun vs H Q E h => ?_) (fun cdv A outer s H vs Q E hr h => ?_)
  · obtain ⟨a, p, n, t, rfl, _⟩ := h
    rfl
  · obtain ⟨a, p, n, t, rfl, ca, hok, h100, hn, hp, k⟩ := h
    refine ⟨_, pss_one (ps_ret (pe_call GK hr (by rfl) gK FK.kp bK .nil pass0 (pa_cons (pe_fld (pv 0) rfl) (pa_cons (pe_fld (pv 0) rfl) (pa_cons (pe_fld (pv 0) rfl) pa_nil))))), ?_⟩
    exact EvP.go (P := IsWT (kernelW t n p)) (ev_kernel (ev_cr (ev_v rfl) c ca) (ev_cn (ev_v rfl) c ca) (ev_cp (ev_v rfl) c ca) hok h100 hn hp) k
/-- a method's call -/
theorem ev_meth {σ : L2.St} {H : Hp} {ta : TE} {E : XK} {m : Str} {sp : Sp} {P : PV} {a dx : Addr} {fs : List (Str × V)} (h : EvP ta σ H (Is (.ref a))) (ha : H a = some (.ins C dx fs)) (l : fs.lookup m = none) (hs : ∀ H1, Ex H H1 → ∀ Q : VK, (∀ v H2, Ex H1 H2 → P v H2 → Q v H2) → sp [.ref a] H1 Q E) :
    EvP (tMeth C m sp [] E ta tNil) σ H P := fun H1 e Q q => h H1 e _ fun x H2 e2 ex => ⟨a, dx, fs, ex, (e.trans e2) _ _ ha, l, by
      rw [ex]
      exact hs H2 (e.trans e2) Q fun v H3 e3 p => q v H3 (e2.trans e3) p⟩
theorem ev_size {σ : L2.St} {H : Hp} {ta : TE} {E : XK} {a : Addr} {p n : Nat} {t : List W} (h : EvP ta σ H (Is (.ref a))) (ca : CodeAt C H p n t a) (hp : p ≤ 10) (hk : t.length ≤ 20) : EvP (tMeth C "size" (spSize C) [] E ta tNil) σ H (IsN (p ^ t.length)) := by
  obtain ⟨dx, vr, vp, h1, h2⟩ := id ca
  exact ev_meth h h1 rfl fun H1 e Q q => ⟨a, p, n, t, rfl, ca.ex e, hp, hk, q⟩
theorem ev_checks {σ : L2.St} {H : Hp} {ta : TE} {E : XK} {a : Addr} {p n : Nat} {t : List W} (h : EvP ta σ H (Is (.ref a))) (ca : CodeAt C H p n t a) (hok : ∀ r ∈ t, Ok n p r) (h100 : t.length ≤ 100) (hn : n ≤ 20) (hp : P7 p) : EvP (tMeth C "checks" (spChecks C) [] E ta tNil) σ H (IsWT (kernelW t n p)) := by
  obtain ⟨dx, vr, vp, h1, h2⟩ := id ca
  exact ev_meth h h1 rfl fun H1 e Q q => ⟨a, p, n, t, rfl, ca.ex e, hok, h100, hn, hp, q⟩
end
end K21

set_option maxRecDepth 100000
set_option maxHeartbeats 4000000
/-! K21D7: Code.__init__. -/
namespace K21
open PySem L2
open Evl (Ex)
/-- for r in rows, a list or a tuple of words -/
theorem q_forLT {K : PySem.W.Frag} {σ : L2.St} {H : Hp} {tl : TE} {D : Ends} {u t1 : TS} {x : V} {rows : List W} {j : Nat} (hx : WL H rows x ∨ WT H rows x) (h : EvP tl σ H (Is x)) (Pv : Nat → L2.St → Hp → Prop) (h0 : ∀ H1, Ex H H1 → Pv 0 σ H1) (he : ∀ i σ' H', Pv i σ' H' → Ex H H')
    (hs : ∀ (i : Nat) (r : W) (y : V) σ' H', rows[i]? = some r → Wd H' r y → Pv i σ' H' → t1 { D with nx := Pv (i + 1), ct := Pv (i + 1), bk := u D } (σ'.set j (some y)) H') (hd : ∀ σ' H', Pv rows.length σ' H' → u D σ' H') :
    tSeq (tFor (fun σ H R => iList K tl σ H R ∨ iTup K tl σ H R) (gName j) t1) u D σ H := by
  rcases hx with ⟨a, us, rfl, ha, hw⟩ | ⟨a, us, rfl, ha, hw⟩
  · refine q_forW1 (q_forL h ha Pv h0 (fun i σ' H' _ p => he i σ' H' p _ _ ha) (fun i y σ' H' hy p => ?_) (fun σ' H' p => hd σ' H' (by rw [pair_len hw]; exact p)))
    obtain ⟨r, hr, hyw⟩ := pair_get hw hy
    exact hs i r y σ' H' hr (hyw.ex (he i σ' H' p)) p
  · refine q_forW2 (q_forT h ha Pv h0 (fun i σ' H' _ p => he i σ' H' p _ _ ha) (fun i y σ' H' hy p => ?_) (fun σ' H' p => hd σ' H' (by rw [pair_len hw]; exact p)))
    obtain ⟨r, hr, hyw⟩ := pair_get hw hy
    exact hs i r y σ' H' hr (hyw.ex (he i σ' H' p)) p
section
variable {P : Program} {w : World} {K : PySem.W.Frag} {mg : Str → Option Value} {base : Heap} {C : Addr}
/-- all but the object at a stands -/
def ExB (a : Addr) (H H' : Hp) : Prop := ∀ b o, b ≠ a → H b = some o → H' b = some o
def spCinit (C : Addr) : Sp := fun vs H Q _ => ∃ (a dx : Addr) (rows : List W) (n p : Nat) (x : V), vs = [.ref a, .int ((p : Nat) : Int), .int ((n : Nat) : Int), x] ∧ H a = some (.ins C dx []) ∧ (WL H rows x ∨ WT H rows x) ∧ (∀ r ∈ rows, Ok n p r) ∧ rows.length ≤ 100 ∧ n ≤ 12 ∧ P7 p ∧
  p ^ (redAll rows n p).found.length ≤ 4096 ∧ (redAll rows n p).found.length ≤ 20 ∧ ∀ H', ExB a H H' → CodeAt C H' p n (redAll rows n p).found a → Q .non H'
abbrev nCinit : List Str := ["self", "p", "n", "rows", "row", "table", "pivots"]
theorem scCinit : FnScope nCinit ["self", "p", "n", "rows"] (defScope sCinit) := ⟨rfl, rfl, rfl, by decide +kernel, rfl, by decide +kernel, by decide +kernel⟩
theorem ok_cinit {f fR fI fP fC fW : Addr} {fd fdR fdI fdP fdC fdW : FuncData} (F : Fun K "__init__" "Code.__init__" sCinit f fd) (B : Blt mg) (T : Cst K mg) (c : CodeC K C) (FR : Fun K "reduced" "reduced" sReduced fR fdR) (gR : mg "reduced" = some (.ref fR)) (GR : FnOk P w K mg base CX0 3 fR fdR ["rows", "width", "p"] spReduced)
    (FI : Fun K "is_integer" "is_integer" sIsint fI fdI) (gI : mg "is_integer" = some (.ref fI)) (FP : Fun K "power" "power" sPower fP fdP) (gP : mg "power" = some (.ref fP)) (FC : Fun K "check_prime" "check_prime" sPrime fC fdC) (gC : mg "check_prime" = some (.ref fC)) (FW : Fun K "is_word" "is_word" sIsword fW fdW) (gW : mg "is_word" = some (.ref fW)) :
    FnOk P w K mg base CX0 4 f fd ["self", "p", "n", "rows"] (spCinit C) := by
  have GI : FnOk P w K mg base CX0 1 fI fdI ["value"] spIsint := ok_isint FI B
  have GP : FnOk P w K mg base CX0 1 fP fdP ["a", "k"] spPower := ok_power FP B
  have GC : FnOk P w K mg base CX0 2 fC fdC ["p"] spPrime := ok_prime FC B T FI gI
  have GW : FnOk P w K mg base CX0 2 fW fdW ["value", "p", "n"] spIsword := ok_isword FW B FI gI
  have bR : Binds K fdR ["rows", "width", "p"] [] := FR.binds fun _ _ _ _ _ _ us hl => match us, hl with | [_, _, _], _ => rfl
  have bI : Binds K fdI ["value"] [] := FI.binds fun _ _ _ _ _ _ us hl => match us, hl with | [_], _ => rfl
  have bP : Binds K fdP ["a", "k"] [] := FP.binds fun _ _ _ _ _ _ us hl => match us, hl with | [_, _], _ => rfl
  have bC : Binds K fdC ["p"] [] := FC.binds fun _ _ _ _ _ _ us hl => match us, hl with | [_], _ => rfl
  have bW : Binds K fdW ["value", "p", "n"] [] := FW.binds fun _ _ _ _ _ _ us hl => match us, hl with | [_, _, _], _ => rfl
  obtain ⟨tL, gL⟩ := T.len
  obtain ⟨tM, gM⟩ := T.words
  refine F.ok scCinit (fun vs H Q E h => ?_) (fun cdv A outer s H vs Q E hr h => ?_)
  · obtain ⟨a, dx, rows, n, p, x, rfl, _⟩ := h
    rfl
  · obtain ⟨a, dx, rows, n, p, x, rfl, ha, hx, hok, h100, hn, hp, hpk, hk20, k⟩ := h
    have hr1 : Room 1 _ := hr.mono (by decide)
    have hr2 : Room 2 _ := hr.mono (by decide)
    refine ⟨_, pss_cons (ps_expr (pe_call GC hr2 (by rfl) gC FC.kp bC .nil pass0 (pa_cons (pv 1) pa_nil)))
      (pss_cons (ps_if (PW.pt (pw_or (pt_not (pt_val (pe_call GI hr1 (by rfl) gI FI.kp bI .nil pass0 (pa_cons (pv 2) pa_nil)))) (pw_or1 (pt_cmpR op_lt (pv 2) pe_int (nomark _))))) (pss_one ps_never) pss_nil)
      (pss_cons (ps_if (pt_cmpR op_gt (pv 2) (pe_glob (v := .int 12) (by rfl) gL ⟨tL, rfl⟩) (nomark _)) (pss_one ps_never) pss_nil)
      (pss_cons (ps_if (pt_not (pt_val (pe_callB call_isiT (by rfl) B.isinstance (by decide +kernel) (pa_cons (pv 3) (pa_cons (pe_tup (pa_cons (pe_bltn (v := .ty "list") (by rfl) B.list PyProof.Rows.boot_list rfl) (pa_cons (pe_bltn (v := .ty "tuple") (by rfl) B.tuple PyProof.Rows.boot_tuple rfl) pa_nil))) pa_nil))))) (pss_one ps_never) pss_nil)
      (pss_cons (ps_for PassesOwn.never rfl (pi_or (pi_list (pv 3)) (pi_tup (pv 3))) (pg_name (i := 4) scCinit.nd rfl (Or.inl rfl))
        (pss_one (ps_if (pt_not (pt_val (pe_call GW hr2 (by rfl) gW FW.kp bW .nil pass0 (pa_cons (pv 4) (pa_cons (pv 1) (pa_cons (pv 2) pa_nil)))))) (pss_one ps_never) pss_nil)))
      (pss_cons (ps_asg (pe_call GR hr (by rfl) gR FR.kp bR .nil pass0 (pa_cons (pv 3) (pa_cons (pv 2) (pa_cons (pv 1) pa_nil)))) (pg_tup rfl (pgs_cons (pg_name (i := 5) scCinit.nd rfl (Or.inl rfl)) (pgs_cons (pg_name (i := 6) scCinit.nd rfl (Or.inl rfl)) pgs_nil))))
      (pss_cons (ps_if (pt_cmpR op_gt (pe_call GP hr1 (by rfl) gP FP.kp bP .nil pass0 (pa_cons (pv 1) (pa_cons (pe_callB cr_len (by rfl) B.len PySem.boot_len (pa_cons (pv 5) pa_nil)) pa_nil))) (pe_glob (v := .int 4096) (by rfl) gM ⟨tM, rfl⟩) (nomark _)) (pss_one ps_never) pss_nil)
      (pss_cons (ps_fld (pv 0) (pv 1) rfl)
      (pss_cons (ps_fld (pv 0) (pv 2) rfl)
      (pss_cons (ps_fld (pv 0) (pv 5) rfl)
      (pss_cons (ps_fld (pv 0) (pe_callB cr_len (by rfl) B.len PySem.boot_len (pa_cons (pv 5) pa_nil)) rfl)
      (pss_one (ps_fld (pv 0) (pv 6) rfl)))))))))))), ?_⟩
    refine q_exp (ev_prime (ev_v rfl) hp) fun H1 x1 => ?_
    refine q_if (b := false) (eb_is (eb_or (eb_not (eb_B (ev_isint (i := ((n : Nat) : Int)) (ev_v rfl)))) (fun _ => eb_T ((ev_i2' (i := ((n : Nat) : Int)) (j := 0) (ev_v rfl) ev_c).imp fun u H3 _ q => q))) (by rw [decide_eq_false (by omega)]; rfl)) (fun z => by cases z) fun _ H2 x2 => ?_
    refine q_if (b := false) (eb_is (eb_T ((ev_i2' (i := ((n : Nat) : Int)) (j := 12) (ev_v rfl) ev_c).imp fun u H3 _ q => q)) (decide_eq_false (by omega))) (fun z => by cases z) fun _ H3 x3 => ?_
    have e3 : Ex H H3 := (x1.trans x2).trans x3
    have hx3 : WL H3 rows x ∨ WT H3 rows x := hx.imp (fun z => z.ex e3) fun z => z.tx (TX.of e3)
    have hLT : EvP (tCB (rIsiT K) (tCons (tVar 3) (tCons (tTup (tCons (tC (.ty "list")) (tCons (tC (.ty "tuple")) tNil))) tNil))) (start nCinit [.ref a, .int ((p : Nat) : Int), .int ((n : Nat) : Int), x]) H3 (IsB true) := by
      rcases hx3 with ⟨la, us, rfl, hla, _⟩ | ⟨la, us, rfl, hla, _⟩
      · exact ev_isLT (ty := "list") (P := fun v H4 => v = .ref la ∧ H4 la = some (.lst us)) (ev_var rfl fun H4 e4 => ⟨rfl, e4 _ _ hla⟩) (fun v H4 ⟨r, h⟩ => r ▸ .base (.lst h)) (fun v H4 H5 e4 ⟨r, h⟩ => ⟨r, e4 _ _ h⟩) (kitAny_cons (b := true) (kit_ty (by decide +kernel)) (fun z => by cases z) fun _ => rfl)
      · exact ev_isLT (ty := "tuple") (P := fun v H4 => v = .ref la ∧ H4 la = some (.tup us)) (ev_var rfl fun H4 e4 => ⟨rfl, e4 _ _ hla⟩) (fun v H4 ⟨r, h⟩ => r ▸ .base (.tup h)) (fun v H4 H5 e4 ⟨r, h⟩ => ⟨r, e4 _ _ h⟩) (kitAny_cons (b := false) (kit_ty (by decide +kernel)) (fun _ => kitAny_cons (b := true) (kit_ty (by decide +kernel)) (fun z => by cases z) fun _ => rfl) (fun z => by cases z))
    refine q_if (b := false) (eb_is (eb_not (eb_B hLT)) rfl) (fun z => by cases z) fun _ H4 x4 => ?_
    have e4 := e3.trans x4
    refine q_forLT (rows := rows) (hx3.imp (fun z => z.ex x4) fun z => z.tx (TX.of x4)) (ev_v rfl) (fun i σ' H' => Ex H4 H' ∧ ∃ z4, σ' = [some (.ref a), some (.int ((p : Nat) : Int)), some (.int ((n : Nat) : Int)), some x, z4, none, none]) (fun H5 x5 => ⟨x5, none, rfl⟩) (fun i σ' H' q => q.1) ?_ ?_
    · rintro i r y σ' H' hi hy ⟨e5, z4, rfl⟩
      exact s_if (b := false) (eb_is (eb_not (eb_B (ev_isword (v := r) (n := n) (p := p) (ev_w rfl hy) (ev_v rfl) (ev_v rfl) (hok r (List.mem_of_getElem? hi))))) rfl) (fun z => by cases z) fun _ H6 x6 => ⟨e5.trans x6, _, rfl⟩
    · rintro σ' H5 ⟨x5, z4, rfl⟩
      have e5 := e4.trans x5
      have hx5 : ∀ H6, Ex H5 H6 → (WL H6 rows x ∨ WT H6 rows x) := fun H6 e6 => hx.imp (fun z => z.ex (e5.trans e6)) fun z => z.tx (TX.of (e5.trans e6))
      refine q_asg2 (P2 := fun b c H1 => WT H1 (redAll rows n p).found b ∧ Wd H1 (redAll rows n p).piv c) ?_ fun b c_1 H6 x6 ⟨hb, hc⟩ => ?_
      · exact (ev_call (P := IsRed (redAll rows n p)) (ea_3 (P1 := fun v H1 => v = x) (P2 := IsN n) (P3 := IsN p) (ev_v rfl) (ev_v rfl) (ev_v rfl) (fun _ _ _ _ q => q) (fun _ _ _ _ q => q)) fun vs H1 e ⟨v1, v2, v3, ev, q1, q2, q3⟩ Q q => ⟨rows, n, p, x, by rw [ev, q1, q2, q3]; rfl, hx5 H1 e, hok, h100, by omega, hp, q⟩).imp fun v H1 _ q => q
      · generalize redAll rows n p = S at hb hc hpk hk20 k
        have e6 := e5.trans x6
        refine q_if (b := false) (eb_is (eb_T ((ev_i2' (i := ((p ^ S.found.length : Nat) : Int)) (j := 4096) (ev_power (ev_v rfl) (ev_lenWT (ev_var rfl fun H7 e7 => hb.tx (TX.of e7))) hp.le hk20) ev_c).imp fun u H3 _ q => q)) (decide_eq_false (by omega))) (fun z => by cases z) fun _ H7 x7 => ?_
        have e7 := e6.trans x7
        have ha7 := e7 _ _ ha
        have nt : ∀ {H : Hp} {fs : List (Str × V)}, H a = some (.ins C dx fs) → ∀ xs, H a ≠ some (.tup xs) := fun h xs z => by rw [h] at z; cases z
        refine q_fld (P := IsN p) (ev_v rfl) (ev_v rfl) ha7 c.cl c.nP (by show 0 < 1000; omega) fun v1 H8 x8 ⟨_, _, r1⟩ => ?_
        refine q_fld (P := IsN n) (ev_v rfl) (ev_v rfl) upd_same c.cl c.nN (by show 1 < 1000; omega) fun v2 H9 x9 ⟨_, _, r2⟩ => ?_
        refine q_fld (P := Is b) (ev_v rfl) (ev_v rfl) upd_same c.cl c.nR (by show 2 < 1000; omega) fun v3 H10 x10 ⟨_, _, r3⟩ => ?_
        have tx8 : TX H6 (upd H8 a (.ins C dx (putF "p" v1 []))) := (TX.of (x7.trans x8)).trans (TX.upd (nt (x8 _ _ ha7)))
        have tx9 : TX H6 (upd H9 a (.ins C dx (putF "n" v2 (putF "p" v1 [])))) := (tx8.trans (TX.of x9)).trans (TX.upd (nt (x9 _ _ upd_same)))
        have tx10 : TX H6 (upd H10 a (.ins C dx (putF "rows" v3 (putF "n" v2 (putF "p" v1 []))))) := (tx9.trans (TX.of x10)).trans (TX.upd (nt (x10 _ _ upd_same)))
        refine q_fld (P := IsN S.found.length) (ev_lenWT (ev_var rfl fun H11 e11 => hb.tx (tx10.trans (TX.of e11)))) (ev_v rfl) upd_same c.cl c.nK (by show 3 < 1000; omega) fun v4 H11 x11 ⟨_, _, r4⟩ => ?_
        have tx11 : TX H6 (upd H11 a (.ins C dx (putF "k" v4 (putF "rows" v3 (putF "n" v2 (putF "p" v1 [])))))) := (tx10.trans (TX.of x11)).trans (TX.upd (nt (x11 _ _ upd_same)))
        refine s_fld (P := Is c_1) (ev_v rfl) (ev_v rfl) upd_same c.cl c.nV (by show 4 < 1000; omega) fun v5 H12 x12 ⟨_, _, r5⟩ => ?_
        have tx12 : TX H6 (upd H12 a (.ins C dx (putF "_pivots" v5 (putF "k" v4 (putF "rows" v3 (putF "n" v2 (putF "p" v1 []))))))) := (tx11.trans (TX.of x12)).trans (TX.upd (nt (x12 _ _ upd_same)))
        subst r1 r2 r3 r4 r5
        refine k _ (fun b' o hb' ho => ?_) ⟨dx, _, _, upd_same, hb.tx tx12⟩
        rw [upd_ne hb']
        refine x12 _ _ ?_
        rw [upd_ne hb']
        refine x11 _ _ ?_
        rw [upd_ne hb']
        refine x10 _ _ ?_
        rw [upd_ne hb']
        refine x9 _ _ ?_
        rw [upd_ne hb']
        exact x8 _ _ (e7 _ _ ho)
end
end K21

set_option maxRecDepth 100000
set_option maxHeartbeats 8000000
/-! K21D8: cosets. -/
namespace K21
open PySem L2
open Evl (Ex)
abbrev sCosets : Stmt := top 24
/-! ### the mathematics -/
theorem getT_mem {t : Tb} {k : W} {ws : List W} (h : getT t k = some ws) : ∃ e ∈ t, e.1 = k ∧ e.2 = ws := by
  unfold getT at h
  obtain ⟨e, he, rfl⟩ := Option.map_eq_some_iff.mp h
  exact ⟨e, List.mem_of_find?_eq_some he, by simpa using List.find?_some he, rfl⟩
theorem getT_some {t : Tb} {k : W} (h : k ∈ t.map (·.1)) : (getT t k).isSome = true := by
  obtain ⟨e, he, rfl⟩ := List.mem_map.mp h
  unfold getT
  rw [Option.isSome_map, List.find?_isSome]
  exact ⟨e, he, by simp⟩
theorem putT_mem {t : Tb} {k : W} {v : List W} {e : W × List W} (h : e ∈ putT t k v) : e ∈ t ∨ e.2 = v := by
  unfold putT at h
  split at h
  · obtain ⟨e', he, rfl⟩ := List.mem_map.mp h
    split
    · exact .inr rfl
    · exact .inl he
  · rcases List.mem_append.mp h with h | h
    · exact .inl h
    · rw [List.mem_singleton.mp h]
      exact .inr rfl
theorem putT_len (t : Tb) (k : W) (v : List W) : (putT t k v).length ≤ t.length + 1 := by
  unfold putT
  split
  · rw [List.length_map]
    omega
  · rw [List.length_append]
    simp
/-- at most i rows, each of at most i words -/
def Small (i : Nat) (t : Tb) : Prop := t.length ≤ i ∧ ∀ e ∈ t, e.2.length ≤ i
theorem Small.nil : Small 0 [] := ⟨Nat.le_refl _, fun e h => (nomatch h)⟩
theorem Small.get {i : Nat} {t : Tb} (h : Small i t) (k : W) : ((getT t k).getD []).length ≤ i := by
  cases e : getT t k with
  | none => exact Nat.zero_le _
  | some ws =>
    obtain ⟨e', he, _, rfl⟩ := getT_mem e
    exact h.2 e' he
theorem Small.mono {i j : Nat} {t : Tb} (h : Small i t) (l : i ≤ j) : Small j t := ⟨Nat.le_trans h.1 l, fun e he => Nat.le_trans (h.2 e he) l⟩
theorem Small.add {i : Nat} {t : Tb} (h : Small i t) (k w : W) : Small (i + 1) (addT t k w) := by
  refine ⟨Nat.le_trans (putT_len _ _ _) (Nat.succ_le_succ h.1), fun e he => ?_⟩
  rcases putT_mem he with he | he
  · exact Nat.le_succ_of_le (h.2 e he)
  · rw [he, List.length_append]
    have := h.get k
    simp only [List.length_singleton]
    omega
theorem Small.step {i : Nat} {t : Tb} (h : Small i t) (checks : List W) (p : Nat) (table : Tb) (w : W) : Small (i + 1) (freshStep checks p table t w) := by
  unfold freshStep
  dsimp only
  split
  · exact h.mono (Nat.le_succ i)
  · exact h.add _ _
def freshAt (checks : List W) (p : Nat) (table : Tb) (layer : List W) (i : Nat) : Tb := freshOf checks p table (layer.take i)
theorem freshAt_succ {checks : List W} {p : Nat} {table : Tb} {layer : List W} {i : Nat} {w : W} (h : layer[i]? = some w) : freshAt checks p table layer (i + 1) = freshStep checks p table (freshAt checks p table layer i) w := by
  unfold freshAt freshOf
  rw [take_one h, List.foldl_append]
  rfl
theorem freshAt_small (checks : List W) (p : Nat) (table : Tb) (layer : List W) : ∀ i, Small i (freshAt checks p table layer i)
  | 0 => Small.nil
  | i + 1 => by
    cases h : layer[i]? with
    | some w =>
      rw [freshAt_succ h]
      exact (freshAt_small checks p table layer i).step _ _ _ _
    | none =>
      have hl := List.getElem?_eq_none_iff.mp h
      have e : freshAt checks p table layer (i + 1) = freshAt checks p table layer i := by
        unfold freshAt
        rw [List.take_of_length_le (by omega), List.take_of_length_le hl]
      rw [e]
      exact (freshAt_small checks p table layer i).mono (Nat.le_succ i)
/-- a row of the answer: a key and its leaders -/
def PairR (H : Hp) (e : W × List W) (v : V) : Prop := ∃ b x y, v = .ref b ∧ H b = some (.tup [x, y]) ∧ Wd H e.1 x ∧ WT H e.2 y
theorem PairR.mono : ∀ (H H' : Hp) (e : W × List W) (v : V), TX H H' → PairR H e v → PairR H' e v := fun H H' e v t ⟨b, x, y, r, h, hx, hy⟩ => ⟨b, x, y, r, t _ _ h, hx.tx t, hy.tx t⟩
def IsCos (t : Tb) : PV := fun v H => ∃ a us, v = .ref a ∧ H a = some (.tup us) ∧ Paired (PairR H) t us
theorem IsCos.ex {t : Tb} {v : V} {H H' : Hp} (e : Ex H H') (h : IsCos t v H) : IsCos t v H' := by
  obtain ⟨a, us, r, h1, h2⟩ := h
  exact ⟨a, us, r, e _ _ h1, Paired.imp h2 fun _ _ q => PairR.mono _ _ _ _ (TX.of e) q⟩
theorem sortable_use {ws : List W} (h : sortable ws = true) : ((∀ w ∈ ws, w ≠ []) ∨ ws.length ≤ 1) ∧ ws.length ≤ 1000 := by
  unfold sortable at h
  rw [Bool.and_eq_true, Bool.or_eq_true] at h
  obtain ⟨h1, h2⟩ := h
  refine ⟨h2.imp (fun z w hw e => ?_) (fun z => of_decide_eq_true z), of_decide_eq_true h1⟩
  have := List.all_eq_true.mp z w hw
  rw [e] at this
  cases this
section
variable {K : PySem.W.Frag} {σ : L2.St} {H : Hp} {ta tb te : TE} {D : Ends} {u t1 : TS} {t : TT}
theorem q_while (Wv : Nat → L2.St → Hp → Prop) (m0 : Nat) (h0 : Wv m0 σ H)
    (hs : ∀ m σ' H', Wv m σ' H' → ∃ b, EvB t σ' H' b ∧ (b = true → ∀ H1, Ex H' H1 → ∃ N : L2.St → Hp → Prop, (∀ σ2 H2, N σ2 H2 → ∃ m', m' < m ∧ Wv m' σ2 H2) ∧ t1 { D with nx := N, ct := N, bk := u D } σ' H1) ∧ (b = false → ∀ H1, Ex H' H1 → u D σ' H1)) : tSeq (tWhile t t1) u D σ H :=
  ⟨Wv, ⟨m0, h0⟩, fun m σ' H' hw => by
    obtain ⟨b, hb, h1, h2⟩ := hs m σ' H' hw
    refine hb H' (Ex.refl H') _ fun H1 e => ?_
    cases b with
    | true => exact h1 rfl H1 e
    | false => exact h2 rfl H1 e⟩
/-- {} -/
theorem q_asgD {i : Nat} (k : ∀ p H1, H p = none → Ex H H1 → H1 p = some (.dT []) → u D (σ.set i (some (.ref p))) H1) : tSeq (tAsg tDNewT (gName i)) u D σ H := fun p hp => k p _ hp (Ex.new hp) upd_same
theorem ev_sortT {ws : List W} (h : EvP te σ H (IsWT ws)) (hc : sortable ws = true) : EvP (tCB rSortT (tCons te tNil)) σ H (IsWL (sortW ws)) := fun H1 e Q q =>
  h H1 e _ fun v H2 e2 ⟨a, us, r, ha, hw⟩ => ⟨a, us, ws, by rw [r], ha, hw, (sortable_use hc).1, by have := (sortable_use hc).2; omega, fun p vs hp hv => q _ _ (e2.trans (Ex.new hp)) ⟨p, vs, rfl, upd_same, Wds.tx (TX.of (Ex.new hp)) hv⟩⟩
theorem ev_sortD {d : Addr} {kvs : List (List Key × V)} {t : Tb} (h : EvP te σ H (Is (.ref d))) (hd : H d = some (.dT kvs)) (r : TbR H t kvs) (hc : sortable (t.map (·.1)) = true) : EvP (tCB rSortD (tCons te tNil)) σ H (IsWL (sortW (t.map (·.1)))) := fun H1 e Q q =>
  h H1 e _ fun v H2 e2 ev => ⟨d, kvs, t.map (·.1), by rw [ev], (e.trans e2) _ _ hd, r.keys, (sortable_use hc).1, by have := (sortable_use hc).2; omega, fun p vs hp hv => q _ _ (e2.trans (Ex.new hp)) ⟨p, vs, rfl, upd_same, Wds.tx (TX.of (Ex.new hp)) hv⟩⟩
theorem ev_tupLW' {ws : List W} (h : EvP te σ H (IsWL ws)) : EvP (tCB (rTup K) (tCons te tNil)) σ H (IsWT ws) := ev_tupLW h
/-- a list of one word -/
theorem q_asgN1 {w : W} {i : Nat} (h : EvP te σ H (IsW w)) (k : ∀ p us H1, H p = none → Ex H H1 → H1 p = some (.lst us) → Wds H1 [w] us → u D (σ.set i (some (.ref p))) H1) : tSeq (tAsg (tLst (tCons te tNil)) (gName i)) u D σ H := q_asgN (ev_lst1 h fun v H1 H2 e q => q.ex e) k
end
end K21

set_option maxRecDepth 100000
set_option maxHeartbeats 8000000
/-! K21D9: cosets, the walk. -/
namespace K21
open PySem L2
open Evl (Ex)
/-- e.f within a comprehension -/
theorem pe_fldK {X : Cx} {K : PySem.W.Frag} {e : Expr} {f : Str} {pos : Pos} {ta : TE} (hK : X.K = K) (he : PE X e ta) (hb : attributeBase e f X.env (eval e X.env) = eval e X.env) : PE X (.Attribute e f pos) (tFld K ta f) := by
  subst hK
  exact pe_fld he hb
theorem eb_dnotinB {σ : L2.St} {H : Hp} {td te : TE} {d : Addr} {kvs : List (List Key × V)} {t : Tb} {w : W} (hk : EvP te σ H (IsW w)) (h : EvP td σ H (Is (.ref d))) (hd : H d = some (.dT kvs)) (r : TbR H t kvs) : EvB (tB (tDNotIn te td)) σ H (!(getT t w).isSome) := eb_dnotin hk h hd r
theorem kernelW_len {rows : List W} {n p : Nat} : (kernelW rows n p).length ≤ n := by
  unfold kernelW
  rw [List.length_map]
  exact Nat.le_trans (List.length_filter_le _ _) (by rw [List.length_range]; exact Nat.le_refl _)
section
variable {P : Program} {w : World} {K : PySem.W.Frag} {mg : Str → Option Value} {base : Heap} {C R fI : Addr}
/-- Refused("large") leaves -/
def Large (R : Addr) (H : Hp) (E : XK) : Prop := ∀ H1 d, Ex H H1 → H1 d = none → E (.ref R) (some d) (L2.upd H1 d (.xd [(("reason" : Str), .str "large")]))
def spCosets (C R : Addr) : Sp := fun vs H Q E => ∃ (a : Addr) (p n : Nat) (t : List W), vs = [.ref a] ∧ CodeAt C H p n t a ∧ (∀ r ∈ t, Ok n p r) ∧ t.length ≤ n ∧ n ≤ 20 ∧ P7 p ∧
  ((4096 < p ^ (n - t.length) ∧ Large R H E) ∨ (p ^ (n - t.length) ≤ 4096 ∧ ∃ tb, cosetsW p n t.length (kernelW t n p) = some tb ∧ Ret (IsCos tb) H Q))
abbrev nCosets : List Str := ["code", "count", "checks", "table", "layer", "fresh", "word", "key", "row"]
theorem scCosets : FnScope nCosets ["code"] (defScope sCosets) := ⟨rfl, rfl, rfl, by decide +kernel, rfl, by decide +kernel, by decide +kernel⟩
abbrev stC (a : Addr) (count : Nat) (vc : V) (lt ll : Addr) (z5 z6 z7 : Option V) : L2.St := [some (.ref a), some (.int ((count : Nat) : Int)), some vc, some (.ref lt), some (.ref ll), z5, z6, z7, none]
/-- ahead of a turn -/
def CoInv (H : Hp) (a : Addr) (count : Nat) (vc : V) (n p : Nat) (checks : List W) (tb : Tb) (m : Nat) (σ' : L2.St) (H' : Hp) : Prop :=
  Ex H H' ∧ ∃ (lt ll : Addr) (kvs : List (List Key × V)) (ul : List V) (table : Tb) (layer : List W) (z5 z6 z7 : Option V), σ' = stC a count vc lt ll z5 z6 z7 ∧ H lt = none ∧ H' lt = some (.dT kvs) ∧ TbR H' table kvs ∧
    H' ll = some (.lst ul) ∧ Wds H' layer ul ∧ (∀ w ∈ layer, Ok n p w) ∧ cosLoop checks p count m table layer = some tb
/-- within a turn: i words of the layer are put into fresh -/
def FrInv (H : Hp) (a : Addr) (count : Nat) (vc : V) (lt ll lf : Addr) (p : Nat) (checks : List W) (table : Tb) (layer : List W) (i : Nat) (σ' : L2.St) (H' : Hp) : Prop :=
  Ex H H' ∧ ∃ (kf : List (List Key × V)) (z6 z7 : Option V), σ' = stC a count vc lt ll (some (.ref lf)) z6 z7 ∧ H' lf = some (.dT kf) ∧ TbR H' (freshAt checks p table layer i) kf
theorem ok_cosets {f fP fD fH : Addr} {fd fdP fdD fdH : FuncData} {fCh : Addr} {fdCh : FuncData} (F : Fun K "cosets" "cosets" sCosets f fd) (B : Blt mg) (T : Cst K mg) (c : CodeC K C) (TR : PySem.RefX.RefTxt P K mg R fI)
    (FP : Fun K "power" "power" sPower fP fdP) (gP : mg "power" = some (.ref fP)) (FD : Fun K "dot" "dot" sDot fD fdD) (gD : mg "dot" = some (.ref fD)) (FH : Fun K "heavier" "heavier" sHeavier fH fdH) (gH : mg "heavier" = some (.ref fH))
    (mC : Meth K C "checks" fCh) (FCh : Fun K "checks" "Code.checks" sChecks fCh fdCh) (GCh : FnOk P w K mg base CX0 5 fCh fdCh ["self"] (spChecks C)) : FnOk P w K mg base (L2.CX P w) 6 f fd ["code"] (spCosets C R) := by
  have GP : FnOk P w K mg base CX0 1 fP fdP ["a", "k"] spPower := ok_power FP B
  have GD : FnOk P w K mg base CX0 1 fD fdD ["v", "w", "p"] spDot := ok_dot FD B
  have GH : FnOk P w K mg base CX0 1 fH fdH ["words", "p"] spHeavier := ok_heavier FH B
  have bP : Binds K fdP ["a", "k"] [] := FP.binds fun _ _ _ _ _ _ us hl => match us, hl with | [_, _], _ => rfl
  have bD : Binds K fdD ["v", "w", "p"] [] := FD.binds fun _ _ _ _ _ _ us hl => match us, hl with | [_, _, _], _ => rfl
  have bH : Binds K fdH ["words", "p"] [] := FH.binds fun _ _ _ _ _ _ us hl => match us, hl with | [_, _], _ => rfl
  have bCh : Binds K fdCh ["self"] [] := FCh.binds fun _ _ _ _ _ _ us hl => match us, hl with | [_], _ => rfl
  obtain ⟨tM, gM⟩ := T.cosets
  refine F.okX scCosets (fun vs H Q E h => ?_) (fun cdv A outer s H vs Q E hr h => ?_)
  · obtain ⟨a, p, n, t, rfl, _⟩ := h
    rfl
  · obtain ⟨a, p, n, t, rfl, ca, hok, hk, hn, hp, hE⟩ := h
    have hr1 : Room 1 _ := hr.mono (by decide)
    have hu1 := hu_of hr
    have hu : (A.deeper (PyProof.Rows.envOfC (Str.ofString "cosets") (defScope sCosets) s.heap.objs.size f cdv)).units + 64 < cLine := by have := hr.un; omega
    refine ⟨_, pss_cons (ps_set (i := 1) scCosets.nd rfl (Or.inl rfl) (pe_call GP hr1 (by rfl) gP FP.kp bP .nil pass0 (pa_cons (pe_fld (pv 0) rfl) (pa_cons (pe_op op_sub (pe_fld (pv 0) rfl) (pe_fld (pv 0) rfl)) pa_nil))))
      (pss_cons (ps_if (pt_cmpR op_gt (pv 1) (pe_glob (v := .int 4096) (by rfl) gM ⟨tM, rfl⟩) (nomark _)) (pss_one (ps_raiseRef (W := fun cls d _ H => E cls d H) rfl TR hr (takes_of rfl rfl rfl rfl) (by exact (pa_cons pe_str pa_nil)))) pss_nil)
      (pss_cons (ps_set (i := 2) scCosets.nd rfl (Or.inl rfl) (pe_meth0 (pv 0) c.cl mC GCh hr bCh .nil pass0))
      (pss_cons (ps_set (i := 3) scCosets.nd rfl (Or.inr rfl) pe_dnewT)
      (pss_cons (ps_set (i := 4) scCosets.nd rfl (Or.inl rfl) (pe_lst (pa_cons (pe_op op_repA (pe_tup (pa_cons pe_int pa_nil)) (pe_fld (pv 0) rfl)) pa_nil)))
      (pss_cons (ps_while (passes_of rfl) (pt_cmpR op_lt (pe_callB call_len_dT (by rfl) B.len PySem.boot_len (pa_cons (pv 3) pa_nil)) (pv 1) (nomark _))
        (pss_cons (ps_set (i := 5) scCosets.nd rfl (Or.inl rfl) pe_dnewT)
        (pss_cons (ps_for (passes_of rfl) rfl (pi_list (pv 4)) (pg_name (i := 6) scCosets.nd rfl (Or.inr rfl))
          (pss_cons (ps_set (i := 7) scCosets.nd rfl (Or.inl rfl) (pe_callTy cr_tup (by rfl) B.tuple PyProof.Rows.boot_tuple (pa_cons
            (pe_lc (own := [("row", 8)]) (g := gName 8) (tt := tYes) rfl scCosets.nd (pi_tup (pv 2)) (blkOk_by (own := [("row", 8)]) (N := nCosets) (sc := defScope sCosets) (by decide +kernel)) (fun _ _ _ _ _ => pg_name (i := 8) scCosets.nd rfl (Or.inl rfl)) (fun _ _ _ _ _ => pts_nil)
              (fun _ _ _ _ _ => pe_call GD hr1 (by rfl) gD FD.kp bD .nil pass0 (pa_cons (pv 8) (pa_cons (pv 6) (pa_cons (pe_fldK (K := K) rfl (pv 0) rfl) pa_nil))))) pa_nil)))
          (pss_one (ps_if (pt_cmp (pc_dnotin hu1 (pv 7) (pv 3))) (pss_one (ps_dput hu1 (pv 5) (pv 7) (pe_op op_catA (pe_dget2 hu1 (pv 5) (pv 7) (pe_tup pa_nil) ⟨rfl, rfl, rfl, rfl⟩) (pe_tup (pa_cons (pv 6) pa_nil))) rfl)) pss_nil))))
        (pss_cons (ps_expr (pe_dupd hu1 (pv 3) (pv 5) ⟨rfl, rfl, rfl, rfl⟩))
        (pss_one (ps_set (i := 4) scCosets.nd rfl (Or.inl rfl) (pe_call GH hr1 (by rfl) gH FH.kp bH .nil pass0 (pa_cons (pv 4) (pa_cons (pe_fld (pv 0) rfl) pa_nil)))))))))
      (pss_one (ps_ret (pe_callTy cr_tup (by rfl) B.tuple PyProof.Rows.boot_tuple (pa_cons
        (pe_lc (own := [("key", 7)]) (g := gName 7) (tt := tYes) rfl scCosets.nd (pi_list (pe_callB (cr_sortD rfl hu) (by rfl) B.sorted (by decide +kernel) (pa_cons (pv 3) pa_nil))) (blkOk_by (own := [("key", 7)]) (N := nCosets) (sc := defScope sCosets) (by decide +kernel)) (fun _ _ _ _ _ => pg_name (i := 7) scCosets.nd rfl (Or.inl rfl)) (fun _ _ _ _ _ => pts_nil)
          (fun _ _ _ _ _ => pe_tup (pa_cons (pv 7) (pa_cons (pe_callTy (r := rTup K) cr_tup (by rfl) B.tuple PyProof.Rows.boot_tuple (pa_cons (pe_callB (cr_sortT hu) (by rfl) B.sorted (by decide +kernel) (pa_cons (pe_dget hu1 (pv 3) (pv 7) (fun _ _ => rfl)) pa_nil)) pa_nil)) pa_nil)))) pa_nil))))))))), ?_⟩
    have hp0 := hp.pos
    have hp10 := hp.le
    refine q_asg (P := IsN (p ^ (n - t.length))) (ev_power (ev_cp (ev_v rfl) c ca) ((ev_i2' (i := ((n : Nat) : Int)) (j := ((t.length : Nat) : Int)) (ev_cn (ev_v rfl) c ca) (ev_ck (ev_v rfl) c ca)).imp fun v H3 _ q => by
      rw [q]
      show V.int _ = V.int _
      congr 1
      omega) hp10 (by omega)) fun v1 H1 x1 ev1 => ?_
    subst ev1
    have hcoset : cosetsW p n t.length (kernelW t n p) = match cosLoop (kernelW t n p) p (p ^ (n - t.length)) (n + 2) [] [List.replicate n 0] with
      | none => none
      | some t => if sortable (t.map (·.1)) && t.all (fun e => sortable e.2) then some ((sortW (t.map (·.1))).map fun key => (key, sortW ((getT t key).getD []))) else none := rfl
    rw [hcoset] at hE
    generalize p ^ (n - t.length) = count at hE
    refine q_if (b := decide ((4096 : Int) < ((count : Nat) : Int))) (eb_T ((ev_i2' (i := ((count : Nat) : Int)) (j := 4096) (ev_v rfl) ev_c).imp fun u H3 _ q => q)) (fun hb H2 x2 => ?_) (fun hb H2 x2 => ?_)
    · have hb := of_decide_eq_true hb
      rcases hE with ⟨_, hL⟩ | ⟨hle, _⟩
      · exact ⟨_, rfl, fun d hd => hL H2 d (x1.trans x2) hd⟩
      · omega
    · have hb := of_decide_eq_false hb
      rcases hE with ⟨hle, _⟩ | ⟨_, tb, htb, k⟩
      · omega
      · have e2 := x1.trans x2
        refine q_asg (P := IsWT (kernelW t n p)) (ev_checks (ev_v rfl) (ca.ex e2) hok (by omega) hn hp) fun vc H3 x3 hvc => ?_
        have hck := kernelW_ok (rows := t) (n := n) hp.two
        have hcl : (kernelW t n p).length ≤ n := kernelW_len
        generalize kernelW t n p = checks at hvc hck hcl htb
        refine q_asgD fun lt H4 nlt x4 hlt => ?_
        have e3 := e2.trans x3
        have e4 := e3.trans x4
        refine q_asgN1 (w := List.replicate n 0) (ev_zerosT (ev_cn (ev_v rfl) c (ca.ex e4)) (by omega)) fun ll ul H5 nll x5 hll hul => ?_
        have e5 := e4.trans x5
        have hvc5 : WT H5 checks vc := hvc.tx (TX.of (x4.trans x5))
        cases hloop : cosLoop checks p count (n + 2) [] [List.replicate n 0] with
        | none =>
          rw [hloop] at htb
          cases htb
        | some t0 =>
        rw [hloop] at htb
        dsimp only at htb
        refine q_while (CoInv H3 a count vc n p checks t0) (n + 2) ⟨x4.trans x5, lt, ll, [], ul, [], [List.replicate n 0], none, none, none, rfl, nlt, x5 _ _ hlt, .nil, hll, hul, fun w hw => ?_, hloop⟩ ?_
        · rw [List.mem_singleton.mp hw]
          exact ⟨List.length_replicate, fun x hx => by rw [(List.mem_replicate.mp hx).2]; exact hp0⟩
        · rintro m σ' H' ⟨e, lt, ll, kvs, ul, table, layer, z5, z6, z7, rfl, n1, hlt, htb', hll, hul, hlay, hloop⟩
          refine ⟨decide (table.length < count), eb_is (eb_T ((ev_i2' (i := ((table.length : Nat) : Int)) (j := ((count : Nat) : Int)) (ev_lenD (ev_v rfl) hlt htb') (ev_v rfl)).imp fun u H3 _ q => q)) (decide_eq_decide.mpr (by omega)), fun hb H6 x6 => ?_, fun hb H6 x6 => ?_⟩
          · have hlt' := of_decide_eq_true hb
            cases m with
            | zero =>
              unfold cosLoop at hloop
              cases hloop
            | succ m =>
              unfold cosLoop at hloop
              rw [if_pos hlt'] at hloop
              by_cases h300 : layer.length ≤ 300
              · rw [if_pos h300] at hloop
                by_cases hap : ((!table.isEmpty) || decide ((freshOf checks p table layer).length ≤ 1)) = true
                · rw [if_pos hap] at hloop
                  have hap' : table ≠ [] ∨ (freshOf checks p table layer).length ≤ 1 := by
                    rw [Bool.or_eq_true] at hap
                    refine hap.imp (fun z y => ?_) fun z => of_decide_eq_true z
                    rw [y] at z
                    cases z
                  have hulen : ul.length = layer.length := (pair_len hul).symm
                  refine ⟨CoInv H3 a count vc n p checks t0 m, fun σ2 H2 q => ⟨m, Nat.lt_succ_self m, q⟩, ?_⟩
                  have e6 := e.trans x6
                  refine q_asgD fun lf H7 nlf x7 hlf => ?_
                  refine q_forL (a := ll) (xs := ul) (ev_v rfl) (x7 _ _ (x6 _ _ hll)) (FrInv H6 a count vc lt ll lf p checks table layer) (fun H8 x8 => ⟨x7.trans x8, [], z6, z7, rfl, x8 _ _ hlf, ?_⟩) (fun i σ2 H2 _ q => q.1 _ _ (x6 _ _ hll)) ?_ ?_
                  · show TbR H8 (freshOf checks p table (layer.take 0)) []
                    rw [List.take_zero]
                    exact .nil
                  · rintro i y σ2 H8 hy ⟨e8, kf, z6, z7, rfl, hlf8, hfr⟩
                    obtain ⟨w, hw, hyw⟩ := pair_get hul hy
                    have ow := hlay w (List.mem_of_getElem? hw)
                    have hi : i < 300 := by
                      have := (List.getElem?_eq_some_iff.mp hy).1
                      omega
                    have e38 : Ex H' H8 := x6.trans e8
                    have sm := freshAt_small checks p table layer i
                    refine q_asg (P := IsW (keyW checks p w)) (ev_tupW ?_) fun vk H9 x9 hk => ?_
                    · refine EvN.imp (lc_t checks RW (R := RN) (fun _ => true) (fun r => dotW r w p) rn_mono ?_ (by omega) (fun _ => rfl) (fun _ _ _ _ _ _ _ _ => eb_yes) (fun r x H1 e1 hr hx _ H2 e2' => ?_)) (fun us H1 _ q => ?_)
                      · exact ev_var rfl fun H1 e1 => hvc.tx (TX.of ((e6.trans e8).trans e1))
                      · have or' := hck r hr
                        exact ev_dot (ev_w rfl (hx.ex e2')) (ev_w rfl (hyw.ex ((e38.trans e1).trans e2'))) (ev_cp (ev_v rfl) c (ca.ex ((e3.trans (e6.trans e8)).trans (e1.trans e2')))) (by rw [or'.1, ow.1]) (by rw [or'.1]; omega) (fun x hx => Nat.lt_of_lt_of_le (or'.2 x hx) (by omega)) hp0
                      · rw [rn_iv q, filt_true]
                        rfl
                    · have e39 : Ex H' H9 := e38.trans x9
                      refine s_if (b := !(getT table (keyW checks p w)).isSome) (eb_dnotinB (ev_w rfl hk) (ev_v rfl) (e39 _ _ hlt) (TbR.tx (TX.of e39) htb')) (fun hb9 H10 x10 => ?_) (fun hb9 H10 x10 => ?_)
                      · have hnk : ¬ (getT table (keyW checks p w)).isSome = true := by
                          intro z
                          rw [z] at hb9
                          cases hb9
                        have hlf10 := x10 _ _ (x9 _ _ hlf8)
                        have hfr10 := TbR.tx (TX.of (x9.trans x10)) hfr
                        have hkl : kf.length < 100000 := by
                          rw [← pair_len hfr]
                          have := sm.1
                          omega
                        refine s_dput (ws := (getT (freshAt checks p table layer i) (keyW checks p w)).getD [] ++ [w]) hlf10 hfr10 hkl (ev_catWT (ev_get (ev_v rfl) hlf10 hfr10 (ev_w rfl (hk.ex x10))) (ev_oneW (ev_w rfl (hyw.ex (e39.trans x10)))) (by have := sm.get (keyW checks p w); omega) (by show 1 ≤ 10000; omega)) (ev_v rfl) (ev_w rfl (hk.ex x10)) fun H11 kvs' x11 r11 => ⟨Ex.mut (((e8.trans x9).trans x10).trans x11) nlf, kvs', _, _, rfl, upd_same, ?_⟩
                        rw [freshAt_succ hw]
                        unfold freshStep
                        dsimp only
                        rw [if_neg hnk]
                        exact r11
                      · have hyk : (getT table (keyW checks p w)).isSome = true := by
                          cases z : (getT table (keyW checks p w)).isSome with
                          | true => rfl
                          | false => rw [z] at hb9; cases hb9
                        refine ⟨(e8.trans x9).trans x10, kf, _, _, rfl, x10 _ _ (x9 _ _ hlf8), ?_⟩
                        rw [freshAt_succ hw]
                        unfold freshStep
                        dsimp only
                        rw [if_pos hyk]
                        exact TbR.tx (TX.of (x9.trans x10)) hfr
                  · rintro σ2 H8 ⟨e8, kf, z6, z7, rfl, hlf8, hfr⟩
                    have e38 : Ex H' H8 := x6.trans e8
                    have sm := freshAt_small checks p table layer ul.length
                    have efr : freshAt checks p table layer ul.length = freshOf checks p table layer := by
                      unfold freshAt
                      rw [hulen, List.take_length]
                    rw [efr] at hfr sm
                    have nlt : lt ≠ lf := fun z => by
                      rw [← z, x6 _ _ hlt] at nlf
                      cases nlf
                    refine q_dupd (d := lt) (o := lf) (t := table) (t2 := freshOf checks p table layer) (e38 _ _ hlt) (TbR.tx (TX.of e38) htb') hlf8 hfr nlt hap' (by omega) (by have := sm.1; omega) (ev_v rfl) (ev_v rfl) fun H9 kvs' x9 r9 => ?_
                    have e9 : Ex H3 (upd H9 lt (.dT kvs')) := Ex.mut (e.trans (e38.trans x9)) n1
                    have nll : ll ≠ lt := fun z => by
                      rw [z, hlt] at hll
                      cases hll
                    refine s_asg (P := IsWL (heavierW layer p)) (ev_heavier (ws := layer) (p := p) (ev_var rfl fun H10 x10 => ⟨ll, ul, rfl, x10 _ _ (by rw [upd_ne nll]; exact x9 _ _ (e38 _ _ hll)), Wds.tx ((TX.of (e38.trans x9)).trans ((TX.updT (x9 _ _ (e38 _ _ hlt))).trans (TX.of x10))) hul⟩) (ev_cp (ev_v rfl) c (ca.ex (e3.trans e9))) (fun w hw => by rw [(hlay w hw).1]; omega) h300 hp0 hp10) fun v H10 x10 hv => ?_
                    obtain ⟨ll', ul', rfl, hll', hul'⟩ := hv
                    exact ⟨e9.trans x10, lt, ll', kvs', ul', _, _, _, _, _, rfl, n1, x10 _ _ upd_same, TbR.tx (TX.of x10) r9, hll', hul', heavierW_ok hlay, hloop⟩
                · rw [if_neg hap] at hloop
                  cases hloop
              · rw [if_neg h300] at hloop
                cases hloop
          · have hlt' := of_decide_eq_false hb
            cases m with
            | zero =>
              unfold cosLoop at hloop
              cases hloop
            | succ m =>
              unfold cosLoop at hloop
              rw [if_neg hlt'] at hloop
              obtain rfl := Option.some.inj hloop
              by_cases hs : (sortable (table.map (·.1)) && table.all (fun e => sortable e.2)) = true
              · rw [if_pos hs] at htb
                obtain rfl := Option.some.inj htb
                rw [Bool.and_eq_true] at hs
                obtain ⟨hs1, hs2⟩ := hs
                have hlt6 := x6 _ _ hlt
                have htb6 := TbR.tx (TX.of x6) htb'
                have hkl : (sortW (table.map (·.1))).length ≤ 1000 := by
                  rw [(sortW_perm _).length_eq]
                  exact (sortable_use hs1).2
                refine s_ret (P := IsCos _) (ev_tupN (EvN.imp (lc_l (sortW (table.map (·.1))) RW (R := PairR) (fun _ => true) (fun key => (key, sortW ((getT table key).getD []))) PairR.mono ?_ (by omega) (fun _ => rfl) (fun _ _ _ _ _ _ _ _ => eb_yes) (fun key x H1 e1 hkey hx _ H2 e2' => ?_)) (fun us H1 _ q => ?_)) ?_) fun v H7 x7 q => k v H7 (e3.trans (e.trans (x6.trans x7))) q
                · exact ev_sortD (ev_v rfl) hlt6 htb6 hs1
                · have hmem : key ∈ table.map (·.1) := (sortW_perm _).mem_iff.mp hkey
                  have hsome := getT_some hmem
                  have hsort : sortable ((getT table key).getD []) = true := by
                    cases z : getT table key with
                    | none => rw [z] at hsome; cases hsome
                    | some ws =>
                      obtain ⟨e', he', _, rfl⟩ := getT_mem z
                      exact List.all_eq_true.mp hs2 e' he'
                  have e12 := e1.trans e2'
                  refine (ev_tup2 (P1 := IsW key) (P2 := IsWT (sortW ((getT table key).getD []))) (ev_w rfl (hx.ex e2')) (ev_tupLW (ev_sortT (ev_dix (ev_v rfl) (e12 _ _ hlt6) (TbR.tx (TX.of e12) htb6) (ev_w rfl (hx.ex e2')) hsome) hsort)) (fun _ _ _ e q => Wd.ex e q) (fun _ _ _ e q => Wd.ex e q) (fun _ _ _ e q => WT.tx (TX.of e) q)).imp ?_
                  rintro v H8 _ ⟨b, x1, y1, r, hb1, p1, p2⟩
                  exact ⟨b, x1, y1, r, hb1, p1, p2⟩
                · rw [filt_true] at q
                  exact q
                · exact fun us H1 H2 e q => Paired.imp q fun _ _ z => PairR.mono _ _ _ _ (TX.of e) z
              · rw [if_neg hs] at htb
                cases htb
end
end K21

set_option maxRecDepth 100000
set_option maxHeartbeats 8000000
/-! K21D10: covering_radius, count_decided. -/
namespace K21
open PySem L2
open Evl (Ex)
abbrev sRadius : Stmt := top 25
abbrev sDecided : Stmt := top 26
/-! ### the mathematics -/
theorem foldl_max_le : ∀ (ns : List Nat) (a : Nat), a ≤ ns.foldl Nat.max a ∧ ∀ y ∈ ns, y ≤ ns.foldl Nat.max a
  | [], a => ⟨Nat.le_refl _, fun y h => (nomatch h)⟩
  | x :: r, a => by
    obtain ⟨h1, h2⟩ := foldl_max_le r (Nat.max a x)
    rw [List.foldl_cons]
    have a1 : a ≤ Nat.max a x := Nat.le_max_left a x
    have a2 : x ≤ Nat.max a x := Nat.le_max_right a x
    refine ⟨Nat.le_trans a1 h1, fun y hy => ?_⟩
    rcases List.mem_cons.mp hy with h | h
    · rw [h]
      exact Nat.le_trans a2 h1
    · exact h2 y h
theorem foldl_max_mem : ∀ (ns : List Nat) (a : Nat), ns.foldl Nat.max a = a ∨ ns.foldl Nat.max a ∈ ns
  | [], a => .inl rfl
  | x :: r, a => by
    rw [List.foldl_cons]
    rcases foldl_max_mem r (Nat.max a x) with h | h
    · rw [h]
      rcases Nat.le_total a x with q | q
      · exact .inr (by rw [show Nat.max a x = x from Nat.max_eq_right q]; exact List.mem_cons_self)
      · exact .inl (Nat.max_eq_left q)
    · exact .inr (List.mem_cons_of_mem _ h)
theorem maxN_is {ns : List Nat} {m : Nat} (h : m ∈ ns) (hx : ∀ y ∈ ns, y ≤ m) : m = maxN ns := by
  unfold maxN
  apply Nat.le_antisymm
  · exact (foldl_max_le ns 0).2 m h
  · rcases foldl_max_mem ns 0 with q | q
    · rw [q]
      exact Nat.zero_le _
    · exact hx _ q
section
variable {K : PySem.W.Frag} {σ : L2.St} {H : Hp} {ta tb te : TE} {t : TT} {α β : Type} {Rr : Hp → β → V → Prop}
theorem ev_maxN {ns : List Nat} (h : EvN te σ H (fun us _ => us = iv ns)) (h0 : ns ≠ []) : EvP (tCB (rMax K) (tCons te tNil)) σ H (IsN (maxN ns)) := fun H1 e Q q =>
  h H1 e _ fun p us H2 _ e2 h2 pn => ⟨p, ns.map fun n => ((n : Nat) : Int), rfl, SqL.of (by rw [← iv_ints, ← pn]; exact h2), by
    rw [List.length_map]
    exact List.length_pos_iff.mpr h0, fun m h1 h3 => by
    obtain ⟨k, hk, rfl⟩ := List.mem_map.mp h1
    have e : k = maxN ns := maxN_is hk fun y hy => by
      have := h3 _ (List.mem_map.mpr ⟨y, hy, rfl⟩)
      omega
    exact q _ _ e2 (by rw [← e])⟩
/-- over a tuple of pairs -/
theorem lc_t2 {tl : TE} {j1 j2 : Nat} {vs : List Nat} (as : List α) (S : Hp → α → V → Prop) (f : α → Bool) (g : α → β) (mono : ∀ H H' b v, TX H H' → Rr H b v → Rr H' b v)
    (h : EvP tl σ H (fun v H2 => ∃ a us, v = .ref a ∧ H2 a = some (.tup us) ∧ Paired (S H2) as us)) (hz : as.length < 100000) (hp : ∀ H1 a x, S H1 a x → ∃ b y z, x = .ref b ∧ H1 b = some (.tup [y, z]))
    (hw : ∀ y z, wipe (((wipe σ vs).set j1 (some y)).set j2 (some z)) vs = wipe σ vs)
    (ht : ∀ (a : α) (b : Addr) (y z : V) H1, Ex H H1 → a ∈ as → S H1 a (.ref b) → H1 b = some (.tup [y, z]) → EvB t (((wipe σ vs).set j1 (some y)).set j2 (some z)) H1 (f a))
    (he : ∀ (a : α) (b : Addr) (y z : V) H1, Ex H H1 → a ∈ as → S H1 a (.ref b) → H1 b = some (.tup [y, z]) → f a = true → EvP te (((wipe σ vs).set j1 (some y)).set j2 (some z)) H1 (fun v H2 => Rr H2 (g a) v)) :
    EvN (tLc (iTup K tl) (gTup K 2 (gCons (gName j1) (gCons (gName j2) gNil))) t te vs) σ H (fun us H2 => Paired (Rr H2) ((as.filter f).map g) us) := fun H0 e Q q => h H0 e _ fun v H1 e1 ⟨a, xs, r, hx, hpr⟩ => ⟨a, r, ⟨xs, SqT.of hx⟩, fun D hD =>
  lc_tup (xs := xs) (Cw Rr H1 as f g D) ⟨hD, Ex.new hD, [], upd_same, .nil⟩ (fun i H' _ p => SqT.of (p.2.1 a _ hx)) (fun i x H' hi p => by
    obtain ⟨α0, h1, h2⟩ := pair_get hpr hi
    have hm := List.mem_of_getElem? h1
    obtain ⟨b, y, z, rfl, hb⟩ := hp _ _ _ h2
    exact ⟨b, [y, z], rfl, SqT.of (p.2.1 b _ hb), rfl, y, [z], rfl, z, [], rfl, rfl, hw y z, cw_turn mono p hz h1 (ht α0 b y z H1 (e.trans e1) hm h2 hb) (fun hf => he α0 b y z H1 (e.trans e1) hm h2 hb hf)⟩) (fun H' p => by
      obtain ⟨p1, p2, us, p3, p4⟩ := p
      rw [← pair_len hpr, List.take_of_length_le (Nat.le_refl _)] at p4
      exact q D us H' (Evl.fresh_back e1 p1) (e1.trans p2) p3 p4)⟩
end
theorem goodT_use {tb : Tb} (h : goodT tb = true) : tb ≠ [] ∧ tb.length ≤ 1000 ∧ ∀ e ∈ tb, e.2 ≠ [] ∧ ∀ w ∈ e.2, w.length ≤ 100 := by
  unfold goodT at h
  rw [Bool.and_eq_true, Bool.and_eq_true] at h
  obtain ⟨⟨h1, h2⟩, h3⟩ := h
  refine ⟨fun z => (by rw [z] at h1; cases h1), of_decide_eq_true h2, fun e he => ?_⟩
  have q := List.all_eq_true.mp h3 e he
  rw [Bool.and_eq_true] at q
  refine ⟨fun z => (by rw [z] at q; cases q.1), fun w hw => of_decide_eq_true (List.all_eq_true.mp q.2 w hw)⟩
section
variable {P : Program} {w : World} {K : PySem.W.Frag} {mg : Str → Option Value} {base : Heap} {C R fI : Addr}
theorem pairR_two {H : Hp} {e : W × List W} {v : V} (h : PairR H e v) : ∃ b y z, v = .ref b ∧ H b = some (.tup [y, z]) := by
  obtain ⟨b, x, y, r, hb, _, _⟩ := h
  exact ⟨b, x, y, r, hb⟩
theorem pairR_at {H : Hp} {e : W × List W} {b : Addr} {y z : V} (h : PairR H e (.ref b)) (hb : H b = some (.tup [y, z])) : Wd H e.1 y ∧ WT H e.2 z := by
  obtain ⟨b', x, u, r, hb', hx, hu⟩ := h
  injection r with r
  subst r
  rw [hb] at hb'
  injection hb' with q
  injection q with q
  injection q with q1 q2
  injection q2 with q2
  subst q1 q2
  exact ⟨hx, hu⟩
/-- the code of the table t over p at a, of the length n, all as cosets asks -/
def CodeOk (C : Addr) (H : Hp) (a : Addr) (p n : Nat) (t : List W) : Prop := CodeAt C H p n t a ∧ (∀ r ∈ t, Ok n p r) ∧ t.length ≤ n ∧ n ≤ 20 ∧ P7 p
theorem CodeOk.ex {H H' : Hp} {a : Addr} {p n : Nat} {t : List W} (e : Ex H H') (h : CodeOk C H a p n t) : CodeOk C H' a p n t := ⟨h.1.ex e, h.2⟩
theorem Large.ex {H H' : Hp} {E : XK} (e : Ex H H') (h : Large R H E) : Large R H' E := fun H1 d e1 hd => h H1 d (e.trans e1) hd
/-- the call of cosets that answers -/
theorem ev_cosets {σ : L2.St} {H : Hp} {te : TE} {E : L2.St → XK} {a : Addr} {p n : Nat} {t : List W} {tb : Tb} (h : EvP te σ H (Is (.ref a))) (co : CodeOk C H a p n t) (hle : p ^ (n - t.length) ≤ 4096) (htb : cosetsW p n t.length (kernelW t n p) = some tb) :
    EvP (tCallS (spCosets C R) E (tCons te tNil)) σ H (IsCos tb) := fun H1 e Q q => ea_1 h H1 e _ fun vs H2 e2 ⟨v, ev, q1⟩ => by
      subst ev q1
      obtain ⟨ca, h1, h2, h3, h4⟩ := co.ex (e.trans e2)
      exact ⟨a, p, n, t, rfl, ca, h1, h2, h3, h4, .inr ⟨hle, tb, htb, fun v H3 e3 q3 => q v H3 (e2.trans e3) q3⟩⟩
def spRadius (C R : Addr) : Sp := fun vs H Q E => ∃ (a : Addr) (p n : Nat) (t : List W), vs = [.ref a] ∧ CodeOk C H a p n t ∧
  ((4096 < p ^ (n - t.length) ∧ Large R H E) ∨ (p ^ (n - t.length) ≤ 4096 ∧ ∃ tb, cosetsW p n t.length (kernelW t n p) = some tb ∧ goodT tb = true ∧ Ret (IsN (radiusW tb)) H Q))
abbrev nRadius : List Str := ["code", "_", "words"]
theorem scRadius : FnScope nRadius ["code"] (defScope sRadius) := ⟨rfl, rfl, rfl, by decide +kernel, rfl, by decide +kernel, by decide +kernel⟩
theorem ok_radius {f fC fW : Addr} {fd fdC fdW : FuncData} (F : Fun K "covering_radius" "covering_radius" sRadius f fd) (B : Blt mg) (FC : Fun K "cosets" "cosets" sCosets fC fdC) (gC : mg "cosets" = some (.ref fC)) (GC : FnOk P w K mg base (L2.CX P w) 6 fC fdC ["code"] (spCosets C R))
    (FW : Fun K "weight" "weight" sWeight fW fdW) (gW : mg "weight" = some (.ref fW)) : FnOk P w K mg base (L2.CX P w) 7 f fd ["code"] (spRadius C R) := by
  have GW : FnOk P w K mg base CX0 1 fW fdW ["word"] spWeight := ok_weight FW B
  have bW : Binds K fdW ["word"] [] := FW.binds fun _ _ _ _ _ _ us hl => match us, hl with | [_], _ => rfl
  have bC : Binds K fdC ["code"] [] := FC.binds fun _ _ _ _ _ _ us hl => match us, hl with | [_], _ => rfl
  refine F.okX scRadius (fun vs H Q E h => ?_) (fun cdv A outer s H vs Q E hr h => ?_)
  · obtain ⟨a, p, n, t, rfl, _⟩ := h
    rfl
  · obtain ⟨a, p, n, t, rfl, co, hE⟩ := h
    have hr1 : Room 1 _ := hr.mono (by decide)
    refine ⟨_, pss_one (ps_ret (pe_callB (cr_max rfl) (by rfl) B.max PyProof.Rows.boot_max (pa_cons
      (pe_lc (own := [("_", 1), ("words", 2)]) (g := gTup K 2 (gCons (gName 1) (gCons (gName 2) gNil))) (tt := tYes) rfl scRadius.nd (pi_tup (pe_callS GC hr (by rfl) gC FC.kp bC (fun σ => passAt (W := fun cls d _ H => E cls d H) (takes_of rfl rfl rfl rfl) σ) (pa_cons (pv 0) pa_nil)))
        (blkOk_by (own := [("_", 1), ("words", 2)]) (N := nRadius) (sc := defScope sRadius) (by decide +kernel)) (fun _ _ _ _ _ => pg_tup rfl (pgs_cons (pg_name (i := 1) scRadius.nd rfl (Or.inl rfl)) (pgs_cons (pg_name (i := 2) scRadius.nd rfl (Or.inl rfl)) pgs_nil))) (fun _ _ _ _ _ => pts_nil)
        (fun _ _ _ _ _ => pe_call GW hr1 (by rfl) gW FW.kp bW .nil pass0 (pa_cons (pe_ix (r := rIxT K) ix_tup (pv 2) pe_int (fun _ _ => rfl)) pa_nil))) pa_nil))), ?_⟩
    rcases hE with ⟨hlt, hL⟩ | ⟨hle, tb, htb, hg, k⟩
    · obtain ⟨ca, h1, h2, h3, h4⟩ := co
      exact ⟨_, rfl, a, p, n, t, rfl, ca, h1, h2, h3, h4, .inl ⟨hlt, hL⟩⟩
    · obtain ⟨g1, g2, g3⟩ := goodT_use hg
      refine EvP.go (P := IsN (radiusW tb)) (ev_maxN (ns := tb.map fun e => weightW (e.2.headD [])) (EvN.imp (lc_t2 tb PairR (Rr := RN) (fun _ => true) (fun e => weightW (e.2.headD [])) rn_mono (ev_cosets (ev_v rfl) co hle htb) (by omega) (fun _ _ _ q => pairR_two q) (fun _ _ => rfl) (fun _ _ _ _ _ _ _ _ _ => eb_yes) (fun e b y z H1 e1 he hpr hb _ => ?_)) (fun us H1 _ q => ?_)) (fun z => g1 (List.map_eq_nil_iff.mp z))) k
      · obtain ⟨_, hz⟩ := pairR_at hpr hb
        obtain ⟨n0, n1⟩ := g3 e he
        obtain ⟨w0, ws, ew⟩ := List.exists_cons_of_ne_nil n0
        have hd : e.2.headD [] = w0 := by rw [ew]; rfl
        rw [hd]
        exact ev_weight (ev_tixW (ws := e.2) (i := 0) (ev_var rfl fun H2 e2 => hz.tx (TX.of e2)) ev_c (by rw [ew]; rfl)) (n1 w0 (by rw [ew]; exact List.mem_cons_self))
      · rw [rn_iv q, filt_true]
def spDecided (C R : Addr) : Sp := fun vs H Q E => ∃ (a : Addr) (p n : Nat) (t : List W), vs = [.ref a] ∧ CodeOk C H a p n t ∧
  ((4096 < p ^ (n - t.length) ∧ Large R H E) ∨ (p ^ (n - t.length) ≤ 4096 ∧ ∃ tb, cosetsW p n t.length (kernelW t n p) = some tb ∧ goodT tb = true ∧ Ret (IsN (decidedW p t.length tb)) H Q))
theorem scDecided : FnScope nRadius ["code"] (defScope sDecided) := ⟨rfl, rfl, rfl, by decide +kernel, rfl, by decide +kernel, by decide +kernel⟩
theorem ok_decided {f fC fS : Addr} {fd fdC fdS : FuncData} (F : Fun K "count_decided" "count_decided" sDecided f fd) (B : Blt mg) (c : CodeC K C) (FC : Fun K "cosets" "cosets" sCosets fC fdC) (gC : mg "cosets" = some (.ref fC)) (GC : FnOk P w K mg base (L2.CX P w) 6 fC fdC ["code"] (spCosets C R))
    (mS : Meth K C "size" fS) (FS : Fun K "size" "Code.size" sSize fS fdS) (GS : FnOk P w K mg base CX0 2 fS fdS ["self"] (spSize C)) : FnOk P w K mg base (L2.CX P w) 7 f fd ["code"] (spDecided C R) := by
  have bC : Binds K fdC ["code"] [] := FC.binds fun _ _ _ _ _ _ us hl => match us, hl with | [_], _ => rfl
  have bS : Binds K fdS ["self"] [] := FS.binds fun _ _ _ _ _ _ us hl => match us, hl with | [_], _ => rfl
  refine F.okX scDecided (fun vs H Q E h => ?_) (fun cdv A outer s H vs Q E hr h => ?_)
  · obtain ⟨a, p, n, t, rfl, _⟩ := h
    rfl
  · obtain ⟨a, p, n, t, rfl, co, hE⟩ := h
    have hr2 : Room 2 _ := hr.mono (by decide)
    refine ⟨_, pss_one (ps_ret (pe_op op_mul (pe_meth0 (pv 0) c.cl mS GS hr2 bS .nil pass0) (pe_callB cr_len (by rfl) B.len PySem.boot_len (pa_cons
      (pe_lc (own := [("_", 1), ("words", 2)]) (g := gTup K 2 (gCons (gName 1) (gCons (gName 2) gNil))) (tt := tTest (tOp rEq (tCB (Evl.rLenS K) (tCons (tVar 2) tNil)) (tC (.int 1)))) rfl scDecided.nd (pi_tup (pe_callS GC hr (by rfl) gC FC.kp bC (fun σ => passAt (W := fun cls d _ H => E cls d H) (takes_of rfl rfl rfl rfl) σ) (pa_cons (pv 0) pa_nil)))
        (blkOk_by (own := [("_", 1), ("words", 2)]) (N := nRadius) (sc := defScope sDecided) (by decide +kernel)) (fun _ _ _ _ _ => pg_tup rfl (pgs_cons (pg_name (i := 1) scDecided.nd rfl (Or.inl rfl)) (pgs_cons (pg_name (i := 2) scDecided.nd rfl (Or.inl rfl)) pgs_nil)))
        (fun _ _ _ _ _ => pts_one (pt_cmpR op_eq (pe_callB (r := Evl.rLenS K) cr_len (by rfl) B.len PySem.boot_len (pa_cons (pv 2) pa_nil)) pe_int (nomark _)))
        (fun _ _ _ _ _ => pv 2)) pa_nil)))), ?_⟩
    obtain ⟨ca, h1, h2, h3, h4⟩ := id co
    have hsz := ev_size (E := fun _ _ _ => False) (σ := start nRadius [.ref a]) (ta := tVar 0) (ev_v rfl) ca h4.le (by omega)
    rcases hE with ⟨hlt, hL⟩ | ⟨hle, tb, htb, hg, k⟩
    · refine EvP.go hsz fun v H1 x1 _ => ?_
      exact ⟨_, rfl, a, p, n, t, rfl, ca.ex x1, h1, h2, h3, h4, .inl ⟨hlt, hL.ex x1⟩⟩
    · obtain ⟨g1, g2, g3⟩ := goodT_use hg
      have hll : (tb.filter fun e => e.2.length == 1).length ≤ 1000 := Nat.le_trans (List.length_filter_le _ _) g2
      refine EvP.go (P := IsN (decidedW p t.length tb)) ((ev_i2 (i := ((p ^ t.length : Nat) : Int)) (j := (((tb.filter fun e => e.2.length == 1).length : Nat) : Int)) hsz (ev_lenN (PN := fun us H2 => Paired ((fun _ _ _ => True : Hp → (W × List W) → V → Prop) H2) ((tb.filter fun e => e.2.length == 1).map fun e => e) us) ?_ fun us H1 q => by rw [← pair_len q, List.length_map]) (Or.inr (by omega))).imp fun v H1 _ q => ?_) k
      · refine lc_t2 tb PairR (fun e => e.2.length == 1) (fun e => e) (fun _ _ _ _ _ _ => trivial) (ev_cosets (ev_v rfl) co hle htb) (by omega) (fun _ _ _ q => pairR_two q) (fun _ _ => rfl) (fun e b y z H1 e1 he hpr hb => ?_) (fun e b y z H1 e1 he hpr hb _ => ev_var rfl fun _ _ => trivial)
        obtain ⟨_, hz⟩ := pairR_at hpr hb
        refine eb_is (eb_T (ev_eq (x := .int ((e.2.length : Nat) : Int)) (y := .int 1) (ev_lenWT (ws := e.2) (ev_var rfl fun H2 e2 => hz.tx (TX.of e2))) ev_c rfl)) ?_
        by_cases h0 : e.2.length = 1
        · rw [h0]
          rfl
        · rw [decide_eq_false (fun z => h0 (by injection z with z; omega)), beq_eq_false_iff_ne.mpr h0]
      · rw [q]
        show V.int _ = V.int _
        unfold decidedW
        rw [Int.natCast_mul]
end
end K21

set_option maxRecDepth 100000
set_option maxHeartbeats 8000000
/-! K21L1: the draws: _law_state, _law_take, _law_prime, _law_word, _law_rows. -/
namespace K21
open PySem L2
open Evl (Ex)
abbrev sState : Stmt := top 34
abbrev sTake : Stmt := top 35
abbrev sLprime : Stmt := top 39
abbrev sLword : Stmt := top 38
abbrev sLrows : Stmt := top 40
/-- the two numbers of the draw stand at l -/
def DrawAt (H : Hp) (l : Addr) : Prop := ∃ s t : Int, H l = some (.lst [.int s, .int t])
theorem ExB.refl {l : Addr} (H : Hp) : ExB l H H := fun _ _ _ h => h
theorem ExB.trans {l : Addr} {H H1 H2 : Hp} (a : ExB l H H1) (b : ExB l H1 H2) : ExB l H H2 := fun x o n h => b x o n (a x o n h)
theorem ExB.of {l : Addr} {H H' : Hp} (e : Ex H H') : ExB l H H' := fun x o _ h => e x o h
theorem ExB.upd {l : Addr} {H : Hp} {o : HO} : ExB l H (L2.upd H l o) := fun x u n h => by rw [upd_ne n]; exact h
/-- seen from a heap that does not know l -/
theorem ExB.ex {l : Addr} {H0 H H' : Hp} (e : Ex H0 H) (b : ExB l H H') (n : H0 l = none) : Ex H0 H' := fun x o h => b x o (ne_of_none h n) (e x o h)
theorem ExB.tx {l : Addr} {H H' : Hp} {ys : List V} (b : ExB l H H') (h : H l = some (.lst ys)) : TX H H' := fun x xs e => b x _ (fun z => by rw [z, h] at e; cases e) e
section
variable {K : PySem.W.Frag} {σ : L2.St} {H : Hp} {te ta tb : TE}
abbrev rInt1 : List V → Hp → VK → Prop := fun xs H Q => (∃ i, xs = [.int i] ∧ Q (.int i) H) ∨ ∃ k, xs = [.bl k] ∧ Q (.int (if k then 1 else 0)) H
theorem ev_int {i : Int} (h : EvP te σ H (IsI i)) : EvP (tCB rInt1 (tCons te tNil)) σ H (IsI i) := fun H1 e Q q => h H1 e _ fun v H2 e2 p => .inl ⟨i, by rw [p], q _ H2 e2 rfl⟩
theorem ev_intB {b : Bool} (h : EvP te σ H (IsB b)) : EvP (tCB rInt1 (tCons te tNil)) σ H (IsI (if b then 1 else 0)) := fun H1 e Q q => h H1 e _ fun v H2 e2 p => .inr ⟨b, by rw [p], q _ H2 e2 rfl⟩
/-- some whole number -/
abbrev IsZ : PV := fun v _ => ∃ i : Int, v = .int i
theorem ev_z2 {C : Int → Int → Prop} {g : Int → Int → Int} (ha : EvP ta σ H IsZ) (hb : EvP tb σ H IsZ) (hc : ∀ i j, C i j) : EvP (tOp (rI C fun i j => .int (g i j)) ta tb) σ H IsZ := fun H1 e Q q =>
  ha H1 e _ fun x H2 e2 ⟨i, p⟩ => hb H2 (e.trans e2) _ fun y H3 e3 ⟨j, p'⟩ => ⟨i, j, p, p', hc i j, q _ H3 (e2.trans e3) ⟨_, rfl⟩⟩
theorem ev_z2c {C : Int → Int → Prop} {g : Int → Int → Int} {j : Int} (ha : EvP ta σ H IsZ) (hb : EvP tb σ H (IsI j)) (hc : ∀ i, C i j) : EvP (tOp (rI C fun i j => .int (g i j)) ta tb) σ H IsZ := fun H1 e Q q =>
  ha H1 e _ fun x H2 e2 ⟨i, p⟩ => hb H2 (e.trans e2) _ fun y H3 e3 p' => ⟨i, j, p, p', hc i, q _ H3 (e2.trans e3) ⟨_, rfl⟩⟩
theorem ev_z20 {g : Int → Int → Int} (ha : EvP ta σ H IsZ) (hb : EvP tb σ H IsZ) : EvP (tOp (rI0 fun i j => .int (g i j)) ta tb) σ H IsZ := fun H1 e Q q =>
  ha H1 e _ fun x H2 e2 ⟨i, p⟩ => hb H2 (e.trans e2) _ fun y H3 e3 ⟨j, p'⟩ => ⟨i, j, p, p', q _ H3 (e2.trans e3) ⟨_, rfl⟩⟩
theorem ev_zint (h : EvP te σ H IsZ) : EvP (tCB rInt1 (tCons te tNil)) σ H IsZ := fun H1 e Q q => h H1 e _ fun v H2 e2 ⟨i, p⟩ => .inl ⟨i, by rw [p], q _ H2 e2 ⟨i, rfl⟩⟩
abbrev rAbs : List V → Hp → VK → Prop := fun xs H Q => ∃ i, xs = [.int i] ∧ Q (.int (if i < 0 then -i else i)) H
theorem ev_zabs (h : EvP te σ H IsZ) : EvP (tCB rAbs (tCons te tNil)) σ H IsZ := fun H1 e Q q => h H1 e _ fun v H2 e2 ⟨i, p⟩ => ⟨i, by rw [p], q _ H2 e2 ⟨_, rfl⟩⟩
theorem ev_zc {i : Int} : EvP (tC (.int i)) σ H IsZ := fun H1 _ Q q => q _ H1 (Ex.refl H1) ⟨i, rfl⟩
theorem ev_zv {i : Nat} {v : V} (h : σ[i]? = some (some v)) (p : ∃ z : Int, v = .int z) : EvP (tVar i) σ H IsZ := ev_var h fun _ _ => p
/-- % a positive number: below it -/
theorem ev_zmod {m : Nat} (ha : EvP ta σ H IsZ) (hb : EvP tb σ H (IsN m)) (hm : 0 < m) : EvP (tOp (rI (fun _ j => 0 < j) fun i j => .int (i % j)) ta tb) σ H (fun v _ => ∃ k, k < m ∧ v = .int ((k : Nat) : Int)) := fun H1 e Q q =>
  ha H1 e _ fun x H2 e2 ⟨i, p⟩ => hb H2 (e.trans e2) _ fun y H3 e3 p' => ⟨i, ((m : Nat) : Int), p, p', by omega, q _ H3 (e2.trans e3) ⟨(i % ((m : Nat) : Int)).toNat, by
    have h1 : 0 ≤ i % ((m : Nat) : Int) := Int.emod_nonneg _ (by omega)
    have h2 : i % ((m : Nat) : Int) < ((m : Nat) : Int) := Int.emod_lt_of_pos _ (by omega)
    omega, by
    have h1 : 0 ≤ i % ((m : Nat) : Int) := Int.emod_nonneg _ (by omega)
    show V.int _ = V.int _
    rw [Int.toNat_of_nonneg h1]⟩⟩
/-- xs[i] = e -/
theorem q_setL {D : Ends} {u : TS} {l : Addr} {xs : List V} {i : Nat} {P : PV} (hl : H l = some (.lst xs)) (h : EvP te σ H P) (ho : EvP ta σ H (Is (.ref l))) (hi : EvP tb σ H (IsN i)) (hj : i < xs.length) (k : ∀ v H1, Ex H H1 → (∃ H0, Ex H0 H1 ∧ P v H0) → u D σ (L2.upd H1 l (.lst (xs.set i v)))) :
    tSeq (tAsg te (gSub ta tb rSetL)) u D σ H := h H (Ex.refl H) _ fun v H1 e1 p => ho H1 e1 _ fun x H2 e2 ex => hi H2 (e1.trans e2) _ fun y H3 e3 p' => by
  subst ex p'
  exact ⟨l, xs, _, i, rfl, rfl, ((e1.trans e2).trans e3) l _ hl, ixN_nat hj, k v H3 ((e1.trans e2).trans e3) ⟨H1, e2.trans e3, p⟩⟩
/-- for x in a new list -/
theorem q_forN {D : Ends} {u t1 : TS} {tl : TE} {j : Nat} {PN : List V → Hp → Prop} (h : EvN tl σ H PN) (Pv : List V → Hp → Nat → L2.St → Hp → Prop) (h0 : ∀ us H1, Ex H H1 → PN us H1 → Pv us H1 0 σ H1) (he : ∀ us H1 i σ' H', Pv us H1 i σ' H' → Ex H1 H')
    (hs : ∀ us H1 (i : Nat) x σ' H', Ex H H1 → PN us H1 → us[i]? = some x → Pv us H1 i σ' H' → t1 { D with nx := Pv us H1 (i + 1), ct := Pv us H1 (i + 1), bk := u D } (σ'.set j (some x)) H') (hd : ∀ us H1 σ' H', Ex H H1 → PN us H1 → Pv us H1 us.length σ' H' → u D σ' H') : tSeq (tFor (iList K tl) (gName j) t1) u D σ H :=
  h H (Ex.refl H) _ fun p us H1 hp e h1 pn => ⟨p, rfl, ⟨us, SqL.of h1⟩, for_list (xs := us) (Pv us H1) (h0 us H1 e pn) (fun i σ' H' _ q => SqL.of (he us H1 i σ' H' q _ _ h1)) (fun i x σ' H' hx q => hs us H1 i x σ' H' e pn hx q) (fun σ' H' q => hd us H1 σ' H' e pn q)⟩
/-- an item of the draw -/
theorem ev_dr0 {l : Addr} (ha : EvP ta σ H (Is (.ref l))) {s t : Int} (hl : H l = some (.lst [.int s, .int t])) : EvP (tOp (rIxL K) ta (tC (.int 0))) σ H (IsI s) := fun H1 e Q q =>
  ha H1 e _ fun x H2 e2 ex => ⟨l, _, _, _, ex, rfl, SqL.of ((e.trans e2) _ _ hl), rfl, q _ H2 e2 rfl⟩
theorem ev_dr1 {l : Addr} (ha : EvP ta σ H (Is (.ref l))) {s t : Int} (hl : H l = some (.lst [.int s, .int t])) : EvP (tOp (rIxL K) ta (tC (.int 1))) σ H (IsI t) := fun H1 e Q q =>
  ha H1 e _ fun x H2 e2 ex => ⟨l, _, _, _, ex, rfl, SqL.of ((e.trans e2) _ _ hl), rfl, q _ H2 e2 rfl⟩
end
section
variable {P : Program} {w : World} {K : PySem.W.Frag} {mg : Str → Option Value} {base : Heap}
/-! ### _law_state -/
def spState (K : PySem.W.Frag) : Sp := fun vs H Q _ => ∃ (a : Addr) (ns : List Int), vs = [.ref a] ∧ SqL K H a (ns.map V.int) ∧ ∀ l H', Ex H H' → H l = none → DrawAt H' l → Q (.ref l) H'
abbrev nState : List Str := ["_law_script", "_law_seed", "_law_total", "_law_cell"]
theorem scState : FnScope nState ["_law_script"] (defScope sState) := ⟨rfl, rfl, rfl, by decide +kernel, rfl, by decide +kernel, by decide +kernel⟩
theorem cut_ints {ns : List Int} {lo hi : Option Int} {x : V} (h : x ∈ cutV (ns.map V.int) lo hi) : ∃ i : Int, x = .int i := by
  unfold cutV at h
  obtain ⟨i, _, rfl⟩ := List.mem_map.mp (List.mem_of_mem_drop (List.mem_of_mem_take h))
  exact ⟨i, rfl⟩
theorem ok_state {f : Addr} {fd : FuncData} (F : Fun K "_law_state" "_law_state" sState f fd) (B : Blt mg) : FnOk P w K mg base CX0 1 f fd ["_law_script"] (spState K) := by
  refine F.ok scState (fun vs H Q E h => ?_) (fun cdv A outer s H vs Q E hr h => ?_)
  · obtain ⟨a, ns, rfl, _⟩ := h
    rfl
  · obtain ⟨a, ns, rfl, hS, k⟩ := h
    refine ⟨_, pss_cons (ps_set (i := 1) scState.nd rfl (Or.inl rfl) pe_int) (pss_cons (ps_set (i := 2) scState.nd rfl (Or.inl rfl) pe_int)
      (pss_cons (ps_for PassesOwn.never rfl (pi_list (pe_slice sl_list (pv 0) po_none (po_some pe_int))) (pg_name (i := 3) scState.nd rfl (Or.inl rfl))
        (pss_cons (ps_set (i := 1) scState.nd rfl (Or.inl rfl) (pe_op op_add (pe_op op_mul (pv 1) pe_int) (pe_callB call_abs (by rfl) B.abs PyProof.Rows.boot_abs (pa_cons (pv 3) pa_nil))))
        (pss_one (ps_set (i := 2) scState.nd rfl (Or.inl rfl) (pe_op op_mod (pe_callTy call_int1 (by rfl) B.int PyProof.Rows.boot_int (pa_cons (pe_op op_add (pe_op op_mul (pv 2) pe_int) (pv 3)) pa_nil)) pe_int)))))
      (pss_one (ps_ret (pe_lst (pa_cons (pv 1) (pa_cons (pv 2) pa_nil))))))), ?_⟩
    refine q_asg (P := Is (.int 0)) ev_c fun v1 H1 x1 e1 => ?_
    refine q_asg (P := Is (.int 1)) ev_c fun v2 H2 x2 e2 => ?_
    subst e1 e2
    have x12 := x1.trans x2
    refine q_forN (PN := fun us _ => ∀ x ∈ us, ∃ i : Int, x = .int i) (fun H3 x3 Q q => ⟨_, rfl, 63, rfl, a, _, rfl, Evl.ex_l (x12.trans x3) hS, fun p hp => q p _ _ hp (Ex.new hp) upd_same fun x hx => cut_ints hx⟩) (fun us H3 i σ' H' => Ex H3 H' ∧ ∃ (s t : Int) (z3 : Option V), σ' = [some (.ref a), some (.int s), some (.int t), z3]) (fun us H3 x3 _ => ⟨Ex.refl H3, 0, 1, none, rfl⟩) (fun us H3 i σ' H' q => q.1) ?_ ?_
    · rintro us H3 i x σ' H' x3 hus hx ⟨e, s, t, z3, rfl⟩
      obtain ⟨c, rfl⟩ := hus x (List.mem_of_getElem? hx)
      refine q_asg (P := IsZ) (ev_z20 (ev_z2c (j := 1000003) (ev_zv rfl ⟨s, rfl⟩) ev_c fun i => Or.inr (by omega)) (ev_zabs (ev_zv rfl ⟨c, rfl⟩))) fun v1 H4 x4 ⟨s', e1⟩ => ?_
      subst e1
      refine s_asg (P := fun v _ => ∃ k, k < 2147483647 ∧ v = .int ((k : Nat) : Int)) (ev_zmod (m := 2147483647) (ev_zint (ev_z20 (ev_z2c (j := 48271) (ev_zv rfl ⟨t, rfl⟩) ev_c fun i => Or.inr (by omega)) (ev_zv rfl ⟨c, rfl⟩))) ev_c (by omega)) fun v2 H5 x5 ⟨k', _, e2⟩ => ?_
      subst e2
      exact ⟨(e.trans x4).trans x5, _, _, _, rfl⟩
    · rintro us H3 σ' H' x3 hus ⟨e, s, t, z3, rfl⟩
      exact ⟨_, rfl, _, rfl, by show 2 ≤ sizeLine; decide, fun l hl => k l _ ((x12.trans (x3.trans e)).trans (Ex.new hl)) (Evl.fresh_back (x12.trans (x3.trans e)) hl) ⟨s, t, upd_same⟩⟩
/-! ### _law_take: a number below m; the draw goes on -/
def spTake : Sp := fun vs H Q _ => ∃ (l : Addr) (m : Nat), vs = [.ref l, .int ((m : Nat) : Int)] ∧ DrawAt H l ∧ 0 < m ∧ m < 1000 ∧ ∀ k H', k < m → ExB l H H' → DrawAt H' l → Q (.int ((k : Nat) : Int)) H'
abbrev nTake : List Str := ["_law_state_here", "_law_m", "_law_value"]
theorem scTake : FnScope nTake ["_law_state_here", "_law_m"] (defScope sTake) := ⟨rfl, rfl, rfl, by decide +kernel, rfl, by decide +kernel, by decide +kernel⟩
theorem ok_take {f : Addr} {fd : FuncData} (F : Fun K "_law_take" "_law_take" sTake f fd) (B : Blt mg) : FnOk P w K mg base CX0 1 f fd ["_law_state_here", "_law_m"] spTake := by
  refine F.ok scTake (fun vs H Q E h => ?_) (fun cdv A outer s H vs Q E hr h => ?_)
  · obtain ⟨l, m, rfl, _⟩ := h
    rfl
  · obtain ⟨l, m, rfl, ⟨s0, t0, hl⟩, hm, hm2, k⟩ := h
    refine ⟨_, pss_cons (ps_if (pt_cmpR op_gt (pe_ix ix_list (pv 0) pe_int (fun _ _ => rfl)) pe_int (nomark _))
        (pss_cons (ps_set (i := 2) scTake.nd rfl (Or.inl rfl) (pe_op op_mod (pe_callTy call_int1 (by rfl) B.int PyProof.Rows.boot_int (pa_cons (pe_ix ix_list (pv 0) pe_int (fun _ _ => rfl)) pa_nil)) (pv 1)))
        (pss_cons (ps_asg (pe_op op_fdiv (pe_ix ix_list (pv 0) pe_int (fun _ _ => rfl)) (pv 1)) (pg_sub (pv 0) pe_int set_list))
        (pss_one (ps_ret (pv 2))))) pss_nil)
      (pss_cons (ps_asg (pe_op op_mod (pe_callTy call_int1 (by rfl) B.int PyProof.Rows.boot_int (pa_cons (pe_op op_add (pe_op op_mul (pe_ix ix_list (pv 0) pe_int (fun _ _ => rfl)) pe_int) pe_int) pa_nil)) pe_int) (pg_sub (pv 0) pe_int set_list))
      (pss_one (ps_ret (pe_op op_mod (pe_callTy call_int1 (by rfl) B.int PyProof.Rows.boot_int (pa_cons (pe_op op_fdiv (pe_ix ix_list (pv 0) pe_int (fun _ _ => rfl)) pe_int) pa_nil)) (pv 1))))), ?_⟩
    refine q_if (b := decide (0 < s0)) (eb_T ((ev_i2' (i := s0) (j := 0) (ev_dr0 (ev_v rfl) hl) ev_c).imp fun u H3 _ q => q)) (fun _ H1 x1 => ?_) (fun _ H1 x1 => ?_)
    · have hl1 := x1 _ _ hl
      refine q_asg (P := fun v _ => ∃ k, k < m ∧ v = .int ((k : Nat) : Int)) (ev_zmod (m := m) (ev_zint ((ev_dr0 (ev_v rfl) hl1).imp fun v _ _ q => ⟨s0, q⟩)) (ev_v rfl) hm) fun v H2 x2 ⟨kk, hk, ev⟩ => ?_
      subst ev
      have hl2 := x2 _ _ hl1
      refine q_setL (i := 0) (P := IsZ) hl2 ((ev_i2 (i := s0) (j := ((m : Nat) : Int)) (ev_dr0 (ev_v rfl) hl2) (ev_v rfl) ⟨by omega, by omega⟩).imp fun v H3 _ q => ⟨_, q⟩) (ev_v rfl) (ev_c (v := .int 0)) (by show 0 < 2; omega) fun v H3 x3 ⟨_, _, z, ez⟩ => ?_
      subst ez
      exact ⟨_, rfl, k kk _ hk ((ExB.of ((x1.trans x2).trans x3)).trans ExB.upd) ⟨z, t0, upd_same⟩⟩
    · have hl1 := x1 _ _ hl
      refine q_setL (i := 1) (P := fun v _ => ∃ k, k < 2147483647 ∧ v = .int ((k : Nat) : Int)) hl1 (ev_zmod (m := 2147483647) (ev_zint (ev_z20 (ev_z2c (j := 48271) ((ev_dr1 (ev_v rfl) hl1).imp fun v _ _ q => ⟨t0, q⟩) ev_c fun i => Or.inr (by omega)) ev_zc)) ev_c (by omega)) (ev_v rfl) (ev_c (v := .int 1)) (by show 1 < 2; omega) fun v H3 x3 ⟨_, _, z, _, ez⟩ => ?_
      subst ez
      have hl3 : upd H3 l (.lst [V.int s0, V.int ((z : Nat) : Int)]) l = some (.lst [V.int s0, V.int ((z : Nat) : Int)]) := upd_same
      refine s_ret (P := fun v _ => ∃ k, k < m ∧ v = .int ((k : Nat) : Int)) (ev_zmod (m := m) (ev_zint ((ev_i2 (i := ((z : Nat) : Int)) (j := 7) (ev_dr1 (ev_v rfl) hl3) ev_c ⟨by omega, by omega⟩).imp fun v H4 _ q => ⟨_, q⟩)) (ev_v rfl) hm) fun v H4 x4 ⟨kk, hk, ev⟩ => ?_
      subst ev
      exact k kk _ hk (((ExB.of (x1.trans x3)).trans ExB.upd).trans (ExB.of x4)) ⟨s0, z, x4 _ _ hl3⟩
end
end K21

set_option maxRecDepth 100000
set_option maxHeartbeats 8000000
/-! K21L2: _law_prime, _law_word, _law_rows. -/
namespace K21
open PySem L2
open Evl (Ex)
section
variable {P : Program} {w : World} {K : PySem.W.Frag} {mg : Str → Option Value} {base : Heap}
theorem DrawAt.ex {H H' : Hp} {l : Addr} (e : Ex H H') (h : DrawAt H l) : DrawAt H' l := by
  obtain ⟨s, t, h⟩ := h
  exact ⟨s, t, e _ _ h⟩
theorem DrawAt.tx {H H' : Hp} {l : Addr} (h : DrawAt H l) (b : ExB l H H') : TX H H' := by
  obtain ⟨s, t, h⟩ := h
  exact b.tx h
theorem DrawAt.ne {H : Hp} {l p : Addr} (h : DrawAt H l) (n : H p = none) : p ≠ l := by
  obtain ⟨s, t, h⟩ := h
  exact fun z => by rw [z, h] at n; cases n
/-! ### _law_prime -/
def spLprime : Sp := fun vs H Q _ => ∃ l : Addr, vs = [.ref l] ∧ DrawAt H l ∧ ∀ (p : Nat) H', P7 p → ExB l H H' → DrawAt H' l → Q (.int ((p : Nat) : Int)) H'
theorem scLprime : FnScope ["_law_state_here"] ["_law_state_here"] (defScope sLprime) := ⟨rfl, rfl, rfl, by decide +kernel, rfl, by decide +kernel, by decide +kernel⟩
theorem p7_of {k : Nat} (h : k < 6) : P7 (([2, 2, 3, 3, 5, 7] : W).getD k 0) := by
  unfold P7
  match k, h with
  | 0, _ => exact .inl rfl
  | 1, _ => exact .inl rfl
  | 2, _ => exact .inr (.inl rfl)
  | 3, _ => exact .inr (.inl rfl)
  | 4, _ => exact .inr (.inr (.inl rfl))
  | 5, _ => exact .inr (.inr (.inr rfl))
theorem ok_lprime {f fT : Addr} {fd fdT : FuncData} (F : Fun K "_law_prime" "_law_prime" sLprime f fd) (B : Blt mg) (FT : Fun K "_law_take" "_law_take" sTake fT fdT) (gT : mg "_law_take" = some (.ref fT)) : FnOk P w K mg base CX0 2 f fd ["_law_state_here"] spLprime := by
  have GT : FnOk P w K mg base CX0 1 fT fdT ["_law_state_here", "_law_m"] spTake := ok_take FT B
  have bT : Binds K fdT ["_law_state_here", "_law_m"] [] := FT.binds fun _ _ _ _ _ _ us hl => match us, hl with | [_, _], _ => rfl
  refine F.ok scLprime (fun vs H Q E h => ?_) (fun cdv A outer s H vs Q E hr h => ?_)
  · obtain ⟨l, rfl, _⟩ := h
    rfl
  · obtain ⟨l, rfl, dr, k⟩ := h
    refine ⟨_, pss_one (ps_ret (pe_ix ix_list (pe_lst (pa_cons pe_int (pa_cons pe_int (pa_cons pe_int (pa_cons pe_int (pa_cons pe_int (pa_cons pe_int pa_nil))))))) (pe_call GT hr (by rfl) gT FT.kp bT .nil pass0 (pa_cons (pv 0) (pa_cons pe_int pa_nil))) (fun _ _ => rfl))), ?_⟩
    refine ⟨by show 6 ≤ sizeLine; decide, fun p0 hp0 => ?_⟩
    have x0 : Ex H (upd H p0 (.lst (iv [2, 2, 3, 3, 5, 7]))) := Ex.new hp0
    refine ⟨_, rfl, l, 6, rfl, dr.ex x0, by omega, by omega, fun j H2 hj eb dr2 => ?_⟩
    exact ⟨p0, iv [2, 2, 3, 3, 5, 7], _, _, rfl, rfl, SqL.of (eb p0 _ (dr.ne hp0) upd_same), atI_nat (iv_get hj), k _ H2 (p7_of hj) ((ExB.of x0).trans eb) dr2⟩
/-! ### _law_word -/
def spLword : Sp := fun vs H Q _ => ∃ (l : Addr) (n p : Nat), vs = [.ref l, .int ((n : Nat) : Int), .int ((p : Nat) : Int)] ∧ DrawAt H l ∧ 0 < p ∧ p < 1000 ∧ n ≤ 1000 ∧ ∀ v H', (∃ w, Ok n p w ∧ Wd H' w v) → ExB l H H' → DrawAt H' l → Q v H'
abbrev nLword : List Str := ["_law_state_here", "_law_n", "_law_p", "_law_k"]
theorem scLword : FnScope nLword ["_law_state_here", "_law_n", "_law_p"] (defScope sLword) := ⟨rfl, rfl, rfl, by decide +kernel, rfl, by decide +kernel, by decide +kernel⟩
theorem ok_snoc {n p k : Nat} {w : W} (h : Ok n p w) (hk : k < p) : Ok (n + 1) p (w ++ [k]) := by
  refine ⟨by rw [List.length_append, h.1] <;> rfl, fun x hx => ?_⟩
  rcases List.mem_append.mp hx with hx | hx
  · exact h.2 x hx
  · rw [List.mem_singleton.mp hx]; exact hk
theorem iv_snoc (w : W) (k : Nat) : iv (w ++ [k]) = iv w ++ [.int ((k : Nat) : Int)] := iv_app w [k]
theorem ok_lword {f fT : Addr} {fd fdT : FuncData} (F : Fun K "_law_word" "_law_word" sLword f fd) (B : Blt mg) (FT : Fun K "_law_take" "_law_take" sTake fT fdT) (gT : mg "_law_take" = some (.ref fT)) : FnOk P w K mg base CX0 2 f fd ["_law_state_here", "_law_n", "_law_p"] spLword := by
  have GT : FnOk P w K mg base CX0 1 fT fdT ["_law_state_here", "_law_m"] spTake := ok_take FT B
  have bT : Binds K fdT ["_law_state_here", "_law_m"] [] := FT.binds fun _ _ _ _ _ _ us hl => match us, hl with | [_, _], _ => rfl
  refine F.ok scLword (fun vs H Q E h => ?_) (fun cdv A outer s H vs Q E hr h => ?_)
  · obtain ⟨l, n, p, rfl, _⟩ := h
    rfl
  · obtain ⟨l, n, p, rfl, dr, hp0, hp, hn, k⟩ := h
    refine ⟨_, pss_one (ps_ret (pe_callTy cr_tup (by rfl) B.tuple PyProof.Rows.boot_tuple (pa_cons
      (pe_lc (own := [("_law_k", 3)]) (g := gName 3) (tt := tYes) rfl scLword.nd (pi_range1 (by rfl) B.range (pa_cons (pv 1) pa_nil))
        (blkOk_by (own := [("_law_k", 3)]) (N := nLword) (sc := defScope sLword) (by decide +kernel)) (fun _ _ _ _ _ => pg_name (i := 3) scLword.nd rfl (Or.inl rfl)) (fun _ _ _ _ _ => pts_nil)
        (fun _ _ _ _ _ => pe_call GT hr (by rfl) gT FT.kp bT .nil pass0 (pa_cons (pv 0) (pa_cons (pv 2) pa_nil)))) pa_nil))), ?_⟩
    refine ⟨_, rfl, ((n : Nat) : Int), rfl, by omega, by omega, fun D hD => lc_range (lo := 0) (n := ((n : Nat) : Int).toNat) (fun i H' => ExB l H H' ∧ DrawAt H' l ∧ ∃ w, Ok i p w ∧ H' D = some (.lst (iv w))) ⟨ExB.of (Ex.new hD), dr.ex (Ex.new hD), [], ⟨rfl, fun x hx => (nomatch hx)⟩, upd_same⟩ ?_ ?_⟩
    · rintro i H' hi ⟨eb, dr', w, ow, hw⟩
      refine ⟨rfl, _, rfl, _, rfl, l, p, rfl, dr', hp0, hp, fun j H4 hj eb4 dr4 => ?_⟩
      have nD : D ≠ l := dr.ne hD
      have hw4 := eb4 D _ nD hw
      refine ⟨iv w, hw4, sz_small (by rw [iv_len, ow.1]; omega), ?_, ?_, w ++ [j], ok_snoc ow hj, ?_⟩
      · intro b o nb hb
        rw [upd_ne (ne_of_none hb hD)]
        exact eb4 b o nb (eb b o nb hb)
      · obtain ⟨s1, t1, h1⟩ := dr4
        exact ⟨s1, t1, by rw [upd_ne (Ne.symm nD)]; exact h1⟩
      · rw [upd_same, iv_snoc]
    · rintro H' ⟨eb, dr', w, ow, hw⟩
      rw [show ((n : Nat) : Int).toNat = n by omega] at ow
      refine ⟨D, _, rfl, .inl ⟨SqL.of hw, fun q hq => k (.ref q) _ ⟨w, ow, q, rfl, upd_same⟩ (eb.trans (ExB.of (Ex.new hq))) (dr'.ex (Ex.new hq))⟩⟩
/-! ### _law_rows -/
def spLrows : Sp := fun vs H Q _ => ∃ (l : Addr) (n p most : Nat), vs = [.ref l, .int ((n : Nat) : Int), .int ((p : Nat) : Int), .int ((most : Nat) : Int)] ∧ DrawAt H l ∧ 0 < p ∧ p < 1000 ∧ n ≤ 1000 ∧ most ≤ 100 ∧
  ∀ v H', (∃ rows, (∀ r ∈ rows, Ok n p r) ∧ rows.length ≤ most ∧ WL H' rows v) → ExB l H H' → DrawAt H' l → Q v H'
abbrev nLrows : List Str := ["_law_state_here", "_law_n", "_law_p", "_law_most", "_law_rows_here", "_law_turn"]
theorem scLrows : FnScope nLrows ["_law_state_here", "_law_n", "_law_p", "_law_most"] (defScope sLrows) := ⟨rfl, rfl, rfl, by decide +kernel, rfl, by decide +kernel, by decide +kernel⟩
theorem ok_lrows {f fT fW : Addr} {fd fdT fdW : FuncData} (F : Fun K "_law_rows" "_law_rows" sLrows f fd) (B : Blt mg) (FT : Fun K "_law_take" "_law_take" sTake fT fdT) (gT : mg "_law_take" = some (.ref fT)) (FW : Fun K "_law_word" "_law_word" sLword fW fdW) (gW : mg "_law_word" = some (.ref fW)) :
    FnOk P w K mg base CX0 3 f fd ["_law_state_here", "_law_n", "_law_p", "_law_most"] spLrows := by
  have GT : FnOk P w K mg base CX0 1 fT fdT ["_law_state_here", "_law_m"] spTake := ok_take FT B
  have bT : Binds K fdT ["_law_state_here", "_law_m"] [] := FT.binds fun _ _ _ _ _ _ us hl => match us, hl with | [_, _], _ => rfl
  have GW : FnOk P w K mg base CX0 2 fW fdW ["_law_state_here", "_law_n", "_law_p"] spLword := ok_lword FW B FT gT
  have bW : Binds K fdW ["_law_state_here", "_law_n", "_law_p"] [] := FW.binds fun _ _ _ _ _ _ us hl => match us, hl with | [_, _, _], _ => rfl
  refine F.ok scLrows (fun vs H Q E h => ?_) (fun cdv A outer s H vs Q E hr h => ?_)
  · obtain ⟨l, n, p, most, rfl, _⟩ := h
    rfl
  · obtain ⟨l, n, p, most, rfl, dr, hp0, hp, hn, hm, k⟩ := h
    have hr1 : Room 1 _ := hr.mono (by decide)
    refine ⟨_, pss_cons (ps_set (i := 4) scLrows.nd rfl (Or.inl rfl) (pe_lst pa_nil))
      (pss_cons (ps_for PassesOwn.never rfl (pi_range1 (by rfl) B.range (pa_cons (pe_call GT hr1 (by rfl) gT FT.kp bT .nil pass0 (pa_cons (pv 0) (pa_cons (pe_op op_add (pv 3) pe_int) pa_nil))) pa_nil)) (pg_name (i := 5) scLrows.nd rfl (Or.inl rfl))
        (pss_one (ps_expr (pe_bm PySem.F.plainAttrs_list PySem.F.slot_list_append PySem.F.type_list_append mt_append (pv 4) (pa_cons (pe_call GW hr (by rfl) gW FW.kp bW .nil pass0 (pa_cons (pv 0) (pa_cons (pv 1) (pa_cons (pv 2) pa_nil)))) pa_nil)))))
      (pss_one (ps_ret (pv 4)))), ?_⟩
    refine q_asgN (PN := fun us _ => us = []) ev_nilL fun lr ur H1 nr x1 hlr hr0 => ?_
    subst hr0
    have dr1 := dr.ex x1
    have nrl : lr ≠ l := dr.ne nr
    refine ⟨_, rfl, _, rfl, _, _, rfl, rfl, l, most + 1, rfl, dr1, by omega, by omega, fun j H2 hj eb2 dr2 => ⟨((j : Nat) : Int), rfl, by omega, by omega, ?_⟩⟩
    refine for_range (lo := 0) (n := ((j : Nat) : Int).toNat) (fun i σ' H' => ExB l H H' ∧ DrawAt H' l ∧ ∃ (rows : List W) (ur : List V) (z5 : Option V), σ' = [some (.ref l), some (.int ((n : Nat) : Int)), some (.int ((p : Nat) : Int)), some (.int ((most : Nat) : Int)), some (.ref lr), z5] ∧ (∀ r ∈ rows, Ok n p r) ∧ rows.length = i ∧ H' lr = some (.lst ur) ∧ Wds H' rows ur)
      ⟨(ExB.of x1).trans eb2, dr2, [], [], none, rfl, fun r hr => (nomatch hr), rfl, eb2 lr _ nrl hlr, .nil⟩ ?_ ?_
    · rintro i σ' H' hi ⟨eb, dr', rows, ur, z5, rfl, hok, hlen, hur, hws⟩
      refine ⟨_, rfl, .inl ⟨rfl, _, SqL.of hur⟩, _, rfl, _, rfl, _, rfl, l, n, p, rfl, dr', hp0, hp, hn, fun v H4 ⟨w, ow, hw⟩ eb4 dr4 => ?_⟩
      have hur4 := eb4 lr _ nrl hur
      refine ⟨lr, ur, v, rfl, rfl, hur4, sz_small (by rw [← pair_len hws, hlen]; omega), ?_⟩
      have tx4 : TX H4 (upd H4 lr (.lst (ur ++ [v]))) := TX.updL hur4
      refine ⟨?_, ?_, rows ++ [w], ur ++ [v], _, rfl, fun r hr => ?_, by rw [List.length_append, hlen] <;> rfl, upd_same, pair_snoc (Wds.tx ((dr'.tx eb4).trans tx4) hws) (hw.tx tx4)⟩
      · intro b o nb hb
        rw [upd_ne (ne_of_none hb nr)]
        exact eb4 b o nb (eb b o nb hb)
      · obtain ⟨s1, t1, h1⟩ := dr4
        exact ⟨s1, t1, by rw [upd_ne (Ne.symm nrl)]; exact h1⟩
      · rcases List.mem_append.mp hr with hr | hr
        · exact hok r hr
        · rw [List.mem_singleton.mp hr]; exact ow
    · rintro σ' H' ⟨eb, dr', rows, ur, z5, rfl, hok, hlen, hur, hws⟩
      exact ⟨_, rfl, k _ H' ⟨rows, hok, by omega, lr, ur, rfl, hur, hws⟩ eb dr'⟩
end
end K21

set_option maxRecDepth 100000
set_option maxHeartbeats 8000000
/-! K21L3: _law_all, _law_weight, _law_dot, _law_reasons. -/
namespace K21
open PySem L2
open Evl (Ex)
abbrev sLweight : Stmt := top 36
abbrev sLall : Stmt := top 37
abbrev sLdot : Stmt := top 41
abbrev sReasons : Stmt := top 42
/-! ### all words -/
def extW (p : Nat) (w : W) : List W := (List.range p).map fun a => w ++ [a]
theorem allW_succ (m p : Nat) : allW (m + 1) p = (allW m p).flatMap (extW p) := rfl
theorem allW_len (p : Nat) : ∀ n, (allW n p).length = p ^ n
  | 0 => rfl
  | n + 1 => by
    rw [allW_succ, List.length_flatMap, Nat.pow_succ, ← allW_len p n]
    have : (List.map (fun a => (extW p a).length) (allW n p)) = List.replicate (allW n p).length p := by
      rw [List.eq_replicate_iff]
      refine ⟨List.length_map .., fun x hx => ?_⟩
      obtain ⟨y, _, rfl⟩ := List.mem_map.mp hx
      unfold extW
      rw [List.length_map, List.length_range]
    rw [this, List.sum_replicate_nat]
theorem allW_ok (p : Nat) : ∀ n, ∀ w ∈ allW n p, Ok n p w
  | 0, w, h => by
    rw [List.mem_singleton.mp h]
    exact ⟨rfl, fun x hx => (nomatch hx)⟩
  | n + 1, w, h => by
    rw [allW_succ] at h
    obtain ⟨v, hv, h⟩ := List.mem_flatMap.mp h
    obtain ⟨a, ha, rfl⟩ := List.mem_map.mp h
    exact ok_snoc (allW_ok p n v hv) (List.mem_range.mp ha)
theorem all_mem (p : Nat) : ∀ n w, Ok n p w → w ∈ allW n p
  | 0, w, h => by
    rw [List.eq_nil_of_length_eq_zero h.1]
    exact List.mem_singleton.mpr rfl
  | n + 1, w, h => by
    have hne : w ≠ [] := fun z => by rw [z] at h; exact absurd h.1 (by simp)
    rw [allW_succ]
    refine List.mem_flatMap.mpr ⟨w.dropLast, all_mem p n _ ⟨by rw [List.length_dropLast, h.1]; rfl, fun x hx => h.2 x ((List.dropLast_sublist w).subset hx)⟩, List.mem_map.mpr ⟨w.getLast hne, List.mem_range.mpr (h.2 _ (List.getLast_mem hne)), List.dropLast_concat_getLast hne⟩⟩
section
variable {K : PySem.W.Frag} {σ : L2.St} {H : Hp} {te ta tb : TE}
abbrev rListOf (K : PySem.W.Frag) : List V → Hp → VK → Prop := fun xs H Q => ∃ p ys, xs = [.ref p] ∧ (SqL K H p ys ∨ SqT K H p ys) ∧ ∀ l, H l = none → Q (.ref l) (L2.upd H l (.lst ys))
theorem ev_listOf {ws : List W} (h : EvP te σ H (IsWL ws)) : EvN (tCB (rListOf K) (tCons te tNil)) σ H (fun us H2 => Wds H2 ws us) := fun H1 e Q q =>
  h H1 e _ fun v H2 e2 ⟨a, us, r, ha, hw⟩ => ⟨a, us, by rw [r], .inl (SqL.of ha), fun l hl => q l us _ (Evl.fresh_back e2 hl) (e2.trans (Ex.new hl)) upd_same (Wds.tx (TX.of (Ex.new hl)) hw)⟩
theorem ev_catL {v ws : List W} (ha : EvP ta σ H (IsWL v)) (hb : EvN tb σ H (fun us H2 => Wds H2 ws us)) (l1 : v.length ≤ 40000) (l2 : ws.length ≤ 40000) : EvN (tOp rCat ta tb) σ H (fun us H2 => Wds H2 (v ++ ws) us) := fun H1 e Q q =>
  ha H1 e _ fun x H2 e2 ⟨a, us, r, h, hw⟩ => hb H2 (e.trans e2) _ fun p us2 H3 hp e3 h3 hw3 => ⟨a, p, us, us2, r, rfl, e3 _ _ h, h3, by
    rw [← pair_len hw, ← pair_len hw3, sizeLine_eq]
    omega, fun d hd => q d _ _ (Evl.fresh_back (e2.trans e3) hd) ((e2.trans e3).trans (Ex.new hd)) upd_same (Wds.tx (TX.of (Ex.new hd)) (pair_app (Wds.tx (TX.of e3) hw) hw3))⟩
end
section
variable {P : Program} {w : World} {K : PySem.W.Frag} {mg : Str → Option Value} {base : Heap} {C R fI : Addr}
/-! ### _law_weight -/
theorem scLweight : FnScope ["_law_word_here", "_law_x"] ["_law_word_here"] (defScope sLweight) := ⟨rfl, rfl, rfl, by decide +kernel, rfl, by decide +kernel, by decide +kernel⟩
theorem ok_lweight {f : Addr} {fd : FuncData} (F : Fun K "_law_weight" "_law_weight" sLweight f fd) (B : Blt mg) : FnOk P w K mg base CX0 1 f fd ["_law_word_here"] spWeight := by
  refine F.ok scLweight (fun vs H Q E h => ?_) (fun cdv A outer s H vs Q E hr h => ?_)
  · obtain ⟨v, x, rfl, _⟩ := h
    rfl
  · obtain ⟨v, x, rfl, hv, h100, k⟩ := h
    refine ⟨_, pss_one (ps_ret (pe_callB cr_len (by rfl) B.len PySem.boot_len (pa_cons
      (pe_lc (own := [("_law_x", 1)]) (g := gName 1) (tt := tTest (tOp rNe (tVar 1) (tC (.int 0)))) rfl scLweight.nd (pi_tup (pv 0))
        (blkOk_by (own := [("_law_x", 1)]) (N := ["_law_word_here", "_law_x"]) (sc := defScope sLweight) (by decide +kernel)) (fun _ _ _ _ _ => pg_name (i := 1) scLweight.nd rfl (Or.inl rfl)) (fun _ _ _ _ _ => pts_one (pt_cmpR op_ne (pv 1) pe_int (nomark _)))
        (fun _ _ _ _ _ => pv 1)) pa_nil))), ?_⟩
    refine EvP.go (P := IsN (weightW v)) (ev_lenN (PN := fun us H2 => Paired (RN H2) ((v.filter fun x => x != 0).map fun n => n) us) ?_ fun us H1 q => ?_) k
    · refine lc_t v RN (R := RN) (fun n => n != 0) (fun n => n) rn_mono ?_ (by omega) (fun _ => rfl) (fun n x H1 e hn hx H2 e2 => ?_) (fun n x H1 e hn hx _ H2 e2 => ?_)
      · exact ev_var rfl fun H1 e => by
          obtain ⟨b, r, hb⟩ := hv.ex e
          exact ⟨b, _, r, hb, iv_pair v⟩
      · rw [hx]
        refine eb_is (eb_T (ev_ne (x := .int ((n : Nat) : Int)) (y := .int 0) (ev_v rfl) ev_c rfl)) ?_
        by_cases h0 : n = 0
        · subst h0
          rfl
        · rw [decide_eq_false (fun z => h0 (by injection z with z; omega))]
          simp [h0]
      · rw [hx]
        exact ev_v rfl
    · rw [← pair_len q, List.length_map]
      rfl
/-! ### _law_dot -/
theorem scLdot : FnScope ["_law_v", "_law_w", "_law_p", "_law_k"] ["_law_v", "_law_w", "_law_p"] (defScope sLdot) := ⟨rfl, rfl, rfl, by decide +kernel, rfl, by decide +kernel, by decide +kernel⟩
theorem ok_ldot {f : Addr} {fd : FuncData} (F : Fun K "_law_dot" "_law_dot" sLdot f fd) (B : Blt mg) : FnOk P w K mg base CX0 1 f fd ["_law_v", "_law_w", "_law_p"] spDot := by
  refine F.ok scLdot (fun vs H Q E h => ?_) (fun cdv A outer s H vs Q E hr h => ?_)
  · obtain ⟨v, w, p, x, y, rfl, _⟩ := h
    rfl
  · obtain ⟨v, w, p, x, y, rfl, hv, hw, hl, h100, hs, hp, k⟩ := h
    refine ⟨_, pss_one (ps_ret (pe_op op_mod (pe_callTy call_int1 (by rfl) B.int PyProof.Rows.boot_int (pa_cons (pe_callB (cr_sum rfl) (by rfl) B.sum PyProof.Rows.boot_sum (pa_cons
      (pe_lc (own := [("_law_k", 3)]) (g := gName 3) (tt := tYes) rfl scLdot.nd (pi_range1 (by rfl) B.range (pa_cons (pe_callB cr_len (by rfl) B.len PySem.boot_len (pa_cons (pv 0) pa_nil)) pa_nil))
        (blkOk_by (own := [("_law_k", 3)]) (N := ["_law_v", "_law_w", "_law_p", "_law_k"]) (sc := defScope sLdot) (by decide +kernel)) (fun _ _ _ _ _ => pg_name (i := 3) scLdot.nd rfl (Or.inl rfl)) (fun _ _ _ _ _ => pts_nil)
        (fun _ _ _ _ _ => pe_op op_mul (pe_ix (r := rIxT K) ix_tup (pv 0) (pv 3) (fun _ _ => rfl)) (pe_ix (r := rIxT K) ix_tup (pv 1) (pv 3) (fun _ _ => rfl)))) pa_nil)) pa_nil)) (pv 2))), ?_⟩
    refine EvP.go (P := IsN (dotW v w p)) ?_ k
    refine (ev_i2 (i := (((List.zipWith (fun a b => a * b) v w).sum : Nat) : Int)) (j := ((p : Nat) : Int)) (ev_int (ev_sumN ?_)) (ev_v rfl) (by omega)).imp fun v H3 _ q => by
      rw [q]
      show V.int _ = V.int ((((List.zipWith (fun a b => a * b) _ w).sum % p : Nat) : Int))
      rw [Int.natCast_emod]
    refine EvN.imp (lc_r (n := v.length) (R := RN) (fun _ => true) (fun i => v.getD i 0 * w.getD i 0) rn_mono ?_ (by omega) (fun _ => rfl) (fun _ _ _ _ => eb_yes) (fun i H1 e hi _ => ?_)) (fun us H1 _ q => ?_)
    · exact ea_n (ev_lenW (ev_w rfl hv))
    · have h1 : v.getD i 0 < 1000 := by
        rw [List.getD_eq_getElem?_getD, List.getElem?_eq_getElem hi]
        exact hs _ (List.getElem_mem hi)
      refine (ev_i2 (i := ((v.getD i 0 : Nat) : Int)) (j := ((w.getD i 0 : Nat) : Int)) (ev_wix (ev_w rfl (hv.ex e)) (ev_v rfl) hi) (ev_wix (ev_w rfl (hw.ex e)) (ev_v rfl) (by omega)) (Or.inl (by omega))).imp fun u H3 _ q => by
        rw [q]
        show V.int _ = V.int (((v.getD i 0 * w.getD i 0 : Nat) : Int))
        rw [Int.natCast_mul]
    · rw [rn_iv q, filt_true, dotW_range v w hl]
/-! ### _law_all -/
def spLall : Sp := fun vs H Q _ => ∃ n p : Nat, vs = [.int ((n : Nat) : Int), .int ((p : Nat) : Int)] ∧ 0 < p ∧ p ≤ 10 ∧ n ≤ 20 ∧ p ^ n ≤ 4096 ∧ Ret (IsWL (allW n p)) H Q
abbrev nLall : List Str := ["_law_n", "_law_p", "_law_out", "_law_k", "_law_longer", "_law_word_here", "_law_a"]
theorem scLall : FnScope nLall ["_law_n", "_law_p"] (defScope sLall) := ⟨rfl, rfl, rfl, by decide +kernel, rfl, by decide +kernel, by decide +kernel⟩
theorem ok_lall {f : Addr} {fd : FuncData} (F : Fun K "_law_all" "_law_all" sLall f fd) (B : Blt mg) : FnOk P w K mg base CX0 1 f fd ["_law_n", "_law_p"] spLall := by
  refine F.ok scLall (fun vs H Q E h => ?_) (fun cdv A outer s H vs Q E hr h => ?_)
  · obtain ⟨n, p, rfl, _⟩ := h
    rfl
  · obtain ⟨n, p, rfl, hp0, hp, hn, hpn, k⟩ := h
    refine ⟨_, pss_cons (ps_set (i := 2) scLall.nd rfl (Or.inl rfl) (pe_lst (pa_cons (pe_tup pa_nil) pa_nil)))
      (pss_cons (ps_for PassesOwn.never rfl (pi_range1 (by rfl) B.range (pa_cons (pv 0) pa_nil)) (pg_name (i := 3) scLall.nd rfl (Or.inl rfl))
        (pss_cons (ps_set (i := 4) scLall.nd rfl (Or.inl rfl) (pe_lst pa_nil))
        (pss_cons (ps_for PassesOwn.never rfl (pi_list (pe_callTy call_list_of (by rfl) B.list PyProof.Rows.boot_list (pa_cons (pv 2) pa_nil))) (pg_name (i := 5) scLall.nd rfl (Or.inr rfl))
          (pss_one (ps_set (i := 4) scLall.nd rfl (Or.inl rfl) (pe_op op_cat (pv 4) (pe_lc (own := [("_law_a", 6)]) (g := gName 6) (tt := tYes) rfl scLall.nd (pi_range1 (by rfl) B.range (pa_cons (pv 1) pa_nil))
            (blkOk_by (own := [("_law_a", 6)]) (N := nLall) (sc := defScope sLall) (by decide +kernel)) (fun _ _ _ _ _ => pg_name (i := 6) scLall.nd rfl (Or.inl rfl)) (fun _ _ _ _ _ => pts_nil)
            (fun _ _ _ _ _ => pe_op (r := rCatA K) op_catA (pv 5) (pe_tup (pa_cons (pv 6) pa_nil))))))))
        (pss_one (ps_set (i := 2) scLall.nd rfl (Or.inl rfl) (pv 4))))))
      (pss_one (ps_ret (pv 2)))), ?_⟩
    have hlen : ∀ i, i ≤ n → (allW i p).length ≤ 4096 := fun i hi => by
      rw [allW_len]
      exact Nat.le_trans (Nat.pow_le_pow_right hp0 hi) hpn
    refine q_asgN1 (w := []) ev_word0 fun l0 u0 H1 n0 x1 hl0 hw0 => ?_
    refine q_forR (n := n) (ea_n (ev_v rfl)) (by omega) (fun i σ' H' => Ex H H' ∧ ∃ (lo : Addr) (uo : List V) (z3 z4 z5 : Option V), σ' = [some (.int ((n : Nat) : Int)), some (.int ((p : Nat) : Int)), some (.ref lo), z3, z4, z5, none] ∧ H' lo = some (.lst uo) ∧ Wds H' (allW i p) uo)
      (fun H2 x2 => ⟨x1.trans x2, l0, u0, none, none, none, rfl, x2 _ _ hl0, Wds.tx (TX.of x2) hw0⟩) ?_ ?_
    · rintro i σ' H' hi ⟨e, lo, uo, z3, z4, z5, rfl, hlo, hwo⟩
      refine q_asgN (PN := fun us _ => us = []) ev_nilL fun ll ul H3 nl x3 hll hl0' => ?_
      subst hl0'
      refine q_forN (PN := fun us H4 => Wds H4 (allW i p) us) (ev_listOf (ev_var rfl fun H4 x4 => ⟨lo, uo, rfl, x4 _ _ (x3 _ _ hlo), Wds.tx (TX.of (x3.trans x4)) hwo⟩))
        (fun us H4 j σ2 H5 => Ex H4 H5 ∧ ∃ (ll : Addr) (ul : List V) (z5 : Option V), σ2 = [some (.int ((n : Nat) : Int)), some (.int ((p : Nat) : Int)), some (.ref lo), some (.int ((i : Nat) : Int)), some (.ref ll), z5, none] ∧ H5 ll = some (.lst ul) ∧ Wds H5 (((allW i p).take j).flatMap (extW p)) ul)
        (fun us H4 x4 _ => ⟨Ex.refl H4, ll, [], z5, rfl, x4 _ _ hll, by rw [List.take_zero]; exact .nil⟩) (fun us H4 j σ2 H5 q => q.1) ?_ ?_
      · rintro us H4 j y σ2 H5 x4 hws hy ⟨e5, ll, ul, z5, rfl, hll, hwl⟩
        obtain ⟨w, hw, hyw⟩ := pair_get hws hy
        have ow := allW_ok p i w (List.mem_of_getElem? hw)
        have hsub : (((allW i p).take j).flatMap (extW p)).length ≤ 40000 := by
          have h1 := hlen (i + 1) hi
          rw [allW_succ] at h1
          refine Nat.le_trans ?_ (Nat.le_trans h1 (by omega))
          conv => rhs; rw [← List.take_append_drop j (allW i p)]
          rw [List.flatMap_append, List.length_append]
          omega
        refine s_asgN (PN := fun us H6 => Wds H6 (((allW i p).take j).flatMap (extW p) ++ extW p w) us) (ev_catL (ev_var rfl fun H6 x6 => ⟨ll, ul, rfl, x6 _ _ hll, Wds.tx (TX.of x6) hwl⟩) ?_ hsub (by unfold extW; rw [List.length_map, List.length_range]; omega)) fun l6 u6 H6 n6 x6 hl6 hw6 => ?_
        · refine EvN.imp (lc_r (n := p) (R := RW) (fun _ => true) (fun a => w ++ [a]) rw_mono ?_ (by omega) (fun _ => rfl) (fun _ _ _ _ => eb_yes) (fun a H7 e7 ha _ => ?_)) (fun us H7 _ q => ?_)
          · exact ea_n (ev_v rfl)
          · exact ev_catW (ev_w rfl (hyw.ex (e5.trans e7))) (ev_one (ev_v rfl)) (by rw [ow.1]; omega) (by show 1 ≤ 1000; omega)
          · rw [filt_true] at q
            exact q
        · refine ⟨e5.trans x6, l6, u6, _, rfl, hl6, ?_⟩
          rw [take_one hw, List.flatMap_append, List.flatMap_cons, List.flatMap_nil, List.append_nil]
          exact hw6
      · rintro us H4 σ2 H5 x4 hws ⟨e5, ll, ul, z5, rfl, hll, hwl⟩
        rw [← pair_len hws, List.take_length, ← allW_succ] at hwl
        refine s_asg (P := Is (.ref ll)) (ev_v rfl) fun v H6 x6 ev => ?_
        subst ev
        exact ⟨e.trans (x3.trans (x4.trans (e5.trans x6))), ll, ul, _, _, _, rfl, x6 _ _ hll, Wds.tx (TX.of x6) hwl⟩
    · rintro σ' H' ⟨e, lo, uo, z3, z4, z5, rfl, hlo, hwo⟩
      exact ⟨_, rfl, k _ H' e ⟨lo, uo, rfl, hlo, hwo⟩⟩
/-! ### _law_reasons -/
def tSuite (K : PySem.W.Frag) (R : Addr) : Addr → Value → Option Addr → TS := fun a cls d => tDrop (tBM K "list" rAppend (tVar 1) (tCons (tXf a cls d R "reason" (tVar 2)) tNil))
theorem try_step {sp : Sp} {D : Ends} {H : Hp} {a lt : Addr} {us : List V} (te : PySem.W.exmOne K (.ref R) (.ref R) = some true) (hsp : ∀ (Q : VK) (E : XK), Large R H E → sp [.ref a] H Q E) (hl : H lt = some (.lst us)) (hz : us.length < 100)
    (k : ∀ H1, ExB lt H H1 → H1 lt = some (.lst (us ++ [.str "large"])) → D.nx [some (.ref a), some (.ref lt), none] H1) :
    tDrop (tCallS sp (WE (wAs K (.ref R) 2 (tSuite K R) (fun _ _ _ _ => False) D)) (tCons (tVar 0) tNil)) D [some (.ref a), some (.ref lt), none] H := by
  refine ⟨_, rfl, hsp _ _ fun H1 d x1 hd => ?_⟩
  have hne : lt ≠ d := ne_of_none (x1 _ _ hl) hd
  have hl1 : upd H1 d (.xd [(("reason" : Str), V.str "large")]) lt = some (.lst us) := by
    rw [upd_ne hne]
    exact x1 _ _ hl
  refine ⟨true, te, fun _ a0 _ => ?_, fun z => by cases z⟩
  refine ⟨_, rfl, .inl ⟨rfl, us, SqL.of hl1⟩, _, rfl, rfl, rfl, d, _, .str "large", rfl, upd_same, rfl, lt, us, _, rfl, rfl, hl1, sz_small (by omega), ?_⟩
  refine k _ (fun b o nb hb => ?_) upd_same
  rw [upd_ne nb]
  have nd : b ≠ d := ne_of_none (x1 _ _ hb) hd
  rw [upd_ne nd]
  exact x1 _ _ hb
def spReasons (C : Addr) : Sp := fun vs H Q _ => ∃ (a : Addr) (p n : Nat) (t : List W), vs = [.ref a] ∧ CodeOk C H a p n t ∧ 4096 < p ^ (n - t.length) ∧ ∀ l H', Ex H H' → H' l = some (.lst [.str "large", .str "large", .str "large"]) → Q (.ref l) H'
abbrev nReasons : List Str := ["_law_code", "_law_told", "e"]
theorem scReasons : FnScope nReasons ["_law_code"] (defScope sReasons) := ⟨rfl, rfl, rfl, by decide +kernel, rfl, by decide +kernel, by decide +kernel⟩
theorem ok_reasons {f fC fV fD : Addr} {fd fdC fdV fdD : FuncData} (F : Fun K "_law_reasons" "_law_reasons" sReasons f fd) (B : Blt mg) (TR : PySem.RefX.RefTxt P K mg R fI)
    (FC : Fun K "cosets" "cosets" sCosets fC fdC) (gC : mg "cosets" = some (.ref fC)) (GC : FnOk P w K mg base (L2.CX P w) 6 fC fdC ["code"] (spCosets C R))
    (FV : Fun K "covering_radius" "covering_radius" sRadius fV fdV) (gV : mg "covering_radius" = some (.ref fV)) (GV : FnOk P w K mg base (L2.CX P w) 7 fV fdV ["code"] (spRadius C R))
    (FD : Fun K "count_decided" "count_decided" sDecided fD fdD) (gD : mg "count_decided" = some (.ref fD)) (GD : FnOk P w K mg base (L2.CX P w) 7 fD fdD ["code"] (spDecided C R)) : FnOk P w K mg base CX0 8 f fd ["_law_code"] (spReasons C) := by
  have bC : Binds K fdC ["code"] [] := FC.binds fun _ _ _ _ _ _ us hl => match us, hl with | [_], _ => rfl
  have bV : Binds K fdV ["code"] [] := FV.binds fun _ _ _ _ _ _ us hl => match us, hl with | [_], _ => rfl
  have bD : Binds K fdD ["code"] [] := FD.binds fun _ _ _ _ _ _ us hl => match us, hl with | [_], _ => rfl
  refine F.ok scReasons (fun vs H Q E h => ?_) (fun cdv A outer s H vs Q E hr h => ⟨tSeq (tAsg (tLst tNil) (gName 1)) (tSeq (fun D σ H => tDrop (tCallS (spCosets C R) (WE (wAs K (.ref R) 2 (tSuite K R) (fun _ _ _ _ => False) D)) (tCons (tVar 0) tNil)) D σ H)
    (tSeq (fun D σ H => tDrop (tCallS (spRadius C R) (WE (wAs K (.ref R) 2 (tSuite K R) (fun _ _ _ _ => False) D)) (tCons (tVar 0) tNil)) D σ H) (tSeq (fun D σ H => tDrop (tCallS (spDecided C R) (WE (wAs K (.ref R) 2 (tSuite K R) (fun _ _ _ _ => False) D)) (tCons (tVar 0) tNil)) D σ H) (tRet (tVar 1))))), ?_, ?_⟩)
  · obtain ⟨a, p, n, t, rfl, _⟩ := h
    rfl
  · have hr6 : Room 6 _ := hr.mono (by decide)
    exact pss_cons (ps_set (i := 1) scReasons.nd rfl (Or.inl rfl) (pe_lst pa_nil))
      (pss_cons (ps_try_as (i := 2) (tb := fun W => tDrop (tCallS (spCosets C R) (WE W) (tCons (tVar 0) tNil))) (ts := tSuite K R) (Wout := fun _ _ _ _ => False) rfl rfl scReasons.nd rfl rfl ⟨rfl, by decide, Or.inl TR.gC⟩ takes0
          (fun W pn xe tk _ => pss_one (ps_expr (by exact (pe_callS GC hr6 rfl gC FC.kp bC (fun σ => passAt tk σ) (by exact (pa_cons (pv 0) pa_nil))))))
          (fun a oe cls d pn hz hf => pss_one (ps_expr (by exact (pe_bm PySem.F.plainAttrs_list PySem.F.slot_list_append PySem.F.type_list_append mt_append (pv 1) (pa_cons (pe_xf TR.xf TR.noN hz hf (pv 2)) pa_nil))))))
      (pss_cons (ps_try_as (i := 2) (tb := fun W => tDrop (tCallS (spRadius C R) (WE W) (tCons (tVar 0) tNil))) (ts := tSuite K R) (Wout := fun _ _ _ _ => False) rfl rfl scReasons.nd rfl rfl ⟨rfl, by decide, Or.inl TR.gC⟩ takes0
          (fun W pn xe tk _ => pss_one (ps_expr (by exact (pe_callS GV hr rfl gV FV.kp bV (fun σ => passAt tk σ) (by exact (pa_cons (pv 0) pa_nil))))))
          (fun a oe cls d pn hz hf => pss_one (ps_expr (by exact (pe_bm PySem.F.plainAttrs_list PySem.F.slot_list_append PySem.F.type_list_append mt_append (pv 1) (pa_cons (pe_xf TR.xf TR.noN hz hf (pv 2)) pa_nil))))))
      (pss_cons (ps_try_as (i := 2) (tb := fun W => tDrop (tCallS (spDecided C R) (WE W) (tCons (tVar 0) tNil))) (ts := tSuite K R) (Wout := fun _ _ _ _ => False) rfl rfl scReasons.nd rfl rfl ⟨rfl, by decide, Or.inl TR.gC⟩ takes0
          (fun W pn xe tk _ => pss_one (ps_expr (by exact (pe_callS GD hr rfl gD FD.kp bD (fun σ => passAt tk σ) (by exact (pa_cons (pv 0) pa_nil))))))
          (fun a oe cls d pn hz hf => pss_one (ps_expr (by exact (pe_bm PySem.F.plainAttrs_list PySem.F.slot_list_append PySem.F.type_list_append mt_append (pv 1) (pa_cons (pe_xf TR.xf TR.noN hz hf (pv 2)) pa_nil))))))
      (pss_one (ps_ret (pv 1))))))
  · obtain ⟨a, p, n, t, rfl, co, hlt, k⟩ := h
    refine q_asgN (PN := fun us _ => us = []) ev_nilL fun lt ul H1 nl x1 hl hl0 => ?_
    subst hl0
    refine try_step TR.te (fun Q E hL => ?_) hl (by simp) fun H2 b2 hl2 => ?_
    · obtain ⟨ca, h1, h2, h3, h4⟩ := co.ex x1
      exact ⟨a, p, n, t, rfl, ca, h1, h2, h3, h4, .inl ⟨hlt, hL⟩⟩
    have x2 : Ex H H2 := b2.ex x1 nl
    refine try_step TR.te (fun Q E hL => ⟨a, p, n, t, rfl, co.ex x2, .inl ⟨hlt, hL⟩⟩) hl2 (by simp) fun H3 b3 hl3 => ?_
    have x3 : Ex H H3 := b3.ex x2 nl
    refine try_step TR.te (fun Q E hL => ⟨a, p, n, t, rfl, co.ex x3, .inl ⟨hlt, hL⟩⟩) hl3 (by simp) fun H4 b4 hl4 => ?_
    exact ⟨_, rfl, k _ H4 (b4.ex x3 nl) hl4⟩
end
end K21

set_option maxRecDepth 100000
set_option maxHeartbeats 8000000
/-! K21L4: what law needs: Code made, min, max, data of answers. -/
namespace K21
open PySem L2
open Evl (Ex)
abbrev sLaw : Stmt := top 43
/-! ### the mathematics -/
theorem foldl_min_le : ∀ (ns : List Nat) (a : Nat), ns.foldl Nat.min a ≤ a ∧ ∀ y ∈ ns, ns.foldl Nat.min a ≤ y
  | [], a => ⟨Nat.le_refl _, fun y h => (nomatch h)⟩
  | x :: r, a => by
    obtain ⟨h1, h2⟩ := foldl_min_le r (Nat.min a x)
    rw [List.foldl_cons]
    have a1 : Nat.min a x ≤ a := Nat.min_le_left a x
    have a2 : Nat.min a x ≤ x := Nat.min_le_right a x
    refine ⟨Nat.le_trans h1 a1, fun y hy => ?_⟩
    rcases List.mem_cons.mp hy with h | h
    · rw [h]
      exact Nat.le_trans h1 a2
    · exact h2 y h
theorem foldl_min_mem : ∀ (ns : List Nat) (a : Nat), ns.foldl Nat.min a = a ∨ ns.foldl Nat.min a ∈ ns
  | [], a => .inl rfl
  | x :: r, a => by
    rw [List.foldl_cons]
    rcases foldl_min_mem r (Nat.min a x) with h | h
    · rw [h]
      rcases Nat.le_total a x with q | q
      · exact .inl (Nat.min_eq_left q)
      · exact .inr (by rw [show Nat.min a x = x from Nat.min_eq_right q]; exact List.mem_cons_self)
    · exact .inr (List.mem_cons_of_mem _ h)
theorem minN_is {ns : List Nat} {m : Nat} (h : m ∈ ns) (hx : ∀ y ∈ ns, m ≤ y) : m = minN ns := by
  cases ns with
  | nil => cases h
  | cons x r =>
    show m = r.foldl Nat.min x
    apply Nat.le_antisymm
    · rcases foldl_min_mem r x with q | q
      · rw [q]
        exact hx x List.mem_cons_self
      · exact hx _ (List.mem_cons_of_mem _ q)
    · rcases List.mem_cons.mp h with q | q
      · rw [q]
        exact (foldl_min_le r x).1
      · exact (foldl_min_le r x).2 m q
theorem redAll_nil (n p : Nat) : (redAll [] n p).found = [] := by
  unfold redAll
  have : ∀ l : List Nat, l.foldl (redStep p) ⟨[], [], []⟩ = ⟨[], [], []⟩ := by
    intro l
    induction l with
    | nil => rfl
    | cons c l ih =>
      rw [List.foldl_cons]
      exact ih
  rw [this]
/-- the first i rounds over the words -/
def lawAt (n p : Nat) (checks : List W) (i : Nat) : Tb := ((allW n p).take i).foldl (fun t w => addT t (keyW checks p w) w) []
theorem lawAt_succ {n p i : Nat} {checks : List W} {w : W} (h : (allW n p)[i]? = some w) : lawAt n p checks (i + 1) = addT (lawAt n p checks i) (keyW checks p w) w := by
  unfold lawAt
  rw [take_one h, List.foldl_append]
  rfl
theorem lawAt_all {n p : Nat} {checks : List W} : lawAt n p checks (allW n p).length = lawTable n p checks := by
  unfold lawAt lawTable
  rw [List.take_length]
theorem lawAt_small (n p : Nat) (checks : List W) : ∀ i, Small i (lawAt n p checks i)
  | 0 => by unfold lawAt; rw [List.take_zero]; exact Small.nil
  | i + 1 => by
    cases h : (allW n p)[i]? with
    | some w =>
      rw [lawAt_succ h]
      exact (lawAt_small n p checks i).add _ _
    | none =>
      have hl := List.getElem?_eq_none_iff.mp h
      have e : lawAt n p checks (i + 1) = lawAt n p checks i := by
        unfold lawAt
        rw [List.take_of_length_le (by omega), List.take_of_length_le hl]
      rw [e]
      exact (lawAt_small n p checks i).mono (Nat.le_succ i)
/-- every word in the table is of the length n -/
def Words (n : Nat) (t : Tb) : Prop := ∀ e ∈ t, ∀ w ∈ e.2, w.length = n
theorem Words.get {n : Nat} {t : Tb} (h : Words n t) (k : W) : ∀ w ∈ (getT t k).getD [], w.length = n := by
  cases e : getT t k with
  | none => exact fun w hw => (nomatch hw)
  | some ws =>
    obtain ⟨e', he, _, rfl⟩ := getT_mem e
    exact h e' he
theorem Words.add {n : Nat} {t : Tb} (h : Words n t) {k w : W} (hw : w.length = n) : Words n (addT t k w) := by
  intro e he v hv
  rcases putT_mem he with he | he
  · exact h e he v hv
  · rw [he] at hv
    rcases List.mem_append.mp hv with hv | hv
    · exact h.get k v hv
    · rw [List.mem_singleton.mp hv]
      exact hw
theorem lawAt_words (n p : Nat) (checks : List W) : ∀ i, Words n (lawAt n p checks i)
  | 0 => by unfold lawAt; rw [List.take_zero]; exact fun e he => (nomatch he)
  | i + 1 => by
    cases h : (allW n p)[i]? with
    | some w =>
      rw [lawAt_succ h]
      exact (lawAt_words n p checks i).add (allW_ok p n w (List.mem_of_getElem? h)).1
    | none =>
      have hl := List.getElem?_eq_none_iff.mp h
      have e : lawAt n p checks (i + 1) = lawAt n p checks i := by
        unfold lawAt
        rw [List.take_of_length_le (by omega), List.take_of_length_le hl]
      rw [e]
      exact lawAt_words n p checks i
def dueAt (tbl : Tb) (keys : List W) (i : Nat) : Tb × Nat × Nat := (keys.take i).foldl (dueStep tbl) ([], 0, 0)
theorem dueAt_succ {tbl : Tb} {keys : List W} {i : Nat} {k : W} (h : keys[i]? = some k) : dueAt tbl keys (i + 1) = dueStep tbl (dueAt tbl keys i) k := by
  unfold dueAt
  rw [take_one h, List.foldl_append]
  rfl
theorem dueAt_len (tbl : Tb) (keys : List W) : ∀ i, (dueAt tbl keys i).1.length ≤ i
  | 0 => by unfold dueAt; rw [List.take_zero]; exact Nat.le_refl _
  | i + 1 => by
    cases h : keys[i]? with
    | some k =>
      rw [dueAt_succ h]
      unfold dueStep
      rw [List.length_append]
      have := dueAt_len tbl keys i
      simp only [List.length_singleton]
      omega
    | none =>
      have hl := List.getElem?_eq_none_iff.mp h
      have e : dueAt tbl keys (i + 1) = dueAt tbl keys i := by
        unfold dueAt
        rw [List.take_of_length_le (by omega), List.take_of_length_le hl]
      rw [e]
      exact Nat.le_succ_of_le (dueAt_len tbl keys i)
/-! ### the answer as data -/
def dE (e : W × List W) : PyData := .tuple [dW e.1, .tuple (e.2.map dW)]
def dT (t : Tb) : PyData := .tuple (t.map dE)
theorem eqv_dWs : ∀ ws : List W, PyData.eqvAll (ws.map dW) (ws.map dW) = true
  | [] => rfl
  | w :: ws => by
    rw [List.map_cons, PyData.eqvAll, eqv_dWs ws, eqv_dW]
    simp
theorem eqv_dE (e : W × List W) : PyData.eqv (dE e) (dE e) = true := by
  show PyData.eqvAll [dW e.1, .tuple (e.2.map dW)] [dW e.1, .tuple (e.2.map dW)] = true
  rw [PyData.eqvAll, PyData.eqvAll, PyData.eqvAll, eqv_dW]
  show ((e.1 == e.1) && (PyData.eqvAll (e.2.map dW) (e.2.map dW) && true)) = true
  rw [eqv_dWs]
  simp
theorem eqv_dEs : ∀ t : Tb, PyData.eqvAll (t.map dE) (t.map dE) = true
  | [] => rfl
  | e :: t => by
    rw [List.map_cons, PyData.eqvAll, eqv_dEs t, eqv_dE]
    rfl
theorem eqv_dT (t : Tb) : PyData.eqv (dT t) (dT t) = true := eqv_dEs t
section
variable {K : PySem.W.Frag} {H : Hp}
theorem dp_e {e : W × List W} {v : V} (h : PairR H e v) : Dp K H v (dE e) := by
  obtain ⟨b, x, y, rfl, hb, hx, a, us, rfl, ha, hw⟩ := h
  exact .tup (SqT.of hb) (.cons (dp_w hx) (.cons (.tup (SqT.of ha) (dp_ws hw)) .nil))
theorem dp_es : ∀ {t : Tb} {us : List V}, Paired (PairR H) t us → DpAll K H us (t.map dE)
  | _, _, .nil => .nil
  | _, _, .cons r t => .cons (dp_e r) (dp_es t)
theorem dp_t {t : Tb} {v : V} (h : IsCos t v H) : Dp K H v (dT t) := by
  obtain ⟨a, us, rfl, ha, hw⟩ := h
  exact .tup (SqT.of ha) (dp_es hw)
end
theorem canLay_dWs : ∀ ws : List W, PyData.canLayAll0 (ws.map dW) = true
  | [] => rfl
  | w :: ws => by
    rw [List.map_cons, PyData.canLayAll0, canLay_dWs ws, canLay_dW]
    rfl
theorem canLay_dE (e : W × List W) : (dE e).canLay0 = true := by
  show PyData.canLayAll0 [dW e.1, .tuple (e.2.map dW)] = true
  rw [PyData.canLayAll0, PyData.canLayAll0, PyData.canLayAll0, canLay_dW]
  show (true && (PyData.canLayAll0 (e.2.map dW) && true)) = true
  rw [canLay_dWs]
  rfl
theorem canLay_dEs : ∀ t : Tb, PyData.canLayAll0 (t.map dE) = true
  | [] => rfl
  | e :: t => by
    rw [List.map_cons, PyData.canLayAll0, canLay_dEs t, canLay_dE]
    rfl
theorem depth_dWs : ∀ ws : List W, PyData.depthAll (ws.map dW) ≤ 1
  | [] => Nat.zero_le _
  | w :: ws => by
    rw [List.map_cons, PyData.depthAll, depth_dW]
    exact Nat.max_le.mpr ⟨Nat.le_refl _, depth_dWs ws⟩
theorem depth_dE (e : W × List W) : (dE e).depth ≤ 3 := by
  show PyData.depthAll [dW e.1, .tuple (e.2.map dW)] + 1 ≤ 3
  rw [PyData.depthAll, PyData.depthAll, PyData.depthAll, depth_dW]
  show max 1 (max (PyData.depthAll (e.2.map dW) + 1) 0) + 1 ≤ 3
  have := depth_dWs e.2
  omega
theorem depth_dEs : ∀ t : Tb, PyData.depthAll (t.map dE) ≤ 3
  | [] => Nat.zero_le _
  | e :: t => by
    rw [List.map_cons, PyData.depthAll]
    exact Nat.max_le.mpr ⟨depth_dE e, depth_dEs t⟩
theorem shaped_dT (t : Tb) : SeqAt.shaped (dT t) = true := by
  unfold SeqAt.shaped
  rw [Bool.and_eq_true]
  refine ⟨canLay_dEs t, decide_eq_true ?_⟩
  show PyData.depthAll (t.map dE) + 1 ≤ 64
  have := depth_dEs t
  omega
section
variable {K : PySem.W.Frag} {σ : L2.St} {H : Hp} {te ta tb tc : TE} {D : Ends} {u : TS} {C : Addr}
theorem ev_minN {ns : List Nat} (h : EvN te σ H (fun us _ => us = iv ns)) (h0 : ns ≠ []) : EvP (tCB (rMin K) (tCons te tNil)) σ H (IsN (minN ns)) := fun H1 e Q q =>
  h H1 e _ fun p us H2 _ e2 h2 pn => ⟨p, ns.map fun n => ((n : Nat) : Int), rfl, SqL.of (by rw [← iv_ints, ← pn]; exact h2), by
    rw [List.length_map]
    exact List.length_pos_iff.mpr h0, fun m h1 h3 => by
    obtain ⟨k, hk, rfl⟩ := List.mem_map.mp h1
    have e : k = minN ns := minN_is hk fun y hy => by
      have := h3 _ (List.mem_map.mpr ⟨y, hy, rfl⟩)
      omega
    exact q _ _ e2 (by rw [← e])⟩
theorem ev_max2N {i j : Nat} (ha : EvP ta σ H (IsN i)) (hb : EvP tb σ H (IsN j)) : EvP (tCB (fun xs H Q => ∃ i j, xs = [.int i, .int j] ∧ Q (.int (if j > i then j else i)) H) (tCons ta (tCons tb tNil))) σ H (IsN (Nat.max i j)) := fun H1 e Q q =>
  ha H1 e _ fun x H2 e2 p => hb H2 (e.trans e2) _ fun y H3 e3 p' => ⟨((i : Nat) : Int), ((j : Nat) : Int), by rw [p, p'], q _ H3 (e2.trans e3) (by
    show V.int _ = V.int _
    have : ((Nat.max i j : Nat) : Int) = if ((j : Nat) : Int) > ((i : Nat) : Int) then ((j : Nat) : Int) else ((i : Nat) : Int) := by
      show ((max i j : Nat) : Int) = _
      by_cases h : i < j
      · rw [if_pos (by omega), Nat.max_eq_right (by omega)]
      · rw [if_neg (by omega), Nat.max_eq_left (by omega)]
    rw [this])⟩
/-- Code(p, n, rows) -/
theorem ev_make {E : XK} {p n : Nat} {rows : List W} (ha : EvP ta σ H (IsN p)) (hb : EvP tb σ H (IsN n)) (hc : EvP tc σ H (fun v H1 => WL H1 rows v ∨ WT H1 rows v)) (hok : ∀ r ∈ rows, Ok n p r) (h100 : rows.length ≤ 100) (hn : n ≤ 12) (hp : P7 p)
    (hpk : p ^ (redAll rows n p).found.length ≤ 4096) (hk : (redAll rows n p).found.length ≤ 20) : EvP (tMake C (spCinit C) [] E (tCons ta (tCons tb (tCons tc tNil)))) σ H (fun v H1 => ∃ a, v = .ref a ∧ CodeAt C H1 p n (redAll rows n p).found a) := fun H1 e Q q =>
  ea_3 ha hb hc (fun _ _ _ _ q => q) (fun _ _ _ _ q => q) H1 e _ fun vs H2 e2 ⟨v1, v2, v3, ev, q1, q2, q3⟩ x dx hx hdx hne => by
    have x1 : Ex H2 (upd H2 dx (.own x)) := Ex.new hdx
    have hx1 : upd H2 dx (.own x) x = none := by rw [upd_ne (Ne.symm hne)]; exact hx
    have x2 : Ex H2 (upd (upd H2 dx (.own x)) x (.ins C dx [])) := x1.trans (Ex.new hx1)
    refine ⟨x, dx, rows, n, p, v3, by rw [ev, q1, q2]; rfl, upd_same, q3.imp (fun z => z.ex x2) (fun z => z.tx (TX.of x2)), hok, h100, hn, hp, hpk, hk, fun H' eb ca => ⟨rfl, ?_⟩⟩
    refine q _ H' (e2.trans fun b o hb' => ?_) ⟨x, rfl, ca⟩
    exact eb b o (ne_of_none hb' hx) (x2 _ _ hb')
end
end K21

set_option maxRecDepth 100000
set_option maxHeartbeats 16000000
/-! K21L5: law, the walk. -/
namespace K21
open PySem L2
open Evl (Ex)
theorem lawOk_use {p n : Nat} {t : List W} (h : lawOk p n t = true) : t.length ≤ n ∧ (∀ k ∈ allW (n - t.length) p, (getT (lawTable n p (kernelW t n p)) k).getD [] ≠ []) ∧
    ∃ told, cosetsW p n t.length (kernelW t n p) = some told ∧ goodT told = true ∧ told = (dueAt (lawTable n p (kernelW t n p)) (allW (n - t.length) p) (allW (n - t.length) p).length).1 ∧
      radiusW told = (dueAt (lawTable n p (kernelW t n p)) (allW (n - t.length) p) (allW (n - t.length) p).length).2.1 ∧ decidedW p t.length told = (dueAt (lawTable n p (kernelW t n p)) (allW (n - t.length) p) (allW (n - t.length) p).length).2.2 := by
  unfold lawOk at h
  dsimp only at h
  rw [Bool.and_eq_true] at h
  obtain ⟨h1, h2⟩ := h
  have ed : dueAt (lawTable n p (kernelW t n p)) (allW (n - t.length) p) (allW (n - t.length) p).length = (allW (n - t.length) p).foldl (dueStep (lawTable n p (kernelW t n p))) ([], 0, 0) := by
    unfold dueAt
    rw [List.take_length]
  rw [ed]
  split at h2
  · cases h2
  · rename_i told hc
    rw [Bool.and_eq_true, Bool.and_eq_true, Bool.and_eq_true, Bool.and_eq_true] at h2
    obtain ⟨⟨⟨⟨a1, a2⟩, a3⟩, a4⟩, a5⟩ := h2
    refine ⟨of_decide_eq_true a1, fun k hk z => ?_, told, hc, a2, eq_of_beq a3, eq_of_beq a4, eq_of_beq a5⟩
    have := List.all_eq_true.mp h1 k hk
    rw [z] at this
    cases this
/-- how long the draw lets a word be -/
def mostN (p : Nat) : Nat := if 3 < p then 3 else 5
theorem pn_le {p n : Nat} (hp : P7 p) (hn : n < mostN p) : p ^ n ≤ 81 := by
  unfold mostN at hn
  rcases hp with h | h | h | h <;> subst h
  · exact Nat.le_trans (Nat.pow_le_pow_right (by omega) (show n ≤ 4 by simp at hn; omega)) (by decide)
  · exact Nat.le_trans (Nat.pow_le_pow_right (by omega) (show n ≤ 4 by simp at hn; omega)) (by decide)
  · exact Nat.le_trans (Nat.pow_le_pow_right (by omega) (show n ≤ 2 by simp at hn; omega)) (by decide)
  · exact Nat.le_trans (Nat.pow_le_pow_right (by omega) (show n ≤ 2 by simp at hn; omega)) (by decide)
theorem mostN_le (p : Nat) : mostN p ≤ 5 := by
  unfold mostN
  split <;> omega
theorem mostN_pos (p : Nat) : 0 < mostN p := by
  unfold mostN
  split <;> omega
section
variable {K : PySem.W.Frag} {σ : L2.St} {H : Hp} {te ta tb tl : TE} {D : Ends} {u t1 : TS}
/-- for w in a list of words; what the turns change is told by Pv -/
theorem q_forP {ws : List W} {j : Nat} (h : EvP tl σ H (IsWL ws)) (Pv : Hp → Nat → L2.St → Hp → Prop) (h0 : ∀ H1, Ex H H1 → Pv H1 0 σ H1) (keep : ∀ H1 i σ' H' a us, Ex H H1 → H1 a = some (.lst us) → Wds H1 ws us → Pv H1 i σ' H' → H' a = some (.lst us)) (tx : ∀ H1 i σ' H', Ex H H1 → Pv H1 i σ' H' → TX H1 H')
    (hs : ∀ H1 (i : Nat) (w : W) (y : V) σ' H', Ex H H1 → ws[i]? = some w → Wd H' w y → Pv H1 i σ' H' → t1 { D with nx := Pv H1 (i + 1), ct := Pv H1 (i + 1), bk := u D } (σ'.set j (some y)) H') (hd : ∀ H1 σ' H', Ex H H1 → Pv H1 ws.length σ' H' → u D σ' H') : tSeq (tFor (iList K tl) (gName j) t1) u D σ H :=
  h H (Ex.refl H) _ fun v H1 e ⟨a, us, r, ha, hw⟩ => ⟨a, r, ⟨us, SqL.of ha⟩, for_list (xs := us) (Pv H1) (h0 H1 e) (fun i σ' H' _ q => SqL.of (keep H1 i σ' H' a us e ha hw q)) (fun i x σ' H' hx q => by
    obtain ⟨w, hw', hy⟩ := pair_get hw hx
    exact hs H1 i w x σ' H' e hw' (hy.tx (tx H1 i σ' H' e q)) q) (fun σ' H' q => hd H1 σ' H' e (by rw [pair_len hw]; exact q))⟩
theorem ev_lall {E : XK} {n p : Nat} (ha : EvP ta σ H (IsN n)) (hb : EvP tb σ H (IsN p)) (hp0 : 0 < p) (hp : p ≤ 10) (hn : n ≤ 20) (hpn : p ^ n ≤ 4096) : EvP (tCall spLall [] E (tCons ta (tCons tb tNil))) σ H (IsWL (allW n p)) :=
  ev_call (ea_2 ha hb fun _ _ _ _ q => q) fun vs H1 e ⟨v, u, ev, q1, q2⟩ Q q => ⟨n, p, by rw [ev, q1, q2]; rfl, hp0, hp, hn, hpn, q⟩
/-- tuple of the rows so far -/
theorem ev_tupD {t : Tb} {a : Addr} {us : List V} (h : EvP te σ H (Is (.ref a))) (ha : H a = some (.lst us)) (hw : Paired (PairR H) t us) : EvP (tCB (rTup K) (tCons te tNil)) σ H (IsCos t) := fun H1 e Q q =>
  h H1 e _ fun v H2 e2 ev => ⟨a, us, by rw [ev], .inl ⟨SqL.of ((e.trans e2) _ _ ha), fun l hl => q _ _ (e2.trans (Ex.new hl)) ⟨l, us, rfl, upd_same, Paired.imp hw fun _ _ z => PairR.mono _ _ _ _ (TX.of ((e.trans e2).trans (Ex.new hl))) z⟩⟩⟩
/-- the answer is the due one -/
theorem ev_neD {t : Tb} (ha : EvP ta σ H (IsCos t)) (hb : EvP tb σ H (IsCos t)) : EvP (tOp (rNeD K) ta tb) σ H (IsB false) := fun H1 e Q q =>
  ha H1 e _ fun x H2 e2 p => hb H2 (e.trans e2) _ fun y H3 e3 p' => ⟨dT t, dT t, dp_t (p.ex e3), dp_t p', shaped_dT t, shaped_dT t, by
    rw [eqv_dT]
    exact q _ H3 (e2.trans e3) rfl⟩
end
section
variable {K : PySem.W.Frag} {σ : L2.St} {H : Hp} {ta : TE}
theorem dp3 {H : Hp} {l : Addr} (h : H l = some (.lst [.str "large", .str "large", .str "large"])) : Dp K H (.ref l) (.list [.str "large", .str "large", .str "large"]) := .lst (SqL.of h) (.cons (.str _) (.cons (.str _) (.cons (.str _) .nil)))
/-- == of the two lists of reasons -/
theorem ev_eqL3 (h : EvP ta σ H (fun v H1 => ∃ l, v = .ref l ∧ H1 l = some (.lst [.str "large", .str "large", .str "large"]))) : EvP (tOp (rEqD K) ta (tLst (tCons (tC (.str "large")) (tCons (tC (.str "large")) (tCons (tC (.str "large")) tNil))))) σ H (IsB true) := fun H1 e Q q =>
  h H1 e _ fun v H2 e2 ⟨l, r, hl⟩ => ⟨by show 3 ≤ sizeLine; decide, fun d hd => ⟨.list [.str "large", .str "large", .str "large"], .list [.str "large", .str "large", .str "large"], by subst r; exact dp3 (Ex.new hd _ _ hl), dp3 upd_same, by decide +kernel, by decide +kernel, by
    have e1 : PyData.eqv (.list [.str "large", .str "large", .str "large"]) (.list [.str "large", .str "large", .str "large"]) = true := by decide +kernel
    rw [e1]
    exact q _ _ (e2.trans (Ex.new hd)) rfl⟩⟩
end
abbrev lst (a l : Addr) (p n : Nat) (vr : V) (ac : Addr) (vc : V) (lt : Addr) (tail : L2.St) : L2.St := some (.ref a) :: some (.ref l) :: some (.int ((p : Nat) : Int)) :: some (.int ((n : Nat) : Int)) :: some vr :: some (.ref ac) :: some vc :: some (.ref lt) :: tail
section
variable {P : Program} {w : World} {K : PySem.W.Frag} {mg : Str → Option Value} {base : Heap} {C R fI : Addr}
def spLaw (K : PySem.W.Frag) : Sp := fun vs H Q _ => ∃ (a : Addr) (ns : List Int), vs = [.ref a] ∧ SqL K H a (ns.map V.int) ∧ ∀ H', Q (.bl true) H'
abbrev nLaw : List Str := ["_law_script", "_law_state_here", "_law_p", "_law_n", "_law_rows_here", "_law_code", "_law_checks", "_law_table", "_law_word_here", "_law_key", "_law_due", "_law_decided", "_law_radius", "_law_words", "_law_least", "_law_leaders", "_law_told", "_law_q", "_law_row"]
theorem scLaw : FnScope nLaw ["_law_script"] (defScope sLaw) := ⟨rfl, rfl, rfl, by decide +kernel, rfl, by decide +kernel, by decide +kernel⟩
/-- the plain law -/
def Plain : Prop := ∀ (p n : Nat) (rows : List W), P7 p → n < mostN p → rows.length ≤ 2 → (∀ r ∈ rows, Ok n p r) → lawOk p n (redAll rows n p).found = true
structure LawFns (P : Program) (w : World) (K : PySem.W.Frag) (mg : Str → Option Value) (base : Heap) (C R : Addr) : Prop where
  st : ∃ f fd, mg "_law_state" = some (.ref f) ∧ PySem.W.keepIn K (.ref f) = true ∧ Binds K fd ["_law_script"] [] ∧ FnOk P w K mg base CX0 1 f fd ["_law_script"] (spState K)
  pr : ∃ f fd, mg "_law_prime" = some (.ref f) ∧ PySem.W.keepIn K (.ref f) = true ∧ Binds K fd ["_law_state_here"] [] ∧ FnOk P w K mg base CX0 2 f fd ["_law_state_here"] spLprime
  tk : ∃ f fd, mg "_law_take" = some (.ref f) ∧ PySem.W.keepIn K (.ref f) = true ∧ Binds K fd ["_law_state_here", "_law_m"] [] ∧ FnOk P w K mg base CX0 1 f fd ["_law_state_here", "_law_m"] spTake
  rw_ : ∃ f fd, mg "_law_rows" = some (.ref f) ∧ PySem.W.keepIn K (.ref f) = true ∧ Binds K fd ["_law_state_here", "_law_n", "_law_p", "_law_most"] [] ∧ FnOk P w K mg base CX0 3 f fd ["_law_state_here", "_law_n", "_law_p", "_law_most"] spLrows
  al : ∃ f fd, mg "_law_all" = some (.ref f) ∧ PySem.W.keepIn K (.ref f) = true ∧ Binds K fd ["_law_n", "_law_p"] [] ∧ FnOk P w K mg base CX0 1 f fd ["_law_n", "_law_p"] spLall
  dt : ∃ f fd, mg "_law_dot" = some (.ref f) ∧ PySem.W.keepIn K (.ref f) = true ∧ Binds K fd ["_law_v", "_law_w", "_law_p"] [] ∧ FnOk P w K mg base CX0 1 f fd ["_law_v", "_law_w", "_law_p"] spDot
  wt : ∃ f fd, mg "_law_weight" = some (.ref f) ∧ PySem.W.keepIn K (.ref f) = true ∧ Binds K fd ["_law_word_here"] [] ∧ FnOk P w K mg base CX0 1 f fd ["_law_word_here"] spWeight
  co : ∃ f fd, mg "cosets" = some (.ref f) ∧ PySem.W.keepIn K (.ref f) = true ∧ Binds K fd ["code"] [] ∧ FnOk P w K mg base (L2.CX P w) 6 f fd ["code"] (spCosets C R)
  ra : ∃ f fd, mg "covering_radius" = some (.ref f) ∧ PySem.W.keepIn K (.ref f) = true ∧ Binds K fd ["code"] [] ∧ FnOk P w K mg base (L2.CX P w) 7 f fd ["code"] (spRadius C R)
  de : ∃ f fd, mg "count_decided" = some (.ref f) ∧ PySem.W.keepIn K (.ref f) = true ∧ Binds K fd ["code"] [] ∧ FnOk P w K mg base (L2.CX P w) 7 f fd ["code"] (spDecided C R)
  re : ∃ f fd, mg "_law_reasons" = some (.ref f) ∧ PySem.W.keepIn K (.ref f) = true ∧ Binds K fd ["_law_code"] [] ∧ FnOk P w K mg base CX0 8 f fd ["_law_code"] (spReasons C)
  mk_ : ∃ f fd, Mk K C f ∧ Binds K fd ["self", "p", "n", "rows"] [] ∧ FnOk P w K mg base CX0 4 f fd ["self", "p", "n", "rows"] (spCinit C)
  ch : ∃ f fd, Meth K C "checks" f ∧ Binds K fd ["self"] [] ∧ FnOk P w K mg base CX0 5 f fd ["self"] (spChecks C)
  gC : mg "Code" = some (.ref C)
theorem ok_law {f : Addr} {fd : FuncData} (F : Fun K "law" "law" sLaw f fd) (B : Blt mg) (c : CodeC K C) (L : LawFns P w K mg base C R) (plain : Plain) : FnOk P w K mg base CX0 9 f fd ["_law_script"] (spLaw K) := by
  obtain ⟨fSt, dSt, gSt, kSt, bSt, GSt⟩ := L.st
  obtain ⟨fPr, dPr, gPr, kPr, bPr, GPr⟩ := L.pr
  obtain ⟨fTk, dTk, gTk, kTk, bTk, GTk⟩ := L.tk
  obtain ⟨fRw, dRw, gRw, kRw, bRw, GRw⟩ := L.rw_
  obtain ⟨fAl, dAl, gAl, kAl, bAl, GAl⟩ := L.al
  obtain ⟨fDt, dDt, gDt, kDt, bDt, GDt⟩ := L.dt
  obtain ⟨fWt, dWt, gWt, kWt, bWt, GWt⟩ := L.wt
  obtain ⟨fCo, dCo, gCo, kCo, bCo, GCo⟩ := L.co
  obtain ⟨fRa, dRa, gRa, kRa, bRa, GRa⟩ := L.ra
  obtain ⟨fDe, dDe, gDe, kDe, bDe, GDe⟩ := L.de
  obtain ⟨fRe, dRe, gRe, kRe, bRe, GRe⟩ := L.re
  obtain ⟨fMk, dMk, mMk, bMk, GMk⟩ := L.mk_
  obtain ⟨fCh, dCh, mCh, bCh, GCh⟩ := L.ch
  refine F.ok scLaw (fun vs H Q E h => ?_) (fun cdv A outer s H vs Q E hr h => ?_)
  · obtain ⟨a, ns, rfl, _⟩ := h
    rfl
  · obtain ⟨a, ns, rfl, hS, k⟩ := h
    have hr1 : Room 1 _ := hr.mono (by decide)
    have hr2 : Room 2 _ := hr.mono (by decide)
    have hr3 : Room 3 _ := hr.mono (by decide)
    have hr5 : Room 5 _ := hr.mono (by decide)
    have hr6 : Room 6 _ := hr.mono (by decide)
    have hr7 : Room 7 _ := hr.mono (by decide)
    have hu1 := hu_of hr
    have hu : (A.deeper (PyProof.Rows.envOfC (Str.ofString "law") (defScope sLaw) s.heap.objs.size f cdv)).units + 64 < cLine := by have := hr.un; omega
    refine ⟨_, pss_cons (ps_set (i := 1) scLaw.nd rfl (Or.inl rfl) (pe_call GSt hr1 (by rfl) gSt kSt bSt .nil pass0 (pa_cons (pv 0) pa_nil)))
      (pss_cons (ps_set (i := 2) scLaw.nd rfl (Or.inr rfl) (pe_call GPr hr2 (by rfl) gPr kPr bPr .nil pass0 (pa_cons (pv 1) pa_nil)))
      (pss_cons (ps_set (i := 3) scLaw.nd rfl (Or.inl rfl) (pe_call GTk hr1 (by rfl) gTk kTk bTk .nil pass0 (pa_cons (pv 1) (pa_cons (pe_op op_sub pe_int (pe_op op_mul pe_int (pe_callTy call_int1 (by rfl) B.int PyProof.Rows.boot_int (pa_cons (pe_cmpR op_gt (pv 2) pe_int (nomark _)) pa_nil)))) pa_nil))))
      (pss_cons (ps_set (i := 4) scLaw.nd rfl (Or.inl rfl) (pe_call GRw hr3 (by rfl) gRw kRw bRw .nil pass0 (pa_cons (pv 1) (pa_cons (pv 3) (pa_cons (pv 2) (pa_cons pe_int pa_nil))))))
      (pss_cons (ps_set (i := 5) scLaw.nd rfl (Or.inl rfl) (pe_make mMk GMk hr5 (by rfl) L.gC bMk .nil pass0 (pa_cons (pv 2) (pa_cons (pv 3) (pa_cons (pv 4) pa_nil)))))
      (pss_cons (ps_set (i := 6) scLaw.nd rfl (Or.inl rfl) (pe_meth0 (pv 5) c.cl mCh GCh hr5 bCh .nil pass0))
      (pss_cons (ps_set (i := 7) scLaw.nd rfl (Or.inl rfl) pe_dnewT)
      (pss_cons (ps_for PassesOwn.never rfl (pi_list (pe_call GAl hr1 (by rfl) gAl kAl bAl .nil pass0 (pa_cons (pv 3) (pa_cons (pv 2) pa_nil)))) (pg_name (i := 8) scLaw.nd rfl (Or.inr rfl))
        (pss_cons (ps_set (i := 9) scLaw.nd rfl (Or.inl rfl) (pe_callTy cr_tup (by rfl) B.tuple PyProof.Rows.boot_tuple (pa_cons
          (pe_lc (own := [("_law_row", 18)]) (g := gName 18) (tt := tYes) rfl scLaw.nd (pi_tup (pv 6)) (blkOk_by (own := [("_law_row", 18)]) (N := nLaw) (sc := defScope sLaw) (by decide +kernel)) (fun _ _ _ _ _ => pg_name (i := 18) scLaw.nd rfl (Or.inl rfl)) (fun _ _ _ _ _ => pts_nil)
            (fun _ _ _ _ _ => pe_call GDt hr1 (by rfl) gDt kDt bDt .nil pass0 (pa_cons (pv 18) (pa_cons (pv 8) (pa_cons (pv 2) pa_nil))))) pa_nil)))
        (pss_one (ps_dput hu1 (pv 7) (pv 9) (pe_op op_catA (pe_dget2 hu1 (pv 7) (pv 9) (pe_tup pa_nil) ⟨rfl, rfl, rfl, rfl⟩) (pe_tup (pa_cons (pv 8) pa_nil))) rfl))))
      (pss_cons (ps_set (i := 10) scLaw.nd rfl (Or.inl rfl) (pe_lst pa_nil))
      (pss_cons (ps_set (i := 11) scLaw.nd rfl (Or.inl rfl) pe_int)
      (pss_cons (ps_set (i := 12) scLaw.nd rfl (Or.inl rfl) pe_int)
      (pss_cons (ps_for PassesOwn.never rfl (pi_list (pe_call GAl hr1 (by rfl) gAl kAl bAl .nil pass0 (pa_cons (pe_op op_sub (pv 3) (pe_fld (pv 5) rfl)) (pa_cons (pv 2) pa_nil)))) (pg_name (i := 9) scLaw.nd rfl (Or.inl rfl))
        (pss_cons (ps_set (i := 13) scLaw.nd rfl (Or.inl rfl) (pe_dget2 hu1 (pv 7) (pv 9) (pe_tup pa_nil) ⟨rfl, rfl, rfl, rfl⟩))
        (pss_cons (ps_if (pt_cmpR op_eq (pe_callB cr_len (by rfl) B.len PySem.boot_len (pa_cons (pv 13) pa_nil)) pe_int (nomark _)) (pss_one (ps_ret pe_bl)) pss_nil)
        (pss_cons (ps_set (i := 14) scLaw.nd rfl (Or.inr rfl) (pe_callB (cr_min rfl) (by rfl) B.min PyProof.Rows.boot_min (pa_cons
          (pe_lc (own := [("_law_word_here", 8)]) (g := gName 8) (tt := tYes) rfl scLaw.nd (pi_tup (pv 13)) (blkOk_by (own := [("_law_word_here", 8)]) (N := nLaw) (sc := defScope sLaw) (by decide +kernel)) (fun _ _ _ _ _ => pg_name (i := 8) scLaw.nd rfl (Or.inl rfl)) (fun _ _ _ _ _ => pts_nil)
            (fun _ _ _ _ _ => pe_call GWt hr1 (by rfl) gWt kWt bWt .nil pass0 (pa_cons (pv 8) pa_nil))) pa_nil)))
        (pss_cons (ps_set (i := 15) scLaw.nd rfl (Or.inl rfl) (pe_callTy cr_tup (by rfl) B.tuple PyProof.Rows.boot_tuple (pa_cons
          (pe_lc (own := [("_law_word_here", 8)]) (g := gName 8) (tt := tTest (tOp rEq (tCall spWeight [] E0 (tCons (tVar 8) tNil)) (tVar 14))) rfl scLaw.nd (pi_tup (pv 13)) (blkOk_by (own := [("_law_word_here", 8)]) (N := nLaw) (sc := defScope sLaw) (by decide +kernel)) (fun _ _ _ _ _ => pg_name (i := 8) scLaw.nd rfl (Or.inl rfl))
            (fun _ _ _ _ _ => pts_one (pt_cmpR op_eq (pe_call GWt hr1 (by rfl) gWt kWt bWt .nil pass0 (pa_cons (pv 8) pa_nil)) (pv 14) (nomark _)))
            (fun _ _ _ _ _ => pv 8)) pa_nil)))
        (pss_cons (ps_expr (pe_bm PySem.F.plainAttrs_list PySem.F.slot_list_append PySem.F.type_list_append mt_append (pv 10) (pa_cons (pe_tup (pa_cons (pv 9) (pa_cons (pv 15) pa_nil))) pa_nil)))
        (pss_cons (ps_set (i := 12) scLaw.nd rfl (Or.inl rfl) (pe_callB (call_max2 rfl) (by rfl) B.max PyProof.Rows.boot_max (pa_cons (pv 12) (pa_cons (pv 14) pa_nil))))
        (pss_one (ps_set (i := 11) scLaw.nd rfl (Or.inl rfl) (pe_op op_add (pv 11) (pe_op op_mul (pe_callTy call_int1 (by rfl) B.int PyProof.Rows.boot_int (pa_cons (pe_cmpR op_eq (pe_callB cr_len (by rfl) B.len PySem.boot_len (pa_cons (pv 15) pa_nil)) pe_int (nomark _)) pa_nil)) (pe_callB cr_len (by rfl) B.len PySem.boot_len (pa_cons (pv 13) pa_nil)))))))))))))
      (pss_cons (ps_set (i := 16) scLaw.nd rfl (Or.inl rfl) (pe_call GCo hr6 (by rfl) gCo kCo bCo .nil passL (pa_cons (pv 5) pa_nil)))
      (pss_cons (ps_if (PW.pt (pw_or (pt_cmpR (op_neD hu) (pv 16) (pe_callTy cr_tup (by rfl) B.tuple PyProof.Rows.boot_tuple (pa_cons (pv 10) pa_nil)) (nomark _)) (pw_or (pt_cmpR op_ne (pe_call GRa hr7 (by rfl) gRa kRa bRa .nil passL (pa_cons (pv 5) pa_nil)) (pv 12) (nomark _))
          (pw_or1 (pt_cmpR op_ne (pe_call GDe hr7 (by rfl) gDe kDe bDe .nil passL (pa_cons (pv 5) pa_nil)) (pv 11) (nomark _)))))) (pss_one (ps_ret pe_bl)) pss_nil)
      (pss_cons (ps_set (i := 17) scLaw.nd rfl (Or.inl rfl) (pv 2))
      (pss_cons (ps_if (pt_cmpR op_eq (pv 2) pe_int (nomark _)) (pss_one (ps_set (i := 17) scLaw.nd rfl (Or.inl rfl) pe_int)) pss_nil)
      (pss_one (ps_ret (pe_cmpR (op_eqD hu) (pe_call GRe hr (by rfl) gRe kRe bRe .nil pass0 (pa_cons (pe_make mMk GMk hr5 (by rfl) L.gC bMk .nil pass0 (pa_cons (pv 17) (pa_cons pe_int (pa_cons (pe_tup pa_nil) pa_nil)))) pa_nil)) (pe_lst (pa_cons pe_str (pa_cons pe_str (pa_cons pe_str pa_nil)))) (nomark _))))))))))))))))))), ?_⟩
    -- the draws
    refine q_asg (P := fun v H' => ∃ l, v = .ref l ∧ H l = none ∧ DrawAt H' l) (fun H1 e Q q => ⟨_, rfl, a, ns, rfl, Evl.ex_l e hS, fun l H' x hl dr => q _ H' x ⟨l, rfl, Evl.fresh_back e hl, dr⟩⟩) fun v1 H1 x1 ⟨l, ev1, nl, dr1⟩ => ?_
    subst ev1
    refine ⟨_, rfl, l, rfl, dr1, fun p H2 hp eb2 dr2 => ?_⟩
    have e2 : Ex H H2 := eb2.ex x1 nl
    refine ⟨_, rfl, EvP.go (P := IsN (mostN p)) ?_ fun v3 H3 x3 ev3 => ?_⟩
    · refine (ev_i2' (i := 5) (j := 2 * (if decide ((3 : Int) < ((p : Nat) : Int)) then 1 else 0)) ev_c (ev_i2 (i := 2) (j := if decide ((3 : Int) < ((p : Nat) : Int)) then 1 else 0) ev_c (ev_intB ((ev_i2' (i := ((p : Nat) : Int)) (j := 3) (ev_v rfl) ev_c).imp fun v H3 _ q => q)) (Or.inl (by omega)))).imp fun v H3 _ q => ?_
      rw [q]
      show V.int _ = V.int _
      unfold mostN
      by_cases h3 : 3 < p
      · rw [decide_eq_true (by omega), if_pos h3]
        rfl
      · rw [decide_eq_false (by omega), if_neg h3]
        rfl
    subst ev3
    refine ⟨l, mostN p, rfl, dr2.ex x3, mostN_pos p, by have := mostN_le p; omega, fun n H4 hn eb4 dr4 => ?_⟩
    have e4 : Ex H H4 := eb4.ex (e2.trans x3) nl
    have hn5 : n < 5 := Nat.lt_of_lt_of_le hn (mostN_le p)
    have hp0 := hp.pos
    have hp10 := hp.le
    refine ⟨_, rfl, _, rfl, _, rfl, l, n, p, 2, rfl, dr4, hp0, by omega, by omega, by omega, fun vr H5 ⟨rows, hok, hlen, hvr⟩ eb5 dr5 => ?_⟩
    have hpl := plain p n rows hp hn hlen hok
    have O := redAt_ok hok hp0 n (Nat.le_refl n)
    have eA : redAll rows n p = redAt rows p n := rfl
    rw [← eA] at O
    have htok := O.found
    obtain ⟨hkn, hkeys, told, hcos, hgood, htold, hrad, hdec⟩ := lawOk_use hpl
    have hpn := pn_le hp hn
    have hpk : ∀ j, j ≤ n → p ^ j ≤ 81 := fun j hj => Nat.le_trans (Nat.pow_le_pow_right hp0 hj) hpn
    have hmake : EvP (tMake C (spCinit C) [] E0 (tCons (tVar 2) (tCons (tVar 3) (tCons (tVar 4) tNil)))) (start nLaw [.ref a] |>.set 1 (some (.ref l)) |>.set 2 (some (.int ((p : Nat) : Int))) |>.set 3 (some (.int ((n : Nat) : Int))) |>.set 4 (some vr)) H5 (fun v H1 => ∃ a, v = .ref a ∧ CodeAt C H1 p n (redAll rows n p).found a) :=
      ev_make (rows := rows) (ev_v rfl) (ev_v rfl) (ev_var rfl fun H6 x6 => Or.inl (hvr.ex x6)) hok (by omega) (by omega) hp (by have := hpk _ hkn; omega) (by omega)
    refine q_asg hmake fun v5 H6 x6 ⟨ac, ev5, ca⟩ => ?_
    subst ev5
    clear hmake
    generalize (redAll rows n p).found = t at ca htok hkn hkeys hcos htold hrad hdec
    have hck := kernelW_ok (rows := t) (n := n) hp.two
    have hcl : (kernelW t n p).length ≤ n := kernelW_len
    refine q_asg (P := IsWT (kernelW t n p)) (ev_checks (ev_v rfl) ca htok (by omega) (by omega) hp) fun vc H7 x7 hvc => ?_
    have co7 : CodeOk C H7 ac p n t := ⟨ca.ex x7, htok, hkn, by omega, hp⟩
    -- the table of all words
    refine q_asgD fun lt H8 nlt x8 hlt => ?_
    generalize hchk : kernelW t n p = checks at hvc hck hcl hkeys hcos htold hrad hdec
    have hlen81 : (allW n p).length ≤ 81 := by rw [allW_len]; exact hpn
    refine q_forP (ws := allW n p) (ev_lall (ev_v rfl) (ev_v rfl) hp0 hp10 (by omega) (by omega)) (fun H9 i σ' H' => ExB lt H9 H' ∧ ∃ (kvs : List (List Key × V)) (z8 z9 : Option V), σ' = lst a l p n vr ac vc lt [z8, z9, none, none, none, none, none, none, none, none, none] ∧ H' lt = some (.dT kvs) ∧ TbR H' (lawAt n p checks i) kvs)
      (fun H9 x9 => ⟨ExB.refl H9, [], none, none, rfl, x9 _ _ hlt, by unfold lawAt; rw [List.take_zero]; exact .nil⟩) (fun H9 i σ' H' b us x9 hb _ q => q.1 b _ (fun z => by rw [z, x9 _ _ hlt] at hb; cases hb) hb)
      (fun H9 i σ' H' x9 q b xs hb => q.1 b _ (fun z => by rw [z, x9 _ _ hlt] at hb; cases hb) hb) ?_ ?_
    · rintro H9 i w y σ' H' x9 hw hy ⟨eb, kvs, z8, z9, rfl, hlt', htb⟩
      have e7 : Ex H7 H' := eb.ex (x8.trans x9) nlt
      have ow := allW_ok p n w (List.mem_of_getElem? hw)
      have hi : i < 81 := by
        have := (List.getElem?_eq_some_iff.mp hw).1
        omega
      have sm := lawAt_small n p checks i
      refine q_asg (P := IsW (keyW checks p w)) (ev_tupW ?_) fun vk H10 x10 hk => ?_
      · refine EvN.imp (lc_t checks RW (R := RN) (fun _ => true) (fun r => dotW r w p) rn_mono ?_ (by omega) (fun _ => rfl) (fun _ _ _ _ _ _ _ _ => eb_yes) (fun r x H1 e1 hr hx _ H2 e2' => ?_)) (fun us H1 _ q => ?_)
        · exact ev_var rfl fun H1 e1 => hvc.tx (TX.of (e7.trans e1))
        · have or' := hck r hr
          exact ev_dot (ev_w rfl (hx.ex e2')) (ev_w rfl (hy.ex (e1.trans e2'))) (ev_v rfl) (by rw [or'.1, ow.1]) (by rw [or'.1]; omega) (fun x hx => Nat.lt_of_lt_of_le (or'.2 x hx) (by omega)) hp0
        · rw [rn_iv q, filt_true]
          rfl
      · have hlt10 := x10 _ _ hlt'
        have htb10 := TbR.tx (TX.of x10) htb
        have hkl : kvs.length < 100000 := by
          rw [← pair_len htb]
          have := sm.1
          omega
        refine s_dput (ws := (getT (lawAt n p checks i) (keyW checks p w)).getD [] ++ [w]) hlt10 htb10 hkl (ev_catWT (ev_get (ev_v rfl) hlt10 htb10 (ev_w rfl hk)) (ev_oneW (ev_w rfl (hy.ex x10))) (by have := sm.get (keyW checks p w); omega) (by show 1 ≤ 10000; omega)) (ev_v rfl) (ev_w rfl hk) fun H11 kvs' x11 r11 => ⟨(eb.trans (ExB.of (x10.trans x11))).trans ExB.upd, kvs', _, _, rfl, upd_same, ?_⟩
        rw [lawAt_succ hw]
        exact r11
    · rintro H9 σ' H' x9 ⟨eb, kvs, z8, z9, rfl, hlt', htb⟩
      have e7 : Ex H7 H' := eb.ex (x8.trans x9) nlt
      rw [lawAt_all] at htb
      have hwords : Words n (lawTable n p checks) := by
        have := lawAt_words n p checks (allW n p).length
        rw [lawAt_all] at this
        exact this
      have hsmall : Small 81 (lawTable n p checks) := by
        have := lawAt_small n p checks (allW n p).length
        rw [lawAt_all] at this
        exact this.mono hlen81
      generalize lawTable n p checks = tbl at htb hwords hsmall hkeys htold hrad hdec
      have co := co7.ex e7
      clear hvc
      -- what is due
      refine q_asgN (PN := fun us _ => us = []) ev_nilL fun ld ul H10 nld x10 hld hld0 => ?_
      subst hld0
      refine q_asg (P := Is (.int 0)) ev_c fun v11 H11 x11 ev11 => ?_
      refine q_asg (P := Is (.int 0)) ev_c fun v12 H12 x12 ev12 => ?_
      subst ev11 ev12
      have e12 : Ex H' H12 := (x10.trans x11).trans x12
      have hld12 := x12 _ _ (x11 _ _ hld)
      have hne : allW (n - t.length) p ≠ [] := fun z => by
        have := allW_len p (n - t.length)
        rw [z] at this
        have := Nat.pow_pos (n := n - t.length) hp0
        simp only [List.length_nil] at *
        omega
      have hklen : (allW (n - t.length) p).length ≤ 81 := by rw [allW_len]; exact hpk _ (Nat.sub_le _ _)
      have hpow : p ^ (n - t.length) ≤ 81 := hpk _ (Nat.sub_le _ _)
      generalize hkd : allW (n - t.length) p = keys at hne hklen hkeys htold hrad hdec
      have d0 : dueAt tbl keys 0 = ([], 0, 0) := by
        unfold dueAt
        rw [List.take_zero]
        rfl
      refine q_forP (ws := keys) (j := 9) (by
          rw [← hkd]
          exact ev_lall ((ev_i2' (i := ((n : Nat) : Int)) (j := ((t.length : Nat) : Int)) (ev_v rfl) (ev_ck (ev_v rfl) c (co.1.ex e12))).imp fun v H3 _ q => by
            rw [q]
            show V.int _ = V.int _
            congr 1
            omega) (ev_v rfl) hp0 hp10 (by omega) (by omega))
        (fun H13 i σ' H'' => ExB ld H13 H'' ∧ ∃ (ud : List V) (z9 z13 z14 z15 : Option V), σ' = lst a l p n vr ac vc lt [z8, z9, some (.ref ld), some (.int (((dueAt tbl keys i).2.2 : Nat) : Int)), some (.int (((dueAt tbl keys i).2.1 : Nat) : Int)), z13, z14, z15, none, none, none] ∧ H'' ld = some (.lst ud) ∧ Paired (PairR H'') (dueAt tbl keys i).1 ud)
        (fun H13 x13 => ⟨ExB.refl H13, [], z9, none, none, none, by rw [d0]; rfl, x13 _ _ hld12, by rw [d0]; exact .nil⟩)
        (fun H13 i σ' H'' b us x13 hb hw q => q.1 b _ (fun z => by
          rw [z, x13 _ _ hld12] at hb
          injection hb with hb
          injection hb with hb
          subst hb
          cases hw
          exact hne rfl) hb)
        (fun H13 i σ' H'' x13 q b xs hb => q.1 b _ (fun z => by rw [z, x13 _ _ hld12] at hb; cases hb) hb) ?_ ?_
      · rintro H13 i key y σ' H'' x13 hkey hy ⟨eb', ud, z9, z13, z14, z15, rfl, hld', hdue⟩
        have e' : Ex H' H'' := eb'.ex (e12.trans x13) nld
        have hlt'' := e' _ _ hlt'
        have htb'' := TbR.tx (TX.of e') htb
        have hws0 := hkeys key (List.mem_of_getElem? hkey)
        have hwl := hwords.get key
        have hws81 := hsmall.get key
        have hdl := dueAt_len tbl keys i
        have hil : i < 81 := by
          have := (List.getElem?_eq_some_iff.mp hkey).1
          omega
        have hstep : dueAt tbl keys (i + 1) = ((dueAt tbl keys i).1 ++ [(key, ((getT tbl key).getD []).filter fun w => weightW w == minN (((getT tbl key).getD []).map weightW))], Nat.max (dueAt tbl keys i).2.1 (minN (((getT tbl key).getD []).map weightW)),
            (dueAt tbl keys i).2.2 + (if (((getT tbl key).getD []).filter fun w => weightW w == minN (((getT tbl key).getD []).map weightW)).length == 1 then ((getT tbl key).getD []).length else 0)) := by
          rw [dueAt_succ hkey]
          rfl
        refine q_asg (P := IsWT ((getT tbl key).getD [])) (ev_get (ev_v rfl) hlt'' htb'' (ev_w rfl hy)) fun vw H14 x14 hvw => ?_
        generalize (getT tbl key).getD [] = ws at hws0 hwl hws81 hvw hstep
        have hwn : ws.length ≠ 0 := fun z => hws0 (List.eq_nil_of_length_eq_zero z)
        refine q_if (b := false) (eb_is (eb_T (ev_eq (x := .int ((ws.length : Nat) : Int)) (y := .int 0) (ev_lenWT (ws := ws) (ev_var rfl fun H15 x15 => hvw.tx (TX.of x15))) ev_c rfl)) (decide_eq_false fun z => hwn (by injection z with z; omega))) (fun z => by cases z) fun _ H15 x15 => ?_
        refine q_asg (P := IsN (minN (ws.map weightW))) (ev_minN (ns := ws.map weightW) (EvN.imp (lc_t ws RW (R := RN) (fun _ => true) weightW rn_mono (ev_var rfl fun H1 e1 => hvw.tx (TX.of (x15.trans e1))) (by omega) (fun _ => rfl) (fun _ _ _ _ _ _ _ _ => eb_yes) (fun w x H1 e1 hw hx _ H2 e2 => ev_weight (ev_w rfl (hx.ex e2)) (by rw [hwl w hw]; omega))) (fun us H1 _ q => by rw [rn_iv q, filt_true])) (fun z => hws0 (List.map_eq_nil_iff.mp z))) fun vl H16 x16 evl => ?_
        subst evl
        generalize minN (ws.map weightW) = least at hstep
        refine q_asg (P := IsWT (ws.filter fun w => weightW w == least)) (ev_tupWT (EvN.imp (lc_t ws RW (R := RW) (fun w => weightW w == least) (fun w => w) rw_mono (ev_var rfl fun H1 e1 => hvw.tx (TX.of ((x15.trans x16).trans e1))) (by omega) (fun _ => rfl)
          (fun w x H1 e1 hw hx H2 e2 => eb_is (eb_T (ev_eq (x := .int ((weightW w : Nat) : Int)) (y := .int ((least : Nat) : Int)) (ev_weight (ev_w rfl (hx.ex e2)) (by rw [hwl w hw]; omega)) (ev_v rfl) rfl)) (by
            by_cases h0 : weightW w = least
            · rw [h0]
              simp
            · rw [decide_eq_false (fun z => h0 (by injection z with z; omega)), beq_eq_false_iff_ne.mpr h0]))
          (fun w x H1 e1 hw hx _ H2 e2 => ev_w rfl (hx.ex e2))) (fun us H1 _ q => by rw [List.map_id'] at q; exact q))) fun vd H17 x17 hvd => ?_
        have hll : (ws.filter fun w => weightW w == least).length ≤ 81 := Nat.le_trans (List.length_filter_le _ _) hws81
        generalize (ws.filter fun w => weightW w == least) = lead at hvd hstep hll
        have e17 : Ex H'' H17 := ((x14.trans x15).trans x16).trans x17
        refine q_app (P := fun v H2 => ∃ b x u, v = .ref b ∧ H2 b = some (.tup [x, u]) ∧ Wd H2 key x ∧ WT H2 lead u) (e17 _ _ hld') (ev_v rfl) (ev_tup2 (P1 := IsW key) (P2 := IsWT lead) (ev_w rfl (hy.ex e17)) (ev_var rfl fun H18 x18 => hvd.tx (TX.of x18)) (fun _ _ _ e q => Wd.ex e q) (fun _ _ _ e q => Wd.ex e q) (fun _ _ _ e q => WT.tx (TX.of e) q)) (by rw [← pair_len hdue]; omega) fun v H18 x18 hv => ?_
        have hld18 := (e17.trans x18) _ _ hld'
        have tx18 : TX H18 (upd H18 ld (.lst (ud ++ [v]))) := TX.updL hld18
        refine q_asg (P := IsN (Nat.max (dueAt tbl keys i).2.1 least)) (ev_max2N (ev_v rfl) (ev_v rfl)) fun v19 H19 x19 ev19 => ?_
        subst ev19
        refine s_asg (P := IsN ((dueAt tbl keys i).2.2 + (if lead.length == 1 then ws.length else 0))) ?_ fun v20 H20 x20 ev20 => ?_
        · refine (ev_i2' (i := (((dueAt tbl keys i).2.2 : Nat) : Int)) (j := (if decide (V.int ((lead.length : Nat) : Int) = V.int 1) then (1 : Int) else 0) * ((ws.length : Nat) : Int)) (ev_v rfl) (ev_i2 (i := if decide (V.int ((lead.length : Nat) : Int) = V.int 1) then (1 : Int) else 0) (j := ((ws.length : Nat) : Int)) (ev_intB (ev_eq (x := .int ((lead.length : Nat) : Int)) (y := .int 1) (ev_lenWT (ws := lead) (ev_var rfl fun H1 e1 => hvd.tx ((TX.of x18).trans (tx18.trans (TX.of (x19.trans e1)))))) ev_c rfl)) (ev_lenWT (ws := ws) (ev_var rfl fun H1 e1 => hvw.tx ((TX.of ((x15.trans x16).trans (x17.trans x18))).trans (tx18.trans (TX.of (x19.trans e1)))))) (Or.inr (by omega)))).imp fun v H3 _ q => ?_
          rw [q]
          show V.int _ = V.int _
          by_cases h1 : lead.length = 1
          · rw [h1]
            simp
          · rw [decide_eq_false (fun z => h1 (by injection z with z; omega)), beq_eq_false_iff_ne.mpr h1]
            simp
        · subst ev20
          obtain ⟨b, x, u, rfl, hb, hx, hu'⟩ := hv
          have x20' : Ex (upd H18 ld (.lst (ud ++ [.ref b]))) H20 := x19.trans x20
          refine ⟨((eb'.trans (ExB.of (e17.trans x18))).trans ExB.upd).trans (ExB.of x20'), ud ++ [.ref b], some y, some vw, some (.int ((least : Nat) : Int)), some vd, ?_, x20' _ _ upd_same, ?_⟩
          · rw [hstep]
            rfl
          · rw [hstep]
            have tx20 : TX H18 H20 := tx18.trans (TX.of x20')
            exact pair_snoc (Paired.imp hdue fun _ _ q => PairR.mono _ _ _ _ ((TX.of (e17.trans x18)).trans tx20) q) ⟨b, x, u, rfl, tx20 _ _ hb, hx.tx tx20, hu'.tx tx20⟩
      · rintro H13 σ' H'' x13 ⟨eb', ud, z9, z13, z14, z15, rfl, hld', hdue⟩
        rw [← htold] at hdue
        rw [← hrad, ← hdec]
        have e' : Ex H' H'' := eb'.ex (e12.trans x13) nld
        have co'' := co.ex e'
        refine q_asg (P := IsCos told) (ev_call (ea_1 (ev_v rfl)) fun vs H1 e1 ⟨v, ev, q1⟩ Q q => by
          obtain ⟨ca1, h1, h2, h3, h4⟩ := co''.ex e1
          exact ⟨ac, p, n, t, by rw [ev, q1]; rfl, ca1, h1, h2, h3, h4, .inr ⟨by omega, told, (by rw [hchk]; exact hcos), q⟩⟩) fun v16 H16 x16 hc16 => ?_
        have co16 := co''.ex x16
        refine q_if (b := false) (eb_is (eb_or (eb_T (ev_neD (t := told) (ev_var rfl fun H1 e1 => hc16.ex e1) (ev_tupD (ev_v rfl) (x16 _ _ hld') (Paired.imp hdue fun _ _ q => PairR.mono _ _ _ _ (TX.of x16) q)))) (fun _ => eb_or (eb_T (ev_ne (x := .int ((radiusW told : Nat) : Int)) (y := .int ((radiusW told : Nat) : Int)) (ev_call (P := IsN (radiusW told)) (ea_1 (ev_v rfl)) fun vs H1 e1 ⟨v, ev, q1⟩ Q q => ⟨ac, p, n, t, by rw [ev, q1]; rfl, co16.ex e1, .inr ⟨by omega, told, (by rw [hchk]; exact hcos), hgood, q⟩⟩) (ev_v rfl) rfl))
          (fun _ => eb_T (ev_ne (x := .int ((decidedW p t.length told : Nat) : Int)) (y := .int ((decidedW p t.length told : Nat) : Int)) (ev_call (P := IsN (decidedW p t.length told)) (ea_1 (ev_v rfl)) fun vs H1 e1 ⟨v, ev, q1⟩ Q q => ⟨ac, p, n, t, by rw [ev, q1]; rfl, co16.ex e1, .inr ⟨by omega, told, (by rw [hchk]; exact hcos), hgood, q⟩⟩) (ev_v rfl) rfl)))) (by simp)) (fun z => by cases z) fun _ H17 x17 => ?_
        refine q_asg (P := IsN p) (ev_v rfl) fun v17 H18 x18 ev17 => ?_
        subst ev17
        have fin : ∀ (q : Nat) (Hq : Hp) (σ0 : L2.St), P7 q → q ≠ 2 → σ0[17]? = some (some (.int ((q : Nat) : Int))) → tRet (tOp (rEqD K) (tCall (spReasons C) [] E0 (tCons (tMake C (spCinit C) [] E0 (tCons (tVar 17) (tCons (tC (.int 12)) (tCons (tTup tNil) tNil)))) tNil)) (tLst (tCons (tC (.str "large")) (tCons (tC (.str "large")) (tCons (tC (.str "large")) tNil))))) { nx := fun _ H' => Q .non H', rt := Q } σ0 Hq := by
          intro q Hq σ0 hq hq2 hσ
          refine s_ret (P := IsB true) (ev_eqL3 (ev_call (P := fun v H1 => ∃ l, v = .ref l ∧ H1 l = some (.lst [.str "large", .str "large", .str "large"])) (ea_1 (ev_make (rows := []) (p := q) (n := 12) (ev_v hσ) ev_c (ev_tup0.imp fun v H1 _ z => Or.inr z) (fun r hr => (nomatch hr)) (Nat.zero_le _) (by omega) hq (by rw [redAll_nil]; show q ^ 0 ≤ 4096; rw [Nat.pow_zero]; omega) (by rw [redAll_nil]; exact Nat.zero_le _))) fun vs H1 e1 ⟨v, ev, a', r, ca'⟩ Q' q' => ?_)) fun v H1 x1 ev => by subst ev; exact k H1
          rw [redAll_nil] at ca'
          refine ⟨a', q, 12, [], by rw [ev, r]; rfl, ⟨ca', fun r hr => (nomatch hr), Nat.zero_le _, by omega, hq⟩, ?_, fun l H' x hl => q' _ H' x ⟨l, rfl, hl⟩⟩
          rcases hq with h | h | h | h <;> subst h
          · exact absurd rfl hq2
          · decide
          · decide
          · decide
        refine q_if (b := decide (V.int ((p : Nat) : Int) = V.int 2)) (eb_T (ev_eq (x := .int ((p : Nat) : Int)) (y := .int 2) (ev_v rfl) ev_c rfl)) (fun _ H19 x19 => ?_) (fun hb H19 x19 => ?_)
        · exact fin 3 H19 _ (.inr (.inl rfl)) (by decide) rfl
        · exact fin p H19 _ hp (fun z => by
            subst z
            have := of_decide_eq_false hb
            exact this rfl) rfl
end
end K21

set_option maxRecDepth 1000000
set_option maxHeartbeats 0
/-! K21Plain: the plain law, by the kernel: every list of rows gives a reduced table; at every reduced table the law holds. -/
namespace K21
/-- the first number that is not 0 and its place -/
def leadW : W → Option (Nat × Nat)
  | [] => none
  | x :: r => if x == 0 then (leadW r).map fun q => (q.1 + 1, q.2) else some (0, x)
def isRref : List W → Bool
  | [] => true
  | [r] => match leadW r with
    | some (_, 1) => true
    | _ => false
  | [r, s] => match leadW r, leadW s with
    | some (i, 1), some (j, 1) => decide (i < j) && r.getD j 0 == 0
    | _, _ => false
  | _ => false
def cands (n p : Nat) : List (List W) := let ws := allW n p
  [] :: (ws.map fun w => [w]) ++ ws.flatMap fun v => ws.map fun w => [v, w]
def redOk (n p : Nat) : Bool := (cands n p).all fun rows => isRref (redAll rows n p).found
def tabOk (n p : Nat) : Bool := (cands n p).all fun t => !isRref t || lawOk p n t
theorem red2 : ((List.range 5).all fun n => redOk n 2) = true := by decide +kernel
theorem red3 : ((List.range 5).all fun n => redOk n 3) = true := by decide +kernel
theorem red5 : ((List.range 3).all fun n => redOk n 5) = true := by decide +kernel
theorem red7 : ((List.range 3).all fun n => redOk n 7) = true := by decide +kernel
theorem tab2 : ((List.range 5).all fun n => tabOk n 2) = true := by decide +kernel
theorem tab5 : ((List.range 3).all fun n => tabOk n 5) = true := by decide +kernel
theorem tab7 : ((List.range 3).all fun n => tabOk n 7) = true := by decide +kernel
theorem tab3a : ((List.range 4).all fun n => tabOk n 3) = true := by decide +kernel
/-! the tables of the length 4 over 3, in parts -/
def one43 (rs : List W) : Bool := rs.all fun r => !isRref [r] || lawOk 3 4 [r]
def two43 (vs : List W) : Bool := vs.all fun v => (allW 4 3).all fun w => !isRref [v, w] || lawOk 3 4 [v, w]
theorem t0 : lawOk 3 4 [] = true := by decide +kernel
theorem o1 : one43 ((allW 4 3).take 27) = true := by decide +kernel
theorem o2 : one43 (((allW 4 3).drop 27).take 14) = true := by decide +kernel
theorem o3 : one43 (((allW 4 3).drop 27).drop 14) = true := by decide +kernel
theorem w1 : two43 ((allW 4 3).take 27) = true := by decide +kernel
theorem w2 : two43 (((allW 4 3).drop 27).take 3) = true := by decide +kernel
theorem w3 : two43 ((((allW 4 3).drop 27).drop 3).take 3) = true := by decide +kernel
theorem w4 : two43 (((((allW 4 3).drop 27).drop 3).drop 3).take 3) = true := by decide +kernel
theorem w5 : two43 (((((allW 4 3).drop 27).drop 3).drop 3).drop 3) = true := by decide +kernel
theorem all_cut {f : W → Bool} {l : List W} (n : Nat) (h1 : (l.take n).all f = true) (h2 : (l.drop n).all f = true) : l.all f = true := by
  rw [← List.take_append_drop n l, List.all_append, h1, h2]
  rfl
theorem one_all : one43 (allW 4 3) = true := all_cut 27 o1 (all_cut 14 o2 o3)
theorem two_all : two43 (allW 4 3) = true := all_cut 27 w1 (all_cut 3 w2 (all_cut 3 w3 (all_cut 3 w4 w5)))
theorem tab3b : tabOk 4 3 = true := by
  unfold tabOk cands
  dsimp only
  rw [List.all_eq_true]
  intro t ht
  rcases List.mem_append.mp ht with ht | ht
  · rcases List.mem_cons.mp ht with ht | ht
    · rw [ht, t0]
      rfl
    · obtain ⟨r, hr, rfl⟩ := List.mem_map.mp ht
      exact List.all_eq_true.mp one_all r hr
  · obtain ⟨v, hv, ht⟩ := List.mem_flatMap.mp ht
    obtain ⟨w, hw, rfl⟩ := List.mem_map.mp ht
    exact List.all_eq_true.mp (List.all_eq_true.mp two_all v hv) w hw
end K21

set_option maxRecDepth 100000
set_option maxHeartbeats 16000000
/-! K21End: the plain law put together; what the top has written; the head. -/
namespace K21
open PySem L2
theorem cands_mem {n p : Nat} {rows : List W} (hl : rows.length ≤ 2) (hok : ∀ r ∈ rows, Ok n p r) : rows ∈ cands n p := by
  unfold cands
  dsimp only
  match rows, hl with
  | [], _ => exact List.mem_append_left _ List.mem_cons_self
  | [v], _ => exact List.mem_append_left _ (List.mem_cons_of_mem _ (List.mem_map.mpr ⟨v, all_mem p n v (hok v List.mem_cons_self), rfl⟩))
  | [v, u], _ => exact List.mem_append_right _ (List.mem_flatMap.mpr ⟨v, all_mem p n v (hok v List.mem_cons_self), List.mem_map.mpr ⟨u, all_mem p n u (hok u (List.mem_cons_of_mem _ List.mem_cons_self)), rfl⟩⟩)
  | _ :: _ :: _ :: _, h => simp at h
theorem rref_len : ∀ {t : List W}, isRref t = true → t.length ≤ 2
  | [], _ => Nat.zero_le _
  | [_], _ => by show 1 ≤ 2; omega
  | [_, _], _ => Nat.le_refl _
  | _ :: _ :: _ :: _, h => by unfold isRref at h; cases h
theorem ok_at {f : Nat → Bool} {m n : Nat} (h : ((List.range m).all f) = true) (hn : n < m) : f n = true := List.all_eq_true.mp h n (List.mem_range.mpr hn)
theorem red_at {p n : Nat} (hp : P7 p) (hn : n < mostN p) : redOk n p = true := by
  unfold mostN at hn
  rcases hp with h | h | h | h <;> subst h
  · exact ok_at (f := fun n => redOk n 2) red2 (by simpa using hn)
  · exact ok_at (f := fun n => redOk n 3) red3 (by simpa using hn)
  · exact ok_at (f := fun n => redOk n 5) red5 (by simpa using hn)
  · exact ok_at (f := fun n => redOk n 7) red7 (by simpa using hn)
theorem tab_at {p n : Nat} (hp : P7 p) (hn : n < mostN p) : tabOk n p = true := by
  unfold mostN at hn
  rcases hp with h | h | h | h <;> subst h
  · exact ok_at (f := fun n => tabOk n 2) tab2 (by simpa using hn)
  · have h5 : n < 5 := by simpa using hn
    by_cases h4 : n = 4
    · rw [h4]
      exact tab3b
    · exact ok_at (f := fun n => tabOk n 3) tab3a (by omega)
  · exact ok_at (f := fun n => tabOk n 5) tab5 (by simpa using hn)
  · exact ok_at (f := fun n => tabOk n 7) tab7 (by simpa using hn)
theorem plain : Plain := by
  intro p n rows hp hn hlen hok
  have hr := List.all_eq_true.mp (red_at hp hn) rows (cands_mem hlen hok)
  have O := redAt_ok hok hp.pos n (Nat.le_refl n)
  have eA : redAll rows n p = redAt rows p n := rfl
  rw [← eA] at O
  have ht := List.all_eq_true.mp (tab_at hp hn) (redAll rows n p).found (cands_mem (rref_len hr) O.found)
  rw [Bool.or_eq_true] at ht
  rcases ht with h | h
  · have hr' : isRref (redAll rows n p).found = true := hr
    rw [hr'] at h
    cases h
  · exact h
/-- an error of the class at S is what «except S» names -/
theorem exm_self {K : PySem.W.Frag} {S : Addr} (h1 : PySem.W.subIn K (.ref S) (.type "BaseException") = some true) (h2 : PySem.W.isClsIn K S = true) (h3 : PySem.W.typeIn K (.ref S) = some (.type "type")) (h4 : PySem.W.subIn K (.ref S) (.ref S) = some true) :
    PySem.W.exmOne K (.ref S) (.ref S) = some true := by
  have e1 : (PySem.W.subIn K (.ref S) (.type "BaseException") == some true) = true := by rw [h1] <;> rfl
  have e2 : ((PySem.W.clsIn K S).isSome && PySem.W.typeIn K (.ref S) == some (.type "type")) = true := by
    have h2' : (PySem.W.clsIn K S).isSome = true := h2
    rw [h2', h3] <;> rfl
  show (if (PySem.W.subIn K (.ref S) (.type "BaseException") == some true) = true then (if ((PySem.W.clsIn K S).isSome && PySem.W.typeIn K (.ref S) == some (.type "type")) = true then PySem.W.subIn K (.ref S) (.ref S) else none) else none) = some true
  rw [if_pos e1, if_pos e2]
  exact h4
theorem all_mk {P : Program} {w : World} {K : PySem.W.Frag} {h : Heap} {mg : Str → Option Value} {fa C R fI F0 aP cda cc : Addr}
    {f0 f1 f2 f3 f4 f5 f6 f7 f8 f9 f10 f11 f12 f13 f14 f15 f16 f17 f18 f19 f20 f21 f22 f23 f24 f25 f26 f27 f28 : Addr}
    {od0 an0 od1 an1 od2 an2 od3 an3 od4 an4 od5 an5 od6 an6 od7 an7 od8 an8 od9 an9 od10 an10 od11 an11 od12 an12 od13 an13 od14 an14 od15 an15 od16 an16 od17 an17 od18 an18 od19 an19 od20 an20 od21 an21 od22 an22 od23 an23 od24 an24 od25 an25 od26 an26 od27 an27 od28 an28 odI anI ddR ddP cddI cldI : Option Addr}
    {sl0 sl1 sl2 sl3 sl4 sl5 sl6 sl7 sl8 sl9 sl10 sl11 sl12 sl13 sl14 sl15 sl16 sl17 sl18 sl19 sl20 sl21 sl22 sl23 sl24 sl25 sl26 sl27 sl28 slI slP cslI ccsI : Array (Option Value)}
    {oc0 kV0 dc0 pm0 cd0 ct0 oc1 kV1 dc1 pm1 cd1 ct1 oc2 kV2 dc2 pm2 cd2 ct2 oc3 kV3 dc3 pm3 cd3 ct3 oc4 kV4 dc4 pm4 cd4 ct4 oc5 kV5 dc5 pm5 cd5 ct5 oc6 kV6 dc6 pm6 cd6 ct6 oc7 kV7 dc7 pm7 cd7 ct7 oc8 kV8 dc8 pm8 cd8 ct8 oc9 kV9 dc9 pm9 cd9 ct9 oc10 kV10 dc10 pm10 cd10 ct10 oc11 kV11 dc11 pm11 cd11 ct11 oc12 kV12 dc12 pm12 cd12 ct12 oc13 kV13 dc13 pm13 cd13 ct13 oc14 kV14 dc14 pm14 cd14 ct14 oc15 kV15 dc15 pm15 cd15 ct15 oc16 kV16 dc16 pm16 cd16 ct16 oc17 kV17 dc17 pm17 cd17 ct17 oc18 kV18 dc18 pm18 cd18 ct18 oc19 kV19 dc19 pm19 cd19 ct19 oc20 kV20 dc20 pm20 cd20 ct20 oc21 kV21 dc21 pm21 cd21 ct21 oc22 kV22 dc22 pm22 cd22 ct22 oc23 kV23 dc23 pm23 cd23 ct23 oc24 kV24 dc24 pm24 cd24 ct24 oc25 kV25 dc25 pm25 cd25 ct25 oc26 kV26 dc26 pm26 cd26 ct26 oc27 kV27 dc27 pm27 cd27 ct27 oc28 kV28 dc28 pm28 cd28 ct28 ocI dcI pmI ctI cclI clI : Value}
    {nm q file : Str} {Nn : Addr} {bs sub : List Value} {sn : List Str} {ab : Bool} {col : Option Bool} {m0 m1 m2 m3 m5 : Option Value} {tf t2 t3 t5 t7 tL tW tC0 : Tok} {nP : Nat} {vsI : Array Value} (X : K.In h) (G : h.Ns mainGlobals mg) (hfa : mg "law" = some (.ref fa))
    (a0 : PySem.W.nsIn K mainGlobals "is_integer" = some (some (.ref f0)))
    (l0 : K.lookup f0 = some ⟨oc0, od0, .func (PySem.W.fnOf "is_integer" "is_integer" (defArgs sIsint) (defBody sIsint) (defScope sIsint) .none kV0 dc0 pm0 an0 cd0 ct0), sl0⟩)
    (c0 : PySem.W.codeIn K cd0 "is_integer" = true)
    (k0 : PySem.W.keepIn K (.ref f0) = true)
    (a1 : PySem.W.nsIn K mainGlobals "inverse" = some (some (.ref f1)))
    (l1 : K.lookup f1 = some ⟨oc1, od1, .func (PySem.W.fnOf "inverse" "inverse" (defArgs sInverse) (defBody sInverse) (defScope sInverse) .none kV1 dc1 pm1 an1 cd1 ct1), sl1⟩)
    (c1 : PySem.W.codeIn K cd1 "inverse" = true)
    (k1 : PySem.W.keepIn K (.ref f1) = true)
    (a2 : PySem.W.nsIn K mainGlobals "power" = some (some (.ref f2)))
    (l2 : K.lookup f2 = some ⟨oc2, od2, .func (PySem.W.fnOf "power" "power" (defArgs sPower) (defBody sPower) (defScope sPower) .none kV2 dc2 pm2 an2 cd2 ct2), sl2⟩)
    (c2 : PySem.W.codeIn K cd2 "power" = true)
    (k2 : PySem.W.keepIn K (.ref f2) = true)
    (a3 : PySem.W.nsIn K mainGlobals "is_word" = some (some (.ref f3)))
    (l3 : K.lookup f3 = some ⟨oc3, od3, .func (PySem.W.fnOf "is_word" "is_word" (defArgs sIsword) (defBody sIsword) (defScope sIsword) .none kV3 dc3 pm3 an3 cd3 ct3), sl3⟩)
    (c3 : PySem.W.codeIn K cd3 "is_word" = true)
    (k3 : PySem.W.keepIn K (.ref f3) = true)
    (a4 : PySem.W.nsIn K mainGlobals "add" = some (some (.ref f4)))
    (l4 : K.lookup f4 = some ⟨oc4, od4, .func (PySem.W.fnOf "add" "add" (defArgs sAdd) (defBody sAdd) (defScope sAdd) .none kV4 dc4 pm4 an4 cd4 ct4), sl4⟩)
    (c4 : PySem.W.codeIn K cd4 "add" = true)
    (k4 : PySem.W.keepIn K (.ref f4) = true)
    (a5 : PySem.W.nsIn K mainGlobals "scaled" = some (some (.ref f5)))
    (l5 : K.lookup f5 = some ⟨oc5, od5, .func (PySem.W.fnOf "scaled" "scaled" (defArgs sScaled) (defBody sScaled) (defScope sScaled) .none kV5 dc5 pm5 an5 cd5 ct5), sl5⟩)
    (c5 : PySem.W.codeIn K cd5 "scaled" = true)
    (k5 : PySem.W.keepIn K (.ref f5) = true)
    (a6 : PySem.W.nsIn K mainGlobals "dot" = some (some (.ref f6)))
    (l6 : K.lookup f6 = some ⟨oc6, od6, .func (PySem.W.fnOf "dot" "dot" (defArgs sDot) (defBody sDot) (defScope sDot) .none kV6 dc6 pm6 an6 cd6 ct6), sl6⟩)
    (c6 : PySem.W.codeIn K cd6 "dot" = true)
    (k6 : PySem.W.keepIn K (.ref f6) = true)
    (a7 : PySem.W.nsIn K mainGlobals "reduced" = some (some (.ref f7)))
    (l7 : K.lookup f7 = some ⟨oc7, od7, .func (PySem.W.fnOf "reduced" "reduced" (defArgs sReduced) (defBody sReduced) (defScope sReduced) .none kV7 dc7 pm7 an7 cd7 ct7), sl7⟩)
    (c7 : PySem.W.codeIn K cd7 "reduced" = true)
    (k7 : PySem.W.keepIn K (.ref f7) = true)
    (a8 : PySem.W.nsIn K mainGlobals "cleared" = some (some (.ref f8)))
    (l8 : K.lookup f8 = some ⟨oc8, od8, .func (PySem.W.fnOf "cleared" "cleared" (defArgs sCleared) (defBody sCleared) (defScope sCleared) .none kV8 dc8 pm8 an8 cd8 ct8), sl8⟩)
    (c8 : PySem.W.codeIn K cd8 "cleared" = true)
    (k8 : PySem.W.keepIn K (.ref f8) = true)
    (a9 : PySem.W.nsIn K mainGlobals "kernel" = some (some (.ref f9)))
    (l9 : K.lookup f9 = some ⟨oc9, od9, .func (PySem.W.fnOf "kernel" "kernel" (defArgs sKernel) (defBody sKernel) (defScope sKernel) .none kV9 dc9 pm9 an9 cd9 ct9), sl9⟩)
    (c9 : PySem.W.codeIn K cd9 "kernel" = true)
    (k9 : PySem.W.keepIn K (.ref f9) = true)
    (a10 : PySem.W.nsIn K mainGlobals "weight" = some (some (.ref f10)))
    (l10 : K.lookup f10 = some ⟨oc10, od10, .func (PySem.W.fnOf "weight" "weight" (defArgs sWeight) (defBody sWeight) (defScope sWeight) .none kV10 dc10 pm10 an10 cd10 ct10), sl10⟩)
    (c10 : PySem.W.codeIn K cd10 "weight" = true)
    (k10 : PySem.W.keepIn K (.ref f10) = true)
    (a11 : PySem.W.nsIn K mainGlobals "heavier" = some (some (.ref f11)))
    (l11 : K.lookup f11 = some ⟨oc11, od11, .func (PySem.W.fnOf "heavier" "heavier" (defArgs sHeavier) (defBody sHeavier) (defScope sHeavier) .none kV11 dc11 pm11 an11 cd11 ct11), sl11⟩)
    (c11 : PySem.W.codeIn K cd11 "heavier" = true)
    (k11 : PySem.W.keepIn K (.ref f11) = true)
    (a12 : PySem.W.nsIn K mainGlobals "cosets" = some (some (.ref f12)))
    (l12 : K.lookup f12 = some ⟨oc12, od12, .func (PySem.W.fnOf "cosets" "cosets" (defArgs sCosets) (defBody sCosets) (defScope sCosets) .none kV12 dc12 pm12 an12 cd12 ct12), sl12⟩)
    (c12 : PySem.W.codeIn K cd12 "cosets" = true)
    (k12 : PySem.W.keepIn K (.ref f12) = true)
    (a13 : PySem.W.nsIn K mainGlobals "covering_radius" = some (some (.ref f13)))
    (l13 : K.lookup f13 = some ⟨oc13, od13, .func (PySem.W.fnOf "covering_radius" "covering_radius" (defArgs sRadius) (defBody sRadius) (defScope sRadius) .none kV13 dc13 pm13 an13 cd13 ct13), sl13⟩)
    (c13 : PySem.W.codeIn K cd13 "covering_radius" = true)
    (k13 : PySem.W.keepIn K (.ref f13) = true)
    (a14 : PySem.W.nsIn K mainGlobals "count_decided" = some (some (.ref f14)))
    (l14 : K.lookup f14 = some ⟨oc14, od14, .func (PySem.W.fnOf "count_decided" "count_decided" (defArgs sDecided) (defBody sDecided) (defScope sDecided) .none kV14 dc14 pm14 an14 cd14 ct14), sl14⟩)
    (c14 : PySem.W.codeIn K cd14 "count_decided" = true)
    (k14 : PySem.W.keepIn K (.ref f14) = true)
    (a15 : PySem.W.nsIn K mainGlobals "check_prime" = some (some (.ref f15)))
    (l15 : K.lookup f15 = some ⟨oc15, od15, .func (PySem.W.fnOf "check_prime" "check_prime" (defArgs sPrime) (defBody sPrime) (defScope sPrime) .none kV15 dc15 pm15 an15 cd15 ct15), sl15⟩)
    (c15 : PySem.W.codeIn K cd15 "check_prime" = true)
    (k15 : PySem.W.keepIn K (.ref f15) = true)
    (a16 : PySem.W.nsIn K mainGlobals "_law_state" = some (some (.ref f16)))
    (l16 : K.lookup f16 = some ⟨oc16, od16, .func (PySem.W.fnOf "_law_state" "_law_state" (defArgs sState) (defBody sState) (defScope sState) .none kV16 dc16 pm16 an16 cd16 ct16), sl16⟩)
    (c16 : PySem.W.codeIn K cd16 "_law_state" = true)
    (k16 : PySem.W.keepIn K (.ref f16) = true)
    (a17 : PySem.W.nsIn K mainGlobals "_law_take" = some (some (.ref f17)))
    (l17 : K.lookup f17 = some ⟨oc17, od17, .func (PySem.W.fnOf "_law_take" "_law_take" (defArgs sTake) (defBody sTake) (defScope sTake) .none kV17 dc17 pm17 an17 cd17 ct17), sl17⟩)
    (c17 : PySem.W.codeIn K cd17 "_law_take" = true)
    (k17 : PySem.W.keepIn K (.ref f17) = true)
    (a18 : PySem.W.nsIn K mainGlobals "_law_weight" = some (some (.ref f18)))
    (l18 : K.lookup f18 = some ⟨oc18, od18, .func (PySem.W.fnOf "_law_weight" "_law_weight" (defArgs sLweight) (defBody sLweight) (defScope sLweight) .none kV18 dc18 pm18 an18 cd18 ct18), sl18⟩)
    (c18 : PySem.W.codeIn K cd18 "_law_weight" = true)
    (k18 : PySem.W.keepIn K (.ref f18) = true)
    (a19 : PySem.W.nsIn K mainGlobals "_law_all" = some (some (.ref f19)))
    (l19 : K.lookup f19 = some ⟨oc19, od19, .func (PySem.W.fnOf "_law_all" "_law_all" (defArgs sLall) (defBody sLall) (defScope sLall) .none kV19 dc19 pm19 an19 cd19 ct19), sl19⟩)
    (c19 : PySem.W.codeIn K cd19 "_law_all" = true)
    (k19 : PySem.W.keepIn K (.ref f19) = true)
    (a20 : PySem.W.nsIn K mainGlobals "_law_word" = some (some (.ref f20)))
    (l20 : K.lookup f20 = some ⟨oc20, od20, .func (PySem.W.fnOf "_law_word" "_law_word" (defArgs sLword) (defBody sLword) (defScope sLword) .none kV20 dc20 pm20 an20 cd20 ct20), sl20⟩)
    (c20 : PySem.W.codeIn K cd20 "_law_word" = true)
    (k20 : PySem.W.keepIn K (.ref f20) = true)
    (a21 : PySem.W.nsIn K mainGlobals "_law_prime" = some (some (.ref f21)))
    (l21 : K.lookup f21 = some ⟨oc21, od21, .func (PySem.W.fnOf "_law_prime" "_law_prime" (defArgs sLprime) (defBody sLprime) (defScope sLprime) .none kV21 dc21 pm21 an21 cd21 ct21), sl21⟩)
    (c21 : PySem.W.codeIn K cd21 "_law_prime" = true)
    (k21 : PySem.W.keepIn K (.ref f21) = true)
    (a22 : PySem.W.nsIn K mainGlobals "_law_rows" = some (some (.ref f22)))
    (l22 : K.lookup f22 = some ⟨oc22, od22, .func (PySem.W.fnOf "_law_rows" "_law_rows" (defArgs sLrows) (defBody sLrows) (defScope sLrows) .none kV22 dc22 pm22 an22 cd22 ct22), sl22⟩)
    (c22 : PySem.W.codeIn K cd22 "_law_rows" = true)
    (k22 : PySem.W.keepIn K (.ref f22) = true)
    (a23 : PySem.W.nsIn K mainGlobals "_law_dot" = some (some (.ref f23)))
    (l23 : K.lookup f23 = some ⟨oc23, od23, .func (PySem.W.fnOf "_law_dot" "_law_dot" (defArgs sLdot) (defBody sLdot) (defScope sLdot) .none kV23 dc23 pm23 an23 cd23 ct23), sl23⟩)
    (c23 : PySem.W.codeIn K cd23 "_law_dot" = true)
    (k23 : PySem.W.keepIn K (.ref f23) = true)
    (a24 : PySem.W.nsIn K mainGlobals "_law_reasons" = some (some (.ref f24)))
    (l24 : K.lookup f24 = some ⟨oc24, od24, .func (PySem.W.fnOf "_law_reasons" "_law_reasons" (defArgs sReasons) (defBody sReasons) (defScope sReasons) .none kV24 dc24 pm24 an24 cd24 ct24), sl24⟩)
    (c24 : PySem.W.codeIn K cd24 "_law_reasons" = true)
    (k24 : PySem.W.keepIn K (.ref f24) = true)
    (a25 : PySem.W.nsIn K mainGlobals "law" = some (some (.ref f25)))
    (l25 : K.lookup f25 = some ⟨oc25, od25, .func (PySem.W.fnOf "law" "law" (defArgs sLaw) (defBody sLaw) (defScope sLaw) .none kV25 dc25 pm25 an25 cd25 ct25), sl25⟩)
    (c25 : PySem.W.codeIn K cd25 "law" = true)
    (k25 : PySem.W.keepIn K (.ref f25) = true)
    (aC : PySem.W.nsIn K mainGlobals "Code" = some (some (.ref C)))
    (a26 : PySem.W.findIn K (.ref C) "__init__" = some (some (.ref f26)))
    (i26 : PySem.W.isFn K (.ref f26) = true)
    (l26 : K.lookup f26 = some ⟨oc26, od26, .func (PySem.W.fnOf "__init__" "Code.__init__" (defArgs sCinit) (defBody sCinit) (defScope sCinit) .none kV26 dc26 pm26 an26 cd26 ct26), sl26⟩)
    (c26 : PySem.W.codeIn K cd26 "Code.__init__" = true)
    (k26 : PySem.W.keepIn K (.ref f26) = true)
    (a27 : PySem.W.findIn K (.ref C) "size" = some (some (.ref f27)))
    (i27 : PySem.W.isFn K (.ref f27) = true)
    (l27 : K.lookup f27 = some ⟨oc27, od27, .func (PySem.W.fnOf "size" "Code.size" (defArgs sSize) (defBody sSize) (defScope sSize) .none kV27 dc27 pm27 an27 cd27 ct27), sl27⟩)
    (c27 : PySem.W.codeIn K cd27 "Code.size" = true)
    (k27 : PySem.W.keepIn K (.ref f27) = true)
    (a28 : PySem.W.findIn K (.ref C) "checks" = some (some (.ref f28)))
    (i28 : PySem.W.isFn K (.ref f28) = true)
    (l28 : K.lookup f28 = some ⟨oc28, od28, .func (PySem.W.fnOf "checks" "Code.checks" (defArgs sChecks) (defBody sChecks) (defScope sChecks) .none kV28 dc28 pm28 an28 cd28 ct28), sl28⟩)
    (c28 : PySem.W.codeIn K cd28 "Code.checks" = true)
    (k28 : PySem.W.keepIn K (.ref f28) = true)
    (pg : PySem.W.plainGet K C Str.empty = true)
    (hd : PySem.W.hasDictIn K C = true)
    (po : PySem.W.plainOver K C = true)
    (sa : PySem.W.findIn K (.ref C) "__setattr__" = some (some (.builtin "object.__setattr__")))
    (mk : PySem.W.makesIn K C = true)
    (kc : PySem.W.keepIn K (.ref C) = true)
    (n_p : PySem.W.findIn K (.ref C) "p" = some none)
    (n_n : PySem.W.findIn K (.ref C) "n" = some none)
    (n_rows : PySem.W.findIn K (.ref C) "rows" = some none)
    (n_k : PySem.W.findIn K (.ref C) "k" = some none)
    (n__pivots : PySem.W.findIn K (.ref C) "_pivots" = some none)
    (aR : PySem.W.nsIn K mainGlobals "Refused" = some (some (.ref R)))
    (xR : K.lookup R = some (PySem.excClassObj nm q R Nn bs [.ref F0, .type "ValueError", .type "Exception", .type "BaseException", .type "object"] true sn sub ab col ddR m0 m1 m2 m3 m5 "ValueError.__new__"))
    (saR : PySem.W.findIn K (.ref R) "__setattr__" = some (some (.builtin "object.__setattr__")))
    (gaR : PySem.W.findIn K (.ref R) "__getattribute__" = some (some (.builtin "BaseException.__getattribute__")))
    (ggR : PySem.W.findIn K (.ref R) "__getattr__" = some none)
    (eR : PySem.W.subIn K (.ref R) (.type "BaseException") = some true)
    (hdR : PySem.W.hasDictIn K R = true)
    (nbR : PySem.W.findIn K (.ref R) "reason" = some none)
    (iR : PySem.W.findIn K (.ref R) "__init__" = some (some (.ref fI)))
    (tI : PySem.W.typeIn K (.ref fI) = some (.type "function"))
    (kR : PySem.W.keepIn K (.ref R) = true)
    (tyR : PySem.W.typeIn K (.ref R) = some (.type "type"))
    (icR : PySem.W.isClsIn K R = true)
    (scR : PySem.W.subIn K (.ref R) (.ref R) = some true)
    (supR : PySem.W.ks_superIn K R R "__init__" = some (some (.builtin "ValueError.__init__")))
    (veR : PySem.W.subIn K (.ref R) (.type "ValueError") = some true)
    (mrR : PySem.W.mroIn K R (.ref R) = some true)
    (opR : PySem.W.nsIn K PySem.cStatics "thirdparty.any" = some none)
    (lI : K.lookup fI = some ⟨ocI, odI, .func (PySem.W.ksFn "__init__" "Refused.__init__" (defArgs sRinit) (defBody sRinit) (defScope sRinit) .none .none dcI pmI anI (.ref cda) ctI cc), slI⟩)
    (cI : PySem.W.codeIn K (.ref cda) "Refused.__init__" = true)
    (lcd : K.lookup cda = some ⟨cclI, cddI, .fields vsI, ccsI⟩)
    (lvs : vsI[2]? = some (.str file tf))
    (lfi : ((P.main.file : Str) == file) = true)
    (lcc : K.lookup cc = some ⟨clI, cldI, .cell (some (.ref R)), cslI⟩)
    (ltp : (P.main.scope.names.lookup ("super" : Str)).isSome = false)
    (aPr : PySem.W.nsIn K mainGlobals "PRIMES" = some (some (.ref aP)))
    (lPr : K.lookup aP = some ⟨.type "tuple", ddP, .seq #[.int 2 t2, .int 3 t3, .int 5 t5, .int 7 t7] nP, slP⟩)
    (aML : PySem.W.nsIn K mainGlobals "MOST_LENGTH" = some (some (.int 12 tL)))
    (aMW : PySem.W.nsIn K mainGlobals "MOST_WORDS" = some (some (.int 4096 tW)))
    (aMC : PySem.W.nsIn K mainGlobals "MOST_COSETS" = some (some (.int 4096 tC0)))
    (z_tuple : PySem.W.nsIn K mainGlobals "tuple" = some none)
    (z_range : PySem.W.nsIn K mainGlobals "range" = some none)
    (z_len : PySem.W.nsIn K mainGlobals "len" = some none)
    (z_sum : PySem.W.nsIn K mainGlobals "sum" = some none)
    (z_isinstance : PySem.W.nsIn K mainGlobals "isinstance" = some none)
    (z_int : PySem.W.nsIn K mainGlobals "int" = some none)
    (z_bool : PySem.W.nsIn K mainGlobals "bool" = some none)
    (z_list : PySem.W.nsIn K mainGlobals "list" = some none)
    (z_sorted : PySem.W.nsIn K mainGlobals "sorted" = some none)
    (z_max : PySem.W.nsIn K mainGlobals "max" = some none)
    (z_min : PySem.W.nsIn K mainGlobals "min" = some none)
    (z_abs : PySem.W.nsIn K mainGlobals "abs" = some none)
    (z_super : PySem.W.nsIn K mainGlobals "super" = some none)
    : ∃ fd : FuncData, (∀ (s : Shared) (v : Value), BindsTo s fd ⟨[v], []⟩ [("_law_script", v)]) ∧ ∀ base : Heap, K.In base → base.Ns mainGlobals mg → FnOk P w K mg base CX0 9 fa fd ["_law_script"] (spLaw K) := by
  have e := hfa.symm.trans (PySem.W.mg_of X G a25)
  cases e
  have B : Blt mg := ⟨PySem.W.mg_none_of X G z_tuple, PySem.W.mg_none_of X G z_range, PySem.W.mg_none_of X G z_len, PySem.W.mg_none_of X G z_sum, PySem.W.mg_none_of X G z_isinstance, PySem.W.mg_none_of X G z_int, PySem.W.mg_none_of X G z_bool, PySem.W.mg_none_of X G z_list, PySem.W.mg_none_of X G z_sorted, PySem.W.mg_none_of X G z_max, PySem.W.mg_none_of X G z_min, PySem.W.mg_none_of X G z_abs⟩
  have c : CodeC K C := ⟨⟨pg, hd, po, sa⟩, n_p, n_n, n_rows, n_k, n__pivots⟩
  have T : Cst K mg := ⟨⟨aP, PySem.W.mg_of X G aPr, fun H => .inr ⟨_, _, _, lPr, rfl, rfl, by show 4 ≤ sizeLine; decide, .cons ⟨_, rfl⟩ (.cons ⟨_, rfl⟩ (.cons ⟨_, rfl⟩ (.cons ⟨_, rfl⟩ .nil)))⟩⟩, ⟨_, PySem.W.mg_of X G aML⟩, ⟨_, PySem.W.mg_of X G aMW⟩, ⟨_, PySem.W.mg_of X G aMC⟩⟩
  have TR : PySem.RefX.RefTxt P K mg R fI :=
    { gC := PySem.W.mg_of X G aR, gS := PySem.W.mg_none_of X G z_super, cls := ⟨nm, q, Nn, bs, _, sn, sub, ab, col, ddR, m0, m1, m2, m3, m5, xR, by show PySem.HandSPX.refsVE PySem.HandSPX.veTail = true; decide +kernel⟩, sa := saR, xf := ⟨gaR, ggR, eR, hdR⟩, noN := nbR, iC := iR, tC := tI, kC := kR, tyC := tyR, te := exm_self eR icR tyR scR, sup := supR, veC := veR, selfC := mrR, opq := opR, top := ltp,
      fn := ⟨_, _, _, _, _, cda, cc, _, _, _, _, vsI, _, file, tf, _, _, _, lI, cI, lcd, lvs, lfi, lcc⟩ }
  have F0 := fun_mk (st := sIsint) l0 c0 k0
  have g0 := PySem.W.mg_of X G a0
  have b0 := F0.binds (ps := ["value"]) fun _ _ _ _ _ _ us hl => match us, hl with | [_], _ => rfl
  have F1 := fun_mk (st := sInverse) l1 c1 k1
  have g1 := PySem.W.mg_of X G a1
  have b1 := F1.binds (ps := ["a", "p"]) fun _ _ _ _ _ _ us hl => match us, hl with | [_, _], _ => rfl
  have F2 := fun_mk (st := sPower) l2 c2 k2
  have g2 := PySem.W.mg_of X G a2
  have b2 := F2.binds (ps := ["a", "k"]) fun _ _ _ _ _ _ us hl => match us, hl with | [_, _], _ => rfl
  have F3 := fun_mk (st := sIsword) l3 c3 k3
  have g3 := PySem.W.mg_of X G a3
  have b3 := F3.binds (ps := ["value", "p", "n"]) fun _ _ _ _ _ _ us hl => match us, hl with | [_, _, _], _ => rfl
  have F4 := fun_mk (st := sAdd) l4 c4 k4
  have g4 := PySem.W.mg_of X G a4
  have b4 := F4.binds (ps := ["v", "w", "p"]) fun _ _ _ _ _ _ us hl => match us, hl with | [_, _, _], _ => rfl
  have F5 := fun_mk (st := sScaled) l5 c5 k5
  have g5 := PySem.W.mg_of X G a5
  have b5 := F5.binds (ps := ["v", "a", "p"]) fun _ _ _ _ _ _ us hl => match us, hl with | [_, _, _], _ => rfl
  have F6 := fun_mk (st := sDot) l6 c6 k6
  have g6 := PySem.W.mg_of X G a6
  have b6 := F6.binds (ps := ["v", "w", "p"]) fun _ _ _ _ _ _ us hl => match us, hl with | [_, _, _], _ => rfl
  have F7 := fun_mk (st := sReduced) l7 c7 k7
  have g7 := PySem.W.mg_of X G a7
  have b7 := F7.binds (ps := ["rows", "width", "p"]) fun _ _ _ _ _ _ us hl => match us, hl with | [_, _, _], _ => rfl
  have F8 := fun_mk (st := sCleared) l8 c8 k8
  have g8 := PySem.W.mg_of X G a8
  have b8 := F8.binds (ps := ["row", "head", "at", "p"]) fun _ _ _ _ _ _ us hl => match us, hl with | [_, _, _, _], _ => rfl
  have F9 := fun_mk (st := sKernel) l9 c9 k9
  have g9 := PySem.W.mg_of X G a9
  have b9 := F9.binds (ps := ["rows", "width", "p"]) fun _ _ _ _ _ _ us hl => match us, hl with | [_, _, _], _ => rfl
  have F10 := fun_mk (st := sWeight) l10 c10 k10
  have g10 := PySem.W.mg_of X G a10
  have b10 := F10.binds (ps := ["word"]) fun _ _ _ _ _ _ us hl => match us, hl with | [_], _ => rfl
  have F11 := fun_mk (st := sHeavier) l11 c11 k11
  have g11 := PySem.W.mg_of X G a11
  have b11 := F11.binds (ps := ["words", "p"]) fun _ _ _ _ _ _ us hl => match us, hl with | [_, _], _ => rfl
  have F12 := fun_mk (st := sCosets) l12 c12 k12
  have g12 := PySem.W.mg_of X G a12
  have b12 := F12.binds (ps := ["code"]) fun _ _ _ _ _ _ us hl => match us, hl with | [_], _ => rfl
  have F13 := fun_mk (st := sRadius) l13 c13 k13
  have g13 := PySem.W.mg_of X G a13
  have b13 := F13.binds (ps := ["code"]) fun _ _ _ _ _ _ us hl => match us, hl with | [_], _ => rfl
  have F14 := fun_mk (st := sDecided) l14 c14 k14
  have g14 := PySem.W.mg_of X G a14
  have b14 := F14.binds (ps := ["code"]) fun _ _ _ _ _ _ us hl => match us, hl with | [_], _ => rfl
  have F15 := fun_mk (st := sPrime) l15 c15 k15
  have g15 := PySem.W.mg_of X G a15
  have b15 := F15.binds (ps := ["p"]) fun _ _ _ _ _ _ us hl => match us, hl with | [_], _ => rfl
  have F16 := fun_mk (st := sState) l16 c16 k16
  have g16 := PySem.W.mg_of X G a16
  have b16 := F16.binds (ps := ["_law_script"]) fun _ _ _ _ _ _ us hl => match us, hl with | [_], _ => rfl
  have F17 := fun_mk (st := sTake) l17 c17 k17
  have g17 := PySem.W.mg_of X G a17
  have b17 := F17.binds (ps := ["_law_state_here", "_law_m"]) fun _ _ _ _ _ _ us hl => match us, hl with | [_, _], _ => rfl
  have F18 := fun_mk (st := sLweight) l18 c18 k18
  have g18 := PySem.W.mg_of X G a18
  have b18 := F18.binds (ps := ["_law_word_here"]) fun _ _ _ _ _ _ us hl => match us, hl with | [_], _ => rfl
  have F19 := fun_mk (st := sLall) l19 c19 k19
  have g19 := PySem.W.mg_of X G a19
  have b19 := F19.binds (ps := ["_law_n", "_law_p"]) fun _ _ _ _ _ _ us hl => match us, hl with | [_, _], _ => rfl
  have F20 := fun_mk (st := sLword) l20 c20 k20
  have g20 := PySem.W.mg_of X G a20
  have b20 := F20.binds (ps := ["_law_state_here", "_law_n", "_law_p"]) fun _ _ _ _ _ _ us hl => match us, hl with | [_, _, _], _ => rfl
  have F21 := fun_mk (st := sLprime) l21 c21 k21
  have g21 := PySem.W.mg_of X G a21
  have b21 := F21.binds (ps := ["_law_state_here"]) fun _ _ _ _ _ _ us hl => match us, hl with | [_], _ => rfl
  have F22 := fun_mk (st := sLrows) l22 c22 k22
  have g22 := PySem.W.mg_of X G a22
  have b22 := F22.binds (ps := ["_law_state_here", "_law_n", "_law_p", "_law_most"]) fun _ _ _ _ _ _ us hl => match us, hl with | [_, _, _, _], _ => rfl
  have F23 := fun_mk (st := sLdot) l23 c23 k23
  have g23 := PySem.W.mg_of X G a23
  have b23 := F23.binds (ps := ["_law_v", "_law_w", "_law_p"]) fun _ _ _ _ _ _ us hl => match us, hl with | [_, _, _], _ => rfl
  have F24 := fun_mk (st := sReasons) l24 c24 k24
  have g24 := PySem.W.mg_of X G a24
  have b24 := F24.binds (ps := ["_law_code"]) fun _ _ _ _ _ _ us hl => match us, hl with | [_], _ => rfl
  have F25 := fun_mk (st := sLaw) l25 c25 k25
  have g25 := PySem.W.mg_of X G a25
  have b25 := F25.binds (ps := ["_law_script"]) fun _ _ _ _ _ _ us hl => match us, hl with | [_], _ => rfl
  have F26 := fun_mk (st := sCinit) l26 c26 k26
  have b26 := F26.binds (ps := ["self", "p", "n", "rows"]) fun _ _ _ _ _ _ us hl => match us, hl with | [_, _, _, _], _ => rfl
  have F27 := fun_mk (st := sSize) l27 c27 k27
  have b27 := F27.binds (ps := ["self"]) fun _ _ _ _ _ _ us hl => match us, hl with | [_], _ => rfl
  have F28 := fun_mk (st := sChecks) l28 c28 k28
  have b28 := F28.binds (ps := ["self"]) fun _ _ _ _ _ _ us hl => match us, hl with | [_], _ => rfl
  refine ⟨PySem.W.fnOf "law" "law" (defArgs sLaw) (defBody sLaw) (defScope sLaw) .none kV25 dc25 pm25 an25 cd25 ct25, fun s v => .of_eq rfl, fun base _ _ => ?_⟩
  have GC : FnOk P w K mg base CX0 2 f8 _ ["row", "head", "at", "p"] spCleared := ok_cleared F8 B F4 g4 F5 g5
  have GR : FnOk P w K mg base CX0 3 f7 _ ["rows", "width", "p"] spReduced := ok_reduced F7 B F5 g5 F1 g1 F8 g8 GC
  have GK : FnOk P w K mg base CX0 4 f9 _ ["rows", "width", "p"] spKernel := ok_kernel F9 B F7 g7 GR
  have GCh : FnOk P w K mg base CX0 5 f28 _ ["self"] (spChecks C) := ok_checks F28 B c F9 g9 GK
  have GS : FnOk P w K mg base CX0 2 f27 _ ["self"] (spSize C) := ok_size F27 B c F2 g2
  have GI : FnOk P w K mg base CX0 4 f26 _ ["self", "p", "n", "rows"] (spCinit C) := ok_cinit F26 B T c F7 g7 GR F0 g0 F2 g2 F15 g15 F3 g3
  have mC : Meth K C "checks" f28 := ⟨a28, i28, k28⟩
  have mS : Meth K C "size" f27 := ⟨a27, i27, k27⟩
  have mI : Mk K C f26 := ⟨mk, a26, i26, kc⟩
  have GCo : FnOk P w K mg base (L2.CX P w) 6 f12 _ ["code"] (spCosets C R) := ok_cosets F12 B T c TR F2 g2 F6 g6 F11 g11 mC F28 GCh
  have GRa : FnOk P w K mg base (L2.CX P w) 7 f13 _ ["code"] (spRadius C R) := ok_radius F13 B F12 g12 GCo F10 g10
  have GDe : FnOk P w K mg base (L2.CX P w) 7 f14 _ ["code"] (spDecided C R) := ok_decided F14 B c F12 g12 GCo mS F27 GS
  have GRe : FnOk P w K mg base CX0 8 f24 _ ["_law_code"] (spReasons C) := ok_reasons (R := R) F24 B TR F12 g12 GCo F13 g13 GRa F14 g14 GDe
  have LF : LawFns P w K mg base C R :=
    { st := ⟨f16, _, g16, k16, b16, ok_state F16 B⟩,
      pr := ⟨f21, _, g21, k21, b21, ok_lprime F21 B F17 g17⟩,
      tk := ⟨f17, _, g17, k17, b17, ok_take F17 B⟩,
      rw_ := ⟨f22, _, g22, k22, b22, ok_lrows F22 B F17 g17 F20 g20⟩,
      al := ⟨f19, _, g19, k19, b19, ok_lall F19 B⟩,
      dt := ⟨f23, _, g23, k23, b23, ok_ldot F23 B⟩,
      wt := ⟨f18, _, g18, k18, b18, ok_lweight F18 B⟩,
      co := ⟨f12, _, g12, k12, b12, GCo⟩,
      ra := ⟨f13, _, g13, k13, b13, GRa⟩,
      de := ⟨f14, _, g14, k14, b14, GDe⟩,
      re := ⟨f24, _, g24, k24, b24, GRe⟩,
      mk_ := ⟨f26, _, mI, b26, GI⟩,
      ch := ⟨f28, _, mC, b28, GCh⟩,
      gC := PySem.W.mg_of X G aC }
  exact ok_law F25 B c LF plain
theorem walk {l : PySem.W.OpenLaw} {q : Program} {loose : List Str} {XP : (Str → Option Value) → Heap → Prop} {YP : World → Heap → Prop} {d : DefRec} {K : Params → PySem.W.Frag} (hn : l.most = some 63) (hdf : d.params.defaults = [])
    (hY : ∀ (w : World) (h : Heap), YP w h → (K w.params).In h)
    (F : ∀ (w : World) (mg : Str → Option Value) (fa : Addr) (h : Heap), (K w.params).In h → h.Ns mainGlobals mg → mg d.name = some (.ref fa) →
      ∃ fd : FuncData, (∀ (s : Shared) (u : Value), BindsTo s fd ⟨[u], []⟩ [("_law_script", u)]) ∧ ∀ base : Heap, (K w.params).In base → base.Ns mainGlobals mg → FnOk l.prog w (K w.params) mg base CX0 9 fa fd ["_law_script"] (spLaw (K w.params))) :
    PySem.W.WalkO q loose XP YP l.row.toRowW d [] (fun f vs => PySem.call f vs) :=
  L2.walk_of (n := 63) (k := 9) (x := "_law_script") (CX := fun _ => CX0) (sp := fun w => spLaw (K w.params)) hn (by decide) hdf ⟨rfl, by decide, by decide⟩ hY F (fun _ _ a ns hl _ hS => ⟨a, ns, rfl, hS, fun _ => rfl⟩) fun _ _ _ _ _ z => z
end K21

set_option maxRecDepth 100000
set_option maxHeartbeats 0
open PySem PySem.W PyProof.Rows in
set_option maxRecDepth 100000 in
set_option maxHeartbeats 0 in
theorem PySem.Challenge.cw_weightkeepers_k21_whole_cosets_holds : PySem.Challenge.rw_weightkeepers_k21_whole_cosets.Holds := by
  w_on; o_law; k_head; (case hw => w_witness2)
  k_fill
  refine K21.walk (l := PySem.Challenge.rw_weightkeepers_k21_whole_cosets) rfl rfl (fun w h Y => PySem.W.kIn_of Y) ?F
  case F =>
    intro w mg fa h KX G hmg
    refine' K21.all_mk KX G hmg ?a0 ?l0 ?c0 ?k0 ?a1 ?l1 ?c1 ?k1 ?a2 ?l2 ?c2 ?k2 ?a3 ?l3 ?c3 ?k3 ?a4 ?l4 ?c4 ?k4 ?a5 ?l5 ?c5 ?k5 ?a6 ?l6 ?c6 ?k6 ?a7 ?l7 ?c7 ?k7 ?a8 ?l8 ?c8 ?k8 ?a9 ?l9 ?c9 ?k9 ?a10 ?l10 ?c10 ?k10 ?a11 ?l11 ?c11 ?k11 ?a12 ?l12 ?c12 ?k12 ?a13 ?l13 ?c13 ?k13 ?a14 ?l14 ?c14 ?k14 ?a15 ?l15 ?c15 ?k15 ?a16 ?l16 ?c16 ?k16 ?a17 ?l17 ?c17 ?k17 ?a18 ?l18 ?c18 ?k18 ?a19 ?l19 ?c19 ?k19 ?a20 ?l20 ?c20 ?k20 ?a21 ?l21 ?c21 ?k21 ?a22 ?l22 ?c22 ?k22 ?a23 ?l23 ?c23 ?k23 ?a24 ?l24 ?c24 ?k24 ?a25 ?l25 ?c25 ?k25 ?aC ?a26 ?i26 ?l26 ?c26 ?k26 ?a27 ?i27 ?l27 ?c27 ?k27 ?a28 ?i28 ?l28 ?c28 ?k28 ?pg ?hd ?po ?sa ?mk ?kc ?n_p ?n_n ?n_rows ?n_k ?n__pivots ?aR ?xR ?saR ?gaR ?ggR ?eR ?hdR ?nbR ?iR ?tI ?kR ?tyR ?icR ?scR ?supR ?veR ?mrR ?opR ?lI ?cI ?lcd ?lvs ?lfi ?lcc ?ltp ?aPr ?lPr ?aML ?aMW ?aMC ?z_tuple ?z_range ?z_len ?z_sum ?z_isinstance ?z_int ?z_bool ?z_list ?z_sorted ?z_max ?z_min ?z_abs ?z_super
    (case a0 => k_is)
    (case l0 => k_is)
    (case c0 => k_is)
    (case k0 => k_is)
    (case a1 => k_is)
    (case l1 => k_is)
    (case c1 => k_is)
    (case k1 => k_is)
    (case a2 => k_is)
    (case l2 => k_is)
    (case c2 => k_is)
    (case k2 => k_is)
    (case a3 => k_is)
    (case l3 => k_is)
    (case c3 => k_is)
    (case k3 => k_is)
    (case a4 => k_is)
    (case l4 => k_is)
    (case c4 => k_is)
    (case k4 => k_is)
    (case a5 => k_is)
    (case l5 => k_is)
    (case c5 => k_is)
    (case k5 => k_is)
    (case a6 => k_is)
    (case l6 => k_is)
    (case c6 => k_is)
    (case k6 => k_is)
    (case a7 => k_is)
    (case l7 => k_is)
    (case c7 => k_is)
    (case k7 => k_is)
    (case a8 => k_is)
    (case l8 => k_is)
    (case c8 => k_is)
    (case k8 => k_is)
    (case a9 => k_is)
    (case l9 => k_is)
    (case c9 => k_is)
    (case k9 => k_is)
    (case a10 => k_is)
    (case l10 => k_is)
    (case c10 => k_is)
    (case k10 => k_is)
    (case a11 => k_is)
    (case l11 => k_is)
    (case c11 => k_is)
    (case k11 => k_is)
    (case a12 => k_is)
    (case l12 => k_is)
    (case c12 => k_is)
    (case k12 => k_is)
    (case a13 => k_is)
    (case l13 => k_is)
    (case c13 => k_is)
    (case k13 => k_is)
    (case a14 => k_is)
    (case l14 => k_is)
    (case c14 => k_is)
    (case k14 => k_is)
    (case a15 => k_is)
    (case l15 => k_is)
    (case c15 => k_is)
    (case k15 => k_is)
    (case a16 => k_is)
    (case l16 => k_is)
    (case c16 => k_is)
    (case k16 => k_is)
    (case a17 => k_is)
    (case l17 => k_is)
    (case c17 => k_is)
    (case k17 => k_is)
    (case a18 => k_is)
    (case l18 => k_is)
    (case c18 => k_is)
    (case k18 => k_is)
    (case a19 => k_is)
    (case l19 => k_is)
    (case c19 => k_is)
    (case k19 => k_is)
    (case a20 => k_is)
    (case l20 => k_is)
    (case c20 => k_is)
    (case k20 => k_is)
    (case a21 => k_is)
    (case l21 => k_is)
    (case c21 => k_is)
    (case k21 => k_is)
    (case a22 => k_is)
    (case l22 => k_is)
    (case c22 => k_is)
    (case k22 => k_is)
    (case a23 => k_is)
    (case l23 => k_is)
    (case c23 => k_is)
    (case k23 => k_is)
    (case a24 => k_is)
    (case l24 => k_is)
    (case c24 => k_is)
    (case k24 => k_is)
    (case a25 => k_is)
    (case l25 => k_is)
    (case c25 => k_is)
    (case k25 => k_is)
    (case aC => k_is)
    (case a26 => k_is)
    (case i26 => k_is)
    (case l26 => k_is)
    (case c26 => k_is)
    (case k26 => k_is)
    (case a27 => k_is)
    (case i27 => k_is)
    (case l27 => k_is)
    (case c27 => k_is)
    (case k27 => k_is)
    (case a28 => k_is)
    (case i28 => k_is)
    (case l28 => k_is)
    (case c28 => k_is)
    (case k28 => k_is)
    (case pg => k_is)
    (case hd => k_is)
    (case po => k_is)
    (case sa => k_is)
    (case mk => k_is)
    (case kc => k_is)
    (case n_p => k_is)
    (case n_n => k_is)
    (case n_rows => k_is)
    (case n_k => k_is)
    (case n__pivots => k_is)
    (case aR => k_is)
    (case xR => k_is)
    (case saR => k_is)
    (case gaR => k_is)
    (case ggR => k_is)
    (case eR => k_is)
    (case hdR => k_is)
    (case nbR => k_is)
    (case iR => k_is)
    (case tI => k_is)
    (case kR => k_is)
    (case tyR => k_is)
    (case icR => k_is)
    (case scR => first | rfl | k_is)
    (case supR => first | ks_is | k_is)
    (case veR => k_is)
    (case mrR => first | rfl | k_is)
    (case opR => k_is)
    (case lI => k_is)
    (case cI => k_is)
    (case lcd => k_is)
    (case lvs => rfl)
    (case lfi => first | rfl | decide +kernel)
    (case lcc => k_is)
    (case ltp => first | rfl | decide +kernel)
    (case aPr => k_is)
    (case lPr => k_is)
    (case aML => k_is)
    (case aMW => k_is)
    (case aMC => k_is)
    (case z_tuple => k_is)
    (case z_range => k_is)
    (case z_len => k_is)
    (case z_sum => k_is)
    (case z_isinstance => k_is)
    (case z_int => k_is)
    (case z_bool => k_is)
    (case z_list => k_is)
    (case z_sorted => k_is)
    (case z_max => k_is)
    (case z_min => k_is)
    (case z_abs => k_is)
    (case z_super => k_is)

