import PyProof.Rows.All
import Wide.All
import OpenK.AllK
import Wide.FinOn
import HandS.ForMost
import HandS.Star
import HandS.Zip
import HandS.Gcd
import HandS.IsInst
import HandS.Codes
import HandS.TupAny
import HandS.Style
import HandS.Strs
import HandS.RaiseMore
import HandS.Defaults
import PySem.Challenge.RW_claimduel_k55_whole_rules_added_and_part
import KE.KDictZip
import KE.KDictList
import KE.KTurns
import HandS.DictComp
import HandS.Deep
import KE.KDictKeyed
import KE.KDictWalk
import HandS.SetFor
import HandS.OwnEq
import PyProof.LongRange
import HandS.Conv
set_option Elab.async false
set_option linter.all false
set_option maxRecDepth 100000
set_option maxHeartbeats 2000000
/-! K55, part 1: data D, what a value stands for (Rep), two heaps side by side (B: settled, H: all), and how readings evaluate. -/
namespace K55
open PySem PySem.Spec PyProof.Rows L2

/-- plain data; a rule object; a value as it is -/
inductive D where
  | non | bl (b : Bool) | int (i : Int) | str (s : Str) | lst (xs : List D) | tup (xs : List D) | rule (rows : List D) | raw (v : V) | keys (ks : List Int)

/-- all of H stands in H' -/
def Sub (H H' : Hp) : Prop := ∀ a o, H a = some o → H' a = some o
theorem Sub.rfl' {H : Hp} : Sub H H := fun _ _ h => h
theorem Sub.trans {H H1 H2 : Hp} (a : Sub H H1) (b : Sub H1 H2) : Sub H H2 := fun x o h => b x o (a x o h)
theorem Sub.free {H H' : Hp} {p : Addr} (e : Sub H H') (h : H' p = none) : H p = none := by
  cases q : H p with
  | none => rfl
  | some o => rw [e p o q] at h; cases h
theorem Sub.new {H : Hp} {p : Addr} {o : HO} (h : H p = none) : Sub H (upd H p o) := fun a u e => by
  rw [upd_ne (ne_of_none e h)]; exact e
theorem Sub.side {B H : Hp} {p : Addr} {o : HO} (e : Sub B H) (h : B p = none) : Sub B (upd H p o) := fun a u q => by
  rw [upd_ne (ne_of_none q h)]; exact e a u q
theorem Sub.both {B H : Hp} {p : Addr} {o : HO} (e : Sub B H) : Sub (upd B p o) (upd H p o) := fun a u q => by
  by_cases hp : a = p
  · subst hp; rw [upd_same] at q ⊢; exact q
  · rw [upd_ne hp] at q ⊢; exact e a u q

mutual
/-- v stands for d, by the settled heap B; C: the class of rules -/
inductive Rep (C : Addr) (B : Hp) : V → D → Prop
  | non : Rep C B .non .non
  | bl (b : Bool) : Rep C B (.bl b) (.bl b)
  | int (i : Int) : Rep C B (.int i) (.int i)
  | str (s : Str) : Rep C B (.str s) (.str s)
  | raw (v : V) : Rep C B v (.raw v)
  | keys {a : Addr} {ks : List Int} : B a = some (.dK (ks.map fun k => ((Sum.inl k : Key), V.bl true))) → Rep C B (.ref a) (.keys ks)
  | lst {a : Addr} {vs : List V} {ds : List D} : B a = some (.lst vs) → Reps C B vs ds → Rep C B (.ref a) (.lst ds)
  | tup {a : Addr} {vs : List V} {ds : List D} : B a = some (.tup vs) → Reps C B vs ds → Rep C B (.ref a) (.tup ds)
  | rule {a dx : Addr} {v : V} {ds : List D} : B a = some (.ins C dx [("rows", v)]) → Rep C B v (.tup ds) → Rep C B (.ref a) (.rule ds)
inductive Reps (C : Addr) (B : Hp) : List V → List D → Prop
  | nil : Reps C B [] []
  | cons {v : V} {d : D} {vs : List V} {ds : List D} : Rep C B v d → Reps C B vs ds → Reps C B (v :: vs) (d :: ds)
end

section
variable {C : Addr} {B B' H H' : Hp}
mutual
theorem Rep.mono (e : Sub B B') : ∀ (v : V) (d : D), Rep C B v d → Rep C B' v d
  | _, _, .non => .non
  | _, _, .bl b => .bl b
  | _, _, .int i => .int i
  | _, _, .str s => .str s
  | _, _, .raw v => .raw v
  | _, _, .keys h => .keys (e _ _ h)
  | _, _, .lst h r => .lst (e _ _ h) (Reps.mono e _ _ r)
  | _, _, .tup h r => .tup (e _ _ h) (Reps.mono e _ _ r)
  | _, _, .rule h r => .rule (e _ _ h) (Rep.mono e _ _ r)
theorem Reps.mono (e : Sub B B') : ∀ (vs : List V) (ds : List D), Reps C B vs ds → Reps C B' vs ds
  | _, _, .nil => .nil
  | _, _, .cons h r => .cons (Rep.mono e _ _ h) (Reps.mono e _ _ r)
end
theorem Rep.up {v : V} {d : D} (h : Rep C B v d) (e : Sub B B') : Rep C B' v d := Rep.mono e v d h
theorem Reps.up {vs : List V} {ds : List D} (h : Reps C B vs ds) (e : Sub B B') : Reps C B' vs ds := Reps.mono e vs ds h
theorem Reps.length : ∀ {vs : List V} {ds : List D}, Reps C B vs ds → vs.length = ds.length
  | _, _, .nil => rfl
  | _, _, .cons _ r => by rw [List.length_cons, List.length_cons, r.length]
theorem Reps.get : ∀ {vs : List V} {ds : List D} {i : Nat} {d : D}, Reps C B vs ds → ds[i]? = some d → ∃ v, vs[i]? = some v ∧ Rep C B v d
  | _, _, i, d, .nil, h => by simp at h
  | _, _, 0, d, .cons r _, h => by simp at h; subst h; exact ⟨_, rfl, r⟩
  | _, _, i + 1, d, .cons _ t, h => by
    obtain ⟨v, h1, h2⟩ := t.get (i := i) (d := d) (by simpa using h)
    exact ⟨v, by simpa using h1, h2⟩
theorem Reps.getV : ∀ {vs : List V} {ds : List D} {i : Nat} {v : V}, Reps C B vs ds → vs[i]? = some v → ∃ d, ds[i]? = some d ∧ Rep C B v d
  | _, _, i, d, .nil, h => by simp at h
  | _, _, 0, d, .cons r _, h => by simp at h; subst h; exact ⟨_, rfl, r⟩
  | _, _, i + 1, d, .cons _ t, h => by
    obtain ⟨v, h1, h2⟩ := t.getV (i := i) (v := d) (by simpa using h)
    exact ⟨v, by simpa using h1, h2⟩
theorem Reps.append : ∀ {vs ws : List V} {ds es : List D}, Reps C B vs ds → Reps C B ws es → Reps C B (vs ++ ws) (ds ++ es)
  | _, _, _, _, .nil, s => s
  | _, _, _, _, .cons r t, s => .cons r (t.append s)
theorem Reps.take : ∀ {vs : List V} {ds : List D} (n : Nat), Reps C B vs ds → Reps C B (vs.take n) (ds.take n)
  | _, _, 0, _ => .nil
  | _, _, _ + 1, .nil => .nil
  | _, _, n + 1, .cons r t => .cons r (t.take n)
theorem Reps.drop : ∀ {vs : List V} {ds : List D} (n : Nat), Reps C B vs ds → Reps C B (vs.drop n) (ds.drop n)
  | _, _, 0, r => r
  | _, _, _ + 1, .nil => .nil
  | _, _, n + 1, .cons _ t => t.drop n
theorem Reps.snoc {vs : List V} {ds : List D} {v : V} {d : D} (r : Reps C B vs ds) (h : Rep C B v d) : Reps C B (vs ++ [v]) (ds ++ [d]) := r.append (.cons h .nil)

/-- what a value must be, told by its data -/
theorem Rep.int_inv {v : V} {i : Int} (h : Rep C B v (.int i)) : v = .int i := by cases h; rfl
theorem Rep.bl_inv {v : V} {b : Bool} (h : Rep C B v (.bl b)) : v = .bl b := by cases h; rfl
theorem Rep.str_inv {v : V} {s : Str} (h : Rep C B v (.str s)) : v = .str s := by cases h; rfl
theorem Rep.non_inv {v : V} (h : Rep C B v .non) : v = .non := by cases h; rfl
theorem Rep.keys_inv {v : V} {ks : List Int} (h : Rep C B v (.keys ks)) : ∃ a, v = .ref a ∧ B a = some (.dK (ks.map fun k => ((Sum.inl k : Key), V.bl true))) := by
  cases h with
  | keys h => exact ⟨_, rfl, h⟩
theorem Rep.raw_inv {v w : V} (h : Rep C B v (.raw w)) : v = w := by cases h; rfl
theorem Rep.lst_inv {v : V} {ds : List D} (h : Rep C B v (.lst ds)) : ∃ a vs, v = .ref a ∧ B a = some (.lst vs) ∧ Reps C B vs ds := by
  cases h with
  | lst h r => exact ⟨_, _, rfl, h, r⟩
theorem Rep.tup_inv {v : V} {ds : List D} (h : Rep C B v (.tup ds)) : ∃ a vs, v = .ref a ∧ B a = some (.tup vs) ∧ Reps C B vs ds := by
  cases h with
  | tup h r => exact ⟨_, _, rfl, h, r⟩
theorem Rep.rule_inv {v : V} {ds : List D} (h : Rep C B v (.rule ds)) : ∃ a dx w, v = .ref a ∧ B a = some (.ins C dx [("rows", w)]) ∧ Rep C B w (.tup ds) := by
  cases h with
  | rule h r => exact ⟨_, _, _, rfl, h, r⟩
theorem Reps.nil_inv {vs : List V} (h : Reps C B vs []) : vs = [] := by cases h; rfl
theorem Reps.cons_inv {vs : List V} {d : D} {ds : List D} (h : Reps C B vs (d :: ds)) : ∃ v ws, vs = v :: ws ∧ Rep C B v d ∧ Reps C B ws ds := by
  cases h with
  | cons h r => exact ⟨_, _, rfl, h, r⟩
theorem Reps.ints : ∀ {vs : List V} {ns : List Int}, Reps C B vs (ns.map D.int) → vs = ns.map V.int
  | _, [], h => h.nil_inv
  | _, n :: ns, h => by
    obtain ⟨v, ws, rfl, h1, h2⟩ := Reps.cons_inv (show Reps C B _ (D.int n :: ns.map D.int) from h)
    rw [h1.int_inv, h2.ints]; rfl
theorem reps_ints : ∀ (ns : List Int), Reps C B (ns.map V.int) (ns.map D.int)
  | [] => .nil
  | n :: ns => .cons (.int n) (reps_ints ns)
theorem Reps.bls : ∀ {vs : List V} {ns : List Bool}, Reps C B vs (ns.map D.bl) → vs = ns.map V.bl
  | _, [], h => h.nil_inv
  | _, n :: ns, h => by
    obtain ⟨v, ws, rfl, h1, h2⟩ := Reps.cons_inv (show Reps C B _ (D.bl n :: ns.map D.bl) from h)
    rw [h1.bl_inv, h2.bls]; rfl
end

/- data without rules and bare addresses, as the library's own data -/
mutual
def D.py : D → PyData
  | .non => .none
  | .bl b => .bool b
  | .int i => .int i
  | .str s => .str s
  | .lst xs => .list (pys xs)
  | .tup xs => .tuple (pys xs)
  | .rule _ => .none
  | .raw _ => .none
  | .keys _ => .none
def pys : List D → List PyData
  | [] => []
  | x :: xs => x.py :: pys xs
end
mutual
def D.plain : D → Bool
  | .non => true
  | .bl _ => true
  | .int _ => true
  | .str _ => true
  | .lst xs => plains xs
  | .tup xs => plains xs
  | .rule _ => false
  | .raw _ => false
  | .keys _ => false
def plains : List D → Bool
  | [] => true
  | x :: xs => x.plain && plains xs
end
section
variable {C : Addr} {K : PySem.W.Frag} {B : Hp}
mutual
theorem Rep.dp : ∀ (v : V) (d : D), Rep C B v d → d.plain = true → Dp K B v d.py
  | _, _, .non, _ => .non
  | _, _, .bl b, _ => .bl b
  | _, _, .int i, _ => .int i
  | _, _, .str s, _ => .str s
  | _, _, .lst h r, p => .lst (SqL.of h) (Reps.dps _ _ r p)
  | _, _, .tup h r, p => .tup (SqT.of h) (Reps.dps _ _ r p)
theorem Reps.dps : ∀ (vs : List V) (ds : List D), Reps C B vs ds → plains ds = true → DpAll K B vs (pys ds)
  | _, _, .nil, _ => .nil
  | _, _, .cons h r, p => by
    have p' := (Bool.and_eq_true _ _).mp p
    exact .cons (Rep.dp _ _ h p'.1) (Reps.dps _ _ r p'.2)
end
end

/-- from (B, H) to (B', H'): nothing is changed, what is newly settled is new -/
structure Step (B H B' H' : Hp) : Prop where
  b : Sub B B'
  h : Sub H H'
  s : Sub B' H'
  f : ∀ a o, B' a = some o → B a = none → H a = none
theorem Step.refl {B H : Hp} (e : Sub B H) : Step B H B H := ⟨Sub.rfl', Sub.rfl', e, fun a o h n => by rw [h] at n; cases n⟩
theorem Step.trans {B H B1 H1 B2 H2 : Hp} (x : Step B H B1 H1) (y : Step B1 H1 B2 H2) : Step B H B2 H2 :=
  ⟨x.b.trans y.b, x.h.trans y.h, y.s, fun a o h n => by
    cases q : B1 a with
    | some o' => exact x.f a o' q n
    | none => exact x.h.free (y.f a o h q)⟩
theorem Step.new {B H : Hp} {p : Addr} {o : HO} (e : Sub B H) (n : H p = none) : Step B H (upd B p o) (upd H p o) :=
  ⟨Sub.new (e.free n), Sub.new n, e.both, fun a u h nb => by
    by_cases hp : a = p
    · rw [hp]; exact n
    · rw [upd_ne hp] at h; rw [h] at nb; cases nb⟩

/-- what is known of the names -/
abbrev Env := List (Option D)
structure Sat (C : Addr) (σ : L2.St) (B : Hp) (ρ : Env) : Prop where
  len : σ.length = ρ.length
  get : ∀ (i : Nat) (d : D), ρ[i]? = some (some d) → ∃ v, σ[i]? = some (some v) ∧ Rep C B v d
theorem Sat.up {C : Addr} {σ : L2.St} {B B' : Hp} {ρ : Env} (h : Sat C σ B ρ) (e : Sub B B') : Sat C σ B' ρ :=
  ⟨h.len, fun i d q => let ⟨v, a, r⟩ := h.get i d q; ⟨v, a, r.up e⟩⟩
theorem Sat.put {C : Addr} {σ : L2.St} {B : Hp} {ρ : Env} {i : Nat} {v : V} {d : D} (h : Sat C σ B ρ) (r : Rep C B v d) : Sat C (σ.set i (some v)) B (ρ.set i (some d)) := by
  refine ⟨by rw [List.length_set, List.length_set, h.len], fun j e q => ?_⟩
  by_cases hj : i = j
  · subst hj
    by_cases hl : i < ρ.length
    · rw [List.getElem?_set_self hl] at q
      cases q
      exact ⟨v, by rw [List.getElem?_set_self (by rw [h.len]; exact hl)], r⟩
    · rw [List.getElem?_eq_none (by rw [List.length_set]; omega)] at q; cases q
  · rw [List.getElem?_set_ne hj] at q ⊢
    exact h.get j e q
/-- a slot of which nothing is told -/
theorem Sat.drop {C : Addr} {σ : L2.St} {B : Hp} {ρ : Env} {i : Nat} {v : Option V} (h : Sat C σ B ρ) : Sat C (σ.set i v) B (ρ.set i none) := by
  refine ⟨by rw [List.length_set, List.length_set, h.len], fun j e q => ?_⟩
  by_cases hj : i = j
  · subst hj
    by_cases hl : i < ρ.length
    · rw [List.getElem?_set_self hl] at q; cases q
    · rw [List.getElem?_eq_none (by rw [List.length_set]; omega)] at q; cases q
  · rw [List.getElem?_set_ne hj] at q ⊢
    exact h.get j e q
/-- knowing less -/
theorem Sat.less {C : Addr} {σ : L2.St} {B : Hp} {ρ ρ' : Env} (h : Sat C σ B ρ) (hl : ρ'.length = ρ.length) (hw : ∀ (i : Nat) (d : D), ρ'[i]? = some (some d) → ρ[i]? = some (some d)) : Sat C σ B ρ' :=
  ⟨h.len.trans hl.symm, fun i d q => h.get i d (hw i d q)⟩
def wipeE (ρ : Env) : List Nat → Env
  | [] => ρ
  | v :: vs => (wipeE ρ vs).set v none
theorem Sat.wipe {C : Addr} {σ : L2.St} {B : Hp} {ρ : Env} (h : Sat C σ B ρ) : ∀ vs : List Nat, Sat C (L2.wipe σ vs) B (wipeE ρ vs)
  | [] => h
  | v :: vs => (Sat.wipe h vs).drop
theorem sat_start {C : Addr} {B : Hp} {N : List Str} {vs : List V} {ds : List D} (h : Reps C B vs ds) (hl : ds.length ≤ N.length) : Sat C (L2.start N vs) B (ds.map some ++ List.replicate (N.length - ds.length) none) := by
  have e := h.length
  refine ⟨by unfold L2.start; simp [e], fun i d q => ?_⟩
  by_cases hi : i < ds.length
  · rw [List.getElem?_append_left (by simpa using hi), List.getElem?_map] at q
    cases q1 : ds[i]? with
    | none => rw [q1] at q; cases q
    | some d' =>
      rw [q1] at q
      cases q
      obtain ⟨v, h1, h2⟩ := h.get q1
      refine ⟨v, ?_, h2⟩
      unfold L2.start
      rw [List.getElem?_append_left (by simpa [e] using hi), List.getElem?_map, h1]
      rfl
  · rw [List.getElem?_append_right (by simpa using Nat.le_of_not_lt hi), List.getElem?_replicate] at q
    split at q <;> cases q
end K55

set_option maxHeartbeats 2000000
/-! K55, part 2: what evaluates to what, over (settled, all). -/
namespace K55
open PySem PySem.Spec PyProof.Rows L2

section
variable (C : Addr)
/-- te evaluates to data d where the names are told by ρ -/
def EvP (te : TE) (ρ : Env) (d : D) : Prop := ∀ σ B H, Sat C σ B ρ → Sub B H → ∀ Q : VK, (∀ v B' H', Step B H B' H' → Rep C B' v d → Q v H') → te σ H Q
def EvB (tt : TT) (ρ : Env) (b : Bool) : Prop := ∀ σ B H, Sat C σ B ρ → Sub B H → ∀ Q : Bool → Hp → Prop, (∀ B' H', Step B H B' H' → Q b H') → tt σ H Q
def EvA (ta : TA) (ρ : Env) (ds : List D) : Prop := ∀ σ B H, Sat C σ B ρ → Sub B H → ∀ Q : List V → Hp → Prop, (∀ vs B' H', Step B H B' H' → Reps C B' vs ds → Q vs H') → ta σ H Q
def EvO (to : TO) (ρ : Env) (o : Option Int) : Prop := ∀ σ B H, Sat C σ B ρ → Sub B H → ∀ Q : Option Int → Hp → Prop, (∀ B' H', Step B H B' H' → Q o H') → to σ H Q
/-- an operation on values; a call's -/
def RvP (r : R2) (x y z : D) : Prop := ∀ B H, Sub B H → ∀ v u, Rep C B v x → Rep C B u y → ∀ Q : VK, (∀ w B' H', Step B H B' H' → Rep C B' w z → Q w H') → r v u H Q
def RuP (r : V → Hp → VK → Prop) (x z : D) : Prop := ∀ B H, Sub B H → ∀ v, Rep C B v x → ∀ Q : VK, (∀ w B' H', Step B H B' H' → Rep C B' w z → Q w H') → r v H Q
def RcP (r : List V → Hp → VK → Prop) (xs : List D) (z : D) : Prop := ∀ B H, Sub B H → ∀ vs, Reps C B vs xs → ∀ Q : VK, (∀ w B' H', Step B H B' H' → Rep C B' w z → Q w H') → r vs H Q
/-- a target takes d; vs: the slots that it writes -/
def Asg (g : TG) (ρ : Env) (d : D) (ρ' : Env) (vs : List Nat) : Prop := ∀ σ B H v (k : L2.St → Hp → Prop), Sat C σ B ρ → Sub B H → Rep C B v d →
  (∀ σ', Sat C σ' B ρ' → σ'.length = σ.length → (∀ j, j ∉ vs → σ'[j]? = σ[j]?) → k σ' H) → g v σ H k
def Asgs (g : TGs) (ρ : Env) (ds : List D) (ρ' : Env) (vs : List Nat) : Prop := ∀ σ B H ws (k : L2.St → Hp → Prop), Sat C σ B ρ → Sub B H → Reps C B ws ds →
  (∀ σ', Sat C σ' B ρ' → σ'.length = σ.length → (∀ j, j ∉ vs → σ'[j]? = σ[j]?) → k σ' H) → g ws σ H k
/-- a block: it goes on with N, or returns with R -/
def Run (ts : TS) (ρ : Env) (N : L2.St → Hp → Prop) (R : V → Hp → Prop) : Prop := ∀ (Z : Ends) σ B H, Sat C σ B ρ → Sub B H →
  (∀ σ' B' H', Step B H B' H' → N σ' B' → Z.nx σ' H') → (∀ v B' H', Step B H B' H' → R v B' → Z.rt v H') → ts Z σ H
/-- going on with names told by ρ; returning d; not going on -/
def To (ρ : Env) : L2.St → Hp → Prop := fun σ B => Sat C σ B ρ
def Ret (d : D) : V → Hp → Prop := fun v B => Rep C B v d
end
def Nv : L2.St → Hp → Prop := fun _ _ => False
def Nr : V → Hp → Prop := fun _ _ => False

section
variable {C : Addr} {K : PySem.W.Frag} {ρ ρ' : Env} {ta tb te tc : TE} {t u : TT} {x y z d e : D} {r : R2}

theorem EvP.is (h : EvP C te ρ x) (e : x = y) : EvP C te ρ y := e ▸ h
theorem EvB.is {a b : Bool} (h : EvB C t ρ a) (e : a = b) : EvB C t ρ b := e ▸ h
theorem EvA.is {ta : TA} {xs ys : List D} (h : EvA C ta ρ xs) (e : xs = ys) : EvA C ta ρ ys := e ▸ h

/-! ### names, constants, operators -/
theorem v_var {i : Nat} (h : ρ[i]? = some (some d)) : EvP C (tVar i) ρ d := fun σ B H hs e Q q => by
  obtain ⟨v, h1, r⟩ := hs.get i d h
  exact ⟨v, h1, q v B H (.refl e) r⟩
theorem v_c {v : V} (r : ∀ B, Rep C B v d) : EvP C (tC v) ρ d := fun σ B H _ e Q q => q v B H (.refl e) (r B)
theorem v_int {i : Int} : EvP C (tC (.int i)) ρ (.int i) := v_c fun _ => .int i
theorem v_bl {i : Bool} : EvP C (tC (.bl i)) ρ (.bl i) := v_c fun _ => .bl i
theorem v_str {i : Str} : EvP C (tC (.str i)) ρ (.str i) := v_c fun _ => .str i
theorem v_non : EvP C (tC .non) ρ .non := v_c fun _ => .non
theorem v_op (ha : EvP C ta ρ x) (hb : EvP C tb ρ y) (hr : RvP C r x y z) : EvP C (tOp r ta tb) ρ z := fun σ B H hs e Q q =>
  ha σ B H hs e _ fun v B1 H1 s1 r1 => hb σ B1 H1 (hs.up s1.b) s1.s _ fun u B2 H2 s2 r2 => hr B2 H2 s2.s v u (r1.up s2.b) r2 Q fun w B3 H3 s3 r3 => q w B3 H3 ((s1.trans s2).trans s3) r3
theorem v_un {r : V → Hp → VK → Prop} (ha : EvP C ta ρ x) (hr : RuP C r x z) : EvP C (tUn r ta) ρ z := fun σ B H hs e Q q =>
  ha σ B H hs e _ fun v B1 H1 s1 r1 => hr B1 H1 s1.s v r1 Q fun w B3 H3 s3 r3 => q w B3 H3 (s1.trans s3) r3
theorem r_I0 {g : Int → Int → V} {i j : Int} (h : ∀ B, Rep C B (g i j) z) : RvP C (rI0 g) (.int i) (.int j) z := fun B H e v u rv ru Q q =>
  ⟨i, j, rv.int_inv, ru.int_inv, q _ B H (.refl e) (h B)⟩
theorem r_I {c : Int → Int → Prop} {g : Int → Int → V} {i j : Int} (hc : c i j) (h : ∀ B, Rep C B (g i j) z) : RvP C (rI c g) (.int i) (.int j) z := fun B H e v u rv ru Q q =>
  ⟨i, j, rv.int_inv, ru.int_inv, hc, q _ B H (.refl e) (h B)⟩
theorem v_add {i j : Int} (ha : EvP C ta ρ (.int i)) (hb : EvP C tb ρ (.int j)) : EvP C (tOp (rI0 fun i j => .int (i + j)) ta tb) ρ (.int (i + j)) := v_op ha hb (r_I0 fun _ => .int _)
theorem v_sub {i j : Int} (ha : EvP C ta ρ (.int i)) (hb : EvP C tb ρ (.int j)) : EvP C (tOp (rI0 fun i j => .int (i - j)) ta tb) ρ (.int (i - j)) := v_op ha hb (r_I0 fun _ => .int _)
theorem v_mul {i j : Int} (ha : EvP C ta ρ (.int i)) (hb : EvP C tb ρ (.int j)) (hc : CMul i j) : EvP C (tOp (rI CMul fun i j => .int (i * j)) ta tb) ρ (.int (i * j)) := v_op ha hb (r_I hc fun _ => .int _)
theorem v_fdiv {i j : Int} (ha : EvP C ta ρ (.int i)) (hb : EvP C tb ρ (.int j)) (hc : CDiv i j) : EvP C (tOp (rI CDiv fun i j => .int (i / j)) ta tb) ρ (.int (i / j)) := v_op ha hb (r_I hc fun _ => .int _)
theorem v_mod {i j : Int} (ha : EvP C ta ρ (.int i)) (hb : EvP C tb ρ (.int j)) (hc : 0 < j) : EvP C (tOp (rI (fun _ j => 0 < j) fun i j => .int (i % j)) ta tb) ρ (.int (i % j)) := v_op ha hb (r_I hc fun _ => .int _)
theorem v_pow {i j : Int} (ha : EvP C ta ρ (.int i)) (hb : EvP C tb ρ (.int j)) (hc : CPow i j) : EvP C (tOp (rI CPow fun i j => .int (i ^ j.toNat)) ta tb) ρ (.int (i ^ j.toNat)) := v_op ha hb (r_I hc fun _ => .int _)
theorem v_lt {i j : Int} (ha : EvP C ta ρ (.int i)) (hb : EvP C tb ρ (.int j)) : EvP C (tOp (rI0 fun i j => .bl (decide (i < j))) ta tb) ρ (.bl (decide (i < j))) := v_op ha hb (r_I0 fun _ => .bl _)
theorem v_le {i j : Int} (ha : EvP C ta ρ (.int i)) (hb : EvP C tb ρ (.int j)) : EvP C (tOp (rI0 fun i j => .bl (decide (i ≤ j))) ta tb) ρ (.bl (decide (i ≤ j))) := v_op ha hb (r_I0 fun _ => .bl _)
theorem v_gt {i j : Int} (ha : EvP C ta ρ (.int i)) (hb : EvP C tb ρ (.int j)) : EvP C (tOp (rI0 fun i j => .bl (decide (j < i))) ta tb) ρ (.bl (decide (j < i))) := v_op ha hb (r_I0 fun _ => .bl _)
theorem v_ge {i j : Int} (ha : EvP C ta ρ (.int i)) (hb : EvP C tb ρ (.int j)) : EvP C (tOp (rI0 fun i j => .bl (decide (j ≤ i))) ta tb) ρ (.bl (decide (j ≤ i))) := v_op ha hb (r_I0 fun _ => .bl _)
theorem v_neg {i : Int} (ha : EvP C ta ρ (.int i)) : EvP C (tUn (rU fun i => .int (-i)) ta) ρ (.int (-i)) := v_un ha fun B H e v rv Q q => ⟨i, rv.int_inv, q _ B H (.refl e) (.int _)⟩
/-- data that is one value: == and != of such -/
def D.sv : D → Option V
  | .non => some .non
  | .bl b => some (.bl b)
  | .int i => some (.int i)
  | .str s => some (.str s)
  | _ => none
theorem Rep.sv {B : Hp} {v w : V} (h : Rep C B v d) (e : d.sv = some w) : v = w := by
  cases h <;> first | (cases e; done) | (cases e; rfl)
theorem v_eq {v w : V} {b : Bool} (ha : EvP C ta ρ x) (hb : EvP C tb ρ y) (h1 : x.sv = some v) (h2 : y.sv = some w) (hs : scal v w = true) (hd : decide (v = w) = b) : EvP C (tOp rEq ta tb) ρ (.bl b) :=
  v_op ha hb fun B H e v' u' rv ru Q q => by
    rw [rv.sv h1, ru.sv h2]
    exact ⟨hs, q _ B H (.refl e) (by rw [hd]; exact .bl b)⟩
theorem v_ne {v w : V} {b : Bool} (ha : EvP C ta ρ x) (hb : EvP C tb ρ y) (h1 : x.sv = some v) (h2 : y.sv = some w) (hs : scal v w = true) (hd : (!decide (v = w)) = b) : EvP C (tOp rNe ta tb) ρ (.bl b) :=
  v_op ha hb fun B H e v' u' rv ru Q q => by
    rw [rv.sv h1, ru.sv h2]
    exact ⟨hs, q _ B H (.refl e) (by rw [hd]; exact .bl b)⟩
theorem v_eqI {i j : Int} (ha : EvP C ta ρ (.int i)) (hb : EvP C tb ρ (.int j)) : EvP C (tOp rEq ta tb) ρ (.bl (decide (i = j))) :=
  v_eq ha hb rfl rfl rfl (by rw [dec_int]; exact (Bool.beq_eq_decide_eq i j))
theorem v_neI {i j : Int} (ha : EvP C ta ρ (.int i)) (hb : EvP C tb ρ (.int j)) : EvP C (tOp rNe ta tb) ρ (.bl (!decide (i = j))) :=
  v_ne ha hb rfl rfl rfl (by rw [dec_int, Bool.beq_eq_decide_eq])
/-- is it None -/
def D.isN : D → Bool
  | .non => true
  | .raw v => decide (v = V.non)
  | _ => false
theorem Rep.isN {B : Hp} {v : V} (h : Rep C B v d) : decide (v = V.non) = d.isN := by
  cases h <;> first | rfl | exact decide_eq_false (fun z => nomatch z)
theorem v_isN (ha : EvP C ta ρ x) : EvP C (tIsN ta) ρ (.bl x.isN) := fun σ B H hs e Q q =>
  ha σ B H hs e _ fun v B1 H1 s1 r1 => q _ B1 H1 s1 (by rw [r1.isN]; exact .bl _)
theorem v_notN (ha : EvP C ta ρ x) : EvP C (tNotN ta) ρ (.bl (!x.isN)) := fun σ B H hs e Q q =>
  ha σ B H hs e _ fun v B1 H1 s1 r1 => q _ B1 H1 s1 (by rw [r1.isN]; exact .bl _)
/-- == and != of data, at any depth -/
theorem v_eqD {b : Bool} (ha : EvP C ta ρ x) (hb : EvP C tb ρ y) (p : x.plain = true) (p' : y.plain = true) (s : SeqAt.shaped x.py = true) (s' : SeqAt.shaped y.py = true) (hd : PyData.eqv x.py y.py = b) : EvP C (tOp (rEqD K) ta tb) ρ (.bl b) :=
  v_op ha hb fun B H e v u rv ru Q q => ⟨x.py, y.py, Rep.dp v x (rv.up e) p, Rep.dp u y (ru.up e) p', s, s', q _ B H (.refl e) (by rw [hd]; exact .bl b)⟩
theorem v_neD {b : Bool} (ha : EvP C ta ρ x) (hb : EvP C tb ρ y) (p : x.plain = true) (p' : y.plain = true) (s : SeqAt.shaped x.py = true) (s' : SeqAt.shaped y.py = true) (hd : (!PyData.eqv x.py y.py) = b) : EvP C (tOp (rNeD K) ta tb) ρ (.bl b) :=
  v_op ha hb fun B H e v u rv ru Q q => ⟨x.py, y.py, Rep.dp v x (rv.up e) p, Rep.dp u y (ru.up e) p', s, s', q _ B H (.refl e) (by rw [hd]; exact .bl b)⟩

/-! ### subscripts, fields, slices -/
theorem v_ixT {ds : List D} {i : Int} (ha : EvP C ta ρ (.tup ds)) (hb : EvP C tb ρ (.int i)) (h : atI ds i = some z) : EvP C (tOp (rIxT K) ta tb) ρ z :=
  v_op ha hb fun B H e v u rv ru Q q => by
    obtain ⟨a, vs, rfl, hB, r⟩ := rv.tup_inv
    obtain ⟨j, h1, h2, h3, h4, h5⟩ := atI_get h
    obtain ⟨w, h6, h7⟩ := r.get h2
    have hx : ixN ds.length i = some j := by
      unfold atI at h
      cases q : ixN ds.length i with
      | none => rw [q] at h; cases h
      | some j' => have := (ixN_seq q).1; rw [this] at h1; cases h1; rfl
    refine ⟨a, vs, i, w, rfl, ru.int_inv, SqT.of (e a _ hB), ?_, q w B H (.refl e) h7⟩
    unfold atI
    rw [r.length, hx]
    exact h6
theorem v_ixL {ds : List D} {i : Int} (ha : EvP C ta ρ (.lst ds)) (hb : EvP C tb ρ (.int i)) (h : atI ds i = some z) : EvP C (tOp (rIxL K) ta tb) ρ z :=
  v_op ha hb fun B H e v u rv ru Q q => by
    obtain ⟨a, vs, rfl, hB, r⟩ := rv.lst_inv
    obtain ⟨j, h1, h2, h3, h4, h5⟩ := atI_get h
    obtain ⟨w, h6, h7⟩ := r.get h2
    have hx : ixN ds.length i = some j := by
      unfold atI at h
      cases q : ixN ds.length i with
      | none => rw [q] at h; cases h
      | some j' => have := (ixN_seq q).1; rw [this] at h1; cases h1; rfl
    refine ⟨a, vs, i, w, rfl, ru.int_inv, SqL.of (e a _ hB), ?_, q w B H (.refl e) h7⟩
    unfold atI
    rw [r.length, hx]
    exact h6
theorem v_rows {ds : List D} (ha : EvP C ta ρ (.rule ds)) (hc : Cls K C) (hn : NoAttr K C "rows") : EvP C (tFld K ta "rows") ρ (.tup ds) := fun σ B H hs e Q q =>
  ha σ B H hs e _ fun v B1 H1 s1 r1 => by
    obtain ⟨a, dx, w, rfl, h1, h2⟩ := r1.rule_inv
    exact ⟨a, C, dx, _, w, rfl, s1.s a _ h1, hc, hn, rfl, q w B1 H1 s1 h2⟩
theorem o_none : EvO C tNoPart ρ none := fun σ B H _ e Q q => q B H (.refl e)
theorem o_some {i : Int} (h : EvP C te ρ (.int i)) : EvO C (tPart te) ρ (some i) := fun σ B H hs e Q q =>
  h σ B H hs e _ fun v B1 H1 s1 r1 => ⟨i, r1.int_inv, q B1 H1 s1⟩
def cutD (xs : List D) (lo hi : Option Int) : List D := (xs.drop (HT.sIx xs.length 0 lo)).take (HT.sIx xs.length xs.length hi - HT.sIx xs.length 0 lo)
theorem reps_cut {B : Hp} {vs : List V} {ds : List D} (r : Reps C B vs ds) (lo hi : Option Int) : Reps C B (cutV vs lo hi) (cutD ds lo hi) := by
  unfold cutV cutD
  rw [r.length]
  exact (r.drop _).take _
theorem v_sliceL {ds : List D} {tl th : TO} {lo hi : Option Int} (ha : EvP C ta ρ (.lst ds)) (hl : EvO C tl ρ lo) (hh : EvO C th ρ hi) : EvP C (tSl (rSlL K) ta tl th) ρ (.lst (cutD ds lo hi)) := fun σ B H hs e Q q =>
  ha σ B H hs e _ fun v B1 H1 s1 r1 => hl σ B1 H1 (hs.up s1.b) s1.s _ fun B2 H2 s2 => hh σ B2 H2 (hs.up (s1.trans s2).b) s2.s _ fun B3 H3 s3 => by
    obtain ⟨a, vs, rfl, h1, h2⟩ := (r1.up (s2.trans s3).b).lst_inv
    exact ⟨a, vs, rfl, SqL.of (s3.s a _ h1), fun p hp => q _ (upd B3 p (.lst (cutV vs lo hi))) _ (((s1.trans s2).trans s3).trans (.new s3.s hp)) (.lst upd_same ((reps_cut h2 lo hi).up (Sub.new (s3.s.free hp))))⟩
end

/-! ### tests, conditions -/
section
variable {C : Addr} {K : PySem.W.Frag} {ρ ρ' : Env} {ta tb te tc : TE} {t u : TT} {x y z d e : D} {r : R2} {a b : Bool}
theorem b_test (h : EvP C te ρ (.bl b)) : EvB C (tTest te) ρ b := fun σ B H hs e Q q => h σ B H hs e _ fun v B1 H1 s1 r1 => ⟨b, r1.bl_inv, q B1 H1 s1⟩
theorem b_B (h : EvP C te ρ (.bl b)) : EvB C (tB te) ρ b := fun σ B H hs e Q q => h σ B H hs e _ fun v B1 H1 s1 r1 => ⟨b, r1.bl_inv, q B1 H1 s1⟩
theorem b_and (h1 : EvB C t ρ a) (h2 : a = true → EvB C u ρ b) : EvB C (tAnd t u) ρ (a && b) := fun σ B H hs e Q q => h1 σ B H hs e _ fun B1 H1 s1 => by
  cases a with
  | true => exact iteT (h2 rfl σ B1 H1 (hs.up s1.b) s1.s Q fun B2 H2 s2 => q B2 H2 (s1.trans s2))
  | false => exact iteF (q B1 H1 s1)
theorem b_or (h1 : EvB C t ρ a) (h2 : a = false → EvB C u ρ b) : EvB C (tOr t u) ρ (a || b) := fun σ B H hs e Q q => h1 σ B H hs e _ fun B1 H1 s1 => by
  cases a with
  | false => exact iteF (h2 rfl σ B1 H1 (hs.up s1.b) s1.s Q fun B2 H2 s2 => q B2 H2 (s1.trans s2))
  | true => exact iteT (q B1 H1 s1)
theorem b_not (h : EvB C t ρ a) : EvB C (tNot t) ρ (!a) := fun σ B H hs e Q q => h σ B H hs e _ fun B1 H1 s1 => q B1 H1 s1
theorem b_yes : EvB C tYes ρ true := fun σ B H hs e Q q => q B H (.refl e)
theorem v_and (h1 : EvP C ta ρ (.bl a)) (h2 : a = true → EvP C tb ρ (.bl b)) : EvP C (tAndV ta tb) ρ (.bl (a && b)) := fun σ B H hs e Q q => h1 σ B H hs e _ fun v B1 H1 s1 r1 => ⟨a, r1.bl_inv, by
  cases a with
  | true => exact iteT (h2 rfl σ B1 H1 (hs.up s1.b) s1.s Q fun w B2 H2 s2 r2 => q w B2 H2 (s1.trans s2) r2)
  | false => exact iteF (q _ B1 H1 s1 (.bl false))⟩
theorem v_or (h1 : EvP C ta ρ (.bl a)) (h2 : a = false → EvP C tb ρ (.bl b)) : EvP C (tOrV ta tb) ρ (.bl (a || b)) := fun σ B H hs e Q q => h1 σ B H hs e _ fun v B1 H1 s1 r1 => ⟨a, r1.bl_inv, by
  cases a with
  | false => exact iteF (h2 rfl σ B1 H1 (hs.up s1.b) s1.s Q fun w B2 H2 s2 r2 => q w B2 H2 (s1.trans s2) r2)
  | true => exact iteT (q _ B1 H1 s1 (.bl true))⟩
theorem v_not (h1 : EvP C ta ρ (.bl a)) : EvP C (tNotV ta) ρ (.bl (!a)) := fun σ B H hs e Q q => h1 σ B H hs e _ fun v B1 H1 s1 r1 => ⟨a, r1.bl_inv, q _ B1 H1 s1 (.bl _)⟩
theorem v_ifT (h : EvB C t ρ true) (h1 : EvP C ta ρ d) : EvP C (tIf t ta tb) ρ d := fun σ B H hs e Q q => h σ B H hs e _ fun B1 H1 s1 =>
  iteT (h1 σ B1 H1 (hs.up s1.b) s1.s Q fun w B2 H2 s2 r2 => q w B2 H2 (s1.trans s2) r2)
theorem v_ifF (h : EvB C t ρ false) (h1 : EvP C tb ρ d) : EvP C (tIf t ta tb) ρ d := fun σ B H hs e Q q => h σ B H hs e _ fun B1 H1 s1 =>
  iteF (h1 σ B1 H1 (hs.up s1.b) s1.s Q fun w B2 H2 s2 r2 => q w B2 H2 (s1.trans s2) r2)
theorem v_if (h : EvB C t ρ b) (h1 : b = true → EvP C ta ρ x) (h2 : b = false → EvP C tb ρ y) : EvP C (tIf t ta tb) ρ (bif b then x else y) := by
  cases b with
  | true => exact v_ifT h (h1 rfl)
  | false => exact v_ifF h (h2 rfl)

/-! ### arguments, displays, calls -/
theorem a_nil : EvA C tNil ρ [] := fun σ B H hs e Q q => q [] B H (.refl e) .nil
theorem a_cons {tr : TA} {ds : List D} (h : EvP C te ρ d) (hr : EvA C tr ρ ds) : EvA C (tCons te tr) ρ (d :: ds) := fun σ B H hs e Q q =>
  h σ B H hs e _ fun v B1 H1 s1 r1 => hr σ B1 H1 (hs.up s1.b) s1.s _ fun vs B2 H2 s2 r2 => q _ B2 H2 (s1.trans s2) (.cons (r1.up s2.b) r2)
theorem a_starL {tr : TA} {ds es : List D} (h : EvP C te ρ (.lst es)) (hr : EvA C tr ρ ds) : EvA C (StX.tStar K te tr) ρ (es ++ ds) := fun σ B H hs e Q q =>
  h σ B H hs e _ fun v B1 H1 s1 r1 => by
    obtain ⟨a, vs, rfl, h1, h2⟩ := r1.lst_inv
    exact ⟨a, vs, rfl, .inr (SqL.of (s1.s a _ h1)), hr σ B1 H1 (hs.up s1.b) s1.s _ fun ws B2 H2 s2 r2 => q _ B2 H2 (s1.trans s2) ((h2.up s2.b).append r2)⟩
theorem a_starT {tr : TA} {ds es : List D} (h : EvP C te ρ (.tup es)) (hr : EvA C tr ρ ds) : EvA C (StX.tStar K te tr) ρ (es ++ ds) := fun σ B H hs e Q q =>
  h σ B H hs e _ fun v B1 H1 s1 r1 => by
    obtain ⟨a, vs, rfl, h1, h2⟩ := r1.tup_inv
    exact ⟨a, vs, rfl, .inl (SqT.of (s1.s a _ h1)), hr σ B1 H1 (hs.up s1.b) s1.s _ fun ws B2 H2 s2 r2 => q _ B2 H2 (s1.trans s2) ((h2.up s2.b).append r2)⟩
theorem fits {n : Nat} (h : n ≤ 100000) : n ≤ sizeLine := Nat.le_trans h (by decide)
theorem fitsLt {n : Nat} (h : n < 100000) : n < sizeLine := Nat.lt_of_lt_of_le h (by decide)
theorem v_tup {ta : TA} {ds : List D} (h : EvA C ta ρ ds) (hl : ds.length ≤ 100000) : EvP C (tTup ta) ρ (.tup ds) := fun σ B H hs e Q q =>
  h σ B H hs e _ fun vs B1 H1 s1 r1 => ⟨by rw [r1.length]; exact fits hl, fun p hp => q _ (upd B1 p (.tup vs)) _ (s1.trans (.new s1.s hp)) (.tup upd_same (r1.up (Sub.new (s1.s.free hp))))⟩
theorem v_lst {ta : TA} {ds : List D} (h : EvA C ta ρ ds) (hl : ds.length ≤ 100000) : EvP C (tLst ta) ρ (.lst ds) := fun σ B H hs e Q q =>
  h σ B H hs e _ fun vs B1 H1 s1 r1 => ⟨by rw [r1.length]; exact fits hl, fun p hp => q _ (upd B1 p (.lst vs)) _ (s1.trans (.new s1.s hp)) (.lst upd_same (r1.up (Sub.new (s1.s.free hp))))⟩
theorem v_cb {ta : TA} {r : List V → Hp → VK → Prop} {ds : List D} (h : EvA C ta ρ ds) (hr : RcP C r ds z) : EvP C (tCB r ta) ρ z := fun σ B H hs e Q q =>
  h σ B H hs e _ fun vs B1 H1 s1 r1 => hr B1 H1 s1.s vs r1 Q fun w B2 H2 s2 r2 => q w B2 H2 (s1.trans s2) r2

/-- the promise of a def: data in, data out, nothing changed -/
def spD (C : Addr) (F : List D → D → Prop) : Sp := fun vs H Q _ => ∃ B ds d, Sub B H ∧ Reps C B vs ds ∧ F ds d ∧ ∀ v B' H', Step B H B' H' → Rep C B' v d → Q v H'
theorem v_call {ta : TA} {F : List D → D → Prop} {ds es : List D} {dvs : List V} {E : XK} (h : EvA C ta ρ ds) (hd : ∀ B, Reps C B dvs es) (hF : F (ds ++ es) d) : EvP C (tCall (spD C F) dvs E ta) ρ d := fun σ B H hs e Q q =>
  h σ B H hs e _ fun vs B1 H1 s1 r1 => ⟨B1, ds ++ es, d, s1.s, r1.append (hd B1), hF, fun v B2 H2 s2 r2 => q v B2 H2 (s1.trans s2) r2⟩
theorem v_call0 {ta : TA} {F : List D → D → Prop} {ds : List D} {E : XK} (h : EvA C ta ρ ds) (hF : F ds d) : EvP C (tCall (spD C F) [] E ta) ρ d := v_call (es := []) h (fun _ => .nil) (by rw [List.append_nil]; exact hF)
end

/-! ### built-in functions -/
section
variable {C : Addr} {K : PySem.W.Frag} {ρ : Env} {x y z d : D}
theorem c_len {ds : List D} {o : D} (h : o = .lst ds ∨ o = .tup ds) : RcP C (fun xs H Q => ∃ p ys, xs = [V.ref p] ∧ (SqL K H p ys ∨ SqT K H p ys) ∧ Q (.int ys.length) H) [o] (.int ds.length) := fun B H e vs r Q q => by
  obtain ⟨v, ws, rfl, h1, h2⟩ := r.cons_inv
  rw [h2.nil_inv]
  rcases h with rfl | rfl
  · obtain ⟨a, us, rfl, h3, h4⟩ := h1.lst_inv
    exact ⟨a, us, rfl, .inl (SqL.of (e a _ h3)), q _ B H (.refl e) (by rw [h4.length]; exact .int _)⟩
  · obtain ⟨a, us, rfl, h3, h4⟩ := h1.tup_inv
    exact ⟨a, us, rfl, .inr (SqT.of (e a _ h3)), q _ B H (.refl e) (by rw [h4.length]; exact .int _)⟩
theorem c_int {i : Int} : RcP C (fun xs H Q => (∃ i, xs = [V.int i] ∧ Q (.int i) H) ∨ ∃ k, xs = [V.bl k] ∧ Q (.int (if k then 1 else 0)) H) [.int i] (.int i) := fun B H e vs r Q q => by
  obtain ⟨v, ws, rfl, h1, h2⟩ := r.cons_inv
  rw [h2.nil_inv, h1.int_inv]
  exact .inl ⟨i, rfl, q _ B H (.refl e) (.int i)⟩
theorem c_intB {k : Bool} : RcP C (fun xs H Q => (∃ i, xs = [V.int i] ∧ Q (.int i) H) ∨ ∃ k, xs = [V.bl k] ∧ Q (.int (if k then 1 else 0)) H) [.bl k] (.int (if k then 1 else 0)) := fun B H e vs r Q q => by
  obtain ⟨v, ws, rfl, h1, h2⟩ := r.cons_inv
  rw [h2.nil_inv, h1.bl_inv]
  exact .inr ⟨k, rfl, q _ B H (.refl e) (.int _)⟩
theorem c_abs {i : Int} : RcP C (fun xs H Q => ∃ i : Int, xs = [V.int i] ∧ Q (.int (if i < 0 then -i else i)) H) [.int i] (.int (if i < 0 then -i else i)) := fun B H e vs r Q q => by
  obtain ⟨v, ws, rfl, h1, h2⟩ := r.cons_inv
  rw [h2.nil_inv, h1.int_inv]
  exact ⟨i, rfl, q _ B H (.refl e) (.int _)⟩
theorem c_max2 {i j : Int} : RcP C (fun xs H Q => ∃ i j : Int, xs = [V.int i, V.int j] ∧ Q (.int (if j > i then j else i)) H) [.int i, .int j] (.int (if j > i then j else i)) := fun B H e vs r Q q => by
  obtain ⟨v, ws, rfl, h1, h2⟩ := r.cons_inv
  obtain ⟨v', ws', rfl, h3, h4⟩ := h2.cons_inv
  rw [h4.nil_inv, h1.int_inv, h3.int_inv]
  exact ⟨i, j, rfl, q _ B H (.refl e) (.int _)⟩
theorem c_gcd {i j : Int} : RcP C rGcd [.int i, .int j] (.int ((Nat.gcd i.natAbs j.natAbs : Nat) : Int)) := fun B H e vs r Q q => by
  obtain ⟨v, ws, rfl, h1, h2⟩ := r.cons_inv
  obtain ⟨v', ws', rfl, h3, h4⟩ := h2.cons_inv
  rw [h4.nil_inv, h1.int_inv, h3.int_inv]
  exact ⟨i, j, rfl, q _ B H (.refl e) (.int _)⟩
theorem c_max {ns : List Int} {m : Int} (h0 : 0 < ns.length) (hm : m ∈ ns) (hle : ∀ y, y ∈ ns → y ≤ m) : RcP C (rMax K) [.lst (ns.map D.int)] (.int m) := fun B H e vs r Q q => by
  obtain ⟨v, ws, rfl, h1, h2⟩ := r.cons_inv
  obtain ⟨a, us, rfl, h3, h4⟩ := h1.lst_inv
  rw [h2.nil_inv]
  rw [h4.ints] at h3
  refine ⟨a, ns, rfl, SqL.of (e a _ h3), h0, fun k hk hkl => ?_⟩
  have := Int.le_antisymm (hle k hk) (hkl m hm)
  subst this
  exact q _ B H (.refl e) (.int _)
theorem c_min {ns : List Int} {m : Int} (h0 : 0 < ns.length) (hm : m ∈ ns) (hle : ∀ y, y ∈ ns → m ≤ y) : RcP C (rMin K) [.lst (ns.map D.int)] (.int m) := fun B H e vs r Q q => by
  obtain ⟨v, ws, rfl, h1, h2⟩ := r.cons_inv
  obtain ⟨a, us, rfl, h3, h4⟩ := h1.lst_inv
  rw [h2.nil_inv]
  rw [h4.ints] at h3
  refine ⟨a, ns, rfl, SqL.of (e a _ h3), h0, fun k hk hkl => ?_⟩
  have := Int.le_antisymm (hkl m hm) (hle k hk)
  subst this
  exact q _ B H (.refl e) (.int _)
theorem c_all {bs : List Bool} : RcP C (rAll K) [.lst (bs.map D.bl)] (.bl (bs.all id)) := fun B H e vs r Q q => by
  obtain ⟨v, ws, rfl, h1, h2⟩ := r.cons_inv
  obtain ⟨a, us, rfl, h3, h4⟩ := h1.lst_inv
  rw [h2.nil_inv]
  rw [h4.bls] at h3
  exact ⟨a, bs, rfl, SqL.of (e a _ h3), q _ B H (.refl e) (.bl _)⟩
theorem c_tuple {ds : List D} : RcP C (fun xs H Q => ∃ p ys, xs = [V.ref p] ∧ ((SqL K H p ys ∧ ∀ l, H l = none → Q (.ref l) (upd H l (.tup ys))) ∨ (SqT K H p ys ∧ Q (.ref p) H))) [.lst ds] (.tup ds) := fun B H e vs r Q q => by
  obtain ⟨v, ws, rfl, h1, h2⟩ := r.cons_inv
  obtain ⟨a, us, rfl, h3, h4⟩ := h1.lst_inv
  rw [h2.nil_inv]
  exact ⟨a, us, rfl, .inl ⟨SqL.of (e a _ h3), fun l hl => q _ (upd B l (.tup us)) _ (.new e hl) (.tup upd_same (h4.up (Sub.new (e.free hl))))⟩⟩
theorem c_list {ds : List D} {o : D} (h : o = .lst ds ∨ o = .tup ds) : RcP C (fun xs H Q => ∃ p ys, xs = [V.ref p] ∧ (SqL K H p ys ∨ SqT K H p ys) ∧ ∀ l, H l = none → Q (.ref l) (upd H l (.lst ys))) [o] (.lst ds) := fun B H e vs r Q q => by
  obtain ⟨v, ws, rfl, h1, h2⟩ := r.cons_inv
  rw [h2.nil_inv]
  rcases h with rfl | rfl
  · obtain ⟨a, us, rfl, h3, h4⟩ := h1.lst_inv
    exact ⟨a, us, rfl, .inl (SqL.of (e a _ h3)), fun l hl => q _ (upd B l (.lst us)) _ (.new e hl) (.lst upd_same (h4.up (Sub.new (e.free hl))))⟩
  · obtain ⟨a, us, rfl, h3, h4⟩ := h1.tup_inv
    exact ⟨a, us, rfl, .inr (SqT.of (e a _ h3)), fun l hl => q _ (upd B l (.lst us)) _ (.new e hl) (.lst upd_same (h4.up (Sub.new (e.free hl))))⟩
/-- the type's name of data that is no rule -/
def D.ty : D → Option String
  | .non => some "NoneType"
  | .bl _ => some "bool"
  | .int _ => some "int"
  | .str _ => some "str"
  | .lst _ => some "list"
  | .tup _ => some "tuple"
  | _ => none
end
end K55

set_option maxHeartbeats 2000000
/-! K55, part 3: statements, targets, loops, comprehensions, defs. -/
namespace K55
open PySem PySem.Spec PyProof.Rows L2

section
variable {C : Addr} {K : PySem.W.Frag} {ρ ρ' ρ1 ρ2 : Env} {ta : TA} {te tl : TE} {tt : TT} {t u tb : TS} {g : TG} {gs : TGs} {x y d : D} {N N' : L2.St → Hp → Prop} {R R' : V → Hp → Prop} {b : Bool}

/-! ### targets -/
theorem g_name {i : Nat} : Asg C (gName i) ρ d (ρ.set i (some d)) [i] := fun σ B H v k hs e r q =>
  q _ (hs.put r) (by rw [List.length_set]) fun j hj => by rw [List.getElem?_set_ne (fun z => hj (by simp [z]))]
theorem gs_nil : Asgs C gNil ρ [] ρ [] := fun σ B H ws k hs e r q => ⟨r.nil_inv, q σ hs rfl fun _ _ => rfl⟩
theorem gs_cons {ds : List D} {vs ws : List Nat} (h1 : Asg C g ρ d ρ1 vs) (h2 : Asgs C gs ρ1 ds ρ2 ws) : Asgs C (gCons g gs) ρ (d :: ds) ρ2 (vs ++ ws) := fun σ B H us k hs e r q => by
  obtain ⟨v, us, rfl, r1, r2⟩ := r.cons_inv
  refine ⟨v, us, rfl, h1 σ B H v _ hs e r1 fun σ1 hs1 l1 o1 => h2 σ1 B H us k hs1 e r2 fun σ2 hs2 l2 o2 => q σ2 hs2 (l2.trans l1) fun j hj => ?_⟩
  rw [o2 j fun z => hj (List.mem_append_right _ z), o1 j fun z => hj (List.mem_append_left _ z)]
theorem g_tup {ds : List D} {vs : List Nat} {n : Nat} (h : Asgs C gs ρ ds ρ' vs) (hn : ds.length = n) : Asg C (gTup K n gs) ρ (.tup ds) ρ' vs := fun σ B H v k hs e r q => by
  obtain ⟨a, us, rfl, hB, r1⟩ := r.tup_inv
  exact ⟨a, us, rfl, SqT.of (e a _ hB), r1.length.trans hn, h σ B H us k hs e r1 q⟩

/-! ### statements -/
theorem Run.imp (h : Run C t ρ N R) (hn : ∀ σ B, N σ B → N' σ B) (hr : ∀ v B, R v B → R' v B) : Run C t ρ N' R' := fun Z σ B H hs e q1 q2 =>
  h Z σ B H hs e (fun σ' B' H' s z => q1 σ' B' H' s (hn σ' B' z)) fun v B' H' s z => q2 v B' H' s (hr v B' z)
theorem Run.less (h : Run C t ρ' N R) (hl : ∀ σ B, Sat C σ B ρ → Sat C σ B ρ') : Run C t ρ N R := fun Z σ B H hs e q1 q2 => h Z σ B H (hl σ B hs) e q1 q2
theorem run_seq (h1 : Run C t ρ (To C ρ1) R) (h2 : Run C u ρ1 N R) : Run C (tSeq t u) ρ N R := fun Z σ B H hs e q1 q2 =>
  h1 { Z with nx := u Z } σ B H hs e (fun σ1 B1 H1 s1 hs1 => h2 Z σ1 B1 H1 hs1 s1.s (fun σ2 B2 H2 s2 z => q1 σ2 B2 H2 (s1.trans s2) z) fun v B2 H2 s2 z => q2 v B2 H2 (s1.trans s2) z) q2
/-- the first one always returns -/
theorem run_seqR (h1 : Run C t ρ Nv R) : Run C (tSeq t u) ρ N R := fun Z σ B H hs e q1 q2 =>
  h1 { Z with nx := u Z } σ B H hs e (fun σ1 B1 H1 s1 z => z.elim) q2
theorem run_next (h : ∀ σ B, Sat C σ B ρ → N σ B) : Run C tNext ρ N R := fun Z σ B H hs e q1 q2 => q1 σ B H (.refl e) (h σ B hs)
theorem run_asg {vs : List Nat} (h : EvP C te ρ d) (hg : Asg C g ρ d ρ1 vs) : Run C (tAsg te g) ρ (To C ρ1) R := fun Z σ B H hs e q1 q2 =>
  h σ B H hs e _ fun v B1 H1 s1 r1 => hg σ B1 H1 v _ (hs.up s1.b) s1.s r1 fun σ1 hs1 _ _ => q1 σ1 B1 H1 s1 hs1
theorem run_set {i : Nat} (h : EvP C te ρ d) : Run C (tAsg te (gName i)) ρ (To C (ρ.set i (some d))) R := run_asg h g_name
theorem run_par {i j : Nat} (h : EvA C ta ρ [x, y]) : Run C (tPar i j ta) ρ (To C ((ρ.set i (some x)).set j (some y))) R := fun Z σ B H hs e q1 q2 =>
  h σ B H hs e _ fun vs B1 H1 s1 r1 => by
    obtain ⟨v, ws, rfl, h1, h2⟩ := r1.cons_inv
    obtain ⟨v', ws', rfl, h3, h4⟩ := h2.cons_inv
    rw [h4.nil_inv]
    exact ⟨v, v', rfl, q1 _ B1 H1 s1 (((hs.up s1.b).put h1).put h3)⟩
theorem run_ret (h : EvP C te ρ d) : Run C (tRet te) ρ N (Ret C d) := fun Z σ B H hs e q1 q2 => h σ B H hs e _ fun v B1 H1 s1 r1 => q2 v B1 H1 s1 r1
theorem run_drop (h : EvP C te ρ d) (hn : ∀ σ B, Sat C σ B ρ → N σ B) : Run C (tDrop te) ρ N R := fun Z σ B H hs e q1 q2 => h σ B H hs e _ fun v B1 H1 s1 r1 => q1 σ B1 H1 s1 (hn σ B1 (hs.up s1.b))
theorem run_if (h : EvB C tt ρ b) (h1 : b = true → Run C t ρ N R) (h2 : b = false → Run C u ρ N R) : Run C (tIfS tt t u) ρ N R := fun Z σ B H hs e q1 q2 =>
  h σ B H hs e _ fun B1 H1 s1 => by
    cases b with
    | true => exact iteT (h1 rfl Z σ B1 H1 (hs.up s1.b) s1.s (fun σ2 B2 H2 s2 z => q1 σ2 B2 H2 (s1.trans s2) z) fun v B2 H2 s2 z => q2 v B2 H2 (s1.trans s2) z)
    | false => exact iteF (h2 rfl Z σ B1 H1 (hs.up s1.b) s1.s (fun σ2 B2 H2 s2 z => q1 σ2 B2 H2 (s1.trans s2) z) fun v B2 H2 s2 z => q2 v B2 H2 (s1.trans s2) z)
/-- an if without else whose test fails, ahead of the rest -/
theorem run_skip (h : EvB C tt ρ false) (h2 : Run C u ρ N R) : Run C (tSeq (tIfS tt t tNext) u) ρ N R :=
  run_seq (run_if h (fun z => nomatch z) fun _ => run_next fun _ _ z => z) h2
/-- .. whose body returns -/
theorem run_when (h : EvB C tt ρ b) (h1 : b = true → Run C t ρ Nv R) (h2 : b = false → Run C u ρ N R) : Run C (tSeq (tIfS tt t tNext) u) ρ N R := by
  cases b with
  | true => exact run_seqR (run_if h h1 fun z => nomatch z)
  | false => exact run_skip h (h2 rfl)

/-! ### loops -/
theorem run_forL {items : List D} (h : EvP C tl ρ (.lst items)) (ρs : Nat → Env) (F : Nat → Prop) (h0 : F 0) (hs0 : ∀ σ B, Sat C σ B ρ → Sat C σ B (ρs 0))
    (hs : ∀ (i : Nat) (x : D), items[i]? = some x → F i → ∃ ρ1 vs, Asg C g (ρs i) x ρ1 vs ∧ Run C tb ρ1 (fun σ B => F (i + 1) ∧ Sat C σ B (ρs (i + 1))) R)
    (hd : F items.length → ∀ σ B, Sat C σ B (ρs items.length) → N σ B) : Run C (tFor (iList K tl) g tb) ρ N R := fun Z σ B H hS e q1 q2 =>
  h σ B H hS e _ fun v B1 H1 s1 r1 => by
    obtain ⟨a, us, rfl, hB, r⟩ := r1.lst_inv
    refine ⟨a, rfl, ⟨us, SqL.of (s1.s a _ hB)⟩, ?_⟩
    refine for_list (xs := us) (fun i σ' H' => ∃ B', Step B1 H1 B' H' ∧ Sat C σ' B' (ρs i) ∧ F i) ⟨B1, .refl s1.s, hs0 σ B1 (hS.up s1.b), h0⟩ ?_ ?_ ?_
    · rintro i σ' H' _ ⟨B', s', _, _⟩
      exact SqL.of (s'.h a _ (s1.s a _ hB))
    · rintro i z σ' H' hi ⟨B', s', hS', hF⟩
      obtain ⟨dz, hdz, rz⟩ := r.getV hi
      obtain ⟨ρ1, vs, hg, hb⟩ := hs i dz hdz hF
      refine hg σ' B' H' z _ hS' s'.s (rz.up s'.b) fun σ2 hS2 _ _ => ?_
      exact hb _ σ2 B' H' hS2 s'.s (fun σ3 B3 H3 s3 z3 => ⟨B3, s'.trans s3, z3.2, z3.1⟩) fun v3 B3 H3 s3 z3 => q2 v3 B3 H3 ((s1.trans s').trans s3) z3
    · rintro σ' H' ⟨B', s', hS', hF⟩
      rw [r.length] at hS' hF
      exact q1 σ' B' H' (s1.trans s') (hd hF σ' B' hS')
theorem run_forT {items : List D} (h : EvP C tl ρ (.tup items)) (ρs : Nat → Env) (F : Nat → Prop) (h0 : F 0) (hs0 : ∀ σ B, Sat C σ B ρ → Sat C σ B (ρs 0))
    (hs : ∀ (i : Nat) (x : D), items[i]? = some x → F i → ∃ ρ1 vs, Asg C g (ρs i) x ρ1 vs ∧ Run C tb ρ1 (fun σ B => F (i + 1) ∧ Sat C σ B (ρs (i + 1))) R)
    (hd : F items.length → ∀ σ B, Sat C σ B (ρs items.length) → N σ B) : Run C (tFor (iTup K tl) g tb) ρ N R := fun Z σ B H hS e q1 q2 =>
  h σ B H hS e _ fun v B1 H1 s1 r1 => by
    obtain ⟨a, us, rfl, hB, r⟩ := r1.tup_inv
    refine ⟨a, rfl, ⟨us, SqT.of (s1.s a _ hB)⟩, ?_⟩
    refine for_tup (xs := us) (fun i σ' H' => ∃ B', Step B1 H1 B' H' ∧ Sat C σ' B' (ρs i) ∧ F i) ⟨B1, .refl s1.s, hs0 σ B1 (hS.up s1.b), h0⟩ ?_ ?_ ?_
    · rintro i σ' H' _ ⟨B', s', _, _⟩
      exact SqT.of (s'.h a _ (s1.s a _ hB))
    · rintro i z σ' H' hi ⟨B', s', hS', hF⟩
      obtain ⟨dz, hdz, rz⟩ := r.getV hi
      obtain ⟨ρ1, vs, hg, hb⟩ := hs i dz hdz hF
      refine hg σ' B' H' z _ hS' s'.s (rz.up s'.b) fun σ2 hS2 _ _ => ?_
      exact hb _ σ2 B' H' hS2 s'.s (fun σ3 B3 H3 s3 z3 => ⟨B3, s'.trans s3, z3.2, z3.1⟩) fun v3 B3 H3 s3 z3 => q2 v3 B3 H3 ((s1.trans s').trans s3) z3
    · rintro σ' H' ⟨B', s', hS', hF⟩
      rw [r.length] at hS' hF
      exact q1 σ' B' H' (s1.trans s') (hd hF σ' B' hS')
theorem run_forR2 {i j : Int} (h : EvA C ta ρ [.int i, .int j]) (hr : -(2 ^ 62) ≤ i ∧ i < 2 ^ 62 ∧ -(2 ^ 62) ≤ j ∧ j < 2 ^ 62) (ρs : Nat → Env) (F : Nat → Prop) (h0 : F 0) (hs0 : ∀ σ B, Sat C σ B ρ → Sat C σ B (ρs 0))
    (hs : ∀ (n : Nat), n < (j - i).toNat → F n → ∃ ρ1 vs, Asg C g (ρs n) (.int (i + n)) ρ1 vs ∧ Run C tb ρ1 (fun σ B => F (n + 1) ∧ Sat C σ B (ρs (n + 1))) R)
    (hd : F (j - i).toNat → ∀ σ B, Sat C σ B (ρs (j - i).toNat) → N σ B) : Run C (tFor (iRng2 ta) g tb) ρ N R := fun Z σ B H hS e q1 q2 =>
  h σ B H hS e _ fun vs B1 H1 s1 r1 => by
    obtain ⟨v, ws, rfl, h1, h2⟩ := r1.cons_inv
    obtain ⟨v', ws', rfl, h3, h4⟩ := h2.cons_inv
    rw [h4.nil_inv, h1.int_inv, h3.int_inv]
    refine ⟨i, j, rfl, hr, ?_⟩
    refine for_range (fun i σ' H' => ∃ B', Step B1 H1 B' H' ∧ Sat C σ' B' (ρs i) ∧ F i) ⟨B1, .refl s1.s, hs0 σ B1 (hS.up s1.b), h0⟩ ?_ ?_
    · rintro n σ' H' hi ⟨B', s', hS', hF⟩
      obtain ⟨ρ1, vs, hg, hb⟩ := hs n hi hF
      refine hg σ' B' H' _ _ hS' s'.s (.int _) fun σ2 hS2 _ _ => ?_
      exact hb _ σ2 B' H' hS2 s'.s (fun σ3 B3 H3 s3 z3 => ⟨B3, s'.trans s3, z3.2, z3.1⟩) fun v3 B3 H3 s3 z3 => q2 v3 B3 H3 ((s1.trans s').trans s3) z3
    · rintro σ' H' ⟨B', s', hS', hF⟩
      exact q1 σ' B' H' (s1.trans s') (hd hF σ' B' hS')

/-! ### comprehensions -/
theorem wipe_mem {σ : L2.St} {j : Nat} : ∀ {vs : List Nat}, j ∈ vs → j < σ.length → (wipe σ vs)[j]? = some none
  | v :: vs, h, hl => by
    unfold wipe
    by_cases hv : v = j
    · rw [hv, List.getElem?_set_self (by rw [wipe_length]; exact hl)]
    · rw [List.getElem?_set_ne hv]
      exact wipe_mem (by rcases List.mem_cons.mp h with z | z; exact absurd z.symm hv; exact z) hl
theorem wipe_same {σ σ2 : L2.St} {vs : List Nat} (hl : σ2.length = (wipe σ vs).length) (h : ∀ j, j ∉ vs → σ2[j]? = (wipe σ vs)[j]?) : wipe σ2 vs = wipe σ vs := by
  have e : σ2.length = σ.length := hl.trans (wipe_length σ vs)
  refine List.ext_getElem? fun j => ?_
  by_cases hj : j ∈ vs
  · by_cases hlt : j < σ.length
    · rw [wipe_mem hj hlt, wipe_mem hj (by rw [e]; exact hlt)]
    · rw [List.getElem?_eq_none (by rw [wipe_length]; omega), List.getElem?_eq_none (by rw [wipe_length]; omega)]
  · rw [wipe_out hj, h j hj, wipe_out hj]
/-- what the comprehension's list at L holds behind some turns -/
def Lw (C : Addr) (B1 H1 : Hp) (L : Addr) (out : List D) (H : Hp) : Prop := ∃ B' acc, Step B1 H1 B' H ∧ B' L = none ∧ H L = some (.lst acc) ∧ Reps C B' acc out
theorem Lw.start {B1 H1 : Hp} {L : Addr} (e : Sub B1 H1) (hL : H1 L = none) : Lw C B1 H1 L [] (upd H1 L (.lst [])) :=
  ⟨B1, [], ⟨Sub.rfl', Sub.new hL, e.side (e.free hL), fun a o h n => by rw [h] at n; cases n⟩, e.free hL, upd_same, .nil⟩
theorem Lw.fin {B1 H1 H : Hp} {L : Addr} {out : List D} (hL : H1 L = none) (w : Lw C B1 H1 L out H) : ∃ B', Step B1 H1 B' H ∧ Rep C B' (.ref L) (.lst out) := by
  obtain ⟨B', acc, s, n, h, r⟩ := w
  refine ⟨upd B' L (.lst acc), ⟨s.b.side (s.b.free n), s.h, fun a o q => ?_, fun a o q z => ?_⟩, .lst upd_same (r.up (Sub.new n))⟩
  · by_cases ha : a = L
    · rw [ha, upd_same] at q; cases q; rw [ha]; exact h
    · rw [upd_ne ha] at q; exact s.s a o q
  · by_cases ha : a = L
    · rw [ha]; exact hL
    · rw [upd_ne ha] at q; exact s.f a o q z
theorem filter_step {α β : Type} {ts : List α} {i : Nat} {a : α} (f : α → Bool) (o : α → β) (h : ts[i]? = some a) : ((ts.take (i + 1)).filter f).map o = ((ts.take i).filter f).map o ++ bif f a then [o a] else [] := by
  have e : ts.take (i + 1) = ts.take i ++ [a] := by rw [List.take_add_one, h]; rfl
  rw [e, List.filter_append, List.map_append]
  cases q : f a with
  | true => rw [List.filter_cons, if_pos q]; rfl
  | false => rw [List.filter_cons, if_neg (by rw [q]; decide)]; rfl
variable {α : Type} {vs : List Nat}
/-- the turns of a comprehension over items told by ts -/
def Turns (C : Addr) (g : TG) (tt : TT) (te : TE) (ρ : Env) (vs : List Nat) (ts : List α) (enc : α → D) (f : α → Bool) (o : α → D) : Prop :=
  ∀ a, a ∈ ts → ∃ r ws, Asg C g (wipeE ρ vs) (enc a) r ws ∧ (∀ j, j ∈ ws → j ∈ vs) ∧ EvB C tt r (f a) ∧ (f a = true → EvP C te r (o a))
theorem Turns.go {ts : List α} {enc : α → D} {f : α → Bool} {o : α → D} (T : Turns C g tt te ρ vs ts enc f o) {B1 H1 H : Hp} {L : Addr} {σ : L2.St} {a : α} {v : V} {out : List D} (ha : a ∈ ts) (hS : Sat C σ B1 ρ) (hL : H1 L = none) (hlen : out.length < 100000)
    (w : Lw C B1 H1 L out H) (rv : ∀ B', Sub B1 B' → Sub B' H → Rep C B' v (enc a)) :
    g v (wipe σ vs) H fun σ2 H2 => wipe σ2 vs = wipe σ vs ∧ tt σ2 H2 fun b H3 => if b = true then te σ2 H3 fun y H4 => ∃ acc, H4 L = some (.lst acc) ∧ acc.length < sizeLine ∧ Lw C B1 H1 L (out ++ bif f a then [o a] else []) (upd H4 L (.lst (acc ++ [y]))) else Lw C B1 H1 L (out ++ bif f a then [o a] else []) H3 := by
  obtain ⟨r, ws, hg, hw, ht, hv⟩ := T a ha
  obtain ⟨B', acc, s, n, h, rr⟩ := id w
  refine hg (wipe σ vs) B' H v _ ((hS.up s.b).wipe vs) s.s (rv B' s.b s.s) fun σ2 hS2 hl ho => ⟨wipe_same hl fun j hj => ho j fun z => hj (hw j z), ?_⟩
  -- the turn from the heap settled so far
  have w' : Lw C B' H L out H := ⟨B', acc, .refl s.s, n, h, rr⟩
  refine ht σ2 B' H hS2 s.s _ fun B3 H3 s3 => ?_
  have keep : ∀ {B4 H4 : Hp}, Step B' H B4 H4 → B4 L = none := fun {B4 H4} s4 => by
    cases q : B4 L with
    | none => rfl
    | some o => have := s4.f L o q n; rw [h] at this; cases this
  cases k : f a with
  | true =>
    refine iteT (hv k σ2 B3 H3 (hS2.up s3.b) s3.s _ fun y B4 H4 s4 r4 => ?_)
    have s34 := s3.trans s4
    refine ⟨acc, s34.h L _ h, by rw [rr.length]; exact fitsLt hlen, B4, acc ++ [y], ⟨s.b.trans s34.b, (s.h.trans s34.h).side hL, s34.s.side (keep s34), (s.trans s34).f⟩, keep s34, upd_same, ?_⟩
    exact (rr.up s34.b).snoc r4
  | false =>
    refine iteF ⟨B3, acc, s.trans s3, keep s3, s3.h L _ h, ?_⟩
    show Reps C B3 acc (out ++ [])
    rw [List.append_nil]
    exact rr.up s3.b
theorem out_len {ts : List α} {f : α → Bool} {o : α → D} {i : Nat} (h : ts.length ≤ 50000) : (((ts.take i).filter f).map o).length < 100000 := by
  rw [List.length_map]
  have h1 := List.length_filter_le f (ts.take i)
  have h2 : (ts.take i).length ≤ ts.length := by rw [List.length_take]; exact Nat.min_le_right _ _
  omega
theorem v_lcL {ts : List α} {enc : α → D} {f : α → Bool} {o : α → D} (h : EvP C tl ρ (.lst (ts.map enc))) (hn : ts.length ≤ 50000) (T : Turns C g tt te ρ vs ts enc f o) : EvP C (tLc (iList K tl) g tt te vs) ρ (.lst ((ts.filter f).map o)) := fun σ B H hS e Q q =>
  h σ B H hS e _ fun v B1 H1 s1 r1 => by
    obtain ⟨a, us, rfl, hB, r⟩ := r1.lst_inv
    have hul : us.length = ts.length := by rw [r.length, List.length_map]
    refine ⟨a, rfl, ⟨us, SqL.of (s1.s a _ hB)⟩, fun L hL => ?_⟩
    refine lc_list (xs := us) (fun i H' => Lw C B1 H1 L (((ts.take i).filter f).map o) H') (by simpa using Lw.start s1.s hL) ?_ ?_ ?_
    · rintro i H' _ ⟨B', acc, s', _⟩
      exact SqL.of (s'.h a _ (s1.s a _ hB))
    · intro i z H' hi w
      obtain ⟨dz, hdz, rz⟩ := r.getV hi
      rw [List.getElem?_map] at hdz
      cases ht : ts[i]? with
      | none => rw [ht] at hdz; cases hdz
      | some t =>
        rw [ht] at hdz
        cases hdz
        simp only [filter_step f o ht]
        exact T.go (List.mem_of_getElem? ht) (hS.up s1.b) hL (out_len hn) w fun B' e1 _ => rz.up e1
    · intro H' w
      rw [hul, List.take_length] at w
      obtain ⟨B', s', r'⟩ := w.fin hL
      exact q _ B' H' (s1.trans s') r'
theorem v_lcT {ts : List α} {enc : α → D} {f : α → Bool} {o : α → D} (h : EvP C tl ρ (.tup (ts.map enc))) (hn : ts.length ≤ 50000) (T : Turns C g tt te ρ vs ts enc f o) : EvP C (tLc (iTup K tl) g tt te vs) ρ (.lst ((ts.filter f).map o)) := fun σ B H hS e Q q =>
  h σ B H hS e _ fun v B1 H1 s1 r1 => by
    obtain ⟨a, us, rfl, hB, r⟩ := r1.tup_inv
    have hul : us.length = ts.length := by rw [r.length, List.length_map]
    refine ⟨a, rfl, ⟨us, SqT.of (s1.s a _ hB)⟩, fun L hL => ?_⟩
    refine lc_tup (xs := us) (fun i H' => Lw C B1 H1 L (((ts.take i).filter f).map o) H') (by simpa using Lw.start s1.s hL) ?_ ?_ ?_
    · rintro i H' _ ⟨B', acc, s', _⟩
      exact SqT.of (s'.h a _ (s1.s a _ hB))
    · intro i z H' hi w
      obtain ⟨dz, hdz, rz⟩ := r.getV hi
      rw [List.getElem?_map] at hdz
      cases ht : ts[i]? with
      | none => rw [ht] at hdz; cases hdz
      | some t =>
        rw [ht] at hdz
        cases hdz
        simp only [filter_step f o ht]
        exact T.go (List.mem_of_getElem? ht) (hS.up s1.b) hL (out_len hn) w fun B' e1 _ => rz.up e1
    · intro H' w
      rw [hul, List.take_length] at w
      obtain ⟨B', s', r'⟩ := w.fin hL
      exact q _ B' H' (s1.trans s') r'
/-- over range: the turns' numbers told by ts -/
theorem lc_rng {lo : Int} {n : Nat} {ts : List α} {enc : α → D} {f : α → Bool} {o : α → D} {B H B1 H1 : Hp} {σ : L2.St} {Q : VK} (hts : ts.length = n) (hi : ∀ (i : Nat) a, ts[i]? = some a → enc a = .int (lo + i)) (hn : ts.length ≤ 50000) (T : Turns C g tt te ρ vs ts enc f o)
    (hS : Sat C σ B ρ) (s1 : Step B H B1 H1) (q : ∀ v B' H', Step B H B' H' → Rep C B' v (.lst ((ts.filter f).map o)) → Q v H') :
    ∀ L, H1 L = none → ∃ W : Nat → Nat → Hp → Prop, (∃ m, W 0 m (upd H1 L (.lst []))) ∧ ∀ i m H, W i m H →
      ((Itr lo n).stop i H ∧ Q (.ref L) H) ∨ ((Itr lo n).go i H ∧ ∃ Nx : Hp → Prop, (∀ H', Nx H' → ∃ m', m' < m ∧ W (i + 1) m' H') ∧ ∀ x H', (Itr lo n).yld i H x H' → g x (wipe σ vs) H' fun σ2 H2 => wipe σ2 vs = wipe σ vs ∧ tt σ2 H2 fun b H3 =>
        if b = true then te σ2 H3 fun y H4 => ∃ acc, H4 L = some (.lst acc) ∧ acc.length < sizeLine ∧ Nx (upd H4 L (.lst (acc ++ [y]))) else Nx H3) := fun L hL => by
  refine lc_range (lo := lo) (n := n) (fun i H' => Lw C B1 H1 L (((ts.take i).filter f).map o) H') (by simpa using Lw.start s1.s hL) ?_ ?_
  · intro i H' hlt w
    cases ht : ts[i]? with
    | none => exact absurd (List.getElem?_eq_none_iff.mp ht) (by omega)
    | some t =>
      simp only [filter_step f o ht]
      exact T.go (List.mem_of_getElem? ht) (hS.up s1.b) hL (out_len hn) w fun B' _ _ => by rw [hi i t ht]; exact .int _
  · intro H' w
    rw [← hts, List.take_length] at w
    obtain ⟨B', s', r'⟩ := w.fin hL
    exact q _ B' H' (s1.trans s') r'
theorem v_lcR1 {n : Int} {ts : List α} {enc : α → D} {f : α → Bool} {o : α → D} (h : EvA C ta ρ [.int n]) (hb : -(2 ^ 62) ≤ n ∧ n < 2 ^ 62) (hts : ts.length = n.toNat) (hi : ∀ (i : Nat) a, ts[i]? = some a → enc a = .int i) (hn : ts.length ≤ 50000)
    (T : Turns C g tt te ρ vs ts enc f o) : EvP C (tLc (iRng1 ta) g tt te vs) ρ (.lst ((ts.filter f).map o)) := fun σ B H hS e Q q =>
  h σ B H hS e _ fun us B1 H1 s1 r1 => by
    obtain ⟨v, ws, rfl, h1, h2⟩ := r1.cons_inv
    rw [h2.nil_inv, h1.int_inv]
    exact ⟨n, rfl, hb.1, hb.2, lc_rng hts (fun i a ha => by rw [hi i a ha, Int.zero_add]) hn T hS s1 q⟩
theorem v_lcR2 {lo hi' : Int} {ts : List α} {enc : α → D} {f : α → Bool} {o : α → D} (h : EvA C ta ρ [.int lo, .int hi']) (hb : -(2 ^ 62) ≤ lo ∧ lo < 2 ^ 62 ∧ -(2 ^ 62) ≤ hi' ∧ hi' < 2 ^ 62) (hts : ts.length = (hi' - lo).toNat) (hi : ∀ (i : Nat) a, ts[i]? = some a → enc a = .int (lo + i)) (hn : ts.length ≤ 50000)
    (T : Turns C g tt te ρ vs ts enc f o) : EvP C (tLc (iRng2 ta) g tt te vs) ρ (.lst ((ts.filter f).map o)) := fun σ B H hS e Q q =>
  h σ B H hS e _ fun us B1 H1 s1 r1 => by
    obtain ⟨v, ws, rfl, h1, h2⟩ := r1.cons_inv
    obtain ⟨v', ws', rfl, h3, h4⟩ := h2.cons_inv
    rw [h4.nil_inv, h1.int_inv, h3.int_inv]
    exact ⟨lo, hi', rfl, hb, lc_rng hts hi hn T hS s1 q⟩
end

/-! ### defs -/
section
variable {C : Addr} {P : Program} {w : World} {K : PySem.W.Frag} {mg : Str → Option Value} {base : Heap}
/-- a def of the text keeps «data in, data out» -/
theorem def_ok {x qual : Str} {st : Stmt} {f : Addr} {fd : FuncData} {N ps : List Str} {k : Nat} {F : List D → D → Prop} (Fn : Fun K x qual st f fd) (S : FnScope N ps (defScope st)) (hN : ps.length ≤ N.length) (hlen : ∀ ds d, F ds d → ds.length = ps.length)
    (body : ∀ (cdv : Value) (A : Around) (outer : List PySem.Env) (s : Shared) (H : Hp) (E : XK), Room k (A.deeper (envOfC qual (defScope st) s.heap.objs.size f cdv)) → ∀ ds d, F ds d →
      ∃ t, PSs (cxOf CX0 P w K mg base N qual (defScope st) f cdv A outer s H E).nox (defBody st) t ∧ Run C t (ds.map some ++ List.replicate (N.length - ds.length) none) (fun _ _ => d = .non) (Ret C d)) :
    FnOk P w K mg base CX0 (k + 1) f fd ps (spD C F) := by
  refine Fn.ok S (fun vs H Q E h => ?_) (fun cdv A outer s H vs Q E hr h => ?_)
  · obtain ⟨B, ds, d, e, r, hF, q⟩ := h
    rw [r.length]; exact hlen ds d hF
  · obtain ⟨B, ds, d, e, r, hF, q⟩ := h
    obtain ⟨t, ht, hrun⟩ := body cdv A outer s H E hr ds d hF
    refine ⟨t, ht, hrun _ _ B H (sat_start r (by rw [hlen ds d hF]; exact hN)) e (fun σ' B' H' s' z => ?_) fun v B' H' s' z => q v B' H' s' z⟩
    subst z
    exact q .non B' H' s' .non
/-- a def that the module's name x holds, its promise -/
structure Df (P : Program) (w : World) (K : PySem.W.Frag) (mg : Str → Option Value) (base : Heap) (k : Nat) (x : Str) (ps : List Str) (sp : Sp) : Prop where
  ex : ∃ f fd, FnOk P w K mg base CX0 k f fd ps sp ∧ mg x = some (.ref f) ∧ PySem.W.keepIn K (.ref f) = true ∧ Binds K fd ps []
theorem pcall {X : Cx} {k : Nat} {x : Str} {ps : List Str} {sp : Sp} {p pos : Pos} {e : Expr} {es : List Expr} {t : TA} (G : Df X.prog X.w X.K X.mg X.base k x ps sp) (hr : Room k X.A) (hg : Gl X x) (ha : PA X (e :: es) t) (hdb : (x == ("__debug__" : Str)) = false := by decide)
    (he : starEach (e :: es) X.env = (false, eval e X.env) :: starEach es X.env := by rfl) (hpl : (backTo pos (starEach es X.env)).any (·.1) = false := by rfl) : PE X (.Call (.Name x p) (e :: es) [] pos) (tCall sp [] E0 t) := by
  obtain ⟨f, fd, F, hm, hk, hb⟩ := G.ex
  exact pe_call F hr hg hm hk hb .nil (fun _ _ _ _ _ _ _ h => h.elim) ha hdb he hpl
end
end K55

set_option maxHeartbeats 2000000
/-! K55, part 4: the text by places, what the top's names hold, isinstance, methods, making a rule. -/
namespace K55
open PySem PySem.Spec PyProof.Rows L2

def topS (i : Nat) : Stmt := PySem.Challenge.pw_claimduel_k55_whole_rules_added_and_part.main.body.getD i (.Pass ⟨0, 0, 0, 0⟩)

theorem bo_isinstance : bootBuiltins "isinstance" = some (.builtin "isinstance") := by decide +kernel
theorem bo_int : bootBuiltins "int" = some (.type "int") := by decide +kernel
theorem bo_bool : bootBuiltins "bool" = some (.type "bool") := by decide +kernel
theorem bo_list : bootBuiltins "list" = some (.type "list") := by decide +kernel
theorem bo_tuple : bootBuiltins "tuple" = some (.type "tuple") := by decide +kernel
theorem bo_all : bootBuiltins "all" = some (.builtin "all") := by decide +kernel
theorem bo_len : bootBuiltins "len" = some (.builtin "len") := by decide +kernel
theorem bo_min : bootBuiltins "min" = some (.builtin "min") := by decide +kernel
theorem bo_max : bootBuiltins "max" = some (.builtin "max") := by decide +kernel
theorem bo_abs : bootBuiltins "abs" = some (.builtin "abs") := by decide +kernel
theorem bo_sorted : bootBuiltins "sorted" = some (.builtin "sorted") := by decide +kernel
theorem bo_repr : bootBuiltins "repr" = some (.builtin "repr") := by decide +kernel
theorem bo_set : bootBuiltins "set" = some (.type "set") := by decide +kernel
theorem bo_zip : bootBuiltins "zip" = some (.type "zip") := by decide +kernel
theorem bo_enumerate : bootBuiltins "enumerate" = some (.type "enumerate") := by decide +kernel

/-- what the module's names hold; C: the class of rules -/
structure Bt (K : PySem.W.Frag) (mg : Str → Option Value) (C : Addr) : Prop where
  n_isinstance : mg "isinstance" = none
  n_int : mg "int" = none
  n_bool : mg "bool" = none
  n_list : mg "list" = none
  n_tuple : mg "tuple" = none
  n_all : mg "all" = none
  n_len : mg "len" = none
  n_min : mg "min" = none
  n_max : mg "max" = none
  n_abs : mg "abs" = none
  n_sorted : mg "sorted" = none
  n_repr : mg "repr" = none
  n_set : mg "set" = none
  n_zip : mg "zip" = none
  n_enumerate : mg "enumerate" = none
  n_range : mg "range" = none
  gcd : mg "gcd" = some (.builtin "math.gcd")
  mgC : mg "Rule" = some (.ref C)
  ic : C8.InsC K C
  nR : NoAttr K C "rows"
theorem Bt.cl {K : PySem.W.Frag} {mg : Str → Option Value} {C : Addr} (T : Bt K mg C) : Cls K C := T.ic.cl

section
variable {C : Addr} {K : PySem.W.Frag} {ρ : Env} {x y z d : D}
/-- the built-in type of data -/
inductive TyD : D → String → Prop
  | non : TyD .non "NoneType"
  | bl (b : Bool) : TyD (.bl b) "bool"
  | int (i : Int) : TyD (.int i) "int"
  | str (s : Str) : TyD (.str s) "str"
  | lst (xs : List D) : TyD (.lst xs) "list"
  | tup (xs : List D) : TyD (.tup xs) "tuple"
theorem TyD.tyx {B H : Hp} {v : V} {t : String} (h : TyD x t) (e : Sub B H) (r : Rep C B v x) : TyX K H v (.type t) := by
  cases h with
  | non => rw [r.non_inv]; exact .base .non
  | bl b => rw [r.bl_inv]; exact .base (.bl b)
  | int i => rw [r.int_inv]; exact .base (.int i)
  | str s => rw [r.str_inv]; exact .base (.str s)
  | lst xs => obtain ⟨a, vs, rfl, h, _⟩ := r.lst_inv; exact .base (.lst (e a _ h))
  | tup xs => obtain ⟨a, vs, rfl, h, _⟩ := r.tup_inv; exact .base (.tup (e a _ h))
theorem c_isi {t c : String} {b : Bool} (h : TyD x t) (k : kitB t c = some b) : RcP C (rIsi K) [x, .raw (.ty c)] (.bl b) := fun B H e vs r Q q => by
  obtain ⟨v, ws, rfl, h1, h2⟩ := r.cons_inv
  obtain ⟨v', ws', rfl, h3, h4⟩ := h2.cons_inv
  rw [h4.nil_inv, h3.raw_inv]
  exact ⟨v, .ty c, .type t, .type c, b, rfl, .ty c, h.tyx e h1, kit_ty k, q _ B H (.refl e) (.bl b)⟩
theorem c_isiT {t c c' : String} {b b' : Bool} (h : TyD x t) (k : kitB t c = some b) (k' : kitB t c' = some b') : RcP C (rIsiT K) [x, .tup [.raw (.ty c), .raw (.ty c')]] (.bl (b || b')) := fun B H e vs r Q q => by
  obtain ⟨v, ws, rfl, h1, h2⟩ := r.cons_inv
  obtain ⟨v', ws', rfl, h3, h4⟩ := h2.cons_inv
  obtain ⟨a, us, rfl, hB, h5⟩ := h3.tup_inv
  obtain ⟨u, us', rfl, h6, h7⟩ := h5.cons_inv
  obtain ⟨u', us'', rfl, h8, h9⟩ := h7.cons_inv
  rw [h9.nil_inv, h6.raw_inv, h8.raw_inv] at hB
  rw [h4.nil_inv]
  refine ⟨v, a, _, .type t, [.type c, .type c'], (b || b'), rfl, e a _ hB, .cons (.ty c) (.cons (.ty c') .nil), h.tyx e h1, ?_, q _ B H (.refl e) (.bl _)⟩
  refine kitAny_cons (kit_ty k) (fun hb => ?_) fun hb => by rw [hb]; rfl
  refine kitAny_cons (kit_ty k') (fun hb' => ?_) fun hb' => by rw [hb']; cases b <;> rfl
  rw [hb, hb']
  exact kitAny_nil
theorem c_isC {rows : List D} : RcP C (fun xs H Q => ∃ a dx fs, xs = [V.ref a, V.ref C] ∧ H a = some (.ins C dx fs) ∧ Q (.bl true) H) [.rule rows, .raw (.ref C)] (.bl true) := fun B H e vs r Q q => by
  obtain ⟨v, ws, rfl, h1, h2⟩ := r.cons_inv
  obtain ⟨v', ws', rfl, h3, h4⟩ := h2.cons_inv
  obtain ⟨a, dx, w, rfl, hB, _⟩ := h1.rule_inv
  rw [h4.nil_inv, h3.raw_inv]
  exact ⟨a, dx, _, rfl, e a _ hB, q _ B H (.refl e) (.bl true)⟩
theorem v_raw {v : V} : EvP C (tC v) ρ (.raw v) := v_c fun _ => .raw v
end

/-! ### methods, and rules made -/
section
variable {C : Addr} {P : Program} {w : World} {K : PySem.W.Frag} {mg : Str → Option Value} {base : Heap}
/-- a method of the class of rules, its promise -/
structure Dm (P : Program) (w : World) (K : PySem.W.Frag) (mg : Str → Option Value) (base : Heap) (C : Addr) (k : Nat) (m : Str) (ps : List Str) (sp : Sp) : Prop where
  ex : ∃ f fd, FnOk P w K mg base CX0 k f fd ps sp ∧ Meth K C m f ∧ Binds K fd ps []
theorem pmeth {X : Cx} {k : Nat} {m : Str} {ps : List Str} {sp : Sp} {apos pos : Pos} {o e : Expr} {es : List Expr} {ta : TE} {t : TA} {pl : Sem Bool} (c : Cls X.K C) (G : Dm X.prog X.w X.K X.mg X.base C k m ps sp) (hr : Room k X.A) (ho : PE X o ta) (ha : PA X (e :: es) t)
    (hst : starEach (e :: es) X.env = (false, eval e X.env) :: starEach es X.env := by rfl) (hpl : (backTo pos (starEach es X.env)).any (·.1) = false := by rfl)
    (ht : eval (.Call (.Attribute o m apos) (e :: es) [] pos) X.env = (eval o X.env >>= fun ov => standAt apos.atName >>= fun _ => holding [ov] (getMethod ov m pl) >>= fun fx =>
      callWith pos fx.1 fx.2 (backTo pos (starEach (e :: es) X.env)) (backToKw pos (keywordEach [] X.env))) := by rfl) :
    PE X (.Call (.Attribute o m apos) (e :: es) [] pos) (tMeth C m sp [] E0 ta t) := by
  obtain ⟨f, fd, F, hm, hb⟩ := G.ex
  exact pe_meth (pl := pl) ho c hm F hr hb .nil (fun _ _ _ _ _ _ _ h => h.elim) ha hst hpl ht
/-- a def with defaults: dvs, what fills up a call -/
structure DfD (P : Program) (w : World) (K : PySem.W.Frag) (mg : Str → Option Value) (base : Heap) (k : Nat) (x : Str) (ps : List Str) (dvs : List V) (sp : Sp) : Prop where
  ex : ∃ f fd ds, FnOk P w K mg base CX0 k f fd ps sp ∧ mg x = some (.ref f) ∧ PySem.W.keepIn K (.ref f) = true ∧ Vals dvs ds ∧ Binds K fd ps ds
theorem pcallD {X : Cx} {k : Nat} {x : Str} {ps : List Str} {dvs : List V} {sp : Sp} {p pos : Pos} {e : Expr} {es : List Expr} {t : TA} (G : DfD X.prog X.w X.K X.mg X.base k x ps dvs sp) (hr : Room k X.A) (hg : Gl X x) (ha : PA X (e :: es) t) (hdb : (x == ("__debug__" : Str)) = false := by decide)
    (he : starEach (e :: es) X.env = (false, eval e X.env) :: starEach es X.env := by rfl) (hpl : (backTo pos (starEach es X.env)).any (·.1) = false := by rfl) : PE X (.Call (.Name x p) (e :: es) [] pos) (tCall sp dvs E0 t) := by
  obtain ⟨f, fd, ds, F, hm, hk, hv, hb⟩ := G.ex
  exact pe_call F hr hg hm hk hb hv (fun _ _ _ _ _ _ _ h => h.elim) ha hdb he hpl
theorem def_okD {x qual : Str} {st : Stmt} {dvs : List V} {f : Addr} {fd : FuncData} {N ps : List Str} {k : Nat} {F : List D → D → Prop} (Fn : FunD K x qual (defArgs st) (defBody st) (defScope st) dvs [] f fd) (S : FnScope N ps (defScope st)) (hN : ps.length ≤ N.length) (hlen : ∀ ds d, F ds d → ds.length = ps.length)
    (body : ∀ (cdv : Value) (A : Around) (outer : List PySem.Env) (s : Shared) (H : Hp) (E : XK), Room k (A.deeper (envOfC qual (defScope st) s.heap.objs.size f cdv)) → ∀ ds d, F ds d →
      ∃ t, PSs (cxOf CX0 P w K mg base N qual (defScope st) f cdv A outer s H E).nox (defBody st) t ∧ Run C t (ds.map some ++ List.replicate (N.length - ds.length) none) (fun _ _ => d = .non) (Ret C d)) :
    FnOk P w K mg base CX0 (k + 1) f fd ps (spD C F) := by
  refine Fn.ok S (fun vs H Q E h => ?_) (fun cdv A outer s H vs Q E hr h => ?_)
  · obtain ⟨B, ds, d, e, r, hF, q⟩ := h
    rw [r.length]; exact hlen ds d hF
  · obtain ⟨B, ds, d, e, r, hF, q⟩ := h
    obtain ⟨t, ht, hrun⟩ := body cdv A outer s H E hr ds d hF
    refine ⟨t, ht.nox, hrun _ _ B H (sat_start r (by rw [hlen ds d hF]; exact hN)) e (fun σ' B' H' s' z => ?_) fun v B' H' s' z => q v B' H' s' z⟩
    subst z
    exact q .non B' H' s' .non
variable {ρ : Env} {ta : TE} {t : TA} {d : D}
theorem v_meth {m : Str} {F : List D → D → Prop} {rows ds : List D} (ho : EvP C ta ρ (.rule rows)) (ha : EvA C t ρ ds) (hm : ¬ (m == ("rows" : Str)) = true) (hF : F (.rule rows :: ds) d) : EvP C (tMeth C m (spD C F) [] E0 ta t) ρ d := fun σ B H hs e Q q =>
  ho σ B H hs e _ fun v B1 H1 s1 r1 => by
    obtain ⟨a, dx, u, rfl, hB, hu⟩ := r1.rule_inv
    refine ⟨a, dx, _, rfl, s1.s a _ hB, ?_, ?_⟩
    · show (match m == ("rows" : Str) with | true => some u | false => none) = none
      split
      · rename_i h; exact absurd h hm
      · rfl
    · refine ha σ B1 H1 (hs.up s1.b) s1.s _ fun vs B2 H2 s2 r2 => ⟨B2, .rule rows :: ds, d, s2.s, .cons (r1.up s2.b) (by rw [List.append_nil]; exact r2), hF, fun v B3 H3 s3 r3 => q v B3 H3 ((s1.trans s2).trans s3) r3⟩
/-- __init__'s promise: the rows, kept -/
def spInit (C : Addr) (F : D → List D → Prop) : Sp := fun vs H Q _ => ∃ B x dx v d rows, vs = [.ref x, v] ∧ Sub B H ∧ B x = none ∧ H x = some (.ins C dx []) ∧ Rep C B v d ∧ F d rows ∧
  ∀ B' H' u, Sub B B' → Sub B' H' → B' x = none → (∀ a o, a ≠ x → H a = some o → H' a = some o) → (∀ a o, B' a = some o → B a = none → H a = none) → H' x = some (.ins C dx [("rows", u)]) → Rep C B' u (.tup rows) → Q .non H'
structure Di (P : Program) (w : World) (K : PySem.W.Frag) (mg : Str → Option Value) (base : Heap) (C : Addr) (k : Nat) (ps : List Str) (sp : Sp) : Prop where
  ex : ∃ f fd, FnOk P w K mg base CX0 k f fd ps sp ∧ Mk K C f ∧ Binds K fd ps []
theorem pmake {X : Cx} {k : Nat} {x : Str} {ps : List Str} {sp : Sp} {p pos : Pos} {e : Expr} {es : List Expr} {t : TA} (G : Di X.prog X.w X.K X.mg X.base C k ps sp) (hr : Room (k + 1) X.A) (hg : Gl X x) (hm : X.mg x = some (.ref C)) (ha : PA X (e :: es) t)
    (hdb : (x == ("__debug__" : Str)) = false := by decide) (he : starEach (e :: es) X.env = (false, eval e X.env) :: starEach es X.env := by rfl) (hpl : (backTo pos (starEach es X.env)).any (·.1) = false := by rfl) :
    PE X (.Call (.Name x p) (e :: es) [] pos) (tMake C sp [] E0 t) := by
  obtain ⟨f, fd, F, M, hb⟩ := G.ex
  exact pe_make M F hr hg hm hb .nil (fun _ _ _ _ _ _ _ h => h.elim) ha hdb he hpl
theorem v_make {F : D → List D → Prop} {rows : List D} (ha : EvA C t ρ [d]) (hF : F d rows) : EvP C (tMake C (spInit C F) [] E0 t) ρ (.rule rows) := fun σ B H hs e Q q =>
  ha σ B H hs e _ fun vs B1 H1 s1 r1 x dx hx hdx ne => by
    obtain ⟨v, ws, rfl, h1, h2⟩ := r1.cons_inv
    rw [h2.nil_inv]
    have hBx := s1.s.free hx
    have hBd := s1.s.free hdx
    refine ⟨B1, x, dx, v, d, rows, rfl, (s1.s.side hBd).side hBx, hBx, upd_same, h1, hF, fun B' H' u b1 b2 bx keep fr hx' ru => ⟨rfl, ?_⟩⟩
    have kH : Sub H1 H' := fun a o q => keep a o (ne_of_none q hx) (by rw [upd_ne (ne_of_none q hx), upd_ne (ne_of_none q hdx)]; exact q)
    refine q _ (upd B' x (.ins C dx [("rows", u)])) H' (s1.trans ⟨b1.side hBx, kH, fun a o q => ?_, fun a o q z => ?_⟩) (.rule upd_same (ru.up (Sub.new bx)))
    · by_cases ha : a = x
      · rw [ha, upd_same] at q; cases q; rw [ha]; exact hx'
      · rw [upd_ne ha] at q; exact b2 a o q
    · by_cases ha : a = x
      · rw [ha]; exact hx
      · rw [upd_ne ha] at q
        have h3 := fr a o q z
        by_cases hd : a = dx
        · rw [hd]; exact hdx
        · rw [upd_ne ha, upd_ne hd] at h3; exact h3
end
end K55

set_option maxHeartbeats 2000000
/-! K55, part 5: the same rules in the forms that a search takes: equations told last. -/
namespace K55
open PySem PySem.Spec PyProof.Rows L2
section
variable {C : Addr} {K : PySem.W.Frag} {ρ ρ' ρ1 ρ2 : Env} {ta : TA} {te tf tl : TE} {tt : TT} {t u tb : TS} {t1 t2 : TT} {x y d d' : D} {N N' : L2.St → Hp → Prop} {R R' : V → Hp → Prop} {a b : Bool}
theorem b_and0 (h1 : EvB C t1 ρ a) (h2 : EvB C t2 ρ b) : EvB C (tAnd t1 t2) ρ (a && b) := b_and h1 fun _ => h2
theorem b_or0 (h1 : EvB C t1 ρ a) (h2 : EvB C t2 ρ b) : EvB C (tOr t1 t2) ρ (a || b) := b_or h1 fun _ => h2
theorem b_andF (h1 : EvB C t1 ρ a) (e : a = false) : EvB C (tAnd t1 t2) ρ false := (b_and (b := false) h1 fun z => by rw [e] at z; cases z).is (by rw [e]; rfl)
theorem b_orT (h1 : EvB C t1 ρ a) (e : a = true) : EvB C (tOr t1 t2) ρ true := (b_or (b := true) h1 fun z => by rw [e] at z; cases z).is (by rw [e]; rfl)
theorem b_andT (h1 : EvB C t1 ρ a) (e : a = true) (h2 : EvB C t2 ρ b) : EvB C (tAnd t1 t2) ρ b := (b_and h1 fun _ => h2).is (by rw [e]; rfl)
theorem b_orF (h1 : EvB C t1 ρ a) (e : a = false) (h2 : EvB C t2 ρ b) : EvB C (tOr t1 t2) ρ b := (b_or h1 fun _ => h2).is (by rw [e]; rfl)
theorem v_and0 (h1 : EvP C te ρ (.bl a)) (h2 : EvP C tf ρ (.bl b)) : EvP C (tAndV te tf) ρ (.bl (a && b)) := v_and h1 fun _ => h2
theorem v_or0 (h1 : EvP C te ρ (.bl a)) (h2 : EvP C tf ρ (.bl b)) : EvP C (tOrV te tf) ρ (.bl (a || b)) := v_or h1 fun _ => h2
theorem v_andF (h1 : EvP C te ρ (.bl a)) (e : a = false) : EvP C (tAndV te tf) ρ (.bl false) := (v_and (b := false) h1 fun z => by rw [e] at z; cases z).is (by rw [e]; rfl)
theorem v_orT (h1 : EvP C te ρ (.bl a)) (e : a = true) : EvP C (tOrV te tf) ρ (.bl true) := (v_or (b := true) h1 fun z => by rw [e] at z; cases z).is (by rw [e]; rfl)
theorem v_andT (h1 : EvP C te ρ (.bl a)) (e : a = true) (h2 : EvP C tf ρ (.bl b)) : EvP C (tAndV te tf) ρ (.bl b) := (v_and h1 fun _ => h2).is (by rw [e]; rfl)
theorem v_orF (h1 : EvP C te ρ (.bl a)) (e : a = false) (h2 : EvP C tf ρ (.bl b)) : EvP C (tOrV te tf) ρ (.bl b) := (v_or h1 fun _ => h2).is (by rw [e]; rfl)
theorem v_ifY (h : EvB C tt ρ b) (e : b = true) (h1 : EvP C te ρ d) : EvP C (tIf tt te tf) ρ d := v_ifT (e ▸ h) h1
theorem v_ifN (h : EvB C tt ρ b) (e : b = false) (h1 : EvP C tf ρ d) : EvP C (tIf tt te tf) ρ d := v_ifF (e ▸ h) h1
/-- an if statement whose test comes out true, false -/
theorem run_ifY (h : EvB C tt ρ b) (e : b = true) (h1 : Run C t ρ N R) : Run C (tIfS tt t u) ρ N R := run_if h (fun _ => h1) fun z => by rw [e] at z; cases z
theorem run_ifN (h : EvB C tt ρ b) (e : b = false) (h1 : Run C u ρ N R) : Run C (tIfS tt t u) ρ N R := run_if h (fun z => by rw [e] at z; cases z) fun _ => h1
/-- ahead of the rest: the body returns; it is passed by -/
theorem run_out (h : EvB C tt ρ b) (e : b = true) (h1 : Run C t ρ Nv R) : Run C (tSeq (tIfS tt t tNext) u) ρ N R := run_seqR (run_ifY h e h1)
theorem run_by (h : EvB C tt ρ b) (e : b = false) (h1 : Run C u ρ N R) : Run C (tSeq (tIfS tt t tNext) u) ρ N R := run_skip (e ▸ h) h1
theorem run_in (h : EvB C tt ρ b) (e : b = true) (h1 : Run C t ρ (To C ρ1) R) (h2 : Run C u ρ1 N R) : Run C (tSeq (tIfS tt t tNext) u) ρ N R := run_seq (run_ifY h e h1) h2
theorem run_back (h : EvP C te ρ d') (e : d' = d) : Run C (tRet te) ρ N (Ret C d) := run_ret (e ▸ h)
theorem run_let {i : Nat} (h : EvP C te ρ d) (h2 : Run C u (ρ.set i (some d)) N R) : Run C (tSeq (tAsg te (gName i)) u) ρ N R := run_seq (run_set h) h2
theorem run_let2 {i j : Nat} (h : EvA C ta ρ [x, y]) (h2 : Run C u ((ρ.set i (some x)).set j (some y)) N R) : Run C (tSeq (tPar i j ta) u) ρ N R := run_seq (run_par h) h2
theorem run_lets {g : TG} {vs : List Nat} (h : EvP C te ρ d) (hg : Asg C g ρ d ρ1 vs) (h2 : Run C u ρ1 N R) : Run C (tSeq (tAsg te g) u) ρ N R := run_seq (run_asg h hg) h2
end
end K55

set_option maxHeartbeats 2000000
/-! K55, part 6: rows, entries and lots as plain data. -/
namespace K55
open PySem PySem.Spec PyProof.Rows L2

abbrev Ent := Option (Int × Int × Int)
structure Row where
  first : Option Int
  last : Option Int
  ents : List Ent
structure Lot where
  first : Option Int
  last : Option Int
  many : Int
  rest : Int
  mine : Ent
  its : Ent

def oi : Option Int → D
  | none => .non
  | some i => .int i
def oP : Option (Int × Int) → D
  | none => .non
  | some p => .tup [.int p.1, .int p.2]
def eD : Ent → D
  | none => .non
  | some (a, b, c) => .tup [.int a, .int b, .int c]
def rowD (q : Row) : D := .tup [oi q.first, oi q.last, .tup (q.ents.map eD)]
def rowsD (qs : List Row) : List D := qs.map rowD
/-- a row as it is handed in: its entries a list or a tuple -/
def sq (k : Bool) (ds : List D) : D := bif k then .lst ds else .tup ds
def rowIn (p : Row × Bool) : D := .tup [oi p.1.first, oi p.1.last, sq p.2 (p.1.ents.map eD)]
def lotD (t : Lot) : D := .tup [oi t.first, oi t.last, .int t.many, .int t.rest, eD t.mine, eD t.its]

/-- sizes with which the machine reckons -/
def EntOk : Ent → Prop
  | none => True
  | some (a, b, c) => (-(2 ^ 64) < a ∧ a < 2 ^ 64) ∧ 0 < c ∧ c < 1073741824

/-- the number of a lot next to an end of its stretch, and the step; none without one -/
def near (f l : Option Int) (m r : Int) : Option (Int × Int) :=
  match f, l with
  | none, some l => some (l - (l - r) % m, -m)
  | none, none => some (r, m)
  | some f, none => some (f + (r - f) % m, m)
  | some f, some l => if l < f + (r - f) % m then none else some (f + (r - f) % m, m)
def far (l m r : Int) : Int := l - (l - r) % m
/-- what an entry tells -/
def worth (a b c n : Int) : Int := (a * n + b) / c
def entTell : Ent → Int → Option Int
  | none, _ => none
  | some (a, b, c), n => some (worth a b c n)
/-- n is an integer of the stretch from f to l -/
def InS (f l : Option Int) (n : Int) : Prop := (∀ x, f = some x → x ≤ n) ∧ ∀ y, l = some y → n ≤ y
/-- an entry tells integers from 0 on wherever it counts -/
def EntLaw (f l : Option Int) (m r : Int) (e : Ent) : Prop := ∀ n, InS f l n → n % m = r → ∀ a b c, e = some (a, b, c) → 0 < c ∧ ∃ v, 0 ≤ v ∧ a * n + b = v * c

theorem Bool.of_iff {p : Prop} [Decidable p] {b : Bool} (h : b = true ↔ p) : b = decide p := by
  cases b with
  | true => rw [decide_eq_true (h.mp rfl)]
  | false => rw [decide_eq_false fun z => by have := h.mpr z; cases this]

/-! ### data made of tuples -/
mutual
def fixD : D → D
  | .lst xs => .tup (fixDs xs)
  | .tup xs => .tup (fixDs xs)
  | .non => .non
  | .bl b => .bl b
  | .int i => .int i
  | .str s => .str s
  | .rule r => .rule r
  | .raw v => .raw v
  | .keys k => .keys k
def fixDs : List D → List D
  | [] => []
  | x :: xs => fixD x :: fixDs xs
end
theorem fixDs_map : ∀ xs : List D, fixDs xs = xs.map fixD
  | [] => by unfold fixDs; rfl
  | x :: xs => by unfold fixDs; rw [fixDs_map xs, List.map_cons]
theorem fixD_oi (o : Option Int) : fixD (oi o) = oi o := by cases o <;> unfold oi fixD <;> rfl
theorem fixD_eD (e : Ent) : fixD (eD e) = eD e := by
  rcases e with _ | ⟨a, b, c⟩
  · unfold eD fixD; rfl
  · unfold eD fixD
    simp only [fixDs_map, List.map_cons, List.map_nil, fixD]
theorem fixD_rowIn (p : Row × Bool) : fixD (rowIn p) = rowD p.1 := by
  have h : (p.1.ents.map eD).map fixD = p.1.ents.map eD := by
    rw [List.map_map]
    exact List.map_congr_left fun e _ => fixD_eD e
  rcases p with ⟨q, k⟩
  unfold rowIn rowD sq
  cases k <;> simp only [cond_true, cond_false, fixD, fixDs_map, List.map_cons, List.map_nil, fixD_oi] <;> rw [h]
theorem fixD_rowsIn (ps : List (Row × Bool)) : fixD (.lst (ps.map rowIn)) = .tup (rowsD (ps.map (·.1))) := by
  unfold fixD rowsD
  rw [fixDs_map, List.map_map, List.map_map]
  congr 1
  exact List.map_congr_left fun p _ => fixD_rowIn p
/- every list and tuple of it is short -/
mutual
def D.fit : D → Prop
  | .lst xs => xs.length ≤ 50000 ∧ fits' xs
  | .tup xs => xs.length ≤ 50000 ∧ fits' xs
  | _ => True
def fits' : List D → Prop
  | [] => True
  | x :: xs => x.fit ∧ fits' xs
end
theorem fit_of : ∀ {xs : List D}, (∀ x, x ∈ xs → x.fit) → fits' xs
  | [], _ => by unfold fits'; trivial
  | y :: ys, h => by
    unfold fits'
    exact ⟨h y List.mem_cons_self, fit_of fun x hx => h x (List.mem_cons_of_mem _ hx)⟩
theorem fit_le : ∀ {xs : List D} {x : D}, fits' xs → x ∈ xs → x.fit
  | y :: ys, x, h, hx => by
    unfold fits' at h
    rcases List.mem_cons.mp hx with rfl | hx
    · exact h.1
    · exact fit_le h.2 hx
theorem fit_oi (o : Option Int) : (oi o).fit := by cases o <;> unfold oi D.fit <;> trivial
theorem fit_eD (e : Ent) : (eD e).fit := by
  rcases e with _ | ⟨a, b, c⟩
  · unfold eD D.fit; trivial
  · unfold eD; simp [D.fit, fits']
theorem fit_rowIn (p : Row × Bool) (h : p.1.ents.length ≤ 50000) : (rowIn p).fit := by
  have h2 : fits' (p.1.ents.map eD) := fit_of fun x hx => by
    obtain ⟨e, _, rfl⟩ := List.mem_map.mp hx
    exact fit_eD e
  have h3 : (p.1.ents.map eD).length ≤ 50000 := by rw [List.length_map]; exact h
  rcases p with ⟨q, k⟩
  unfold rowIn sq
  cases k <;> simp only [cond_true, cond_false, D.fit, fits', fit_oi, true_and, and_true, List.length_cons, List.length_nil] <;> exact ⟨by omega, h3, h2⟩
theorem fit_rowsIn (ps : List (Row × Bool)) (h0 : ps.length ≤ 50000) (h : ∀ p, p ∈ ps → p.1.ents.length ≤ 50000) : (D.lst (ps.map rowIn)).fit := by
  unfold D.fit
  refine ⟨by rw [List.length_map]; exact h0, fit_of fun x hx => ?_⟩
  obtain ⟨p, hp, rfl⟩ := List.mem_map.mp hx
  exact fit_rowIn p (h p hp)
/- how deep lists and tuples stand in data -/
mutual
def dep : D → Nat
  | .lst xs => deps xs + 1
  | .tup xs => deps xs + 1
  | _ => 0
def deps : List D → Nat
  | [] => 0
  | x :: xs => max (dep x) (deps xs)
end
theorem dep_le : ∀ {xs : List D} {x : D} {n : Nat}, deps xs ≤ n → x ∈ xs → dep x ≤ n
  | y :: ys, x, n, h, hx => by
    unfold deps at h
    rcases List.mem_cons.mp hx with rfl | hx
    · exact Nat.le_trans (Nat.le_max_left _ _) h
    · exact dep_le (Nat.le_trans (Nat.le_max_right _ _) h) hx
theorem deps_of : ∀ {xs : List D} {n : Nat}, (∀ x, x ∈ xs → dep x ≤ n) → deps xs ≤ n
  | [], n, _ => by unfold deps; omega
  | y :: ys, n, h => by
    unfold deps
    exact Nat.max_le.mpr ⟨h y List.mem_cons_self, deps_of fun x hx => h x (List.mem_cons_of_mem _ hx)⟩
theorem dep_oi (o : Option Int) : dep (oi o) = 0 := by cases o <;> unfold oi dep <;> rfl
theorem dep_eD (e : Ent) : dep (eD e) ≤ 1 := by
  rcases e with _ | ⟨a, b, c⟩
  · unfold eD dep; omega
  · unfold eD; simp [dep, deps]
theorem dep_rowIn (p : Row × Bool) : dep (rowIn p) ≤ 3 := by
  have h : deps (p.1.ents.map eD) ≤ 1 := deps_of fun x hx => by
    obtain ⟨e, _, rfl⟩ := List.mem_map.mp hx
    exact dep_eD e
  rcases p with ⟨q, k⟩
  unfold rowIn sq
  cases k <;> simp only [cond_true, cond_false, dep, deps, dep_oi] <;> simp only at h <;> omega
theorem dep_rowsIn (ps : List (Row × Bool)) : dep (.lst (ps.map rowIn)) ≤ 4 := by
  unfold dep
  have : deps (ps.map rowIn) ≤ 3 := deps_of fun x hx => by
    obtain ⟨p, _, rfl⟩ := List.mem_map.mp hx
    exact dep_rowIn p
  omega
theorem plains_of : ∀ {xs : List D}, (∀ x, x ∈ xs → x.plain = true) → plains xs = true
  | [], _ => by unfold plains; rfl
  | y :: ys, h => by
    unfold plains
    rw [h y List.mem_cons_self, plains_of fun x hx => h x (List.mem_cons_of_mem _ hx)]; rfl
theorem plain_le : ∀ {xs : List D} {x : D}, plains xs = true → x ∈ xs → x.plain = true
  | y :: ys, x, h, hx => by
    unfold plains at h
    have h' := (Bool.and_eq_true _ _).mp h
    rcases List.mem_cons.mp hx with rfl | hx
    · exact h'.1
    · exact plain_le h'.2 hx
theorem plain_oi (o : Option Int) : (oi o).plain = true := by cases o <;> unfold oi D.plain <;> rfl
theorem plain_eD (e : Ent) : (eD e).plain = true := by
  rcases e with _ | ⟨a, b, c⟩
  · unfold eD D.plain; rfl
  · unfold eD; simp [D.plain, plains]
theorem plain_rowIn (p : Row × Bool) : (rowIn p).plain = true := by
  have h : plains (p.1.ents.map eD) = true := plains_of fun x hx => by
    obtain ⟨e, _, rfl⟩ := List.mem_map.mp hx
    exact plain_eD e
  rcases p with ⟨q, k⟩
  unfold rowIn sq
  cases k <;> simp only [cond_true, cond_false, D.plain, plains, plain_oi, Bool.and_true, Bool.true_and] <;> simpa using h
end K55

set_option maxHeartbeats 2000000
/-! K55, part 7: slices of tuples, zip of tuples, forgetting. -/
namespace K55
open PySem PySem.Spec PyProof.Rows L2
section
variable {C : Addr} {K : PySem.W.Frag} {ρ ρ' ρ1 ρ2 : Env} {ta : TA} {te tl : TE} {tt : TT} {t u tb : TS} {g : TG} {x y d : D} {N N' : L2.St → Hp → Prop} {R R' : V → Hp → Prop} {b : Bool}
theorem Sat.cut {σ : L2.St} {B : Hp} (h : Sat C σ B ρ) (j : Nat) : Sat C σ B (ρ.set j none) := by
  refine h.less (by rw [List.length_set]) fun i d q => ?_
  by_cases hj : j = i
  · subst hj
    by_cases hl : j < ρ.length
    · rw [List.getElem?_set_self hl] at q; cases q
    · rw [List.getElem?_eq_none (by rw [List.length_set]; omega)] at q; cases q
  · rw [List.getElem?_set_ne hj] at q
    exact q
theorem cutD_tail (ds : List D) : cutD ds (some 1) none = ds.drop 1 := by
  unfold cutD
  have e1 : HT.sIx ds.length 0 (some 1) = min 1 ds.length := HT.sIx_nat _ _ 1
  have e2 : HT.sIx ds.length ds.length none = ds.length := HT.sIx_none _ _
  rw [e1, e2]
  cases ds with
  | nil => rfl
  | cons x xs =>
    have : min 1 (x :: xs).length = 1 := by simp
    rw [this]
    simp
theorem cutD_head (ds : List D) (n : Nat) : cutD ds none (some (n : Int)) = ds.take n := by
  unfold cutD
  have e1 : HT.sIx ds.length 0 none = 0 := HT.sIx_none _ _
  have e2 : HT.sIx ds.length ds.length (some (n : Int)) = min n ds.length := HT.sIx_nat _ _ n
  rw [e1, e2, List.drop_zero, Nat.sub_zero]
  rw [List.take_eq_take_iff]
  omega
theorem v_sliceT {ds : List D} {tl th : TO} {lo hi : Option Int} (ha : EvP C te ρ (.tup ds)) (hl : EvO C tl ρ lo) (hh : EvO C th ρ hi) : EvP C (tSl (rSlA K) te tl th) ρ (.tup (cutD ds lo hi)) := fun σ B H hs e Q q =>
  ha σ B H hs e _ fun v B1 H1 s1 r1 => hl σ B1 H1 (hs.up s1.b) s1.s _ fun B2 H2 s2 => hh σ B2 H2 (hs.up (s1.trans s2).b) s2.s _ fun B3 H3 s3 => by
    obtain ⟨a, vs, rfl, h1, h2⟩ := (r1.up (s2.trans s3).b).tup_inv
    refine ⟨a, vs, rfl, SqT.of (s3.s a _ h1), fun hw => ?_, fun _ p hp => q _ (upd B3 p (.tup (cutV vs lo hi))) _ (((s1.trans s2).trans s3).trans (.new s3.s hp)) (.tup upd_same ((reps_cut h2 lo hi).up (Sub.new (s3.s.free hp))))⟩
    have e1 : cutD ds lo hi = ds := by
      unfold cutD
      rw [h2.length] at hw
      rw [hw.1, hw.2, List.drop_zero, Nat.sub_zero, List.take_length]
    rw [e1] at q
    exact q _ B3 H3 ((s1.trans s2).trans s3) (.tup h1 h2)
theorem run_forZT {items its : List D} (h : EvA C ta ρ [.tup items, .tup its]) (ρs : Nat → Env) (F : Nat → Prop) (h0 : F 0) (hs0 : ∀ σ B, Sat C σ B ρ → Sat C σ B (ρs 0))
    (hs : ∀ (i : Nat) (x y : D), items[i]? = some x → its[i]? = some y → F i → ∃ ρ1 vs, Asg C g (ρs i) (.tup [x, y]) ρ1 vs ∧ Run C tb ρ1 (fun σ B => F (i + 1) ∧ Sat C σ B (ρs (i + 1))) R)
    (hd : F (min items.length its.length) → ∀ σ B, Sat C σ B (ρs (min items.length its.length)) → N σ B) : Run C (tFor (RZ.iZipA K ta) g tb) ρ N R := fun Z σ B H hS e q1 q2 =>
  h σ B H hS e _ fun vs B1 H1 s1 r1 => by
    obtain ⟨v, ws, rfl, r2, r3⟩ := r1.cons_inv
    obtain ⟨v', ws', rfl, r4, r5⟩ := r3.cons_inv
    rw [r5.nil_inv]
    obtain ⟨a, us, rfl, hB, ra⟩ := r2.tup_inv
    obtain ⟨b, us', rfl, hB', rb⟩ := r4.tup_inv
    have qa : SqT K H1 a us := SqT.of (s1.s a _ hB)
    have qb : SqT K H1 b us' := SqT.of (s1.s b _ hB')
    refine ⟨a, b, us, us', rfl, .inr ⟨qa, qb, ?_⟩⟩
    have la := ra.length
    have lb := rb.length
    refine ⟨fun i m σ' H' => m = min us.length us'.length - i ∧ i ≤ min us.length us'.length ∧ ∃ B', Step B1 H1 B' H' ∧ Sat C σ' B' (ρs i) ∧ F i, ⟨_, rfl, Nat.zero_le _, B1, .refl s1.s, hs0 σ B1 (hS.up s1.b), h0⟩, ?_⟩
    rintro i m σ' H' ⟨rfl, hi, B', s', hS', hF⟩
    have qx : SqT K H' a us := SqT.of (s'.h a _ (s1.s a _ hB))
    have qy : SqT K H' b us' := SqT.of (s'.h b _ (s1.s b _ hB'))
    by_cases hlt : i < min us.length us'.length
    · have h1 : i < us.length := by omega
      have h2 : i < us'.length := by omega
      refine .inr ⟨⟨us, us', _, _, qx, qy, List.getElem?_eq_getElem h1, List.getElem?_eq_getElem h2⟩, fun σ2 H2 => ∃ B2, Step B1 H1 B2 H2 ∧ Sat C σ2 B2 (ρs (i + 1)) ∧ F (i + 1),
        fun σ2 H2 p => ⟨min us.length us'.length - (i + 1), by omega, rfl, by omega, p⟩, fun z H2 y => ?_⟩
      obtain ⟨T, x', y', rfl, hT, rfl, f1, f2⟩ := y
      obtain ⟨dx, hdx, rx⟩ := ra.getV (f1 us qx)
      obtain ⟨dy, hdy, ry⟩ := rb.getV (f2 us' qy)
      obtain ⟨ρ1, vs, hg, hb⟩ := hs i dx dy hdx hdy hF
      have sN : Step B' H' (upd B' T (.tup [x', y'])) (upd H' T (.tup [x', y'])) := .new s'.s hT
      have up := sN.b
      refine hg σ' _ _ _ _ (hS'.up up) sN.s (.tup upd_same (.cons (rx.up (s'.b.trans up)) (.cons (ry.up (s'.b.trans up)) .nil))) fun σ2 hS2 _ _ => ?_
      exact hb _ σ2 _ _ hS2 sN.s (fun σ3 B3 H3 s3 z3 => ⟨B3, (s'.trans sN).trans s3, z3.2, z3.1⟩) fun v3 B3 H3 s3 z3 => q2 v3 B3 H3 (((s1.trans s').trans sN).trans s3) z3
    · have e : i = min us.length us'.length := by omega
      refine .inl ⟨⟨us, us', qx, qy, by omega⟩, ?_⟩
      subst e
      rw [la, lb] at hS' hF
      exact q1 σ' B' H' (s1.trans s') (hd hF σ' B' hS')
end
end K55

set_option maxHeartbeats 2000000
/-! K55, own rule 1: list(zip(a, b)) of two lists of one length. -/
namespace K55
open PySem PySem.Spec PyProof.Rows L2

theorem zip_no_len : typeLookup (.type "zip") "__len__" = pure none := am_miss_of_fast (by decide +kernel)
theorem zip_no_hint : typeLookup (.type "zip") "__length_hint__" = pure none := am_miss_of_fast (by decide +kernel)
section
variable {prog : Program} {w : World} {A : Around} {E : Value → Shared → Prop} {s : Shared} {r : Addr} {Q : Bool → Shared → Prop}
theorem hint_zip (hT : s.TypeIs (.ref r) "zip") (h : Q true s) : wpAny (model prog w) A (Builtin.List.listLengthHint (.ref r)) Q E s := by
  unfold Builtin.List.listLengthHint
  refine wpAny_bind (wpAny_specialOf hT zip_no_len ?_)
  refine wpAny_bind (wpAny_specialOf hT zip_no_hint ?_)
  exact wpAny_pure h
end

theorem sub_l {K : PySem.W.Frag} {H H' : Hp} {a : Addr} {xs : List V} (e : Sub H H') (h : SqL K H a xs) : SqL K H' a xs := by
  rcases h with (h | ⟨o, h⟩) | h
  · exact .inl (.inl (e a _ h))
  · exact .inl (.inr ⟨o, e a _ h⟩)
  · exact .inr h
section
variable {X : Cx} {pins : List (Addr × Obj)} {σ : L2.St} {A : Around} {R : Result → Shared → Prop} {z TI TO i1 i2 a b S : Addr} {xs ys : List V} {H1 : Hp} {res : Value}
/-- the zip object ahead of turn i: the tuple it gave out last is still held -/
def Zst (z TI TO i1 i2 a b : Addr) (i : Nat) (h : Heap) : Prop := (∃ o, h.get? TO = some o) ∧ IsPair h TI (.ref i1) (.ref i2) ∧ h.IsListIter i1 a i ∧ h.IsListIter i2 b i ∧
  ((IsZip h z TI TO .none ∧ ∃ x y, IsPair h TO x y) ∨ ∃ T f oT, IsZipHeld h z TI TO T f ∧ h.get? T = some oT ∧ T ≠ z ∧ T ≠ i1 ∧ T ≠ i2)
theorem Zst.keep {i : Nat} {h h' : Heap} (x : Zst z TI TO i1 i2 a b i h) (k : ∀ c o, c ≠ S → h.get? c = some o → h'.get? c = some o) (kS : ∀ o, h.get? S = some o → ∃ o', h'.get? S = some o') (n : S ≠ z ∧ S ≠ TI ∧ S ≠ TO ∧ S ≠ i1 ∧ S ≠ i2) : Zst z TI TO i1 i2 a b i h' := by
  obtain ⟨n1, n2, n3, n4, n5⟩ := n
  obtain ⟨⟨o0, h0⟩, h1, h2, h3, h4⟩ := x
  refine ⟨⟨o0, k _ _ n3.symm h0⟩, k _ _ n2.symm h1, h2.at fun o q => k _ o n4.symm q, h3.at fun o q => k _ o n5.symm q, ?_⟩
  rcases h4 with ⟨q, x, y, q2⟩ | ⟨T, f, oT, q, q2, q3⟩
  · exact .inl ⟨k _ _ n1.symm q, x, y, k _ _ n3.symm q2⟩
  · by_cases hT : T = S
    · obtain ⟨o', e⟩ := kS oT (by rw [← hT]; exact q2)
      exact .inr ⟨T, f, o', k _ _ n1.symm q, by rw [hT]; exact e, q3⟩
    · exact .inr ⟨T, f, oT, k _ _ n1.symm q, k _ _ hT q2, q3⟩
theorem loopZ (hh : A.handled = none) (D : ZipApart z TI TO i1 i2 a b) (ha : SqL X.K H1 a xs) (hb : SqL X.K H1 b ys) (hl : xs.length = ys.length) (hlen : xs.length < 100000) (hS1 : H1 S = none)
    (hR : ∀ (s' : Shared) (H' : Hp) (ts : List Addr), Inv X pins σ H' s' → Sub H1 H' → H' S = some (.lst (ts.map V.ref)) → ts.length = xs.length → (∀ (j : Nat) t, ts[j]? = some t → ∃ x y, xs[j]? = some x ∧ ys[j]? = some y ∧ H' t = some (.tup [x, y]) ∧ H1 t = none ∧ t ≠ S) → ts.Nodup → R (.ok (.ret res)) s') :
    ∀ (k i : Nat) (s' : Shared) (H' : Hp) (ts : List Addr), xs.length - i = k → i ≤ xs.length → Inv X pins σ H' s' → Zst z TI TO i1 i2 a b i s'.heap → Sub H1 H' → H' S = some (.lst (ts.map V.ref)) → ts.length = i →
      (∀ (j : Nat) t, ts[j]? = some t → ∃ x y, xs[j]? = some x ∧ ys[j]? = some y ∧ H' t = some (.tup [x, y]) ∧ H1 t = none ∧ t ≠ S) → ts.Nodup → (∀ c, c ∈ [z, TI, TO, i1, i2] → FpOk X pins H' c) → (S ≠ z ∧ S ≠ TI ∧ S ≠ TO ∧ S ≠ i1 ∧ S ≠ i2) →
      codeAny (model X.prog X.w) A (.builtin "list.extend.loop" ⟨[.ref S, .ref z, res], []⟩) R s' := by
  intro k
  induction k with
  | zero =>
    intro i s' H' ts hk hi I hz e hS htl hts hnd hf hn
    refine codeAny_builtin PySem.F.entry_extend_loop ?_
    rw [Around.under_plainId PySem.F.plain_extend_loop _]
    show wpAny _ A.in1 (pyNext (.ref z) >>= _) _ _ _
    obtain ⟨its, rv, p, _⟩ := I.list (show SqL X.K H' a xs from sub_l e ha)
    obtain ⟨its2, rv2, p2, _⟩ := I.list (show SqL X.K H' b ys from sub_l e hb)
    have l1 := rv.length
    have hend : its.toArray[i]? = none ∨ its2.toArray[i]? = none := .inl (by simp; omega)
    have fin : ∀ h', (∀ c o, c ∉ [z, TI, TO, i1, i2] → s'.heap.get? c = some o → h'.get? c = some o) → R (.ok (.ret res)) { s' with heap := h' } := fun h' hk' =>
      hR _ H' ts (I.turnedL (t' := s'.toks) (ch := [z, TI, TO, i1, i2]) hk' hf) e hS (by omega) hts hnd
    obtain ⟨_, q1, q2, q3, q4⟩ := hz
    rcases q4 with ⟨q, x, y, q5⟩ | ⟨T, f, oT, q, q5, _⟩
    · refine wpAny_bind (wpAny_pyNext_zip_end hh D q q1 q5 q2 q3 p.isList p2.isList hend fun h' hk' => wpAny_pure ?_)
      exact fin h' fun c o hc q => hk' c o (fun z => hc (by simp [z])) (fun z => hc (by simp [z])) (fun z => hc (by simp [z])) (fun z => hc (by simp [z])) q
    · refine wpAny_bind (wpAny_pyNext_zip_end_held hh D q q5 q1 q2 q3 p.isList p2.isList hend fun h' hk' => wpAny_pure ?_)
      exact fin h' fun c o hc q => hk' c o (fun z => hc (by simp [z])) (fun z => hc (by simp [z])) (fun z => hc (by simp [z])) q
  | succ k ih =>
    intro i s' H' ts hk hi I hz e hS htl hts hnd hf hn
    have hlt : i < xs.length := by omega
    refine codeAny_builtin PySem.F.entry_extend_loop ?_
    rw [Around.under_plainId PySem.F.plain_extend_loop _]
    show wpAny _ A.in1 (pyNext (.ref z) >>= _) _ _ _
    obtain ⟨its, rv, p, _⟩ := I.list (show SqL X.K H' a xs from sub_l e ha)
    obtain ⟨its2, rv2, p2, _⟩ := I.list (show SqL X.K H' b ys from sub_l e hb)
    have hx : xs[i]? = some xs[i] := List.getElem?_eq_getElem hlt
    have hy : ys[i]? = some (ys[i]'(by omega)) := List.getElem?_eq_getElem (by omega)
    obtain ⟨u, hu, ru⟩ := rv.get hx
    obtain ⟨u2, hu2, ru2⟩ := rv2.get hy
    have hzl : z < s'.heap.objs.size := by
      rcases hz.2.2.2.2 with ⟨q, _⟩ | ⟨T, f, oT, q, _⟩
      · exact Heap.lt_size q
      · exact Heap.lt_size q
    have hTIl : TI < s'.heap.objs.size := Heap.lt_size hz.2.1
    have hi1l : i1 < s'.heap.objs.size := by obtain ⟨o, q, _⟩ := hz.2.2.1; exact Heap.lt_size q
    have hi2l : i2 < s'.heap.objs.size := by obtain ⟨o, q, _⟩ := hz.2.2.2.1; exact Heap.lt_size q
    have hTOl : TO < s'.heap.objs.size := by obtain ⟨o, q⟩ := hz.1; exact Heap.lt_size q
    -- behind next: the new pair, then the push
    have step : ∀ h' T' f' oT', IsZipHeld h' z TI TO T' f' → h'.get? T' = some oT' → T' ≠ z → T' ≠ i1 → T' ≠ i2 → (∃ o, h'.get? TO = some o) → h'.IsListIter i1 a (i + 1) → h'.IsListIter i2 b (i + 1) → IsPair h' s'.heap.objs.size u u2 → IsPair h' TI (.ref i1) (.ref i2) →
        (∀ c o, c ∉ [z, TI, TO, i1, i2] → s'.heap.get? c = some o → h'.get? c = some o) →
        wpAny (model X.prog X.w) A.in1 (updateSeq S (·.push (Value.ref s'.heap.objs.size)) >>= fun _ => again (.builtin "list.extend.loop" ⟨[.ref S, .ref z, res], []⟩)) (fun fin s2 => match fin with | .done f => R (.ok f) s2 | .again c' => c'.quiet = true ∧ codeAny (model X.prog X.w) A c' R s2) (fun er s2 => R (.error er) s2) { s' with heap := h' } := by
      intro h' T' f' oT' z1 y1 y2 y3 y4 y5 z2 z3 z4 z5 hk'
      have hTn : H' s'.heap.objs.size = none := I.hok.fresh (Nat.le_refl _)
      have I2 : Inv X pins σ (upd H' s'.heap.objs.size (.tup [xs[i], ys[i]'(by omega)])) { s' with heap := h' } :=
        I.turnedNew (t' := s'.toks) (ch := [z, TI, TO, i1, i2]) hk' hf (Nat.le_refl _) ⟨by show 2 ≤ sizeLine; decide, [u, u2], .cons ru (.cons ru2 .nil), ⟨_, z4, rfl, _, rfl⟩⟩
      have hST : S ≠ s'.heap.objs.size := ne_of_none hS hTn
      have hS2 : (upd H' s'.heap.objs.size (.tup [xs[i], ys[i]'(by omega)])) S = some (.lst (ts.map V.ref)) := by rw [upd_ne hST]; exact hS
      obtain ⟨_, itS, n, rS, lS, gS⟩ := I2.lstM hS2
      have hsz : itS.length = i := by rw [← lS, List.length_map, htl]
      have I3 := I2.lset (t' := s'.toks) (f := fun q => q.push (Value.ref s'.heap.objs.size)) (its' := itS ++ [Value.ref s'.heap.objs.size]) (ys := ts.map V.ref ++ [V.ref s'.heap.objs.size]) hS2 gS (by simp) (rS.append (.cons rfl .nil)) (by rw [List.length_append, List.length_map, htl]; exact Nat.le_of_lt (fitsLt (by show i + 1 < 100000; omega)))
      have gS' : h'.get? S = some { cls := .type "list", data := .seq itS.toArray n } := gS
      refine wpAny_bind ?_
      refine wpAny_updateSeq gS' rfl (wpAny_pure ⟨plainId_quiet PySem.F.plain_extend_loop _, ?_⟩) (by simp; omega) (by show (itS.toArray.push _).size ≤ sizeLine + 1; rw [Array.size_push, List.size_toArray, hsz]; exact Nat.le_trans (Nat.le_of_lt (fitsLt (by omega))) (Nat.le_succ _))
      have up : ∀ c o, c ≠ S → h'.get? c = some o → (h'.update S (Obj.mapSeq (·.push (Value.ref s'.heap.objs.size)))).get? c = some o := fun c o hc q => (Heap.get?_update_other _ _ (Ne.symm hc)).trans q
      refine ih (i + 1) _ _ (ts ++ [s'.heap.objs.size]) (by omega) (by omega) I3 ?_ ?_ ?_ ?_ ?_ ?_ ?_ hn
      · refine Zst.keep (S := S) (h := h') ⟨y5, z5, z2, z3, .inr ⟨T', f', oT', z1, y1, y2, y3, y4⟩⟩ up (fun o _ => ⟨_, Heap.get?_update_self _ gS' rfl⟩) hn
      · exact fun c o q => by
          rw [upd_ne (fun z => by rw [z, hS1] at q; cases q), upd_ne (ne_of_none (e c o q) hTn)]
          exact e c o q
      · rw [upd_same, List.map_append]; rfl
      · rw [List.length_append, htl]; rfl
      · intro j t hj
        by_cases hjl : j < ts.length
        · rw [List.getElem?_append_left hjl] at hj
          obtain ⟨x, y, e1, e2, e3, e4, e5⟩ := hts j t hj
          exact ⟨x, y, e1, e2, by rw [upd_ne e5, upd_ne (ne_of_none e3 hTn)]; exact e3, e4, e5⟩
        · rw [List.getElem?_append_right (by omega)] at hj
          have : j - ts.length = 0 := by
            cases q : j - ts.length with
            | zero => rfl
            | succ m => rw [q] at hj; simp at hj
          rw [this] at hj
          have ej : j = i := by omega
          subst ej
          have et : s'.heap.objs.size = t := by simpa using hj
          rw [← et]
          exact ⟨_, _, hx, hy, by rw [upd_ne hST.symm, upd_same], e.free hTn, hST.symm⟩
      · refine List.nodup_append.mpr ⟨hnd, List.nodup_cons.mpr ⟨by simp, List.nodup_nil⟩, fun c hc d hd => ?_⟩
        rw [List.mem_singleton.mp hd]
        obtain ⟨j, hj⟩ := List.mem_iff_getElem?.mp hc
        obtain ⟨x, y, _, _, e3, _⟩ := hts j c hj
        exact ne_of_none e3 hTn
      · intro c hc
        refine ⟨?_, (hf c hc).2⟩
        have hcl : c < s'.heap.objs.size := by
          have q : c = z ∨ c = TI ∨ c = TO ∨ c = i1 ∨ c = i2 := by simpa using hc
          rcases q with q | q | q | q | q
          · rw [q]; exact hzl
          · rw [q]; exact hTIl
          · rw [q]; exact hTOl
          · rw [q]; exact hi1l
          · rw [q]; exact hi2l
        have hcS : c ≠ S := fun z => by have := (hf c hc).1; rw [z, hS] at this; cases this
        rw [upd_ne hcS, upd_ne (Nat.ne_of_lt hcl)]
        exact (hf c hc).1
    obtain ⟨⟨o0, q0⟩, q1, q2, q3, q4⟩ := id hz
    rcases q4 with ⟨q, x, y, q5⟩ | ⟨T, f, oT, q, q5, q6⟩
    · refine wpAny_bind (wpAny_pyNext_zip_item D q q1 q5 q2 q3 p.isList p2.isList (x := u) (y := u2) (by simpa using hu) (by simpa using hu2) fun h' z1 z2 z3 z4 z5 z6 hk' => ?_)
      exact step h' _ false _ z1 z5 (Nat.ne_of_gt hzl) (Nat.ne_of_gt hi1l) (Nat.ne_of_gt hi2l) ⟨_, z2⟩ z3 z4 z5 (hk' _ _ D.TIz D.TITO D.TIi1 D.TIi2 q1) (fun c o hc q => hk' c o (fun z => hc (by simp [z])) (fun z => hc (by simp [z])) (fun z => hc (by simp [z])) (fun z => hc (by simp [z])) q)
    · refine wpAny_bind (wpAny_pyNext_zip_item_held D q q5 q1 q2 q3 p.isList p2.isList (x := u) (y := u2) (by simpa using hu) (by simpa using hu2) fun h' z1 z3 z4 z5 z6 hk' => ?_)
      exact step h' T true oT z1 (hk' _ _ q6.1 q6.2.1 q6.2.2 q5) q6.1 q6.2.1 q6.2.2 ⟨_, hk' _ _ D.TOz D.TOi1 D.TOi2 q0⟩ z3 z4 z5 (hk' _ _ D.TIz D.TIi1 D.TIi2 q1) (fun c o hc q => hk' c o (fun z => hc (by simp [z])) (fun z => hc (by simp [z])) (fun z => hc (by simp [z])) q)
end
section
/-- list(zip(e1, e2)) -/
def tListZip (K : PySem.W.Frag) (ta : TA) : TE := fun σ H Q => ta σ H fun vs H1 => ∃ a b xs ys, vs = [.ref a, .ref b] ∧ SqL K H1 a xs ∧ SqL K H1 b ys ∧ xs.length = ys.length ∧ xs.length < 100000 ∧
  ∀ (H' : Hp) (S : Addr) (ts : List Addr), Sub H1 H' → H1 S = none → H' S = some (.lst (ts.map V.ref)) → ts.length = xs.length → (∀ (j : Nat) t, ts[j]? = some t → ∃ x y, xs[j]? = some x ∧ ys[j]? = some y ∧ H' t = some (.tup [x, y]) ∧ H1 t = none ∧ t ≠ S) → ts.Nodup → Q (.ref S) H'
theorem pe_listZip {X : Cx} {e1 e2 : Expr} {ta : TA} {p p2 pos pos2 : Pos} (hc : X.calm = true) (hg : Gl X "list") (hm : X.mg "list" = none) (hg2 : Gl X "zip") (hm2 : X.mg "zip" = none) (ha : PA X [e1, e2] ta)
    (hs : starEach [.Call (.Name "zip" p2) [e1, e2] [] pos2] X.env = (false, eval (.Call (.Name "zip" p2) [e1, e2] [] pos2) X.env) :: starEach [] X.env := by rfl)
    (hs2 : starEach [e1, e2] X.env = (false, eval e1 X.env) :: starEach [e2] X.env := by rfl) (hpl2 : (backTo pos2 (starEach [e2] X.env)).any (·.1) = false := by rfl) :
    PE X (.Call (.Name "list" p) [.Call (.Name "zip" p2) [e1, e2] [] pos2] [] pos) (tListZip X.K ta) := by
  refine ⟨fun pins s σ H Q I h => ?_⟩
  refine wpAny_Call_Name_kw (ld_blt I hg hm bo_list ?_)
  refine PyProof.Rows.callWith_type1 ?_ hs rfl
  rw [hs]
  show wpAny _ _ (spliced ((false, eval (.Call (.Name "zip" p2) [e1, e2] [] pos2) X.env) :: backTo pos (starEach [] X.env))) _ _ s
  refine Calls.spliced_cons ?_
  refine Call_ (ld_blt I hg2 hm2 PyProof.Rows.boot_zip (PyProof.Rows.callWith_type1 (thn (ha.run pos2 pins s σ H _ I h) fun us s1 ⟨vs, H1, I1, r1, q1⟩ => ?_) hs2 hpl2))
  obtain ⟨a, b, xs, ys, rfl, hqx, hqy, hl, hlen, q⟩ := q1
  obtain ⟨u1, u2, rfl, ra, rb⟩ := vals2 r1
  cases ra
  cases rb
  obtain ⟨its, rv, p1, _⟩ := I1.list hqx
  obtain ⟨its2, rv2, p2', _⟩ := I1.list hqy
  have la : a < s1.heap.objs.size := p1.lt
  have lb : b < s1.heap.objs.size := p2'.lt
  refine call_zip_2 p1.isList p2'.isList fun h' hz hTI hTO h1 h2 hsz hk => Calls.spliced_nil ?_
  have I2 : Inv X pins σ H1 { s1 with heap := h' } := I1.kept (t' := s1.toks) hk
  have D := PySem.W.ktu_apart s1.heap.objs.size a b la lb
  have hS1 : H1 h'.objs.size = none := I2.hok.fresh (Nat.le_refl _)
  have hSn : h'.objs.size = s1.heap.objs.size + 5 := hsz
  have fp : ∀ c, c ∈ [s1.heap.objs.size + 4, s1.heap.objs.size + 2, s1.heap.objs.size + 3, s1.heap.objs.size, s1.heap.objs.size + 1] → s1.heap.objs.size ≤ c ∧ c < h'.objs.size := fun c hcm => by
    have e' : c = s1.heap.objs.size + 4 ∨ c = s1.heap.objs.size + 2 ∨ c = s1.heap.objs.size + 3 ∨ c = s1.heap.objs.size ∨ c = s1.heap.objs.size + 1 := by simpa using hcm
    omega
  refine callType_codes (Q₁ := fun obj s₁ => obj = .ref h'.objs.size ∧ s₁ = { s1 with heap := h'.push { cls := .type "list", data := .seq #[] } }) PySem.F.called_list (PySem.F.typeCall_list_1 _) PySem.F.entry_list_init
    (code_list_new _ ⟨rfl, rfl⟩) fun obj s₁ h₁ => ?_
  obtain ⟨rfl, rfl⟩ := h₁
  have gS : (h'.push { cls := .type "list", data := .seq #[] }).get? h'.objs.size = some { cls := .type "list", data := .seq #[] } := Heap.get?_push_size _ rfl
  refine ⟨⟨_, gS, rfl⟩, PySem.F.args_list_init_2 _ _, ?_⟩
  -- what the loop ends with
  have I3 : Inv X pins σ (upd H1 h'.objs.size (.lst [])) { s1 with heap := h'.push { cls := .type "list", data := .seq #[] } } := I2.lnew (its := []) (ys := []) (t' := s1.toks) .nil (Nat.zero_le _)
  have kp : ∀ c o, h'.get? c = some o → (h'.push { cls := .type "list", data := .seq #[] }).get? c = some o := fun c o e => Heap.get?_push_of_some _ e
  have sb : Sub H1 (upd H1 h'.objs.size (.lst [])) := Sub.new hS1
  have nz : h'.objs.size ≠ s1.heap.objs.size + 4 ∧ h'.objs.size ≠ s1.heap.objs.size + 2 ∧ h'.objs.size ≠ s1.heap.objs.size + 3 ∧ h'.objs.size ≠ s1.heap.objs.size ∧ h'.objs.size ≠ s1.heap.objs.size + 1 := by omega
  have hf : ∀ c, c ∈ [s1.heap.objs.size + 4, s1.heap.objs.size + 2, s1.heap.objs.size + 3, s1.heap.objs.size, s1.heap.objs.size + 1] → FpOk X pins (upd H1 h'.objs.size (.lst [])) c := fun c hcm => by
    obtain ⟨f1, f2⟩ := fp c hcm
    refine I1.fpOk f1 ?_
    rw [upd_ne (Nat.ne_of_lt f2)]
    exact I1.hok.fresh f1
  have loop : ∀ (s' : Shared), Inv X pins σ (upd H1 h'.objs.size (.lst [])) s' → (∀ c o, c ≠ h'.objs.size → h'.get? c = some o → s'.heap.get? c = some o) →
      codeAny (model X.prog X.w) X.A.in1 (.builtin "list.extend.loop" ⟨[.ref h'.objs.size, .ref (s1.heap.objs.size + 4), .none], []⟩) (wants (fun r s₂ => r = .none ∧ EP X pins σ Q (.ref h'.objs.size) s₂) X.xe) s' := fun s' J k' =>
    loopZ (S := h'.objs.size) (H1 := H1) (xs := xs) (ys := ys) (show X.A.in1.handled = none from I.ok.hd hc) D hqx hqy hl hlen hS1 (fun s2 H2 ts J2 e2 g1 g2 g3 g4 => ⟨rfl, .ref h'.objs.size, H2, J2, rfl, q H2 _ ts e2 hS1 g1 g2 g3 g4⟩)
      xs.length 0 s' _ [] (Nat.sub_zero _) (Nat.zero_le _) J ⟨⟨_, k' _ _ nz.2.2.1.symm hTO⟩, k' _ _ nz.2.1.symm hTI, h1.at fun o e => k' _ o nz.2.2.2.1.symm e, h2.at fun o e => k' _ o nz.2.2.2.2.symm e, .inl ⟨k' _ _ nz.1.symm hz, _, _, k' _ _ nz.2.2.1.symm hTO⟩⟩ sb upd_same rfl (fun j t hj => by simp at hj) List.nodup_nil hf nz
  show wpAny _ _ (do let old ← Builtin.List.listItems (.ref h'.objs.size); Builtin.List.listUpdate (.ref h'.objs.size) (fun _ => #[]); letGo old.toList.reverse; Builtin.List.listExtendWith (.ref h'.objs.size) (.ref (s1.heap.objs.size + 4)) .none) _ _ _
  refine wpAny_bind ?_
  unfold Builtin.List.listItems
  refine wpAny_bind (wpAny_seqItems gS rfl (wpAny_pure ?_))
  show wpAny _ _ (updateSeq h'.objs.size (fun _ => #[]) >>= fun _ => letGo (#[] : Array Value).toList.reverse >>= fun _ => Builtin.List.listExtendWith (.ref h'.objs.size) (.ref (s1.heap.objs.size + 4)) .none) _ _ _
  refine wpAny_bind (wpAny_updateSeq gS rfl ?_)
  have I4 := I3.lset (t' := s1.toks) (f := fun _ => (#[] : Array Value)) (its' := []) (ys := []) upd_same gS rfl .nil (Nat.zero_le _)
  have gS2 := Heap.get?_update_self (Obj.mapSeq (fun _ => (#[] : Array Value))) gS rfl
  have k4 : ∀ c o, c ≠ h'.objs.size → h'.get? c = some o → ((h'.push { cls := .type "list", data := .seq #[] }).update h'.objs.size (Obj.mapSeq (fun _ => (#[] : Array Value)))).get? c = some o :=
    fun c o hcS e => (Heap.get?_update_other _ _ (Ne.symm hcS)).trans (kp c o e)
  refine wpAny_bind (wpAny_letGo ?_)
  unfold Builtin.List.listExtendWith
  refine wpAny_bind (wpAny_typeOf (T := "zip") ⟨_, k4 _ _ nz.1.symm hz, rfl⟩ ?_)
  have e1 : Builtin.List.listSameRef (.ref h'.objs.size) (.ref (s1.heap.objs.size + 4)) = false := by
    simp [Builtin.List.listSameRef, nz.1]
  have e2 : (Value.type "zip" == Value.type "list") = false := by decide
  have e3 : (Value.type "zip" == Value.type "tuple") = false := by decide
  simp only [e1, e2, e3, Bool.or_false, Bool.false_eq_true, if_false]
  refine wpAny_bind (wpAny_pyIter_zip (k4 _ _ nz.1.symm hz) ?_)
  refine wpAny_bind (wpAny_holding (hint_zip ⟨_, k4 _ _ nz.1.symm hz, rfl⟩ ?_))
  refine wpAny_ite_split (fun _ => ?_) (fun q => absurd rfl q)
  refine wpAny_bind (wpAny_rule ?_)
  refine wpAny_bind ?_
  show wpAny _ _ (updateSeq h'.objs.size (·.push .none) >>= fun _ => updateSeq h'.objs.size (·.pop)) _ _ _
  refine wpAny_bind (wpAny_updateSeq gS2 rfl ?_)
  have gS3 := Heap.get?_update_self (Obj.mapSeq (·.push Value.none)) gS2 rfl
  refine wpAny_updateSeq (hz := by seq_fits) gS3 rfl ?_
  rw [upd_upd] at I4
  have I5 := I4.lset (t' := s1.toks) (f := (·.push Value.none)) (its' := [Value.none]) (ys := [V.non]) upd_same gS2 rfl (.cons rfl .nil) (fits (by decide))
  rw [upd_upd] at I5
  have I6 := I5.lset (t' := s1.toks) (f := (·.pop)) (its' := []) (ys := []) upd_same gS3 rfl .nil (Nat.zero_le _)
  rw [upd_upd] at I6
  refine wpAny_pure ⟨plainId_quiet PySem.F.plain_extend_loop _, loop _ I6 fun c o hcS e => ?_⟩
  exact (Heap.get?_update_other _ _ (Ne.symm hcS)).trans ((Heap.get?_update_other _ _ (Ne.symm hcS)).trans (k4 c o hcS e))
/-- .. as data -/
theorem v_listZip {C : Addr} {K : PySem.W.Frag} {ρ : Env} {ta : TA} {ds es : List D} (h : EvA C ta ρ [.lst ds, .lst es]) (hl : ds.length = es.length) (hn : ds.length < 100000) : EvP C (tListZip K ta) ρ (.lst (List.zipWith (fun x y => D.tup [x, y]) ds es)) := fun σ B H hS e Q q =>
  h σ B H hS e _ fun vs B1 H1 s1 r1 => by
    obtain ⟨v, ws, rfl, r2, r3⟩ := r1.cons_inv
    obtain ⟨v', ws', rfl, r4, r5⟩ := r3.cons_inv
    rw [r5.nil_inv]
    obtain ⟨a, us, rfl, hB, ra⟩ := r2.lst_inv
    obtain ⟨b, us', rfl, hB', rb⟩ := r4.lst_inv
    have la := ra.length
    have lb := rb.length
    refine ⟨a, b, us, us', rfl, SqL.of (s1.s a _ hB), SqL.of (s1.s b _ hB'), by omega, by omega, fun H' S ts e2 hS1 hS2 htl hts hnd => ?_⟩
    have hnew : ∀ c, c ∈ ts → H1 c = none ∧ ∃ o, H' c = some o := fun c hc => by
      obtain ⟨j, hj⟩ := List.mem_iff_getElem?.mp hc
      obtain ⟨x, y, _, _, e3, e4, _⟩ := hts j c hj
      exact ⟨e4, _, e3⟩
    have off : ∀ c o, B1 c = some o → ¬ (c ∈ ts ∨ c = S) := fun c o hc z => by
      have hc' := s1.s c o hc
      rcases z with z | z
      · rw [(hnew c z).1] at hc'; cases hc'
      · rw [z, hS1] at hc'; cases hc'
    refine q _ (fun c => if c ∈ ts ∨ c = S then H' c else B1 c) H' (s1.trans ⟨fun c o hc => ?_, e2, fun c o hc => ?_, fun c o hc hn => ?_⟩) (.lst (by rw [if_pos (.inr rfl)]; exact hS2) ?_)
    · rw [if_neg (off c o hc)]; exact hc
    · split at hc
      · exact hc
      · exact e2 c o (s1.s c o hc)
    · split at hc
      · rename_i z
        rcases z with z | z
        · exact (hnew c z).1
        · rw [z]; exact hS1
      · rw [hc] at hn; cases hn
    · -- item by item
      have upB : Sub B1 (fun c => if c ∈ ts ∨ c = S then H' c else B1 c) := fun c o hc => by
        show (if c ∈ ts ∨ c = S then H' c else B1 c) = some o
        rw [if_neg (off c o hc)]; exact hc
      have key : ∀ (ts' : List Addr) (us us' : List V) (ds es : List D), Reps C B1 us ds → Reps C B1 us' es → ts'.length = us.length → us.length = us'.length → (∀ t, t ∈ ts' → t ∈ ts) →
          (∀ (j : Nat) t, ts'[j]? = some t → ∃ x y, us[j]? = some x ∧ us'[j]? = some y ∧ H' t = some (.tup [x, y])) → Reps C (fun c => if c ∈ ts ∨ c = S then H' c else B1 c) (ts'.map V.ref) (List.zipWith (fun x y => D.tup [x, y]) ds es) := by
        intro ts'
        induction ts' with
        | nil =>
          intro us us' ds es hr1 hr2 h1 h2 _ _
          have e1 : us = [] := List.length_eq_zero_iff.mp h1.symm
          subst e1
          cases hr1
          exact .nil
        | cons t ts' ih =>
          intro us us' ds es hr1 hr2 h1 h2 h3 h4
          cases hr1 with
          | nil => simp at h1
          | cons p1 q1 =>
            cases hr2 with
            | nil => simp at h2
            | cons p2 q2 =>
              obtain ⟨x, y, e1, e2, e3⟩ := h4 0 t rfl
              cases e1
              cases e2
              refine .cons (.tup (by rw [if_pos (.inl (h3 t List.mem_cons_self))]; exact e3) (.cons (p1.up upB) (.cons (p2.up upB) .nil))) ?_
              exact ih _ _ _ _ q1 q2 (by simpa using h1) (by simpa using h2) (fun c hc => h3 c (List.mem_cons_of_mem _ hc)) fun j c hj => by
                obtain ⟨x, y, e1, e2, e3⟩ := h4 (j + 1) c (by simpa using hj)
                exact ⟨x, y, by simpa using e1, by simpa using e2, e3⟩
      exact key ts us us' ds es ra rb (by omega) (by omega) (fun _ z => z) fun j t hj => let ⟨x, y, e1, e2, e3, _⟩ := hts j t hj; ⟨x, y, e1, e2, e3⟩
end
end K55

set_option maxHeartbeats 2000000
/-! K55: lots in plain numbers. -/
namespace K55

theorem mod_of {m r k x : Int} (h0 : 0 ≤ r) (h1 : r < m) (e : x = r + m * k) : x % m = r := by
  rw [e, Int.add_mul_emod_self_left, Int.emod_eq_of_lt h0 h1]
theorem mod_ex {m r x : Int} (e : x % m = r) : ∃ k, x = r + m * k := ⟨x / m, by rw [← e]; exact (Int.emod_add_mul_ediv x m).symm⟩
theorem mod_lo {m : Int} (x : Int) (h : 0 < m) : 0 ≤ x % m := Int.emod_nonneg x (by omega)
theorem mod_hi {m : Int} (x : Int) (h : 0 < m) : x % m < m := Int.emod_lt_of_pos x h
/-- two numbers of one rest that lie within one step are one -/
theorem mod_one {m x y : Int} (h : 0 < m) (e : x % m = y % m) (h1 : x ≤ y) (h2 : y < x + m) : x = y := by
  obtain ⟨k, hk⟩ := mod_ex e
  obtain ⟨j, hj⟩ := mod_ex (rfl : y % m = y % m)
  have e2 : y - x = m * (j - k) := by rw [Int.mul_sub]; omega
  have h3 : m * (j - k) < m * 1 := by omega
  have h4 : m * 0 ≤ m * (j - k) := by omega
  have h5 : j - k < 1 := Int.lt_of_mul_lt_mul_left h3 (by omega)
  have h6 : 0 ≤ j - k := Int.le_of_mul_le_mul_left h4 h
  have h7 : j - k = 0 := by omega
  rw [h7, Int.mul_zero] at e2
  omega
/-- further on by whole steps -/
theorem mod_step {m x y : Int} (h : 0 < m) (e : x % m = y % m) (h1 : x < y) : x + m ≤ y := by
  by_cases q : y < x + m
  · have := mod_one h e (by omega) q
    omega
  · omega
theorem up_mod {m r f : Int} (h0 : 0 ≤ r) (h1 : r < m) : (f + (r - f) % m) % m = r := by
  obtain ⟨k, hk⟩ := mod_ex (rfl : (r - f) % m = (r - f) % m)
  refine mod_of (k := -k) h0 h1 ?_
  rw [Int.mul_neg]; omega
theorem down_mod {m r l : Int} (h0 : 0 ≤ r) (h1 : r < m) : (l - (l - r) % m) % m = r := by
  obtain ⟨k, hk⟩ := mod_ex (rfl : (l - r) % m = (l - r) % m)
  refine mod_of (k := k) h0 h1 ?_
  omega
theorem add_mod {m x r : Int} (e : x % m = r) : (x + m) % m = r := by
  rw [Int.add_emod_right]; exact e
theorem sub_mod {m x r : Int} (e : x % m = r) : (x + -m) % m = r := by
  rw [← e, ← Int.sub_eq_add_neg, Int.sub_emod_right]

variable {f l : Option Int} {m r : Int}
theorem near_none (h0 : 0 ≤ r) (h1 : r < m) (h : near f l m r = none) {n : Int} (hs : InS f l n) : ¬ n % m = r := by
  intro e
  cases f with
  | none => cases l <;> simp [near] at h
  | some f =>
    cases l with
    | none => simp [near] at h
    | some l =>
      simp only [near] at h
      split at h
      · rename_i hl
        have a1 := hs.1 f rfl
        have a2 := hs.2 l rfl
        have b1 := mod_lo (r - f) (show 0 < m by omega)
        have b2 := mod_hi (r - f) (show 0 < m by omega)
        have e2 : (f + (r - f) % m) % m = r := up_mod h0 h1
        have := mod_step (show 0 < m by omega) (e.trans e2.symm) (by omega)
        omega
      · cases h
/-- the lot's number next to an end -/
theorem near_some (h0 : 0 ≤ r) (h1 : r < m) {a s : Int} (h : near f l m r = some (a, s)) : InS f l a ∧ a % m = r ∧ (s = m ∨ s = -m) := by
  cases f with
  | none =>
    cases l with
    | none =>
      simp only [near, Option.some.injEq, Prod.mk.injEq] at h
      obtain ⟨rfl, rfl⟩ := h
      exact ⟨⟨(fun _ z => nomatch z), (fun _ z => nomatch z)⟩, Int.emod_eq_of_lt h0 h1, .inl rfl⟩
    | some l =>
      simp only [near, Option.some.injEq, Prod.mk.injEq] at h
      obtain ⟨rfl, rfl⟩ := h
      have b1 := mod_lo (l - r) (show 0 < m by omega)
      exact ⟨⟨(fun _ z => nomatch z), fun y z => by cases z; omega⟩, down_mod h0 h1, .inr rfl⟩
  | some f =>
    have b1 := mod_lo (r - f) (show 0 < m by omega)
    cases l with
    | none =>
      simp only [near, Option.some.injEq, Prod.mk.injEq] at h
      obtain ⟨rfl, rfl⟩ := h
      exact ⟨⟨fun x z => by cases z; omega, (fun _ z => nomatch z)⟩, up_mod h0 h1, .inl rfl⟩
    | some l =>
      simp only [near] at h
      split at h
      · cases h
      · rename_i hl
        simp only [Option.some.injEq, Prod.mk.injEq] at h
        obtain ⟨rfl, rfl⟩ := h
        exact ⟨⟨fun x z => by cases z; omega, fun y z => by cases z; omega⟩, up_mod h0 h1, .inl rfl⟩
/-- an endless stretch: all steps stay in it -/
theorem near_steps (h0 : 0 ≤ r) (h1 : r < m) {a s : Int} (hn : f = none ∨ l = none) (h : near f l m r = some (a, s)) {k : Int} (hk : 0 ≤ k) : InS f l (a + s * k) ∧ (a + s * k) % m = r := by
  have hs := near_some h0 h1 h
  have hmod : (a + s * k) % m = r := by
    obtain ⟨j, hj⟩ := mod_ex hs.2.1
    rcases hs.2.2 with e | e
    · exact mod_of (k := j + k) h0 h1 (by rw [e, Int.mul_add]; omega)
    · exact mod_of (k := j - k) h0 h1 (by rw [e, Int.mul_sub, Int.neg_mul]; omega)
  refine ⟨?_, hmod⟩
  have mk : 0 ≤ m * k := Int.mul_nonneg (by omega) hk
  cases f with
  | none =>
    cases l with
    | none => exact ⟨(fun _ z => nomatch z), (fun _ z => nomatch z)⟩
    | some l =>
      simp only [near, Option.some.injEq, Prod.mk.injEq] at h
      obtain ⟨rfl, rfl⟩ := h
      have b1 := hs.1.2 l rfl
      exact ⟨(fun _ z => nomatch z), fun y z => by cases z; rw [Int.neg_mul]; omega⟩
  | some f =>
    cases l with
    | none =>
      simp only [near, Option.some.injEq, Prod.mk.injEq] at h
      obtain ⟨rfl, rfl⟩ := h
      have b1 := hs.1.1 f rfl
      exact ⟨fun x z => by cases z; omega, (fun _ z => nomatch z)⟩
    | some l => rcases hn with z | z <;> cases z
/-- the last of a lot -/
theorem far_spec (h0 : 0 ≤ r) (h1 : r < m) {l0 n : Int} (hn : n % m = r) (hl : n ≤ l0) : far l0 m r % m = r ∧ far l0 m r ≤ l0 ∧ n ≤ far l0 m r := by
  unfold far
  have b1 := mod_lo (l0 - r) (show 0 < m by omega)
  have b2 := mod_hi (l0 - r) (show 0 < m by omega)
  refine ⟨down_mod h0 h1, by omega, ?_⟩
  by_cases q : n ≤ l0 - (l0 - r) % m
  · exact q
  · have e : (l0 - (l0 - r) % m) % m = n % m := (down_mod h0 h1).trans hn.symm
    have := mod_step (show 0 < m by omega) e (by omega)
    omega

/-! ### what is_lawful asks -/
theorem worth_of {a b c n v : Int} (hc : 0 < c) (e : a * n + b = v * c) : (a * n + b) % c = 0 ∧ worth a b c n = v := by
  unfold worth
  rw [e]
  exact ⟨Int.mul_emod_left v c, Int.mul_ediv_cancel v (by omega)⟩
variable {a b c : Int}
theorem law_at (L : EntLaw f l m r (some (a, b, c))) {n : Int} (hs : InS f l n) (e : n % m = r) : (a * n + b) % c = 0 ∧ 0 ≤ worth a b c n ∧ a * n + b = worth a b c n * c := by
  obtain ⟨hc, v, hv, q⟩ := L n hs e a b c rfl
  obtain ⟨h1, h2⟩ := worth_of hc q
  exact ⟨h1, by rw [h2]; exact hv, by rw [h2]; exact q⟩
theorem law_step (L : EntLaw f l m r (some (a, b, c))) {n s : Int} (hs : InS f l n) (e : n % m = r) (hs2 : InS f l (n + s)) (e2 : (n + s) % m = r) : a * s % c = 0 := by
  have h1 := (law_at L hs e).2.2
  have h2 := (law_at L hs2 e2).2.2
  have : a * s = (worth a b c (n + s) - worth a b c n) * c := by
    rw [Int.sub_mul, ← h1, ← h2, Int.mul_add]; omega
  rw [this]
  exact Int.mul_emod_left _ _
theorem law_pos (L : EntLaw f l m r (some (a, b, c))) {n : Int} (hs : InS f l n) (e : n % m = r) : 0 ≤ a * n + b := by
  obtain ⟨hc, v, hv, q⟩ := L n hs e a b c rfl
  rw [q]
  exact Int.mul_nonneg hv (by omega)
/-- no slope goes down on an endless way -/
theorem law_bent (L : EntLaw f l m r (some (a, b, c))) (h0 : 0 ≤ r) (h1 : r < m) (hn : f = none ∨ l = none) {n s : Int} (h : near f l m r = some (n, s)) : 0 ≤ a * s := by
  by_cases q : 0 ≤ a * s
  · exact q
  · have hs := near_some h0 h1 h
    have p0 := law_pos L hs.1 hs.2.1
    have hk : 0 ≤ a * n + b + 1 := by omega
    have p1 := near_steps h0 h1 hn h (k := a * n + b + 1) hk
    have p2 := law_pos L p1.1 p1.2
    have e : a * (n + s * (a * n + b + 1)) + b = a * n + b + a * s * (a * n + b + 1) := by
      rw [Int.mul_add, ← Int.mul_assoc]; omega
    rw [e] at p2
    have p3 : a * s * (a * n + b + 1) ≤ (-1) * (a * n + b + 1) := Int.mul_le_mul_of_nonneg_right (by omega) hk
    omega
theorem law_flat {m r : Int} (L : EntLaw none none m r (some (a, b, c))) (h0 : 0 ≤ r) (h1 : r < m) : a = 0 := by
  have u : 0 ≤ a * m := law_bent L h0 h1 (.inl rfl) (n := r) (s := m) rfl
  -- downwards: the same by the mirror
  by_cases ha : a = 0
  · exact ha
  · have am : a * m ≠ 0 := Int.mul_ne_zero ha (by omega)
    have hpos : 1 ≤ a * m := by omega
    have p := law_pos L (n := r + m * (-(a * r + b + 1))) ⟨(fun _ z => nomatch z), (fun _ z => nomatch z)⟩ (mod_of h0 h1 rfl)
    have p0 := law_pos L (n := r) ⟨(fun _ z => nomatch z), (fun _ z => nomatch z)⟩ (Int.emod_eq_of_lt h0 h1)
    have e : a * (r + m * (-(a * r + b + 1))) + b = a * r + b - a * m * (a * r + b + 1) := by
      rw [Int.mul_add, ← Int.mul_assoc, Int.mul_neg]; omega
    rw [e] at p
    have p3 : 1 * (a * r + b + 1) ≤ a * m * (a * r + b + 1) := Int.mul_le_mul_of_nonneg_right hpos (by omega)
    omega
end K55

set_option maxHeartbeats 2000000
namespace K55
open PySem PySem.Spec PyProof.Rows L2
local macro_rules | `(tactic| walk_at "ev1") => `(tactic| first
  | exact v_var rfl | exact v_int | exact v_bl | exact v_non | exact v_str | exact a_nil | exact v_raw
  | apply a_cons
  | apply v_add | apply v_sub | apply v_mul | apply v_mod | apply v_fdiv | apply v_neg
  | apply v_lt | apply v_le | apply v_gt | apply v_ge | apply v_eqI | apply v_neI
  | apply v_isN | apply v_notN
  | apply b_B | apply b_test | apply b_not | apply b_and0 | apply b_or0
  | apply v_and0 | apply v_or0 | apply v_not
  | apply v_tup | apply v_lst
  | refine' v_cb ?_ c_int
  | exact Nat.le_of_ble_eq_true rfl)
local macro_rules | `(tactic| walk_at "ev") => `(tactic| repeat' walk_at "ev1")
section
variable {C : Addr} {P : Program} {w : World} {K : PySem.W.Frag} {mg : Str → Option Value} {base : Heap}

/-! ### is_integer -/
abbrev s_is_integer : Stmt := topS 6
abbrev N_is_integer : List Str := ["value"]
theorem sc_is_integer : FnScope N_is_integer ["value"] (defScope s_is_integer) := ⟨rfl, rfl, rfl, by decide +kernel, rfl, by decide +kernel, by decide +kernel⟩
def F_is_integer (ds : List D) (d : D) : Prop := ∃ i : Int, ds = [.int i] ∧ d = .bl true
theorem ok_is_integer {f : Addr} {fd : FuncData} (Fn : Fun K "is_integer" "is_integer" s_is_integer f fd) (T : Bt K mg C) : FnOk P w K mg base CX0 1 f fd ["value"] (spD C F_is_integer) := by
  refine def_ok Fn sc_is_integer (by decide) (fun ds d h => by obtain ⟨_, rfl, _⟩ := h; rfl) fun cdv A outer s H E hr ds d hF => ?_
  obtain ⟨i, rfl, rfl⟩ := hF
  have nd := sc_is_integer.nd
  refine ⟨_, (pss_one (ps_ret (pe_and (pe_callB call_isi (by rfl) T.n_isinstance bo_isinstance (pa_cons (pv 0) (pa_cons (pe_bltn (v := .ty "int") (by rfl) T.n_int bo_int rfl) pa_nil))) (pe_one (pe_not (pe_callB call_isi (by rfl) T.n_isinstance bo_isinstance (pa_cons (pv 0) (pa_cons (pe_bltn (v := .ty "bool") (by rfl) T.n_bool bo_bool rfl) pa_nil)))))))), ?_⟩
  apply run_back
  apply v_and0
  refine v_cb (by walk_at "ev") (c_isi (b := true) (.int i) (by decide +kernel))
  apply v_not
  refine v_cb (by walk_at "ev") (c_isi (b := false) (.int i) (by decide +kernel))
  rfl

/-! ### is_within -/
abbrev s_is_within : Stmt := topS 7
abbrev N_is_within : List Str := ["value", "least", "most"]
theorem sc_is_within : FnScope N_is_within ["value", "least", "most"] (defScope s_is_within) := ⟨rfl, rfl, rfl, by decide +kernel, rfl, by decide +kernel, by decide +kernel⟩
def F_is_within (ds : List D) (d : D) : Prop := ∃ (i : Int) (l m : Option Int), ds = [.int i, oi l, oi m] ∧ (∀ x, l = some x → x ≤ i) ∧ (∀ x, m = some x → i ≤ x) ∧ d = .bl true
theorem ok_is_within {f : Addr} {fd : FuncData} (Fn : Fun K "is_within" "is_within" s_is_within f fd) (T : Bt K mg C) (G_is_integer : Df P w K mg base 1 "is_integer" ["value"] (spD C F_is_integer)) : FnOk P w K mg base CX0 2 f fd ["value", "least", "most"] (spD C F_is_within) := by
  refine def_ok Fn sc_is_within (by decide) (fun ds d h => by obtain ⟨_, _, _, rfl, _⟩ := h; rfl) fun cdv A outer s H E hr ds d hF => ?_
  obtain ⟨i, l, m, rfl, h1, h2, rfl⟩ := hF
  have nd := sc_is_within.nd
  refine ⟨_, (pss_cons (ps_if (pt_not (pt_val (pcall G_is_integer (hr.mono (by first | decide | omega)) (by rfl) (pa_cons (pv 0) pa_nil)))) (pss_one (ps_ret pe_bl)) pss_nil)
      (pss_one (ps_ret (pe_and (pe_or (pe_cmp (pc_isN (pv 1))) (pe_one (pe_cmpR op_ge (pv 0) (pv 1) (nomark _)))) (pe_one (pe_or (pe_cmp (pc_isN (pv 2))) (pe_one (pe_cmpR op_le (pv 0) (pv 2) (nomark _))))))))), ?_⟩
  apply run_by
  apply b_not
  apply b_B
  refine v_call0 (d := .bl true) (by walk_at "ev") ⟨i, rfl, rfl⟩
  rfl
  have hl : EvP C (tOrV (tIsN (tVar 1)) (tOp (rI0 fun i j => V.bl (decide (j ≤ i))) (tVar 0) (tVar 1))) (List.map some [D.int i, oi l, oi m] ++ List.replicate (N_is_within.length - [D.int i, oi l, oi m].length) none) (.bl true) := by
    cases l with
    | none => apply v_orT; walk_at "ev"; rfl
    | some x =>
      apply EvP.is
      walk_at "ev"
      show D.bl (decide (x ≤ i)) = .bl true
      rw [decide_eq_true (h1 x rfl)]
  have hm : EvP C (tOrV (tIsN (tVar 2)) (tOp (rI0 fun i j => V.bl (decide (i ≤ j))) (tVar 0) (tVar 2))) (List.map some [D.int i, oi l, oi m] ++ List.replicate (N_is_within.length - [D.int i, oi l, oi m].length) none) (.bl true) := by
    cases m with
    | none => apply v_orT; walk_at "ev"; rfl
    | some x =>
      apply EvP.is
      walk_at "ev"
      show D.bl (decide (i ≤ x)) = .bl true
      rw [decide_eq_true (h2 x rfl)]
  apply run_back
  apply v_and0
  exact hl
  exact hm
  rfl

/-! ### are_integers -/
abbrev s_are_integers : Stmt := topS 8
abbrev N_are_integers : List Str := ["value", "each"]
theorem sc_are_integers : FnScope N_are_integers ["value"] (defScope s_are_integers) := ⟨rfl, rfl, rfl, by decide +kernel, rfl, by decide +kernel, by decide +kernel⟩
def F_are_integers (ds : List D) (d : D) : Prop := ∃ ns : List Int, ns.length ≤ 50000 ∧ ds = [.lst (ns.map D.int)] ∧ d = .bl true
theorem ok_are_integers {f : Addr} {fd : FuncData} (Fn : Fun K "are_integers" "are_integers" s_are_integers f fd) (T : Bt K mg C) (G_is_integer : Df P w K mg base 1 "is_integer" ["value"] (spD C F_is_integer)) : FnOk P w K mg base CX0 2 f fd ["value"] (spD C F_are_integers) := by
  refine def_ok Fn sc_are_integers (by decide) (fun ds d h => by obtain ⟨_, _, rfl, _⟩ := h; rfl) fun cdv A outer s H E hr ds d hF => ?_
  obtain ⟨ns, hn, rfl, rfl⟩ := hF
  have nd := sc_are_integers.nd
  refine ⟨_, (pss_one (ps_ret (pe_and (pe_callB call_isiT (by rfl) T.n_isinstance bo_isinstance (pa_cons (pv 0) (pa_cons (pe_tup (pa_cons (pe_bltn (v := .ty "list") (by rfl) T.n_list bo_list rfl) (pa_cons (pe_bltn (v := .ty "tuple") (by rfl) T.n_tuple bo_tuple rfl) pa_nil))) pa_nil))) (pe_one (pe_callB (cr_all rfl) (by rfl) T.n_all bo_all (pa_cons (pe_lc (own := [("each", 1)]) (by rfl) nd (pi_list (pv 0)) (blkOk_by (own := [("each", 1)]) (N := N_are_integers) (sc := defScope s_are_integers) (by decide +kernel)) (fun _ _ _ _ _ => (pg_name (i := 1) nd rfl (.inl rfl))) (fun _ _ _ _ _ => pts_nil) (fun _ _ _ _ _ => (pcall G_is_integer (hr.mono (by first | decide | omega)) (by rfl) (pa_cons (pv 1) pa_nil)))) pa_nil)))))), ?_⟩
  apply run_back
  apply v_and0
  refine v_cb (by walk_at "ev") (c_isiT (b := true) (.lst _) (by decide +kernel) (b' := false) (by decide +kernel))
  refine v_cb (a_cons (v_lcL (ts := ns) (f := fun _ => true) (o := fun _ => .bl true) (v_var rfl) hn fun i hi => ⟨_, _, g_name, by simp, b_yes, fun _ => v_call0 (by walk_at "ev") ⟨i, rfl, rfl⟩⟩) a_nil) ?_
  have e : ((ns.filter fun _ => true).map fun _ => D.bl true) = (ns.map fun _ => true).map D.bl := by
    rw [List.filter_eq_self.mpr (fun _ _ => rfl), List.map_map]; rfl
  rw [e]
  exact c_all
  have : ∀ l : List Int, (l.map fun _ => true).all id = true := fun l => by induction l with
    | nil => rfl
    | cons _ _ ih => simp
  rw [this]; rfl
end
end K55

set_option maxHeartbeats 2000000
namespace K55
open PySem PySem.Spec PyProof.Rows L2
local macro_rules | `(tactic| walk_at "ev1") => `(tactic| first
  | exact v_var rfl | exact v_int | exact v_bl | exact v_non | exact v_str | exact a_nil | exact v_raw
  | apply a_cons
  | apply v_add | apply v_sub | apply v_mul | apply v_mod | apply v_fdiv | apply v_neg
  | apply v_lt | apply v_le | apply v_gt | apply v_ge | apply v_eqI | apply v_neI
  | apply v_isN | apply v_notN
  | apply b_B | apply b_test | apply b_not | apply b_and0 | apply b_or0
  | apply v_and0 | apply v_or0 | apply v_not
  | apply v_tup | apply v_lst
  | refine' v_cb ?_ c_int
  | exact Nat.le_of_ble_eq_true rfl)
local macro_rules | `(tactic| walk_at "ev") => `(tactic| repeat' walk_at "ev1")
section
variable {C : Addr} {P : Program} {w : World} {K : PySem.W.Frag} {mg : Str → Option Value} {base : Heap}

/-! ### need_number -/
abbrev s_need_number : Stmt := topS 9
abbrev N_need_number : List Str := ["value", "part", "least", "most"]
theorem sc_need_number : FnScope N_need_number ["value", "part", "least", "most"] (defScope s_need_number) := ⟨rfl, rfl, rfl, by decide +kernel, rfl, by decide +kernel, by decide +kernel⟩
def F_need_number (ds : List D) (d : D) : Prop := ∃ (i : Int) (p : Str), ds = [.int i, .str p, .non, .non] ∧ d = .non
theorem ok_need_number {f : Addr} {fd : FuncData} {dvs : List V} (Fn : FunD K "need_number" "need_number" (defArgs s_need_number) (defBody s_need_number) (defScope s_need_number) dvs [] f fd) (T : Bt K mg C) (G_is_within : Df P w K mg base 2 "is_within" ["value", "least", "most"] (spD C F_is_within)) :
    FnOk P w K mg base CX0 3 f fd ["value", "part", "least", "most"] (spD C F_need_number) := by
  refine def_okD Fn sc_need_number (by decide) (fun ds d h => by obtain ⟨_, _, rfl, _⟩ := h; rfl) fun cdv A outer s H E hr ds d hF => ?_
  obtain ⟨i, p, rfl, rfl⟩ := hF
  have nd := sc_need_number.nd
  refine ⟨_, pss_one (ps_if (pt_not (pt_val (pcall G_is_within (hr.mono (by first | decide | omega)) (by rfl) (pa_cons (pv 0) (pa_cons (pv 2) (pa_cons (pv 3) pa_nil)))))) pss_never pss_nil), ?_⟩
  apply run_ifN
  apply b_not
  apply b_B
  refine v_call0 (d := .bl true) (by walk_at "ev") ⟨i, none, none, rfl, (fun _ z => nomatch z), (fun _ z => nomatch z), rfl⟩
  rfl
  exact run_next fun _ _ _ => rfl

/-! ### fixed -/
abbrev s_fixed : Stmt := topS 11
abbrev N_fixed : List Str := ["value", "part"]
theorem sc_fixed : FnScope N_fixed ["value"] (defScope s_fixed) := ⟨rfl, rfl, rfl, by decide +kernel, rfl, by decide +kernel, by decide +kernel⟩
def F_fixed (n : Nat) (ds : List D) (d : D) : Prop := ∃ x : D, dep x ≤ n ∧ x.plain = true ∧ x.fit ∧ ds = [x] ∧ d = fixD x
theorem ok_fixed_step {f : Addr} {fd : FuncData} {n : Nat} (Fn : Fun K "fixed" "fixed" s_fixed f fd) (T : Bt K mg C) (G : ∀ n', n = n' + 1 → Df P w K mg base n "fixed" ["value"] (spD C (F_fixed n'))) : FnOk P w K mg base CX0 (n + 1) f fd ["value"] (spD C (F_fixed n)) := by
  refine def_ok Fn sc_fixed (by decide) (fun ds d h => by obtain ⟨_, _, _, _, rfl, _⟩ := h; rfl) fun cdv A outer s H E hr ds d hF => ?_
  obtain ⟨x, hd, hp, hf, rfl, rfl⟩ := hF
  have nd := sc_fixed.nd
  have flat : ∀ t, TyD x t → kitB t "list" = some false → kitB t "tuple" = some false → fixD x = x → ∃ t, PSs (cxOf CX0 P w K mg base N_fixed "fixed" (defScope s_fixed) f cdv A outer s H E).nox (defBody s_fixed) t ∧ Run C t (([x] : List D).map some ++ List.replicate (N_fixed.length - ([x] : List D).length) none) (fun _ _ => fixD x = .non) (Ret C (fixD x)) := by
    intro t ht k1 k2 e
    refine ⟨_, (pss_cons (ps_if (pt_val (pe_callB call_isiT (by rfl) T.n_isinstance bo_isinstance (pa_cons (pv 0) (pa_cons (pe_tup (pa_cons (pe_bltn (v := .ty "list") (by rfl) T.n_list bo_list rfl) (pa_cons (pe_bltn (v := .ty "tuple") (by rfl) T.n_tuple bo_tuple rfl) pa_nil))) pa_nil)))) pss_never pss_nil) (pss_one (ps_ret (pv 0)))), ?_⟩
    apply run_by
    apply b_B
    refine v_cb (by walk_at "ev") (c_isiT ht k1 k2)
    rfl
    apply run_back
    walk_at "ev"
    exact e.symm
  cases x with
  | non => exact flat _ .non (by decide +kernel) (by decide +kernel) (by unfold fixD; rfl)
  | bl b => exact flat _ (.bl b) (by decide +kernel) (by decide +kernel) (by unfold fixD; rfl)
  | int b => exact flat _ (.int b) (by decide +kernel) (by decide +kernel) (by unfold fixD; rfl)
  | str b => exact flat _ (.str b) (by decide +kernel) (by decide +kernel) (by unfold fixD; rfl)
  | rule b => unfold D.plain at hp; cases hp
  | raw b => unfold D.plain at hp; cases hp
  | keys b => unfold D.plain at hp; cases hp
  | lst xs =>
    cases n with
    | zero => unfold dep at hd; omega
    | succ n =>
      have G_fixed := G n rfl
      refine ⟨_, (pss_cons (ps_if (pt_val (pe_callB call_isiT (by rfl) T.n_isinstance bo_isinstance (pa_cons (pv 0) (pa_cons (pe_tup (pa_cons (pe_bltn (v := .ty "list") (by rfl) T.n_list bo_list rfl) (pa_cons (pe_bltn (v := .ty "tuple") (by rfl) T.n_tuple bo_tuple rfl) pa_nil))) pa_nil)))) (pss_one (ps_ret (pe_callTy call_tuple_of (by rfl) T.n_tuple bo_tuple (pa_cons (pe_lc (own := [("part", 1)]) (by rfl) nd (pi_list (pv 0)) (blkOk_by (own := [("part", 1)]) (N := N_fixed) (sc := defScope s_fixed) (by decide +kernel)) (fun _ _ _ _ _ => (pg_name (i := 1) nd rfl (.inl rfl))) (fun _ _ _ _ _ => pts_nil) (fun _ _ _ _ _ => (pcall G_fixed (hr.mono (by first | decide | omega)) (by rfl) (pa_cons (pv 1) pa_nil)))) pa_nil)))) pss_nil)
      (pss_one (ps_ret (pv 0)))), ?_⟩
      apply run_out
      apply b_B
      refine v_cb (by walk_at "ev") (c_isiT (.lst _) (b := true) (by decide +kernel) (b' := false) (by decide +kernel))
      rfl
      have e : ((xs.filter fun _ => true).map fixD) = fixDs xs := by
        rw [List.filter_eq_self.mpr (fun _ _ => rfl), fixDs_map]
      unfold D.plain at hp
      unfold dep at hd
      unfold D.fit at hf
      refine run_ret (v_cb (a_cons ((v_lcL (ts := xs) (enc := fun x => x) (f := fun _ => true) (o := fixD) (by rw [List.map_id']; exact v_var rfl) hf.1 fun x hx => ⟨_, _, g_name, by simp, b_yes, fun _ => v_call0 (by walk_at "ev") ⟨x, dep_le (by omega) hx, plain_le hp hx, fit_le hf.2 hx, rfl, rfl⟩⟩).is (congrArg D.lst e)) a_nil) ?_)
      unfold fixD
      exact c_tuple
  | tup xs =>
    cases n with
    | zero => unfold dep at hd; omega
    | succ n =>
      have G_fixed := G n rfl
      refine ⟨_, (pss_cons (ps_if (pt_val (pe_callB call_isiT (by rfl) T.n_isinstance bo_isinstance (pa_cons (pv 0) (pa_cons (pe_tup (pa_cons (pe_bltn (v := .ty "list") (by rfl) T.n_list bo_list rfl) (pa_cons (pe_bltn (v := .ty "tuple") (by rfl) T.n_tuple bo_tuple rfl) pa_nil))) pa_nil))))
        (pss_one (ps_ret (pe_callTy call_tuple_of (by rfl) T.n_tuple bo_tuple (pa_cons (pe_lc (own := [("part", 1)]) (by rfl) nd (pi_tup (pv 0)) (blkOk_by (own := [("part", 1)]) (N := N_fixed) (sc := defScope s_fixed) (by decide +kernel)) (fun _ _ _ _ _ => (pg_name (i := 1) nd rfl (.inl rfl))) (fun _ _ _ _ _ => pts_nil) (fun _ _ _ _ _ => (pcall G_fixed (hr.mono (by first | decide | omega)) (by rfl) (pa_cons (pv 1) pa_nil)))) pa_nil)))) pss_nil) pss_never), ?_⟩
      apply run_out
      apply b_B
      refine v_cb (by walk_at "ev") (c_isiT (.tup _) (b := false) (by decide +kernel) (b' := true) (by decide +kernel))
      rfl
      have e : ((xs.filter fun _ => true).map fixD) = fixDs xs := by
        rw [List.filter_eq_self.mpr (fun _ _ => rfl), fixDs_map]
      unfold D.plain at hp
      unfold dep at hd
      unfold D.fit at hf
      refine run_ret (v_cb (a_cons ((v_lcT (ts := xs) (enc := fun x => x) (f := fun _ => true) (o := fixD) (by rw [List.map_id']; exact v_var rfl) hf.1 fun x hx => ⟨_, _, g_name, by simp, b_yes, fun _ => v_call0 (by walk_at "ev") ⟨x, dep_le (by omega) hx, plain_le hp hx, fit_le hf.2 hx, rfl, rfl⟩⟩).is (congrArg D.lst e)) a_nil) ?_)
      unfold fixD
      exact c_tuple
end
end K55

set_option maxHeartbeats 2000000
namespace K55
open PySem PySem.Spec PyProof.Rows L2
local macro_rules | `(tactic| walk_at "ev1") => `(tactic| first
  | exact v_var rfl | exact v_int | exact v_bl | exact v_non | exact v_str | exact a_nil | exact v_raw
  | apply a_cons
  | apply v_add | apply v_sub | apply v_mul | apply v_mod | apply v_fdiv | apply v_neg
  | apply v_lt | apply v_le | apply v_gt | apply v_ge | apply v_eqI | apply v_neI
  | apply v_isN | apply v_notN
  | apply b_B | apply b_test | apply b_not | apply b_and0 | apply b_or0
  | apply v_and0 | apply v_or0 | apply v_not
  | apply v_tup | apply v_lst
  | refine' v_cb ?_ c_int
  | exact Nat.le_of_ble_eq_true rfl)
local macro_rules | `(tactic| walk_at "ev") => `(tactic| repeat' walk_at "ev1")
section
variable {C : Addr} {P : Program} {w : World} {K : PySem.W.Frag} {mg : Str → Option Value} {base : Heap}

/-! ### are_counted -/
theorem least_of : ∀ {ns : List Int}, ns ≠ [] → ∃ m, m ∈ ns ∧ ∀ y, y ∈ ns → m ≤ y
  | [x], _ => ⟨x, List.mem_cons_self, fun y hy => by rw [List.mem_singleton.mp hy]; exact Int.le_refl _⟩
  | x :: y :: r, _ => by
    obtain ⟨m, h1, h2⟩ := least_of (ns := y :: r) (fun z => nomatch z)
    by_cases h : x ≤ m
    · exact ⟨x, List.mem_cons_self, fun z hz => by
        rcases List.mem_cons.mp hz with rfl | hz
        · exact Int.le_refl _
        · exact Int.le_trans h (h2 z hz)⟩
    · exact ⟨m, List.mem_cons_of_mem _ h1, fun z hz => by
        rcases List.mem_cons.mp hz with rfl | hz
        · omega
        · exact h2 z hz⟩
abbrev s_are_counted : Stmt := topS 13
abbrev N_are_counted : List Str := ["value"]
theorem sc_are_counted : FnScope N_are_counted ["value"] (defScope s_are_counted) := ⟨rfl, rfl, rfl, by decide +kernel, rfl, by decide +kernel, by decide +kernel⟩
def F_are_counted (ds : List D) (d : D) : Prop := ∃ ns : List Int, ns.length ≤ 50000 ∧ ns ≠ [] ∧ (∀ n, n ∈ ns → 1 ≤ n) ∧ ds = [.lst (ns.map D.int)] ∧ d = .bl true
theorem ok_are_counted {f : Addr} {fd : FuncData} (Fn : Fun K "are_counted" "are_counted" s_are_counted f fd) (T : Bt K mg C) (G_are_integers : Df P w K mg base 2 "are_integers" ["value"] (spD C F_are_integers)) : FnOk P w K mg base CX0 3 f fd ["value"] (spD C F_are_counted) := by
  refine def_ok Fn sc_are_counted (by decide) (fun ds d h => by obtain ⟨_, _, _, _, rfl, _⟩ := h; rfl) fun cdv A outer s H E hr ds d hF => ?_
  obtain ⟨ns, hn, hne, h1, rfl, rfl⟩ := hF
  have nd := sc_are_counted.nd
  refine ⟨_, (pss_one (ps_ret (pe_and (pcall G_are_integers (hr.mono (by first | decide | omega)) (by rfl) (pa_cons (pv 0) pa_nil)) (pe_and (pe_cmpR op_gt (pe_callB call_len_seq (by rfl) T.n_len bo_len (pa_cons (pv 0) pa_nil)) pe_int (nomark _)) (pe_one (pe_cmpR op_ge (pe_callB (cr_min rfl) (by rfl) T.n_min bo_min (pa_cons (pv 0) pa_nil)) pe_int (nomark _))))))), ?_⟩
  obtain ⟨m, hm, hle⟩ := least_of hne
  have hpos : 0 < ns.length := List.length_pos_iff.mpr hne
  apply run_back
  apply v_and0
  refine v_call0 (by walk_at "ev") ⟨ns, hn, rfl, rfl⟩
  apply v_and0
  apply v_gt
  refine v_cb (by walk_at "ev") (c_len (.inl rfl))
  walk_at "ev"
  refine v_cb (by walk_at "ev") (c_min hpos hm hle)
  rw [List.length_map, decide_eq_true (show (0 : Int) < (ns.length : Int) by omega), decide_eq_true (h1 m hm)]
  rfl

/-! ### lcm_in, gcd_of -/
def gc (i j : Int) : Int := ((Nat.gcd i.natAbs j.natAbs : Nat) : Int)
theorem gc_pos {i j : Int} (h : 0 < i) : 0 < gc i j := by
  unfold gc
  have : 0 < Nat.gcd i.natAbs j.natAbs := Nat.gcd_pos_of_pos_left _ (by omega)
  omega
theorem gc_le {i j : Int} (h : 0 < i) : gc i j ≤ i := by
  unfold gc
  have : Nat.gcd i.natAbs j.natAbs ≤ i.natAbs := Nat.le_of_dvd (by omega) (Nat.gcd_dvd_left _ _)
  omega
def lcm2 (a b : Int) : Int := a / gc a b * b
theorem gc_one (a : Int) : gc 1 a = 1 := by unfold gc; simp
abbrev s_lcm_in : Stmt := topS 14
abbrev N_lcm_in : List Str := ["numbers", "found", "number"]
theorem sc_lcm_in : FnScope N_lcm_in ["numbers"] (defScope s_lcm_in) := ⟨rfl, rfl, rfl, by decide +kernel, rfl, by decide +kernel, by decide +kernel⟩
def F_lcm_in (ds : List D) (d : D) : Prop := ∃ a b : Int, (0 < a ∧ a < 1000000) ∧ (0 < b ∧ b < 1000000) ∧ ds = [.lst [.int a, .int b]] ∧ d = .int (lcm2 a b)
theorem ok_lcm_in {f : Addr} {fd : FuncData} (Fn : Fun K "lcm_in" "lcm_in" s_lcm_in f fd) (T : Bt K mg C) : FnOk P w K mg base CX0 1 f fd ["numbers"] (spD C F_lcm_in) := by
  refine def_ok Fn sc_lcm_in (by decide) (fun ds d h => by obtain ⟨_, _, _, _, rfl, _⟩ := h; rfl) fun cdv A outer s H E hr ds d hF => ?_
  obtain ⟨a, b, ha, hb, rfl, rfl⟩ := hF
  have nd := sc_lcm_in.nd
  refine ⟨_, (pss_cons (ps_set (i := 1) nd rfl (.inl rfl) pe_int)
      (pss_cons (ps_for PassesOwn.never rfl (pi_list (pv 0)) (pg_name (i := 2) nd rfl (.inl rfl)) (pss_one (ps_set (i := 1) nd rfl (.inl rfl) (pe_op op_mul (pe_op op_fdiv (pv 1) (pe_callBfun cr_gcd (by rfl) T.gcd (pa_cons (pv 1) (pa_cons (pv 2) pa_nil)))) (pv 2)))))
      (pss_one (ps_ret (pv 1))))), ?_⟩
  apply run_let
  walk_at "ev"
  let fs : Nat → Int := fun i => match i with | 0 => 1 | 1 => a | _ => lcm2 a b
  refine run_seq (ρ1 := [some (.lst [.int a, .int b]), some (.int (lcm2 a b)), none]) (run_forL (v_var rfl) (fun i => [some (.lst [.int a, .int b]), some (.int (fs i)), none]) (fun _ => True) trivial (fun _ _ h => h) (fun i x hi _ => ?_) fun _ _ _ h => h) (run_back (v_var rfl) rfl)
  refine ⟨_, _, g_name, ?_⟩
  have turn : ∀ (p n q : Int), 0 < p → p < 1073741824 → -(2 ^ 64) < n ∧ n < 2 ^ 64 → q = p / gc p n * n → Run C (tAsg (tOp (rI CMul fun i j => V.int (i * j)) (tOp (rI CDiv fun i j => V.int (i / j)) (tVar 1) (tCB rGcd (tCons (tVar 1) (tCons (tVar 2) tNil)))) (tVar 2)) (gName 1)) ([some (.lst [.int a, .int b]), some (.int p), some (.int n)] : Env) (fun σ B => True ∧ Sat C σ B [some (.lst [.int a, .int b]), some (.int q), none]) (Ret C (.int (lcm2 a b))) := by
    intro p n q h1 h2 h3 e
    have h : EvP C (tOp (rI CMul fun i j => V.int (i * j)) (tOp (rI CDiv fun i j => V.int (i / j)) (tVar 1) (tCB rGcd (tCons (tVar 1) (tCons (tVar 2) tNil)))) (tVar 2)) ([some (.lst [.int a, .int b]), some (.int p), some (.int n)] : Env) (.int q) := by
      rw [e]
      apply v_mul
      apply v_fdiv
      walk_at "ev"
      refine v_cb (by walk_at "ev") c_gcd
      exact ⟨gc_pos h1, Int.lt_of_le_of_lt (gc_le h1) h2⟩
      walk_at "ev"
      exact .inr h3
    exact (run_set h).imp (fun σ B z => ⟨trivial, z.cut 2⟩) fun _ _ z => z
  match i, hi with
  | 0, hi =>
    have e : x = .int a := by simpa using hi.symm
    subst e
    exact turn 1 a a (by omega) (by omega) (by omega) (by rw [gc_one]; simp)
  | 1, hi =>
    have e : x = .int b := by simpa using hi.symm
    subst e
    exact turn a b _ ha.1 (by omega) (by omega) rfl
def gcs (ns : List Int) : Int := ns.foldl gc 0
abbrev s_gcd_of : Stmt := topS 15
abbrev N_gcd_of : List Str := ["numbers", "found", "number"]
theorem sc_gcd_of : FnScope N_gcd_of ["numbers"] (defScope s_gcd_of) := ⟨rfl, rfl, rfl, by decide +kernel, rfl, by decide +kernel, by decide +kernel⟩
def F_gcd_of (ds : List D) (d : D) : Prop := ∃ ns : List Int, ns.length ≤ 50000 ∧ ns ≠ [] ∧ (∀ n, n ∈ ns → 1 ≤ n) ∧ ds = [.lst (ns.map D.int)] ∧ d = .int (gcs ns)
theorem ok_gcd_of {f : Addr} {fd : FuncData} (Fn : Fun K "gcd_of" "gcd_of" s_gcd_of f fd) (T : Bt K mg C) (G_are_counted : Df P w K mg base 3 "are_counted" ["value"] (spD C F_are_counted)) : FnOk P w K mg base CX0 4 f fd ["numbers"] (spD C F_gcd_of) := by
  refine def_ok Fn sc_gcd_of (by decide) (fun ds d h => by obtain ⟨_, _, _, _, rfl, _⟩ := h; rfl) fun cdv A outer s H E hr ds d hF => ?_
  obtain ⟨ns, hn, hne, h1, rfl, rfl⟩ := hF
  have nd := sc_gcd_of.nd
  refine ⟨_, (pss_cons (ps_if (pt_not (pt_val (pcall G_are_counted (hr.mono (by first | decide | omega)) (by rfl) (pa_cons (pv 0) pa_nil)))) (pss_one ps_never) pss_nil)
      (pss_cons (ps_set (i := 1) nd rfl (.inl rfl) pe_int)
      (pss_cons (ps_for PassesOwn.never rfl (pi_list (pv 0)) (pg_name (i := 2) nd rfl (.inl rfl)) (pss_one (ps_set (i := 1) nd rfl (.inl rfl) (pe_callBfun cr_gcd (by rfl) T.gcd (pa_cons (pv 1) (pa_cons (pv 2) pa_nil))))))
      (pss_one (ps_ret (pv 1)))))), ?_⟩
  apply run_by
  apply b_not
  apply b_B
  refine v_call0 (by walk_at "ev") ⟨ns, hn, hne, h1, rfl, rfl⟩
  rfl
  apply run_let
  walk_at "ev"
  refine run_seq (ρ1 := [some (.lst (ns.map D.int)), some (.int (gcs ns)), none]) (run_forL (v_var rfl) (fun i => [some (.lst (ns.map D.int)), some (.int (gcs (ns.take i))), none]) (fun _ => True) trivial (fun _ _ h => h) (fun i x hi _ => ?_) fun _ _ _ h => ?_) (run_back (v_var rfl) rfl)
  · rw [List.getElem?_map] at hi
    cases hx : ns[i]? with
    | none => rw [hx] at hi; cases hi
    | some n =>
      rw [hx] at hi
      cases hi
      refine ⟨_, _, g_name, ?_⟩
      have e : gcs (ns.take (i + 1)) = gc (gcs (ns.take i)) n := by
        unfold gcs
        rw [List.take_add_one, hx, List.foldl_append]; rfl
      rw [e]
      exact (run_set (v_cb (by walk_at "ev") c_gcd)).imp (fun σ B z => ⟨trivial, z.cut 2⟩) fun _ _ z => z
  · rw [List.length_map, List.take_length] at h
    exact h
end
end K55

set_option maxHeartbeats 2000000
namespace K55
open PySem PySem.Spec PyProof.Rows L2
local macro_rules | `(tactic| walk_at "ev1") => `(tactic| first
  | exact v_var rfl | exact v_int | exact v_bl | exact v_non | exact v_str | exact a_nil | exact v_raw
  | apply a_cons
  | apply v_add | apply v_sub | apply v_mul | apply v_mod | apply v_fdiv | apply v_neg
  | apply v_lt | apply v_le | apply v_gt | apply v_ge | apply v_eqI | apply v_neI
  | apply v_isN | apply v_notN
  | apply b_B | apply b_test | apply b_not | apply b_and0 | apply b_or0
  | apply v_and0 | apply v_or0 | apply v_not
  | apply v_tup | apply v_lst
  | refine' v_cb ?_ c_int
  | exact Nat.le_of_ble_eq_true rfl)
local macro_rules | `(tactic| walk_at "ev") => `(tactic| repeat' walk_at "ev1")
section
variable {C : Addr} {P : Program} {w : World} {K : PySem.W.Frag} {mg : Str → Option Value} {base : Heap}

/-! ### is_entry -/
abbrev s_is_entry : Stmt := topS 17
abbrev N_is_entry : List Str := ["value", "each"]
theorem sc_is_entry : FnScope N_is_entry ["value"] (defScope s_is_entry) := ⟨rfl, rfl, rfl, by decide +kernel, rfl, by decide +kernel, by decide +kernel⟩
theorem all_true {α : Type} (l : List α) : ((l.filter fun _ => true).map fun _ => D.bl true) = (l.map fun _ => true).map D.bl := by
  rw [List.filter_eq_self.mpr (fun _ _ => rfl), List.map_map]; rfl
theorem all_ok {α : Type} : ∀ l : List α, (l.map fun _ => true).all id = true := fun l => by induction l with
  | nil => rfl
  | cons _ _ ih => simp
theorem c_allT {α : Type} {l : List α} : RcP C (rAll K) [.lst ((l.filter fun _ => true).map fun _ => D.bl true)] (.bl true) := by
  rw [all_true]
  have h := c_all (C := C) (K := K) (bs := l.map fun _ => true)
  rw [all_ok] at h
  exact h
def F_is_entry (ds : List D) (d : D) : Prop := ∃ e : Ent, (∀ a b c, e = some (a, b, c) → 0 < c) ∧ ds = [eD e] ∧ d = .bl true
theorem ok_is_entry {f : Addr} {fd : FuncData} (Fn : Fun K "is_entry" "is_entry" s_is_entry f fd) (T : Bt K mg C) (G_is_integer : Df P w K mg base 1 "is_integer" ["value"] (spD C F_is_integer))
    (G_is_within : Df P w K mg base 2 "is_within" ["value", "least", "most"] (spD C F_is_within)) : FnOk P w K mg base CX0 3 f fd ["value"] (spD C F_is_entry) := by
  refine def_ok Fn sc_is_entry (by decide) (fun ds d h => by obtain ⟨_, _, rfl, _⟩ := h; rfl) fun cdv A outer s H E hr ds d hF => ?_
  obtain ⟨e, he, rfl, rfl⟩ := hF
  have nd := sc_is_entry.nd
  refine ⟨_, (pss_cons (ps_if (pt_cmp (pc_isN (pv 0))) (pss_one (ps_ret pe_bl)) pss_nil)
      (pss_cons (ps_if (PW.pt (pw_or (pt_not (pt_val (pe_callB call_isiT (by rfl) T.n_isinstance bo_isinstance (pa_cons (pv 0) (pa_cons (pe_tup (pa_cons (pe_bltn (v := .ty "list") (by rfl) T.n_list bo_list rfl) (pa_cons (pe_bltn (v := .ty "tuple") (by rfl) T.n_tuple bo_tuple rfl) pa_nil))) pa_nil))))) (pw_or (pt_cmpR op_ne (pe_callB call_len_seq (by rfl) T.n_len bo_len (pa_cons (pv 0) pa_nil)) pe_int (nomark _)) (pw_or1 (pt_not (pt_val (pe_callB (cr_all rfl) (by rfl) T.n_all bo_all (pa_cons (pe_lc (own := [("each", 1)]) (by rfl) nd (pi_tup (pv 0)) (blkOk_by (own := [("each", 1)]) (N := N_is_entry) (sc := defScope s_is_entry) (by decide +kernel)) (fun _ _ _ _ _ => (pg_name (i := 1) nd rfl (.inl rfl))) (fun _ _ _ _ _ => pts_nil) (fun _ _ _ _ _ => (pcall G_is_integer (hr.mono (by first | decide | omega)) (by rfl) (pa_cons (pv 1) pa_nil)))) pa_nil)))))))) (pss_one (ps_ret pe_bl)) pss_nil)
      (pss_one (ps_ret (pcall G_is_within (hr.mono (by first | decide | omega)) (by rfl) (pa_cons (pe_ix ix_tup (pv 0) pe_int (fun _ _ => rfl)) (pa_cons pe_int (pa_cons pe_non pa_nil)))))))), ?_⟩
  rcases e with _ | ⟨a, b, c⟩
  · apply run_out
    walk_at "ev"
    rfl
    apply run_back
    walk_at "ev"
    rfl
  · apply run_by
    walk_at "ev"
    rfl
    apply run_by
    apply b_or0
    apply b_not
    apply b_B
    refine v_cb (by walk_at "ev") (c_isiT (.tup _) (b := false) (by decide +kernel) (b' := true) (by decide +kernel))
    apply b_or0
    apply b_test
    apply v_neI
    refine v_cb (by walk_at "ev") (c_len (.inr rfl))
    walk_at "ev"
    refine v_cb (a_cons (v_lcT (ts := [a, b, c]) (enc := D.int) (f := fun _ => true) (o := fun _ => .bl true) (v_var rfl) (by simp) fun i hi => ⟨_, _, g_name, by simp, b_yes, fun _ => v_call0 (by walk_at "ev") ⟨i, rfl, rfl⟩⟩) a_nil) c_allT
    rfl
    refine run_back (v_call0 (a_cons (v_ixT (z := .int c) (v_var rfl) v_int rfl) (by walk_at "ev")) ⟨c, some 1, none, rfl, (fun x z => by cases z; have := he a b c rfl; omega), (fun x z => nomatch z), rfl⟩) rfl

/-! ### is_stretch -/
abbrev s_is_stretch : Stmt := topS 18
abbrev N_is_stretch : List Str := ["value", "entry", "end"]
theorem sc_is_stretch : FnScope N_is_stretch ["value"] (defScope s_is_stretch) := ⟨rfl, rfl, rfl, by decide +kernel, rfl, by decide +kernel, by decide +kernel⟩
def F_is_stretch (ds : List D) (d : D) : Prop := ∃ p : Row × Bool, p.1.ents ≠ [] ∧ p.1.ents.length ≤ 50000 ∧ (∀ e, e ∈ p.1.ents → ∀ a b c, e = some (a, b, c) → 0 < c) ∧ ds = [rowIn p] ∧ d = .bl true
theorem ok_is_stretch {f : Addr} {fd : FuncData} (Fn : Fun K "is_stretch" "is_stretch" s_is_stretch f fd) (T : Bt K mg C) (G_is_integer : Df P w K mg base 1 "is_integer" ["value"] (spD C F_is_integer))
    (G_is_entry : Df P w K mg base 3 "is_entry" ["value"] (spD C F_is_entry)) : FnOk P w K mg base CX0 4 f fd ["value"] (spD C F_is_stretch) := by
  refine def_ok Fn sc_is_stretch (by decide) (fun ds d h => by obtain ⟨_, _, _, _, rfl, _⟩ := h; rfl) fun cdv A outer s H E hr ds d hF => ?_
  obtain ⟨⟨⟨fi, la, es⟩, k⟩, hne, hlen, he, rfl, rfl⟩ := hF
  have nd := sc_is_stretch.nd
  have hz : ((es.map eD).length : Int) ≠ 0 := by
    rw [List.length_map]
    have : 0 < es.length := List.length_pos_iff.mpr hne
    omega
  have ends : ∀ {K' : PySem.W.Frag}, EvP C (tSl (rSlA K') (tVar 0) tNoPart (tPart (tC (.int 2)))) (List.map some [rowIn (⟨fi, la, es⟩, k)] ++ List.replicate (N_is_stretch.length - [rowIn (⟨fi, la, es⟩, k)].length) none) (.tup ([fi, la].map oi)) := fun {K'} => (v_sliceT (v_var rfl) o_none (o_some v_int)).is (by rw [show (2 : Int) = ((2 : Nat) : Int) from rfl, cutD_head]; rfl)
  cases k with
  | true =>
    refine ⟨_, (pss_cons (ps_if (PW.pt (pw_or (pt_not (pt_val (pe_callB call_isiT (by rfl) T.n_isinstance bo_isinstance (pa_cons (pv 0) (pa_cons (pe_tup (pa_cons (pe_bltn (v := .ty "list") (by rfl) T.n_list bo_list rfl) (pa_cons (pe_bltn (v := .ty "tuple") (by rfl) T.n_tuple bo_tuple rfl) pa_nil))) pa_nil))))) (pw_or1 (pt_cmpR op_ne (pe_callB call_len_seq (by rfl) T.n_len bo_len (pa_cons (pv 0) pa_nil)) pe_int (nomark _))))) (pss_one (ps_ret pe_bl)) pss_nil)
      (pss_cons (ps_if (PW.pt (pw_or (pt_not (pt_val (pe_callB call_isiT (by rfl) T.n_isinstance bo_isinstance (pa_cons (pe_ix ix_tup (pv 0) pe_int (fun _ _ => rfl)) (pa_cons (pe_tup (pa_cons (pe_bltn (v := .ty "list") (by rfl) T.n_list bo_list rfl) (pa_cons (pe_bltn (v := .ty "tuple") (by rfl) T.n_tuple bo_tuple rfl) pa_nil))) pa_nil))))) (pw_or1 (pt_cmpR op_eq (pe_callB call_len_seq (by rfl) T.n_len bo_len (pa_cons (pe_ix ix_tup (pv 0) pe_int (fun _ _ => rfl)) pa_nil)) pe_int (nomark _))))) (pss_one (ps_ret pe_bl)) pss_nil)
      (pss_cons (ps_if (pt_not (pt_val (pe_callB (cr_all rfl) (by rfl) T.n_all bo_all (pa_cons (pe_lc (own := [("end", 2)]) (by rfl) nd (pi_tup (pe_slice sl_tupA (pv 0) po_none (po_some pe_int))) (blkOk_by (own := [("end", 2)]) (N := N_is_stretch) (sc := defScope s_is_stretch) (by decide +kernel)) (fun _ _ _ _ _ => (pg_name (i := 2) nd rfl (.inl rfl))) (fun _ _ _ _ _ => pts_nil) (fun _ _ _ _ _ => (pe_or (pe_cmp (pc_isN (pv 2))) (pe_one (pcall G_is_integer (hr.mono (by first | decide | omega)) (by rfl) (pa_cons (pv 2) pa_nil)))))) pa_nil)))) (pss_one (ps_ret pe_bl)) pss_nil)
      (pss_one (ps_ret (pe_callB (cr_all rfl) (by rfl) T.n_all bo_all (pa_cons (pe_lc (own := [("entry", 1)]) (by rfl) nd (pi_list (pe_ix ix_tup (pv 0) pe_int (fun _ _ => rfl))) (blkOk_by (own := [("entry", 1)]) (N := N_is_stretch) (sc := defScope s_is_stretch) (by decide +kernel)) (fun _ _ _ _ _ => (pg_name (i := 1) nd rfl (.inl rfl))) (fun _ _ _ _ _ => pts_nil) (fun _ _ _ _ _ => (pcall G_is_entry (hr.mono (by first | decide | omega)) (by rfl) (pa_cons (pv 1) pa_nil)))) pa_nil))))))), ?_⟩
    apply run_by
    apply b_or0
    apply b_not
    apply b_B
    refine v_cb (by walk_at "ev") (c_isiT (.tup _) (b := false) (by decide +kernel) (b' := true) (by decide +kernel))
    apply b_test
    apply v_neI
    refine v_cb (by walk_at "ev") (c_len (.inr rfl))
    walk_at "ev"
    rfl
    have h2 : ∀ {K' : PySem.W.Frag}, EvP C (tOp (rIxT K') (tVar 0) (tC (.int 2))) (List.map some [rowIn (⟨fi, la, es⟩, true)] ++ List.replicate (N_is_stretch.length - [rowIn (⟨fi, la, es⟩, true)].length) none) (.lst (es.map eD)) := fun {K'} => v_ixT (v_var rfl) v_int rfl
    apply run_by
    apply b_or0
    apply b_not
    apply b_B
    refine v_cb (a_cons h2 (by walk_at "ev")) (c_isiT (.lst _) (b := true) (by decide +kernel) (b' := false) (by decide +kernel))
    apply b_test
    apply v_eqI
    refine v_cb (a_cons h2 a_nil) (c_len (.inl rfl))
    walk_at "ev"
    rw [decide_eq_false hz]; rfl
    apply run_by
    apply b_not
    apply b_B
    refine v_cb (a_cons (v_lcT (ts := [fi, la]) (enc := oi) (f := fun _ => true) (o := fun _ => .bl true) ends (by simp) fun o ho => ⟨_, _, g_name, by simp, b_yes, fun _ => ?_⟩) a_nil) c_allT
    · cases o with
      | none =>
        apply v_orT
        walk_at "ev"
        rfl
      | some i =>
        apply v_orF
        walk_at "ev"
        rfl
        exact v_call0 (by walk_at "ev") ⟨i, rfl, rfl⟩
    rfl
    exact run_back (v_cb (a_cons (v_lcL (ts := es) (enc := eD) (f := fun _ => true) (o := fun _ => .bl true) h2 hlen fun e hm => ⟨_, _, g_name, by simp, b_yes, fun _ => v_call0 (by walk_at "ev") ⟨e, he e hm, rfl, rfl⟩⟩) a_nil) c_allT) rfl
  | false =>
    refine ⟨_, (pss_cons (ps_if (PW.pt (pw_or (pt_not (pt_val (pe_callB call_isiT (by rfl) T.n_isinstance bo_isinstance (pa_cons (pv 0) (pa_cons (pe_tup (pa_cons (pe_bltn (v := .ty "list") (by rfl) T.n_list bo_list rfl) (pa_cons (pe_bltn (v := .ty "tuple") (by rfl) T.n_tuple bo_tuple rfl) pa_nil))) pa_nil))))) (pw_or1 (pt_cmpR op_ne (pe_callB call_len_seq (by rfl) T.n_len bo_len (pa_cons (pv 0) pa_nil)) pe_int (nomark _))))) (pss_one (ps_ret pe_bl)) pss_nil)
      (pss_cons (ps_if (PW.pt (pw_or (pt_not (pt_val (pe_callB call_isiT (by rfl) T.n_isinstance bo_isinstance (pa_cons (pe_ix ix_tup (pv 0) pe_int (fun _ _ => rfl)) (pa_cons (pe_tup (pa_cons (pe_bltn (v := .ty "list") (by rfl) T.n_list bo_list rfl) (pa_cons (pe_bltn (v := .ty "tuple") (by rfl) T.n_tuple bo_tuple rfl) pa_nil))) pa_nil))))) (pw_or1 (pt_cmpR op_eq (pe_callB call_len_seq (by rfl) T.n_len bo_len (pa_cons (pe_ix ix_tup (pv 0) pe_int (fun _ _ => rfl)) pa_nil)) pe_int (nomark _))))) (pss_one (ps_ret pe_bl)) pss_nil)
      (pss_cons (ps_if (pt_not (pt_val (pe_callB (cr_all rfl) (by rfl) T.n_all bo_all (pa_cons (pe_lc (own := [("end", 2)]) (by rfl) nd (pi_tup (pe_slice sl_tupA (pv 0) po_none (po_some pe_int))) (blkOk_by (own := [("end", 2)]) (N := N_is_stretch) (sc := defScope s_is_stretch) (by decide +kernel)) (fun _ _ _ _ _ => (pg_name (i := 2) nd rfl (.inl rfl))) (fun _ _ _ _ _ => pts_nil) (fun _ _ _ _ _ => (pe_or (pe_cmp (pc_isN (pv 2))) (pe_one (pcall G_is_integer (hr.mono (by first | decide | omega)) (by rfl) (pa_cons (pv 2) pa_nil)))))) pa_nil)))) (pss_one (ps_ret pe_bl)) pss_nil)
      (pss_one (ps_ret (pe_callB (cr_all rfl) (by rfl) T.n_all bo_all (pa_cons (pe_lc (own := [("entry", 1)]) (by rfl) nd (pi_tup (pe_ix ix_tup (pv 0) pe_int (fun _ _ => rfl))) (blkOk_by (own := [("entry", 1)]) (N := N_is_stretch) (sc := defScope s_is_stretch) (by decide +kernel)) (fun _ _ _ _ _ => (pg_name (i := 1) nd rfl (.inl rfl))) (fun _ _ _ _ _ => pts_nil) (fun _ _ _ _ _ => (pcall G_is_entry (hr.mono (by first | decide | omega)) (by rfl) (pa_cons (pv 1) pa_nil)))) pa_nil))))))), ?_⟩
    apply run_by
    apply b_or0
    apply b_not
    apply b_B
    refine v_cb (by walk_at "ev") (c_isiT (.tup _) (b := false) (by decide +kernel) (b' := true) (by decide +kernel))
    apply b_test
    apply v_neI
    refine v_cb (by walk_at "ev") (c_len (.inr rfl))
    walk_at "ev"
    rfl
    have h2 : ∀ {K' : PySem.W.Frag}, EvP C (tOp (rIxT K') (tVar 0) (tC (.int 2))) (List.map some [rowIn (⟨fi, la, es⟩, false)] ++ List.replicate (N_is_stretch.length - [rowIn (⟨fi, la, es⟩, false)].length) none) (.tup (es.map eD)) := fun {K'} => v_ixT (v_var rfl) v_int rfl
    apply run_by
    apply b_or0
    apply b_not
    apply b_B
    refine v_cb (a_cons h2 (by walk_at "ev")) (c_isiT (.tup _) (b := false) (by decide +kernel) (b' := true) (by decide +kernel))
    apply b_test
    apply v_eqI
    refine v_cb (a_cons h2 a_nil) (c_len (.inr rfl))
    walk_at "ev"
    rw [decide_eq_false hz]; rfl
    apply run_by
    apply b_not
    apply b_B
    refine v_cb (a_cons (v_lcT (ts := [fi, la]) (enc := oi) (f := fun _ => true) (o := fun _ => .bl true) ends (by simp) fun o ho => ⟨_, _, g_name, by simp, b_yes, fun _ => ?_⟩) a_nil) c_allT
    · cases o with
      | none =>
        apply v_orT
        walk_at "ev"
        rfl
      | some i =>
        apply v_orF
        walk_at "ev"
        rfl
        exact v_call0 (by walk_at "ev") ⟨i, rfl, rfl⟩
    rfl
    exact run_back (v_cb (a_cons (v_lcT (ts := es) (enc := eD) (f := fun _ => true) (o := fun _ => .bl true) h2 hlen fun e hm => ⟨_, _, g_name, by simp, b_yes, fun _ => v_call0 (by walk_at "ev") ⟨e, he e hm, rfl, rfl⟩⟩) a_nil) c_allT) rfl
end
end K55

set_option maxHeartbeats 2000000
namespace K55
open PySem PySem.Spec PyProof.Rows L2
local macro_rules | `(tactic| walk_at "ev1") => `(tactic| first
  | exact v_var rfl | exact v_int | exact v_bl | exact v_non | exact v_str | exact a_nil | exact v_raw
  | apply a_cons
  | apply v_add | apply v_sub | apply v_mul | apply v_mod | apply v_fdiv | apply v_neg
  | apply v_lt | apply v_le | apply v_gt | apply v_ge | apply v_eqI | apply v_neI
  | apply v_isN | apply v_notN
  | apply b_B | apply b_test | apply b_not | apply b_and0 | apply b_or0
  | apply v_and0 | apply v_or0 | apply v_not
  | apply v_tup | apply v_lst
  | refine' v_cb ?_ c_int
  | exact Nat.le_of_ble_eq_true rfl)
local macro_rules | `(tactic| walk_at "ev") => `(tactic| repeat' walk_at "ev1")
def Joined (qs : List Row) : Prop := qs ≠ [] ∧ (∀ q, qs[0]? = some q → q.first = none) ∧ (∀ q, qs[qs.length - 1]? = some q → q.last = none) ∧
  ∀ (i : Nat) q r, qs[i]? = some q → qs[i + 1]? = some r → ∃ l, q.last = some l ∧ r.first = some (l + 1) ∧ ∀ m, r.last = some m → l + 1 ≤ m
theorem atI_back {α : Type} {xs : List α} {x : α} (h : xs[xs.length - 1]? = some x) : atI xs (-1) = some x := by
  have hl : xs.length - 1 < xs.length := (List.getElem?_eq_some_iff.mp h).1
  have e : ixN xs.length (-1) = some (xs.length - 1) := by
    unfold ixN
    rw [if_neg (by omega), if_pos (by omega)]
    congr 1
    omega
  unfold atI
  rw [e]
  exact h
theorem atI_map {α β : Type} {xs : List α} {x : α} {i : Int} (f : α → β) (h : atI xs i = some x) : atI (xs.map f) i = some (f x) := by
  unfold atI at h ⊢
  rw [List.length_map]
  cases q : ixN xs.length i with
  | none => rw [q] at h; cases h
  | some j =>
    rw [q] at h
    show (xs.map f)[j]? = some (f x)
    have h' : xs[j]? = some x := h
    rw [List.getElem?_map, h']; rfl
theorem atI_of {α : Type} {xs : List α} {x : α} {i : Int} (h0 : 0 ≤ i) (h : xs[i.toNat]? = some x) : atI xs i = some x := by
  have := atI_nat h
  rwa [Int.toNat_of_nonneg h0] at this
section
variable {C : Addr} {P : Program} {w : World} {K : PySem.W.Frag} {mg : Str → Option Value} {base : Heap}
/-! ### are_joined -/
abbrev s_are_joined : Stmt := topS 19
abbrev N_are_joined : List Str := ["rows", "one", "other"]
theorem sc_are_joined : FnScope N_are_joined ["rows"] (defScope s_are_joined) := ⟨rfl, rfl, rfl, by decide +kernel, rfl, by decide +kernel, by decide +kernel⟩
def F_are_joined (ds : List D) (d : D) : Prop := ∃ qs : List Row, Joined qs ∧ ds = [.tup (rowsD qs)] ∧ d = .bl true
theorem ok_are_joined {f : Addr} {fd : FuncData} (Fn : Fun K "are_joined" "are_joined" s_are_joined f fd) (T : Bt K mg C) : FnOk P w K mg base CX0 1 f fd ["rows"] (spD C F_are_joined) := by
  refine def_ok Fn sc_are_joined (by decide) (fun ds d h => by obtain ⟨_, _, rfl, _⟩ := h; rfl) fun cdv A outer s H E hr ds d hF => ?_
  obtain ⟨qs, ⟨hne, h1, h2, h3⟩, rfl, rfl⟩ := hF
  have nd := sc_are_joined.nd
  have hl : 0 < qs.length := List.length_pos_iff.mpr hne
  have e1 : qs[0]? = some qs[0] := List.getElem?_eq_getElem hl
  have e2 : qs[qs.length - 1]? = some qs[qs.length - 1] := List.getElem?_eq_getElem (by omega)
  have f1 := h1 _ e1
  have f2 := h2 _ e2
  refine ⟨_, (pss_cons (ps_if (PW.pt (pw_or (pt_cmp (pc_notN (pe_ix ix_tup (pe_ix ix_tup (pv 0) pe_int (fun _ _ => rfl)) pe_int (fun _ _ => rfl)))) (pw_or1 (pt_cmp (pc_notN (pe_ix ix_tup (pe_ix ix_tup (pv 0) (pe_un un_neg pe_int) (fun _ _ => rfl)) pe_int (fun _ _ => rfl))))))) (pss_one (ps_ret pe_bl)) pss_nil)
      (pss_cons (ps_for PassesOwn.never rfl (RZ.pi_zipA (by rfl) T.n_zip (pa_cons (pv 0) (pa_cons (pe_slice sl_tupA (pv 0) (po_some pe_int) po_none) pa_nil))) (pg_tup (by rfl) (pgs_cons (pg_name (i := 1) nd rfl (.inl rfl)) (pgs_cons (pg_name (i := 2) nd rfl (.inl rfl)) pgs_nil))) (pss_one (ps_if (PW.pt (pw_or (pt_cmp (pc_isN (pe_ix ix_tup (pv 1) pe_int (fun _ _ => rfl)))) (pw_or (pt_cmpR op_ne (pe_ix ix_tup (pv 2) pe_int (fun _ _ => rfl)) (pe_op op_add (pe_ix ix_tup (pv 1) pe_int (fun _ _ => rfl)) pe_int) (nomark _)) (pw_or1 (PW.pt (pw_and (pt_cmp (pc_notN (pe_ix ix_tup (pv 2) pe_int (fun _ _ => rfl)))) (pw_and1 (pt_cmpR op_lt (pe_ix ix_tup (pv 2) pe_int (fun _ _ => rfl)) (pe_ix ix_tup (pv 2) pe_int (fun _ _ => rfl)) (nomark _))))))))) (pss_one (ps_ret pe_bl)) pss_nil)))
      (pss_one (ps_ret pe_bl)))), ?_⟩
  apply run_by
  apply b_or0
  apply b_B
  apply v_notN
  refine v_ixT (ds := [oi qs[0].first, oi qs[0].last, .tup (qs[0].ents.map eD)]) (z := oi qs[0].first) (v_ixT (v_var rfl) v_int (atI_of (by omega) ?_)) v_int rfl
  · show (rowsD qs)[0]? = _
    unfold rowsD
    rw [List.getElem?_map, e1]; rfl
  apply b_B
  apply v_notN
  refine v_ixT (ds := [oi qs[qs.length - 1].first, oi qs[qs.length - 1].last, .tup (qs[qs.length - 1].ents.map eD)]) (z := oi qs[qs.length - 1].last) (v_ixT (v_var rfl) (v_neg v_int) (atI_map (f := rowD) (atI_back e2))) v_int rfl
  rw [f1, f2]; rfl
  refine run_seq (ρ1 := [some (.tup (rowsD qs)), none, none]) (run_forZT (items := rowsD qs) (its := (rowsD qs).drop 1) (a_cons (v_var rfl) (a_cons ((v_sliceT (v_var rfl) (o_some v_int) o_none).is (by rw [cutD_tail])) a_nil)) (fun _ => [some (.tup (rowsD qs)), none, none]) (fun _ => True) trivial (fun _ _ h => h) (fun i x y hx hy _ => ?_) fun _ _ _ h => h) (run_back v_bl rfl)
  unfold rowsD at hx hy
  rw [List.getElem?_map] at hx
  rw [List.getElem?_drop, List.getElem?_map, Nat.add_comm 1 i] at hy
  cases qx : qs[i]? with
  | none => rw [qx] at hx; cases hx
  | some q =>
    cases qy : qs[i + 1]? with
    | none => rw [qy] at hy; cases hy
    | some r =>
      rw [qx] at hx
      rw [qy] at hy
      cases hx
      cases hy
      obtain ⟨l, a1, a2, a3⟩ := h3 i q r qx qy
      refine ⟨_, _, g_tup (gs_cons g_name (gs_cons g_name gs_nil)) rfl, ?_⟩
      obtain ⟨qf, ql, qe⟩ := q
      obtain ⟨rf, rl, re⟩ := r
      dsimp only at a1 a2 a3
      subst a1 a2
      apply run_ifN
      refine b_or0 (b_B (v_isN (v_ixT (z := oi (some l)) (v_var rfl) v_int rfl))) (b_or0 (b := false) (b_test (v_neI (v_ixT (z := .int (l + 1)) (v_var rfl) v_int rfl) (v_add (v_ixT (z := .int l) (v_var rfl) v_int rfl) v_int))) ?_)
      · cases rl with
        | none => exact b_andF (b_B (v_notN (v_ixT (z := oi none) (v_var rfl) v_int rfl))) rfl
        | some m => exact (b_andT (b_B (v_notN (v_ixT (z := oi (some m)) (v_var rfl) v_int rfl))) rfl (b_test (v_lt (v_ixT (z := .int m) (v_var rfl) v_int rfl) (v_ixT (z := .int (l + 1)) (v_var rfl) v_int rfl)))).is (decide_eq_false (by have := a3 m rfl; omega))
      simp [oi, D.isN]
      exact run_next fun σ B h => ⟨trivial, (h.cut 1).cut 2⟩

/-! ### nearest, farthest, worth_at -/
abbrev s_nearest : Stmt := topS 20
abbrev N_nearest : List Str := ["first", "last", "many", "rest", "at"]
theorem sc_nearest : FnScope N_nearest ["first", "last", "many", "rest"] (defScope s_nearest) := ⟨rfl, rfl, rfl, by decide +kernel, rfl, by decide +kernel, by decide +kernel⟩
def F_nearest (ds : List D) (d : D) : Prop := ∃ (f l : Option Int) (m r : Int), 0 < m ∧ ds = [oi f, oi l, .int m, .int r] ∧ d = oP (near f l m r)
theorem ok_nearest {f : Addr} {fd : FuncData} (Fn : Fun K "nearest" "nearest" s_nearest f fd) (T : Bt K mg C) : FnOk P w K mg base CX0 1 f fd ["first", "last", "many", "rest"] (spD C F_nearest) := by
  refine def_ok Fn sc_nearest (by decide) (fun ds d h => by obtain ⟨_, _, _, _, _, rfl, _⟩ := h; rfl) fun cdv A outer s H E hr ds d hF => ?_
  obtain ⟨f, l, m, r, hm, rfl, rfl⟩ := hF
  have nd := sc_nearest.nd
  refine ⟨_, (pss_cons (ps_if (PW.pt (pw_and (pt_cmp (pc_isN (pv 0))) (pw_and1 (pt_cmp (pc_notN (pv 1)))))) (pss_one (ps_ret (pe_tup (pa_cons (pe_op op_sub (pv 1) (pe_op op_mod (pe_callTy call_int1 (by rfl) T.n_int bo_int (pa_cons (pe_op op_sub (pv 1) (pv 3)) pa_nil)) (pv 2))) (pa_cons (pe_un un_neg (pv 2)) pa_nil))))) pss_nil)
      (pss_cons (ps_set (i := 4) nd rfl (.inl rfl) (pe_ifExp (pt_cmp (pc_isN (pv 0))) (pv 3) (pe_op op_add (pv 0) (pe_op op_mod (pe_callTy call_int1 (by rfl) T.n_int bo_int (pa_cons (pe_op op_sub (pv 3) (pv 0)) pa_nil)) (pv 2)))))
      (pss_one (ps_ret (pe_ifExp (PW.pt (pw_and (pt_cmp (pc_notN (pv 1))) (pw_and1 (pt_cmpR op_gt (pv 4) (pv 1) (nomark _))))) pe_non (pe_tup (pa_cons (pv 4) (pa_cons (pv 2) pa_nil)))))))), ?_⟩
  cases f with
  | none =>
    cases l with
    | some l =>
      apply run_out
      walk_at "ev"
      rfl
      apply run_back
      walk_at "ev"
      exact hm
      rfl
    | none =>
      apply run_by
      walk_at "ev"
      rfl
      apply run_let
      apply v_ifY
      walk_at "ev"
      rfl
      walk_at "ev"
      apply run_back
      apply v_ifN
      apply b_andF
      walk_at "ev"
      rfl
      rfl
      walk_at "ev"
      rfl
  | some f =>
    cases l with
    | none =>
      apply run_by
      apply b_andF
      walk_at "ev"
      rfl
      rfl
      apply run_let
      apply v_ifN
      walk_at "ev"
      rfl
      walk_at "ev"
      exact hm
      apply run_back
      apply v_ifN
      apply b_andF
      walk_at "ev"
      rfl
      rfl
      walk_at "ev"
      rfl
    | some l =>
      apply run_by
      apply b_andF
      walk_at "ev"
      rfl
      rfl
      apply run_let
      apply v_ifN
      walk_at "ev"
      rfl
      walk_at "ev"
      exact hm
      by_cases h : l < f + (r - f) % m
      · apply run_back
        apply v_ifY
        walk_at "ev"
        rw [decide_eq_true h]; rfl
        walk_at "ev"
        show D.non = oP (if l < f + (r - f) % m then none else _)
        rw [if_pos h]; rfl
      · apply run_back
        apply v_ifN
        walk_at "ev"
        rw [decide_eq_false h]; rfl
        walk_at "ev"
        show D.tup [D.int (f + (r - f) % m), D.int m] = oP (if l < f + (r - f) % m then none else some (f + (r - f) % m, m))
        rw [if_neg h]; rfl
abbrev s_farthest : Stmt := topS 21
abbrev N_farthest : List Str := ["first", "last", "many", "rest"]
theorem sc_farthest : FnScope N_farthest ["first", "last", "many", "rest"] (defScope s_farthest) := ⟨rfl, rfl, rfl, by decide +kernel, rfl, by decide +kernel, by decide +kernel⟩
def F_farthest (ds : List D) (d : D) : Prop := ∃ (f : Option Int) (l m r : Int), 0 < m ∧ ds = [oi f, .int l, .int m, .int r] ∧ d = .int (far l m r)
theorem ok_farthest {f : Addr} {fd : FuncData} (Fn : Fun K "farthest" "farthest" s_farthest f fd) (T : Bt K mg C) : FnOk P w K mg base CX0 1 f fd ["first", "last", "many", "rest"] (spD C F_farthest) := by
  refine def_ok Fn sc_farthest (by decide) (fun ds d h => by obtain ⟨_, _, _, _, _, rfl, _⟩ := h; rfl) fun cdv A outer s H E hr ds d hF => ?_
  obtain ⟨f, l, m, r, hm, rfl, rfl⟩ := hF
  have nd := sc_farthest.nd
  refine ⟨_, (pss_one (ps_ret (pe_op op_sub (pv 1) (pe_op op_mod (pe_callTy call_int1 (by rfl) T.n_int bo_int (pa_cons (pe_op op_sub (pv 1) (pv 3)) pa_nil)) (pv 2))))), ?_⟩
  apply run_back
  walk_at "ev"
  exact hm
  rfl
abbrev s_worth_at : Stmt := topS 22
abbrev N_worth_at : List Str := ["entry", "number"]
theorem sc_worth_at : FnScope N_worth_at ["entry", "number"] (defScope s_worth_at) := ⟨rfl, rfl, rfl, by decide +kernel, rfl, by decide +kernel, by decide +kernel⟩
def F_worth_at (ds : List D) (d : D) : Prop := ∃ a b c n : Int, EntOk (some (a, b, c)) ∧ ds = [eD (some (a, b, c)), .int n] ∧ d = .int (worth a b c n)
theorem ok_worth_at {f : Addr} {fd : FuncData} (Fn : Fun K "worth_at" "worth_at" s_worth_at f fd) (T : Bt K mg C) : FnOk P w K mg base CX0 1 f fd ["entry", "number"] (spD C F_worth_at) := by
  refine def_ok Fn sc_worth_at (by decide) (fun ds d h => by obtain ⟨_, _, _, _, _, rfl, _⟩ := h; rfl) fun cdv A outer s H E hr ds d hF => ?_
  obtain ⟨a, b, c, n, ⟨ha, hc⟩, rfl, rfl⟩ := hF
  have nd := sc_worth_at.nd
  refine ⟨_, (pss_one (ps_ret (pe_op op_fdiv (pe_op op_add (pe_op op_mul (pe_ix ix_tup (pv 0) pe_int (fun _ _ => rfl)) (pv 1)) (pe_ix ix_tup (pv 0) pe_int (fun _ _ => rfl))) (pe_ix ix_tup (pv 0) pe_int (fun _ _ => rfl))))), ?_⟩
  exact run_back (v_fdiv (v_add (v_mul (v_ixT (z := .int a) (v_var rfl) v_int rfl) (v_var rfl) (.inl ha)) (v_ixT (z := .int b) (v_var rfl) v_int rfl)) (v_ixT (z := .int c) (v_var rfl) v_int rfl) hc) rfl
end
end K55

set_option maxHeartbeats 2000000
namespace K55
open PySem PySem.Spec PyProof.Rows L2
local macro_rules | `(tactic| walk_at "ev1") => `(tactic| first
  | exact v_var rfl | exact v_int | exact v_bl | exact v_non | exact v_str | exact a_nil | exact v_raw
  | apply a_cons
  | apply v_add | apply v_sub | apply v_mul | apply v_mod | apply v_fdiv | apply v_neg
  | apply v_lt | apply v_le | apply v_gt | apply v_ge | apply v_eqI | apply v_neI
  | apply v_isN | apply v_notN
  | apply b_B | apply b_test | apply b_not | apply b_and0 | apply b_or0
  | apply v_and0 | apply v_or0 | apply v_not
  | apply v_tup | apply v_lst
  | refine' v_cb ?_ c_int
  | exact Nat.le_of_ble_eq_true rfl)
local macro_rules | `(tactic| walk_at "ev") => `(tactic| repeat' walk_at "ev1")
section
variable {C : Addr} {P : Program} {w : World} {K : PySem.W.Frag} {mg : Str → Option Value} {base : Heap}
/-! ### is_lawful -/
abbrev s_is_lawful : Stmt := topS 23
abbrev N_is_lawful : List Str := ["stretch", "rest", "first", "last", "entries", "entry", "near", "at", "step", "is_bent", "far"]
theorem sc_is_lawful : FnScope N_is_lawful ["stretch", "rest"] (defScope s_is_lawful) := ⟨rfl, rfl, rfl, by decide +kernel, rfl, by decide +kernel, by decide +kernel⟩
def F_is_lawful (ds : List D) (d : D) : Prop := ∃ (q : Row) (r : Nat) (e : Ent), q.ents[r]? = some e ∧ EntOk e ∧ EntLaw q.first q.last q.ents.length r e ∧ ds = [rowD q, .int r] ∧ d = .bl true
theorem ok_is_lawful {f : Addr} {fd : FuncData} (Fn : Fun K "is_lawful" "is_lawful" s_is_lawful f fd) (T : Bt K mg C) (G_nearest : Df P w K mg base 1 "nearest" ["first", "last", "many", "rest"] (spD C F_nearest))
    (G_farthest : Df P w K mg base 1 "farthest" ["first", "last", "many", "rest"] (spD C F_farthest)) (G_worth_at : Df P w K mg base 1 "worth_at" ["entry", "number"] (spD C F_worth_at)) : FnOk P w K mg base CX0 2 f fd ["stretch", "rest"] (spD C F_is_lawful) := by
  refine def_ok Fn sc_is_lawful (by decide) (fun ds d h => by obtain ⟨_, _, _, _, _, _, rfl, _⟩ := h; rfl) fun cdv A outer s H E hr ds d hF => ?_
  obtain ⟨⟨fi, la, es⟩, r, e, he, hok, hlaw, rfl, rfl⟩ := hF
  have nd := sc_is_lawful.nd
  dsimp only at he hlaw
  have hr0 : (0 : Int) ≤ r := Int.natCast_nonneg r
  have hr1 : (r : Int) < es.length := by
    have := (List.getElem?_eq_some_iff.mp he).1
    omega
  have hl : (0 : Int) < es.length := by omega
  have hlen : (List.map eD es).length = es.length := List.length_map _
  refine ⟨_, (pss_cons (ps_asg (pv 0) (pg_tup (by rfl) (pgs_cons (pg_name (i := 2) nd rfl (.inl rfl)) (pgs_cons (pg_name (i := 3) nd rfl (.inl rfl)) (pgs_cons (pg_name (i := 4) nd rfl (.inl rfl)) pgs_nil)))))
      (pss_cons (ps_par (i := 5) (j := 6) (by rfl) nd rfl rfl (by decide) rfl rfl (pa_cons (pe_ix ix_tup (pv 4) (pv 1) (fun _ _ => rfl)) (pa_cons (pcall G_nearest (hr.mono (by first | decide | omega)) (by rfl) (pa_cons (pv 2) (pa_cons (pv 3) (pa_cons (pe_callB call_len_seq (by rfl) T.n_len bo_len (pa_cons (pv 4) pa_nil)) (pa_cons (pv 1) pa_nil))))) pa_nil)) (by rfl))
      (pss_cons (ps_if (PW.pt (pw_or (pt_cmp (pc_isN (pv 5))) (pw_or1 (pt_cmp (pc_isN (pv 6)))))) (pss_one (ps_ret pe_bl)) pss_nil)
      (pss_cons (ps_asg (pv 6) (pg_tup (by rfl) (pgs_cons (pg_name (i := 7) nd rfl (.inl rfl)) (pgs_cons (pg_name (i := 8) nd rfl (.inl rfl)) pgs_nil))))
      (pss_cons (ps_if (PW.pt (pw_or (pt_cmpR op_ne (pe_op op_mod (pe_op op_add (pe_op op_mul (pe_ix ix_tup (pv 5) pe_int (fun _ _ => rfl)) (pv 7)) (pe_ix ix_tup (pv 5) pe_int (fun _ _ => rfl))) (pe_ix ix_tup (pv 5) pe_int (fun _ _ => rfl))) pe_int (nomark _)) (pw_or1 (pt_cmpR op_lt (pcall G_worth_at (hr.mono (by first | decide | omega)) (by rfl) (pa_cons (pv 5) (pa_cons (pv 7) pa_nil))) pe_int (nomark _))))) (pss_one (ps_ret pe_bl)) pss_nil)
      (pss_cons (ps_if (PW.pt (pw_or (pt_cmp (pc_isN (pv 2))) (pw_or1 (pt_cmp (pc_isN (pv 3)))))) (pss_cons (ps_set (i := 9) nd rfl (.inl rfl) (pe_or (pe_cmpR op_lt (pe_op op_mul (pe_ix ix_tup (pv 5) pe_int (fun _ _ => rfl)) (pv 8)) pe_int (nomark _)) (pe_one (pe_and (pe_cmp (pc_isN (pv 2))) (pe_and (pe_cmp (pc_isN (pv 3))) (pe_one (pe_cmpR op_ne (pe_ix ix_tup (pv 5) pe_int (fun _ _ => rfl)) pe_int (nomark _))))))))
      (pss_one (ps_ret (pe_and (pe_not (pv 9)) (pe_one (pe_cmpR op_eq (pe_op op_mod (pe_op op_mul (pe_ix ix_tup (pv 5) pe_int (fun _ _ => rfl)) (pv 8)) (pe_ix ix_tup (pv 5) pe_int (fun _ _ => rfl))) pe_int (nomark _))))))) pss_nil)
      (pss_cons (ps_set (i := 10) nd rfl (.inl rfl) (pcall G_farthest (hr.mono (by first | decide | omega)) (by rfl) (pa_cons (pv 2) (pa_cons (pv 3) (pa_cons (pe_callB call_len_seq (by rfl) T.n_len bo_len (pa_cons (pv 4) pa_nil)) (pa_cons (pv 1) pa_nil))))))
      (pss_one (ps_ret (pe_or (pe_cmpR op_eq (pv 10) (pv 7) (nomark _)) (pe_one (pe_and (pe_cmpR op_eq (pe_op op_mod (pe_op op_mul (pe_ix ix_tup (pv 5) pe_int (fun _ _ => rfl)) (pv 8)) (pe_ix ix_tup (pv 5) pe_int (fun _ _ => rfl))) pe_int (nomark _)) (pe_one (pe_cmpR op_ge (pcall G_worth_at (hr.mono (by first | decide | omega)) (by rfl) (pa_cons (pv 5) (pa_cons (pv 10) pa_nil))) pe_int (nomark _))))))))))))))), ?_⟩
  apply run_lets (v_var rfl) (g_tup (gs_cons g_name (gs_cons g_name (gs_cons g_name gs_nil))) rfl)
  refine run_let2 (x := eD e) (y := oP (near fi la es.length r)) (a_cons (v_ixT (v_var rfl) (v_var rfl) (atI_map (f := eD) (atI_nat he))) (a_cons (v_call0 (a_cons (v_var rfl) (a_cons (v_var rfl) (a_cons (v_cb (by walk_at "ev") (c_len (.inr rfl))) (by walk_at "ev")))) ⟨fi, la, es.length, r, hl, by rw [hlen], rfl⟩) a_nil)) ?_
  rcases e with _ | ⟨a, b, c⟩
  · apply run_out
    apply b_orT
    walk_at "ev"
    rfl
    rfl
    apply run_back
    walk_at "ev"
    rfl
  cases hn : near fi la es.length r with
  | none =>
    apply run_out
    apply b_orF
    walk_at "ev"
    rfl
    walk_at "ev"
    rfl
    apply run_back
    walk_at "ev"
    rfl
  | some p =>
    obtain ⟨at', step⟩ := p
    obtain ⟨ha, hc⟩ := hok
    obtain ⟨hs1, hs2, hs3⟩ := near_some hr0 hr1 hn
    obtain ⟨w1, w2, w3⟩ := law_at hlaw hs1 hs2
    have hc0 : 0 < c := hc.1
    apply run_by
    walk_at "ev"
    rfl
    apply run_lets (v_var rfl) (g_tup (gs_cons g_name (gs_cons g_name gs_nil)) rfl)
    apply run_by
    refine b_or0 (b_test (v_neI (v_mod (v_add (v_mul (v_ixT (z := .int a) (v_var rfl) v_int rfl) (v_var rfl) (.inl ha)) (v_ixT (z := .int b) (v_var rfl) v_int rfl)) (v_ixT (z := .int c) (v_var rfl) v_int rfl) hc0) v_int)) (b_test (v_lt (v_call0 (by walk_at "ev") ⟨a, b, c, at', ⟨ha, hc⟩, rfl, rfl⟩) v_int))
    rw [w1, decide_eq_false (show ¬ worth a b c at' < 0 by omega)]; rfl
    by_cases hend : fi = none ∨ la = none
    · -- an endless stretch
      have bent : 0 ≤ a * step := law_bent hlaw hr0 hr1 hend hn
      have st := near_steps hr0 hr1 hend hn (k := 1) (by omega)
      rw [Int.mul_one] at st
      have dv : a * step % c = 0 := law_step hlaw hs1 hs2 st.1 st.2
      have flat : fi = none → la = none → a = 0 := fun h1 h2 => by
        subst h1 h2
        exact law_flat hlaw hr0 hr1
      have htest : EvB C (tOr (tB (tIsN (tVar 2))) (tB (tIsN (tVar 3)))) (List.set (List.set (List.set (List.set (List.set (List.set (List.set (List.map some [rowD ⟨fi, la, es⟩, D.int r] ++ List.replicate (N_is_lawful.length - [rowD ⟨fi, la, es⟩, D.int r].length) none) 2 (some (oi fi))) 3 (some (oi la))) 4 (some (.tup (es.map eD)))) 5 (some (eD (some (a, b, c))))) 6 (some (oP (some (at', step))))) 7 (some (.int at'))) 8 (some (.int step))) true := by
        rcases hend with h | h
        · subst h
          exact b_orT (b_B (v_isN (v_var rfl))) rfl
        · subst h
          cases fi with
          | none => exact b_orT (b_B (v_isN (v_var rfl))) rfl
          | some f => exact b_orF (b_B (v_isN (v_var rfl))) rfl (b_B (v_isN (x := .non) (v_var rfl)))
      refine run_out htest rfl ?_
      refine run_let (d := .bl false) (v_orF (v_lt (v_mul (v_ixT (z := .int a) (v_var rfl) v_int rfl) (v_var rfl) (.inl ha)) v_int) (decide_eq_false (by show ¬ a * step < 0; omega)) ?_) ?_
      · cases fi with
        | some f => exact v_andF (v_isN (v_var rfl)) rfl
        | none =>
          cases la with
          | some l => exact v_andT (v_isN (v_var rfl)) rfl (v_andF (v_isN (v_var rfl)) rfl)
          | none => exact (v_andT (v_isN (v_var rfl)) rfl (v_andT (v_isN (v_var rfl)) rfl (v_neI (v_ixT (z := .int a) (v_var rfl) v_int rfl) v_int))).is (by rw [flat rfl rfl]; rfl)
      exact run_back (v_and0 (v_not (v_var rfl)) (v_eqI (v_mod (v_mul (v_ixT (z := .int a) (v_var rfl) v_int rfl) (v_var rfl) (.inl ha)) (v_ixT (z := .int c) (v_var rfl) v_int rfl) hc0) v_int)) (by rw [dv]; rfl)
    · -- both ends
      cases fi with
      | none => exact absurd (.inl rfl) hend
      | some f =>
        cases la with
        | none => exact absurd (.inr rfl) hend
        | some l =>
          obtain ⟨g1, g2, g3⟩ := far_spec hr0 hr1 hs2 (hs1.2 l rfl)
          have gs : InS (some f) (some l) (far l es.length r) := ⟨fun x z => by cases z; exact Int.le_trans (hs1.1 f rfl) g3, fun y z => by cases z; exact g2⟩
          obtain ⟨u1, u2, u3⟩ := law_at hlaw gs g1
          apply run_by
          walk_at "ev"
          rfl
          refine run_let (d := .int (far l es.length r)) (v_call0 (a_cons (v_var rfl) (a_cons (v_var rfl) (a_cons (v_cb (by walk_at "ev") (c_len (.inr rfl))) (by walk_at "ev")))) ⟨some f, l, es.length, r, hl, by rw [hlen]; rfl, rfl⟩) ?_
          by_cases hf : far l es.length r = at'
          · exact run_back (v_orT (v_eqI (v_var rfl) (v_var rfl)) (decide_eq_true hf)) rfl
          · have hstep : step = es.length := by
              rcases hs3 with z | z
              · exact z
              · exfalso
                simp only [near] at hn
                split at hn
                · cases hn
                · simp only [Option.some.injEq, Prod.mk.injEq] at hn
                  omega
            have hin := mod_step hl (hs2.trans g1.symm) (by omega)
            have dv : a * step % c = 0 := by
              refine law_step hlaw hs1 hs2 ⟨fun x z => ?_, fun y z => ?_⟩ ?_
              · cases z
                have := hs1.1 f rfl
                omega
              · cases z
                omega
              · rw [hstep]; exact add_mod hs2
            exact run_back (v_orF (v_eqI (v_var rfl) (v_var rfl)) (decide_eq_false hf) (v_and0 (v_eqI (v_mod (v_mul (v_ixT (z := .int a) (v_var rfl) v_int rfl) (v_var rfl) (.inl ha)) (v_ixT (z := .int c) (v_var rfl) v_int rfl) hc0) v_int) (v_ge (v_call0 (by walk_at "ev") ⟨a, b, c, far l es.length r, ⟨ha, hc⟩, rfl, rfl⟩) v_int))) (by rw [dv, decide_eq_true u2]; rfl)
end
end K55

set_option maxHeartbeats 2000000
namespace K55
open PySem PySem.Spec PyProof.Rows L2
local macro_rules | `(tactic| walk_at "ev1") => `(tactic| first
  | exact v_var rfl | exact v_int | exact v_bl | exact v_non | exact v_str | exact a_nil | exact v_raw
  | apply a_cons
  | apply v_add | apply v_sub | apply v_mul | apply v_mod | apply v_fdiv | apply v_neg
  | apply v_lt | apply v_le | apply v_gt | apply v_ge | apply v_eqI | apply v_neI
  | apply v_isN | apply v_notN
  | apply b_B | apply b_test | apply b_not | apply b_and0 | apply b_or0
  | apply v_and0 | apply v_or0 | apply v_not
  | apply v_tup | apply v_lst
  | refine' v_cb ?_ c_int
  | exact Nat.le_of_ble_eq_true rfl)
local macro_rules | `(tactic| walk_at "ev") => `(tactic| repeat' walk_at "ev1")
/-! ### thin_entry -/
def ab (n : Int) : Int := if n < 0 then -n else n
def thinG (a b c : Int) : Int := gcs (c :: ([a, b].filter fun n => !decide (n = 0)).map ab)
def thin (a b c : Int) : Int × Int × Int := (a / thinG a b c, b / thinG a b c, c / thinG a b c)
theorem gc_dvd_l (i j : Int) : gc i j ∣ i := by
  unfold gc
  exact Int.ofNat_dvd_left.mpr (Nat.gcd_dvd_left _ _)
theorem gc_dvd_r (i j : Int) : gc i j ∣ j := by
  unfold gc
  exact Int.ofNat_dvd_left.mpr (Nat.gcd_dvd_right _ _)
theorem gcs_fold : ∀ (ns : List Int) (g : Int), 0 < g → 0 < ns.foldl gc g ∧ ns.foldl gc g ∣ g ∧ ∀ n, n ∈ ns → ns.foldl gc g ∣ n
  | [], g, h => ⟨h, Int.dvd_refl g, fun _ z => nomatch z⟩
  | n :: ns, g, h => by
    obtain ⟨h1, h2, h3⟩ := gcs_fold ns (gc g n) (gc_pos h)
    refine ⟨h1, Int.dvd_trans h2 (gc_dvd_l g n), fun m hm => ?_⟩
    rcases List.mem_cons.mp hm with rfl | hm
    · exact Int.dvd_trans h2 (gc_dvd_r g m)
    · exact h3 m hm
theorem gcs_cons {c : Int} (hc : 0 < c) (ns : List Int) : 0 < gcs (c :: ns) ∧ gcs (c :: ns) ∣ c ∧ ∀ n, n ∈ ns → gcs (c :: ns) ∣ n := by
  have e : gcs (c :: ns) = ns.foldl gc c := by
    unfold gcs
    rw [List.foldl_cons]
    congr 1
    unfold gc
    simp
    omega
  rw [e]
  exact gcs_fold ns c hc
theorem thinG_spec {a b c : Int} (hc : 0 < c) : 0 < thinG a b c ∧ thinG a b c ∣ a ∧ thinG a b c ∣ b ∧ thinG a b c ∣ c := by
  obtain ⟨h1, h2, h3⟩ := gcs_cons hc (([a, b].filter fun n => !decide (n = 0)).map ab)
  have key : ∀ n, n ∈ [a, b] → thinG a b c ∣ n := fun n hn => by
    by_cases h : n = 0
    · rw [h]; exact Int.dvd_zero _
    · have hm : ab n ∈ ([a, b].filter fun n => !decide (n = 0)).map ab := List.mem_map.mpr ⟨n, List.mem_filter.mpr ⟨hn, by simp [h]⟩, rfl⟩
      have hd := h3 _ hm
      have hd' : thinG a b c ∣ ab n := hd
      unfold ab at hd'
      split at hd'
      · exact Int.dvd_neg.mp hd'
      · exact hd'
  exact ⟨h1, key a (by simp), key b (by simp), h2⟩
theorem thinG_le {a b c : Int} (hc : 0 < c) : thinG a b c ≤ c := Int.le_of_dvd hc (thinG_spec hc).2.2.2
section
variable {C : Addr} {P : Program} {w : World} {K : PySem.W.Frag} {mg : Str → Option Value} {base : Heap}
abbrev s_thin_entry : Stmt := topS 24
abbrev N_thin_entry : List Str := ["slope", "constant", "d", "by", "number"]
theorem sc_thin_entry : FnScope N_thin_entry ["slope", "constant", "d"] (defScope s_thin_entry) := ⟨rfl, rfl, rfl, by decide +kernel, rfl, by decide +kernel, by decide +kernel⟩
def F_thin_entry (ds : List D) (d : D) : Prop := ∃ a b c : Int, 0 < c ∧ c < 1073741824 ∧ ds = [.int a, .int b, .int c] ∧ d = eD (some (thin a b c))
theorem ok_thin_entry {f : Addr} {fd : FuncData} (Fn : Fun K "thin_entry" "thin_entry" s_thin_entry f fd) (T : Bt K mg C) (G_gcd_of : Df P w K mg base 4 "gcd_of" ["numbers"] (spD C F_gcd_of)) : FnOk P w K mg base CX0 5 f fd ["slope", "constant", "d"] (spD C F_thin_entry) := by
  refine def_ok Fn sc_thin_entry (by decide) (fun ds d h => by obtain ⟨_, _, _, _, _, rfl, _⟩ := h; rfl) fun cdv A outer s H E hr ds d hF => ?_
  obtain ⟨a, b, c, h0, h1, rfl, rfl⟩ := hF
  have nd := sc_thin_entry.nd
  refine ⟨_, (pss_cons (ps_set (i := 3) nd rfl (.inl rfl) (pcall G_gcd_of (hr.mono (by first | decide | omega)) (by rfl) (pa_cons (pe_lst (pa_cons (pv 2) (StX.pa_star (pe_lc (own := [("number", 4)]) (by rfl) nd (pi_tup (pe_tup (pa_cons (pv 0) (pa_cons (pv 1) pa_nil)))) (blkOk_by (own := [("number", 4)]) (N := N_thin_entry) (sc := defScope s_thin_entry) (by decide +kernel)) (fun _ _ _ _ _ => (pg_name (i := 4) nd rfl (.inl rfl))) (fun _ _ _ _ _ => (pts_one (pt_cmpR op_ne (pv 4) pe_int (nomark _)))) (fun _ _ _ _ _ => (pe_callB call_abs (by rfl) T.n_abs bo_abs (pa_cons (pv 4) pa_nil)))) pa_nil))) pa_nil)))
      (pss_one (ps_ret (pe_tup (pa_cons (pe_op op_fdiv (pv 0) (pv 3)) (pa_cons (pe_op op_fdiv (pv 1) (pv 3)) (pa_cons (pe_op op_fdiv (pv 2) (pv 3)) pa_nil))))))), ?_⟩
  have hg := thinG_spec (a := a) (b := b) h0
  have hle := thinG_le (a := a) (b := b) h0
  have hd : CDiv a (thinG a b c) := ⟨hg.1, by omega⟩
  let l := ([a, b].filter fun n => !decide (n = 0)).map ab
  have hlen : l.length ≤ 2 := by
    show (([a, b].filter fun n => !decide (n = 0)).map ab).length ≤ 2
    rw [List.length_map]
    exact List.length_filter_le _ [a, b]
  have el : ((([a, b] : List Int).filter fun n => !decide (n = 0)).map fun n => D.int (if n < 0 then -n else n)) ++ [] = l.map D.int := by
    rw [List.append_nil, List.map_map]; rfl
  refine run_let (d := .int (thinG a b c)) (v_call0 (a_cons (v_lst (a_cons (v_var rfl) ((a_starL (v_lcT (ts := [a, b]) (enc := D.int) (f := fun n => !decide (n = 0)) (o := fun n => .int (if n < 0 then -n else n)) (v_tup (by walk_at "ev") (Nat.le_of_ble_eq_true rfl)) (by simp) fun n hn =>
    ⟨_, _, g_name, by simp, b_test (v_neI (v_var rfl) v_int), fun _ => v_cb (by walk_at "ev") c_abs⟩) a_nil).is el)) (by rw [List.length_cons, List.length_map]; omega)) a_nil)
    ⟨c :: l, by rw [List.length_cons]; omega, (fun z => nomatch z), fun n hn => ?_, rfl, rfl⟩) ?_
  · rcases List.mem_cons.mp hn with rfl | hn
    · omega
    · obtain ⟨m, hm, rfl⟩ := List.mem_map.mp hn
      have := (List.mem_filter.mp hm).2
      simp at this
      unfold ab
      split <;> omega
  · exact run_back (v_tup (a_cons (v_fdiv (v_var rfl) (v_var rfl) hd) (a_cons (v_fdiv (v_var rfl) (v_var rfl) hd) (a_cons (v_fdiv (v_var rfl) (v_var rfl) hd) a_nil))) (Nat.le_of_ble_eq_true rfl)) rfl

/-! ### stretches_from -/
def srt (ks : List Int) : List Int := ks.mergeSort (fun a b => decide (a ≤ b))
theorem srt_perm (ks : List Int) : (srt ks).Perm ks := List.mergeSort_perm _ _
theorem srt_up (ks : List Int) : (srt ks).Pairwise (· ≤ ·) := by
  have h := List.pairwise_mergeSort (le := fun a b : Int => decide (a ≤ b)) (fun a b c h1 h2 => by simp at *; omega) (fun a b => by simp; omega) ks
  exact h.imp fun h => by simpa using h
theorem up_one : ∀ {xs ys : List Int}, xs.Perm ys → xs.Pairwise (· ≤ ·) → ys.Pairwise (· ≤ ·) → xs = ys
  | [], ys, p, _, _ => (List.nil_perm.mp p).symm
  | x :: xs, [], p, _, _ => by have := p.length_eq; simp at this
  | x :: xs, y :: ys, p, hx, hy => by
    have h1 := List.pairwise_cons.mp hx
    have h2 := List.pairwise_cons.mp hy
    have e : x = y := by
      have m1 : x ∈ y :: ys := p.subset List.mem_cons_self
      have m2 : y ∈ x :: xs := p.symm.subset List.mem_cons_self
      have a1 : y ≤ x := by rcases List.mem_cons.mp m1 with q | q; omega; exact h2.1 x q
      have a2 : x ≤ y := by rcases List.mem_cons.mp m2 with q | q; omega; exact h1.1 y q
      omega
    subst e
    rw [up_one (List.Perm.cons_inv p) h1.2 h2.2]
theorem c_sortedK {ks : List Int} (h : ks.length < 64) : RcP C (fun xs H Q => ∃ (a : Addr) (kvs : List (Key × V)) (ks : List Int), xs = [V.ref a] ∧ Rd H a (.dK kvs) ∧ kvs.map (·.1) = ks.map Sum.inl ∧ ks.length < 64 ∧
    ∀ (ys : List Int) (p : Addr), ys.Perm ks → ys.Pairwise (· ≤ ·) → H p = none → Q (.ref p) (upd H p (.lst (ys.map V.int)))) [.keys ks] (.lst ((srt ks).map D.int)) := fun B H e vs r Q q => by
  obtain ⟨v, ws, rfl, h1, h2⟩ := r.cons_inv
  obtain ⟨a, rfl, hB⟩ := h1.keys_inv
  rw [h2.nil_inv]
  refine ⟨a, _, ks, rfl, .inl (e a _ hB), by rw [List.map_map]; rfl, h, fun ys p hp hu hn => ?_⟩
  rw [up_one (hp.trans (srt_perm ks).symm) hu (srt_up ks)]
  exact q _ (upd B p (.lst ((srt ks).map V.int))) _ (.new e hn) (.lst upd_same (reps_ints _))
def stretches (ks : List Int) : List (Option Int × Option Int) := List.zip (none :: (srt ks).map some) ((srt ks).map (fun b => some (b - 1)) ++ [none])
def strD (p : Option Int × Option Int) : D := .tup [oi p.1, oi p.2]
abbrev s_stretches_from : Stmt := topS 25
abbrev N_stretches_from : List Str := ["starts", "begins", "begin"]
theorem sc_stretches_from : FnScope N_stretches_from ["starts"] (defScope s_stretches_from) := ⟨rfl, rfl, rfl, by decide +kernel, rfl, by decide +kernel, by decide +kernel⟩
def F_stretches_from (ds : List D) (d : D) : Prop := ∃ ks : List Int, ks.length < 64 ∧ ds = [.keys ks] ∧ d = .lst ((stretches ks).map strD)
theorem ok_stretches_from {f : Addr} {fd : FuncData} (Fn : Fun K "stretches_from" "stretches_from" s_stretches_from f fd) (T : Bt K mg C) : FnOk P w K mg base CX0 1 f fd ["starts"] (spD C F_stretches_from) := by
  refine def_ok Fn sc_stretches_from (by decide) (fun ds d h => by obtain ⟨_, _, rfl, _⟩ := h; rfl) fun cdv A outer s H E hr ds d hF => ?_
  obtain ⟨ks, h, rfl, rfl⟩ := hF
  have nd := sc_stretches_from.nd
  have hl : (srt ks).length < 64 := by rw [(srt_perm ks).length_eq]; exact h
  refine ⟨_, (pss_cons (ps_set (i := 1) nd rfl (.inl rfl) (pe_callB (call_sortedDI (by rfl)) (by rfl) T.n_sorted bo_sorted (pa_cons (pv 0) pa_nil)))
      (pss_one (ps_ret (pe_listZip (by rfl) (by rfl) T.n_list (by rfl) T.n_zip (pa_cons (pe_lst (pa_cons pe_non (StX.pa_star (pv 1) pa_nil))) (pa_cons (pe_lst (StX.pa_star (pe_lc (own := [("begin", 2)]) (by rfl) nd (pi_list (pv 1)) (blkOk_by (own := [("begin", 2)]) (N := N_stretches_from) (sc := defScope s_stretches_from) (by decide +kernel)) (fun _ _ _ _ _ => (pg_name (i := 2) nd rfl (.inl rfl))) (fun _ _ _ _ _ => pts_nil) (fun _ _ _ _ _ => (pe_op op_sub (pv 2) pe_int))) (pa_cons pe_non pa_nil))) pa_nil)))))), ?_⟩
  apply run_let (v_cb (by walk_at "ev") (c_sortedK h))
  have e1 : ((srt ks).map D.int ++ []) = (srt ks).map D.int := List.append_nil _
  have e2 : (((srt ks).filter fun _ => true).map fun b => D.int (b - 1)) ++ [D.non] = (srt ks).map (fun b => D.int (b - 1)) ++ [D.non] := by
    rw [List.filter_eq_self.mpr (fun _ _ => rfl)]
  refine run_back (v_listZip (a_cons (v_lst (a_cons v_non ((a_starL (v_var rfl) a_nil).is e1)) (by rw [List.length_cons, List.length_map]; omega)) (a_cons (v_lst ((a_starL (v_lcL (ts := srt ks) (enc := D.int) (f := fun _ => true) (o := fun b => .int (b - 1)) (v_var rfl) (by omega) fun b hb =>
    ⟨_, _, g_name, by simp, b_yes, fun _ => v_sub (v_var rfl) v_int⟩) (a_cons v_non a_nil)).is e2) (by rw [List.length_append, List.length_map]; simp; omega)) a_nil)) (by simp) (by rw [List.length_cons, List.length_map]; omega)) ?_
  unfold stretches
  rw [List.zip_eq_zipWith, List.map_zipWith]
  have f1 : D.non :: (srt ks).map D.int = (none :: (srt ks).map some).map oi := by
    rw [List.map_cons, List.map_map]; rfl
  have f2 : (srt ks).map (fun b => D.int (b - 1)) ++ [D.non] = ((srt ks).map (fun b => some (b - 1)) ++ [none]).map oi := by
    rw [List.map_append, List.map_map]; rfl
  rw [f1, f2, List.zipWith_map]
  rfl
end
end K55

set_option maxHeartbeats 2000000
/-! K55: two clauses of a comprehension; a statement, then what is not data alone. -/
namespace K55
open PySem PySem.Spec PyProof.Rows L2
section
variable {C : Addr} {K : PySem.W.Frag} {ρ ρ1 : Env} {ta1 : TA} {te tl : TE} {t u : TS} {g g1 : TG} {α : Type} {vs vs1 : List Nat} {R : V → Hp → Prop}
theorem run_then {Z : Ends} {σ : L2.St} {B H : Hp} (h : Run C t ρ (To C ρ1) R) (hs : Sat C σ B ρ) (e : Sub B H) (k : ∀ σ' B' H', Step B H B' H' → Sat C σ' B' ρ1 → u Z σ' H') (kr : ∀ v B' H', Step B H B' H' → R v B' → Z.rt v H') : tSeq t u Z σ H :=
  h { Z with nx := u Z } σ B H hs e k kr
theorem lw_keep {B' H B4 H4 : Hp} {L : Addr} {acc : List V} (s4 : Step B' H B4 H4) (n : B' L = none) (h : H L = some (.lst acc)) : B4 L = none := by
  cases q : B4 L with
  | none => rfl
  | some o => have := s4.f L o q n; rw [h] at this; cases this
theorem v_lc2 {ts : List α} {enc : α → D} {n : α → Nat} {o : α → Nat → D} (h : EvP C tl ρ (.tup (ts.map enc))) (hn : ∀ i, ((ts.take i).flatMap fun a => (List.range (n a)).map (o a)).length < 50000) (hna : ∀ a, a ∈ ts → n a < 50000)
    (T : ∀ a, a ∈ ts → ∃ r ws, Asg C g (wipeE ρ vs) (enc a) r ws ∧ (∀ j, j ∈ ws → j ∈ vs) ∧ EvA C ta1 r [.int (n a)] ∧ ∀ i : Nat, i < n a → ∃ r2 ws2, Asg C g1 (wipeE r vs1) (.int i) r2 ws2 ∧ (∀ j, j ∈ ws2 → j ∈ vs1) ∧ EvP C te r2 (o a i)) :
    EvP C (tLc2 (iTup K tl) g tYes (iRng1 ta1) g1 tYes te vs vs1) ρ (.lst (ts.flatMap fun a => (List.range (n a)).map (o a))) := fun σ B H hS e Q q =>
  h σ B H hS e _ fun v B1 H1 s1 r1 => by
    obtain ⟨a0, us, rfl, hB, r⟩ := r1.tup_inv
    have hul : us.length = ts.length := by rw [r.length, List.length_map]
    refine ⟨a0, rfl, ⟨us, SqT.of (s1.s a0 _ hB)⟩, fun L hL => ?_⟩
    refine ⟨fun i m H' => m = us.length - i ∧ i ≤ us.length ∧ Lw C B1 H1 L ((ts.take i).flatMap fun a => (List.range (n a)).map (o a)) H', ⟨us.length, rfl, Nat.zero_le _, by simpa using Lw.start s1.s hL⟩, ?_⟩
    rintro i m H' ⟨rfl, hi, w⟩
    obtain ⟨B', acc, s', nB, hacc, racc⟩ := id w
    have qx : SqT K H' a0 us := SqT.of (s'.h a0 _ (s1.s a0 _ hB))
    by_cases hlt : i < us.length
    · refine .inr ⟨⟨us, _, qx, List.getElem?_eq_getElem hlt⟩, fun H2 => Lw C B1 H1 L ((ts.take (i + 1)).flatMap fun a => (List.range (n a)).map (o a)) H2, fun H2 p => ⟨us.length - (i + 1), by omega, rfl, hlt, p⟩, fun x H2 y => ?_⟩
      obtain ⟨rfl, hy⟩ := y
      obtain ⟨dz, hdz, rz⟩ := r.getV (hy us qx)
      rw [List.getElem?_map] at hdz
      cases ht : ts[i]? with
      | none => rw [ht] at hdz; cases hdz
      | some t =>
        rw [ht] at hdz
        cases hdz
        obtain ⟨r', ws, hg, hw, hta, hin⟩ := T t (List.mem_of_getElem? ht)
        have hmem := List.mem_of_getElem? ht
        refine hg (wipe σ vs) B' H2 x _ ((hS.up (s1.trans s').b).wipe vs) s'.s (rz.up s'.b) fun σ2 hS2 hl ho => ⟨wipe_same hl fun j hj => ho j fun z => hj (hw j z), ?_⟩
        unfold tYes
        dsimp only
        rw [if_pos rfl]
        refine hta σ2 B' H2 hS2 s'.s _ fun us2 B3 H3 s3 r3 => ?_
        obtain ⟨v3, ws3, rfl, h3, h4⟩ := r3.cons_inv
        rw [h4.nil_inv, h3.int_inv]
        have hb := hna t hmem
        refine ⟨(n t : Int), rfl, by omega, by omega, ?_⟩
        have ht1 : ts.take (i + 1) = ts.take i ++ [t] := by rw [List.take_add_one, ht]; rfl
        have out1 : ((ts.take (i + 1)).flatMap fun a => (List.range (n a)).map (o a)) = ((ts.take i).flatMap fun a => (List.range (n a)).map (o a)) ++ (List.range (n t)).map (o t) := by
          rw [ht1, List.flatMap_append]; simp
        have nB3 := lw_keep s3 nB hacc
        refine ⟨fun j k H' => k = n t - j ∧ j ≤ n t ∧ ∃ B4 acc4, Step B1 H1 B4 H' ∧ Sub B3 B4 ∧ B4 L = none ∧ H' L = some (.lst acc4) ∧ Reps C B4 acc4 (((ts.take i).flatMap fun a => (List.range (n a)).map (o a)) ++ (List.range j).map (o t)),
          ⟨n t, rfl, Nat.zero_le _, B3, acc, s'.trans s3, Sub.rfl', nB3, s3.h L _ hacc, by simpa using racc.up s3.b⟩, ?_⟩
        rintro j k H4 ⟨rfl, hj, B4, acc4, s4, sb4, n4, h4L, r4⟩
        have etn : ((n t : Int)).toNat = n t := Int.toNat_natCast _
        rw [etn]
        by_cases hjl : j < n t
        · obtain ⟨r2, ws2, hg1, hw1, hte⟩ := hin j hjl
          refine .inr ⟨hjl, fun H5 => ∃ B5 acc5, Step B1 H1 B5 H5 ∧ Sub B3 B5 ∧ B5 L = none ∧ H5 L = some (.lst acc5) ∧ Reps C B5 acc5 (((ts.take i).flatMap fun a => (List.range (n a)).map (o a)) ++ (List.range (j + 1)).map (o t)),
            fun H5 p => ⟨n t - (j + 1), by omega, rfl, hjl, p⟩, fun x5 H5 y5 => ?_⟩
          obtain ⟨rfl, rfl⟩ := y5
          rw [Int.zero_add]
          refine hg1 (wipe σ2 vs1) B4 H5 _ _ ((hS2.up (s3.b.trans sb4)).wipe vs1) s4.s (.int _) fun σ3 hS3 hl3 ho3 => ⟨wipe_same hl3 fun j hj => ho3 j fun z => hj (hw1 j z), ?_⟩
          dsimp only
          rw [if_pos rfl]
          refine hte σ3 B4 H5 hS3 s4.s _ fun y6 B6 H6 s6 r6 => ?_
          have ln : acc4.length < 100000 := by
            rw [r4.length, List.length_append, List.length_map, List.length_range]
            have := hn i
            omega
          refine ⟨acc4, s6.h L _ h4L, fitsLt ln, B6, acc4 ++ [y6], ⟨s4.b.trans s6.b, (s4.h.trans s6.h).side hL, s6.s.side (lw_keep s6 n4 h4L), (s4.trans s6).f⟩, sb4.trans s6.b, lw_keep s6 n4 h4L, upd_same, ?_⟩
          rw [List.range_succ, List.map_append, ← List.append_assoc]
          exact (r4.up s6.b).snoc r6
        · have ej : j = n t := by omega
          subst ej
          refine .inl ⟨Nat.le_refl _, B4, acc4, s4, n4, h4L, ?_⟩
          rw [out1]
          exact r4
    · have ei : i = us.length := by omega
      refine .inl ⟨⟨us, qx, by omega⟩, ?_⟩
      rw [ei, hul, List.take_length] at w
      obtain ⟨B5, s5, r5⟩ := w.fin hL
      exact q _ B5 H' (s1.trans s5) r5
end
end K55

set_option maxHeartbeats 2000000
/-! K55: rules of the hand layer that name the frame's facts, told for a fixed K (inside a comprehension). -/
namespace K55
open PySem PySem.Spec PyProof.Rows L2
section
variable {X : Cx} {K : PySem.W.Frag}
theorem ixT (h : X.K = K) : IxR X (rIxT K) := h ▸ ix_tup
theorem ixL (h : X.K = K) : IxR X (rIxL K) := h ▸ ix_list
theorem lenK (h : X.K = K) : CallR X (.builtin "len") (fun xs H Q => ∃ p ys, xs = [.ref p] ∧ (SqL K H p ys ∨ SqT K H p ys) ∧ Q (.int ys.length) H) := h ▸ call_len_seq
theorem tupK (h : X.K = K) : CallR X (.type "tuple") (fun xs H Q => ∃ p ys, xs = [.ref p] ∧ ((SqL K H p ys ∧ ∀ l, H l = none → Q (.ref l) (upd H l (.tup ys))) ∨ (SqT K H p ys ∧ Q (.ref p) H))) := h ▸ call_tuple_of
theorem allK (h : X.K = K) (hc : X.calm = true) : CallR X (.builtin "all") (rAll K) := h ▸ cr_all hc
theorem fldK {e : Expr} {f : Str} {ta : TE} {pos : Pos} (h : X.K = K) (he : PE X e ta) (hb : attributeBase e f X.env (eval e X.env) = eval e X.env) : PE X (.Attribute e f pos) (tFld K ta f) := h ▸ pe_fld he hb
theorem gtupK {es : List Expr} {k : Nat} {t : TGs} {n : Nat} {pos : Pos} (h : X.K = K) (hc : X.calm = true) (ht : PGs X es t) (hn : (assignEach es X.env).length = n := by rfl) (hst : (assignEach es X.env).findIdx? (·.1) = none := by rfl) : PG X (.Tuple es k pos) (gTup K n t) := h ▸ pg_tup hc ht hn hst
end
end K55

set_option maxHeartbeats 2000000
namespace K55
open PySem PySem.Spec PyProof.Rows L2
local macro_rules | `(tactic| walk_at "ev1") => `(tactic| first
  | exact v_var rfl | exact v_int | exact v_bl | exact v_non | exact v_str | exact a_nil | exact v_raw
  | apply a_cons
  | apply v_add | apply v_sub | apply v_mul | apply v_mod | apply v_fdiv | apply v_neg
  | apply v_lt | apply v_le | apply v_gt | apply v_ge | apply v_eqI | apply v_neI
  | apply v_isN | apply v_notN
  | apply b_B | apply b_test | apply b_not | apply b_and0 | apply b_or0
  | apply v_and0 | apply v_or0 | apply v_not
  | apply v_tup | apply v_lst
  | refine' v_cb ?_ c_int
  | exact Nat.le_of_ble_eq_true rfl)
local macro_rules | `(tactic| walk_at "ev") => `(tactic| repeat' walk_at "ev1")
/-- rows as a rule keeps them -/
def RowOk (q : Row) : Prop := 0 < q.ents.length ∧ q.ents.length ≤ 30 ∧ ∀ (r : Nat) e, q.ents[r]? = some e → EntOk e ∧ EntLaw q.first q.last q.ents.length r e
def Good (qs : List Row) : Prop := Joined qs ∧ qs.length ≤ 20 ∧ ∀ q, q ∈ qs → RowOk q
theorem flat_len {α β : Type} {n : Nat} (f : α → List β) : ∀ {xs : List α}, (∀ x, x ∈ xs → (f x).length ≤ n) → (xs.flatMap f).length ≤ xs.length * n
  | [], _ => by simp
  | x :: xs, h => by
    rw [List.flatMap_cons, List.length_append, List.length_cons, Nat.succ_mul]
    have h1 := h x List.mem_cons_self
    have h2 := flat_len f (xs := xs) fun y hy => h y (List.mem_cons_of_mem _ hy)
    omega
theorem flat_all {α : Type} (n : α → Nat) (xs : List α) : (xs.flatMap fun a => (List.range (n a)).map fun _ => D.bl true) = ((xs.flatMap fun a => (List.range (n a)).map fun _ => true)).map D.bl := by
  induction xs with
  | nil => rfl
  | cons x xs ih => rw [List.flatMap_cons, List.flatMap_cons, List.map_append, ih, List.map_map]; rfl
theorem flat_yes {α : Type} (n : α → Nat) (xs : List α) : (xs.flatMap fun a => (List.range (n a)).map fun _ => true).all id = true := by
  rw [List.all_eq_true]
  intro b hb
  obtain ⟨a, _, h⟩ := List.mem_flatMap.mp hb
  obtain ⟨_, _, rfl⟩ := List.mem_map.mp h
  rfl
section
variable {C : Addr} {P : Program} {w : World} {K : PySem.W.Frag} {mg : Str → Option Value} {base : Heap}
theorem c_allFlat {α : Type} {n : α → Nat} {xs : List α} : RcP C (rAll K) [.lst (xs.flatMap fun a => (List.range (n a)).map fun _ => D.bl true)] (.bl true) := by
  rw [flat_all]
  have h := c_all (C := C) (K := K) (bs := xs.flatMap fun a => (List.range (n a)).map fun _ => true)
  rw [flat_yes] at h
  exact h
/-! ### Rule.__init__ -/
abbrev s_Rule_init : Stmt := inClass (topS 26) 0
abbrev N_Rule_init : List Str := ["self", "rows", "kept", "row", "rest"]
theorem sc_Rule_init : FnScope N_Rule_init ["self", "rows"] (defScope s_Rule_init) := ⟨rfl, rfl, rfl, by decide +kernel, rfl, by decide +kernel, by decide +kernel⟩
def F_init (d : D) (rows : List D) : Prop := ∃ ps : List (Row × Bool), Good (ps.map (·.1)) ∧ d = .lst (ps.map rowIn) ∧ rows = rowsD (ps.map (·.1))
theorem ok_init {f : Addr} {fd : FuncData} (Fn : Fun K "__init__" "Rule.__init__" s_Rule_init f fd) (T : Bt K mg C) (G_is_stretch : Df P w K mg base 4 "is_stretch" ["value"] (spD C F_is_stretch))
    (G_fixed : Df P w K mg base 5 "fixed" ["value"] (spD C (F_fixed 4))) (G_are_joined : Df P w K mg base 1 "are_joined" ["rows"] (spD C F_are_joined)) (G_is_lawful : Df P w K mg base 2 "is_lawful" ["stretch", "rest"] (spD C F_is_lawful)) : FnOk P w K mg base CX0 6 f fd ["self", "rows"] (spInit C F_init) := by
  refine Fn.ok sc_Rule_init (fun vs H Q E h => ?_) fun cdv A outer s H vs Q E hr h => ?_
  · obtain ⟨B, x, dx, v, d, rows, rfl, _⟩ := h
    rfl
  obtain ⟨B, x, dx, v, d, rows, rfl, sBH, hBx, hHx, rv, ⟨ps, ⟨hj, hlen, hrow⟩, rfl, rfl⟩, k⟩ := h
  have nd := sc_Rule_init.nd
  have hl0 : 0 < ps.length := by
    have := List.length_pos_iff.mpr hj.1
    rwa [List.length_map] at this
  have hl1 : ps.length ≤ 20 := by rwa [List.length_map] at hlen
  have hp : ∀ p, p ∈ ps → RowOk p.1 := fun p h => hrow _ (List.mem_map.mpr ⟨p, h, rfl⟩)
  have hS := sat_start (C := C) (B := B) (N := N_Rule_init) (vs := [.ref x, v]) (ds := [.raw (.ref x), .lst (ps.map rowIn)]) (.cons (.raw _) (.cons rv .nil)) (by simp)
  refine ⟨_, (pss_cons (ps_if (PW.pt (pw_or (pt_not (pt_val (pe_callB call_isiT (by rfl) T.n_isinstance bo_isinstance (pa_cons (pv 1) (pa_cons (pe_tup (pa_cons (pe_bltn (v := .ty "list") (by rfl) T.n_list bo_list rfl) (pa_cons (pe_bltn (v := .ty "tuple") (by rfl) T.n_tuple bo_tuple rfl) pa_nil))) pa_nil))))) (pw_or (pt_cmpR op_eq (pe_callB call_len_seq (by rfl) T.n_len bo_len (pa_cons (pv 1) pa_nil)) pe_int (nomark _)) (pw_or1 (pt_not (pt_val (pe_callB (cr_all rfl) (by rfl) T.n_all bo_all (pa_cons (pe_lc (own := [("row", 3)]) (by rfl) nd (pi_list (pv 1)) (blkOk_by (own := [("row", 3)]) (N := N_Rule_init) (sc := defScope s_Rule_init) (by decide +kernel)) (fun _ _ _ _ _ => (pg_name (i := 3) nd rfl (.inl rfl))) (fun _ _ _ _ _ => pts_nil) (fun _ _ _ _ _ => (pcall G_is_stretch (hr.mono (by first | decide | omega)) (by rfl) (pa_cons (pv 3) pa_nil)))) pa_nil)))))))) (pss_one ps_never) pss_nil)
      (pss_cons (ps_set (i := 2) nd rfl (.inl rfl) (pcall G_fixed (hr.mono (by first | decide | omega)) (by rfl) (pa_cons (pv 1) pa_nil)))
      (pss_cons (ps_if (pt_not (pt_val (pcall G_are_joined (hr.mono (by first | decide | omega)) (by rfl) (pa_cons (pv 2) pa_nil)))) (pss_one ps_never) pss_nil)
      (pss_cons (ps_if (pt_not (pt_val (pe_callB (cr_all rfl) (by rfl) T.n_all bo_all (pa_cons (pe_lc2 (own := [("row", 3), ("rest", 4)]) (vs1 := [4]) (by rfl) nd (pi_tup (pv 2)) (blkOk_by (own := [("row", 3), ("rest", 4)]) (N := N_Rule_init) (sc := defScope s_Rule_init) (by decide +kernel)) (by decide) (fun _ _ _ _ _ => (pg_name (i := 3) nd rfl (.inl rfl))) (fun _ _ _ _ _ => pts_nil) (fun _ _ _ _ _ => (pi_range1 (by rfl) T.n_range (pa_cons (pe_callB (lenK (K := K) rfl) (by rfl) T.n_len bo_len (pa_cons (pe_ix (ixT (K := K) rfl) (pv 3) pe_int (fun _ _ => rfl)) pa_nil)) pa_nil))) (fun _ _ _ _ _ => (pg_name (i := 4) nd rfl (.inl rfl))) (fun _ _ _ _ _ => pts_nil) (fun _ _ _ _ _ => (pcall G_is_lawful (hr.mono (by first | decide | omega)) (by rfl) (pa_cons (pv 3) (pa_cons (pv 4) pa_nil))))) pa_nil)))) (pss_one ps_never) pss_nil)
      (pss_one (ps_fld (pv 0) (pv 2) rfl)))))), ?_⟩
  refine run_then (R := fun _ _ => False) (run_ifN (b := false) ?_ rfl (run_next fun _ _ h => h)) hS sBH (fun σ1 B1 H1 s1 hS1 => ?_) ?_
  · refine b_orF (a := false) (b_not (b_B (v_cb (a_cons (v_var rfl) (a_cons (v_tup (a_cons v_raw (a_cons v_raw a_nil)) (Nat.le_of_ble_eq_true rfl)) a_nil)) (c_isiT (c := "list") (c' := "tuple") (b := true) (b' := false) (.lst _) (by decide +kernel) (by decide +kernel))))) rfl ?_
    refine b_orF (a := false) ((b_test (v_eqI (v_cb (a_cons (v_var rfl) a_nil) (c_len (.inl rfl))) v_int)).is (decide_eq_false (by rw [List.length_map]; omega))) rfl ?_
    refine (b_not (b_B (v_cb (a_cons (v_lcL (ts := ps) (enc := rowIn) (f := fun _ => true) (o := fun _ => .bl true) (v_var rfl) (by omega) fun p h => ⟨_, _, g_name, by simp, b_yes, fun _ => v_call0 (a_cons (v_var rfl) a_nil) ⟨p, ?_, ?_, ?_, rfl, rfl⟩⟩) a_nil) c_allT)))
    · exact List.length_pos_iff.mp (hp p h).1
    · have := (hp p h).2.1; omega
    · intro e he a b c hc
      obtain ⟨r, hr'⟩ := List.getElem?_of_mem he
      have := ((hp p h).2.2 r e hr').1
      subst hc
      exact this.2.1
  · refine run_then (R := fun _ _ => False) (run_set (v_call0 (a_cons (v_var rfl) a_nil) ⟨.lst (ps.map rowIn), dep_rowsIn ps, ?_, ?_, rfl, rfl⟩)) hS1 s1.s (fun σ2 B2 H2 s2 hS2 => ?_) ?_
    · exact plains_of fun x hx => by
        obtain ⟨p, _, rfl⟩ := List.mem_map.mp hx
        exact plain_rowIn p
    · exact fit_rowsIn ps (by omega) fun p h => by have := (hp p h).2.1; omega
    · rw [fixD_rowsIn] at hS2
      refine run_then (R := fun _ _ => False) (run_ifN (b := false) (b_not (b_B (v_call0 (F := F_are_joined) (ds := [.tup (rowsD (ps.map (·.1)))]) (a_cons (v_var rfl) a_nil) ⟨ps.map (·.1), hj, rfl, rfl⟩))) rfl (run_next fun _ _ h => h)) hS2 s2.s (fun σ3 B3 H3 s3 hS3 => ?_) ?_
      · refine run_then (R := fun _ _ => False) (run_ifN (b := false) (b_not (b_B (v_cb (a_cons (v_lc2 (ts := ps.map (·.1)) (enc := rowD) (n := fun q => q.ents.length) (o := fun _ _ => .bl true) (v_var rfl) ?_ ?_ ?_) a_nil) c_allFlat))) rfl (run_next fun _ _ h => h)) hS3 s3.s (fun σ4 B4 H4 s4 hS4 => ?_) ?_
        · intro i
          have := flat_len (n := 30) (fun q : Row => (List.range q.ents.length).map fun _ => D.bl true) (xs := (ps.map (·.1)).take i) fun q hq => by
            rw [List.length_map, List.length_range]
            exact (hrow q (List.mem_of_mem_take hq)).2.1
          have h2 : ((ps.map (·.1)).take i).length ≤ 20 := by rw [List.length_take]; omega
          omega
        · intro q hq
          have := (hrow q hq).2.1; omega
        · intro q hq
          refine ⟨_, _, g_name, by simp, a_cons ((v_cb (a_cons (v_ixT (z := .tup (q.ents.map eD)) (v_var rfl) v_int rfl) a_nil) (c_len (.inr rfl))).is (by rw [List.length_map])) a_nil, fun i hi => ⟨_, _, g_name, by simp, ?_⟩⟩
          have hg : q.ents[i]? = some q.ents[i] := List.getElem?_eq_getElem hi
          exact v_call0 (F := F_is_lawful) (ds := [rowD q, .int i]) (a_cons (v_var rfl) (a_cons (v_var rfl) a_nil)) ⟨q, i, _, hg, ((hrow q hq).2.2 i _ hg).1, ((hrow q hq).2.2 i _ hg).2, rfl, rfl⟩
        · obtain ⟨u1, hu1, ru1⟩ := hS4.get 0 _ rfl
          obtain ⟨u2, hu2, ru2⟩ := hS4.get 2 _ rfl
          have st := ((s1.trans s2).trans s3).trans s4
          have hx4 := st.h x _ hHx
          have nx4 : B4 x = none := by
            cases q : B4 x with
            | none => rfl
            | some o => have := st.f x o q hBx; rw [hHx] at this; cases this
          cases ru1.raw_inv
          refine ⟨u2, hu2, _, hu1, x, C, dx, [], rfl, hx4, T.cl, T.nR, by decide, ?_⟩
          refine k B4 _ u2 st.b (s4.s.side nx4) nx4 (fun a o ne q => ?_) st.f upd_same ru2
          rw [upd_ne ne]
          exact st.h a o q
        · exact fun v B5 H5 s5 z => z.elim
      · exact fun v B5 H5 s5 z => z.elim
    · exact fun v B5 H5 s5 z => z.elim
  · exact fun v B5 H5 s5 z => z.elim
/-! ### entries_at, at -/
/-- the row that counts at n; the entry -/
def rowAt (qs : List Row) (n : Int) : Option Row := qs.find? fun q => match q.last with
  | none => true
  | some l => decide (n ≤ l)
abbrev s_Rule_entries_at : Stmt := inClass (topS 26) 2
abbrev N_Rule_entries_at : List Str := ["self", "number", "found", "first", "last", "entries"]
theorem sc_Rule_entries_at : FnScope N_Rule_entries_at ["self", "number"] (defScope s_Rule_entries_at) := ⟨rfl, rfl, rfl, by decide +kernel, rfl, by decide +kernel, by decide +kernel⟩
def F_entries_at (ds : List D) (d : D) : Prop := ∃ (qs : List Row) (n : Int) (q : Row), qs.length ≤ 100 ∧ rowAt qs n = some q ∧ ds = [.rule (rowsD qs), .int n] ∧ d = .tup (q.ents.map eD)
theorem ok_entries_at {f : Addr} {fd : FuncData} (Fn : Fun K "entries_at" "Rule.entries_at" s_Rule_entries_at f fd) (T : Bt K mg C) : FnOk P w K mg base CX0 1 f fd ["self", "number"] (spD C F_entries_at) := by
  refine def_ok Fn sc_Rule_entries_at (by decide) (fun ds d h => by obtain ⟨_, _, _, _, _, rfl, _⟩ := h; rfl) fun cdv A outer s H E hr ds d hF => ?_
  obtain ⟨qs, n, q, hl, hq, rfl, rfl⟩ := hF
  have nd := sc_Rule_entries_at.nd
  refine ⟨_, (pss_cons (ps_setLc (i := 2) (own := [("first", 3), ("last", 4), ("entries", 5)]) (by rfl) nd rfl rfl (sw_true rfl rfl rfl (by decide +kernel)) (pi_tup (pe_fld (pv 0) rfl)) (blkOk_by (own := [("first", 3), ("last", 4), ("entries", 5)]) (N := N_Rule_entries_at) (sc := defScope s_Rule_entries_at) (by decide +kernel)) (fun _ _ _ _ _ => (gtupK (K := K) (n := 3) rfl rfl (pgs_cons (pg_name (i := 3) nd rfl (.inl rfl)) (pgs_cons (pg_name (i := 4) nd rfl (.inl rfl)) (pgs_cons (pg_name (i := 5) nd rfl (.inl rfl)) pgs_nil))))) (fun _ _ _ _ _ => (pts_one (PW.pt (pw_or (pt_cmp (pc_isN (pv 4))) (pw_or1 (pt_cmpR op_le (pv 1) (pv 4) (nomark _))))))) (fun _ _ _ _ _ => (pv 5)))
      (pss_one (ps_ret (pe_ix ix_list (pv 2) pe_int (fun _ _ => rfl))))), ?_⟩
  refine run_let (v_lcT (ts := qs) (enc := rowD) (f := fun q => match q.last with | none => true | some l => decide (n ≤ l)) (o := fun q => .tup (q.ents.map eD)) (v_rows (v_var rfl) T.cl T.nR) (by omega) fun p hp => ⟨_, _, g_tup (gs_cons g_name (gs_cons g_name (gs_cons g_name gs_nil))) rfl, by simp, ?_, fun _ => v_var rfl⟩) ?_
  · obtain ⟨a, b, c⟩ := p
    cases b with
    | none => exact b_orT (b_B (v_isN (x := .non) (v_var rfl))) rfl
    | some l => exact b_orF (b_B (v_isN (x := .int l) (v_var rfl))) rfl (b_test (v_le (v_var rfl) (v_var rfl)))
  · refine run_back (v_ixL (v_var rfl) v_int ?_) rfl
    have h2 := List.head?_filter (p := fun q : Row => match q.last with | none => true | some l => decide (n ≤ l)) (l := qs)
    have h3 : (qs.filter fun q : Row => match q.last with | none => true | some l => decide (n ≤ l))[0]? = some q := by
      rw [← List.head?_eq_getElem?]
      exact h2.trans hq
    exact atI_of (by omega) (by
      show (List.map _ _)[0]? = _
      rw [List.getElem?_map, h3]; rfl)
/-- the entry that counts at n, what it tells -/
def ent (qs : List Row) (n : Int) : Ent := match rowAt qs n with
  | none => none
  | some q => (q.ents[(n % q.ents.length).toNat]?).getD none
def tell (qs : List Row) (n : Int) : Option Int := entTell (ent qs n) n
theorem ent_of {qs : List Row} {n : Int} {q : Row} (h : rowAt qs n = some q) (hl : 0 < q.ents.length) : q.ents[(n % q.ents.length).toNat]? = some (ent qs n) := by
  have h1 := mod_lo n (show (0 : Int) < q.ents.length by omega)
  have h2 := mod_hi n (show (0 : Int) < q.ents.length by omega)
  have h3 : (n % q.ents.length).toNat < q.ents.length := by omega
  unfold ent
  rw [h]
  show q.ents[(n % q.ents.length).toNat]? = some ((q.ents[(n % q.ents.length).toNat]?).getD none)
  rw [List.getElem?_eq_getElem h3]; rfl
theorem rowAt_mem {qs : List Row} {n : Int} {q : Row} (h : rowAt qs n = some q) : q ∈ qs := List.mem_of_find?_eq_some h
theorem rowAt_some {qs : List Row} (g : Good qs) (n : Int) : ∃ q, rowAt qs n = some q ∧ q ∈ qs ∧ RowOk q := by
  have hl : 0 < qs.length := List.length_pos_iff.mpr g.1.1
  have e2 : qs[qs.length - 1]? = some qs[qs.length - 1] := List.getElem?_eq_getElem (by omega)
  have h := g.1.2.2.1 _ e2
  cases q1 : rowAt qs n with
  | some q => exact ⟨q, rfl, rowAt_mem q1, g.2.2 q (rowAt_mem q1)⟩
  | none =>
    have := List.find?_eq_none.mp q1 _ (List.mem_of_getElem? e2)
    rw [h] at this
    exact absurd rfl this
abbrev s_Rule_at : Stmt := inClass (topS 26) 3
abbrev N_Rule_at : List Str := ["self", "number", "entries", "entry"]
theorem sc_Rule_at : FnScope N_Rule_at ["self", "number"] (defScope s_Rule_at) := ⟨rfl, rfl, rfl, by decide +kernel, rfl, by decide +kernel, by decide +kernel⟩
def F_at (ds : List D) (d : D) : Prop := ∃ (qs : List Row) (n : Int), Good qs ∧ ds = [.rule (rowsD qs), .int n] ∧ d = oi (tell qs n)
theorem ok_at {f : Addr} {fd : FuncData} {dvs : List V} (Fn : Fun K "at" "Rule.at" s_Rule_at f fd) (T : Bt K mg C) (G_Rule_entries_at : Dm P w K mg base C 1 "entries_at" ["self", "number"] (spD C F_entries_at)) (hd : ∀ B, Reps C B dvs [.non, .non])
    (G_need_number : DfD P w K mg base 3 "need_number" ["value", "part", "least", "most"] dvs (spD C F_need_number)) (G_worth_at : Df P w K mg base 1 "worth_at" ["entry", "number"] (spD C F_worth_at)) : FnOk P w K mg base CX0 4 f fd ["self", "number"] (spD C F_at) := by
  refine def_ok Fn sc_Rule_at (by decide) (fun ds d h => by obtain ⟨_, _, _, rfl, _⟩ := h; rfl) fun cdv A outer s H E hr ds d hF => ?_
  obtain ⟨qs, n, g, rfl, rfl⟩ := hF
  have nd := sc_Rule_at.nd
  obtain ⟨q, h1, h2, h3⟩ := rowAt_some g n
  have he := ent_of h1 h3.1
  have hok := (h3.2.2 _ _ he).1
  have hl : (0 : Int) < q.ents.length := by have := h3.1; omega
  refine ⟨_, (pss_cons (ps_expr (pcallD G_need_number (hr.mono (by first | decide | omega)) (by rfl) (pa_cons (pv 1) (pa_cons pe_str pa_nil))))
      (pss_cons (ps_set (i := 2) nd rfl (.inl rfl) (pmeth T.cl G_Rule_entries_at (hr.mono (by first | decide | omega)) (pv 0) (pa_cons (pv 1) pa_nil)))
      (pss_cons (ps_set (i := 3) nd rfl (.inl rfl) (pe_ix ix_tup (pv 2) (pe_op op_mod (pe_callTy call_int1 (by rfl) T.n_int bo_int (pa_cons (pv 1) pa_nil)) (pe_callB call_len_seq (by rfl) T.n_len bo_len (pa_cons (pv 2) pa_nil))) (fun _ _ => rfl)))
      (pss_one (ps_ret (pe_ifExp (pt_cmp (pc_isN (pv 3))) pe_non (pcall G_worth_at (hr.mono (by first | decide | omega)) (by rfl) (pa_cons (pv 3) (pa_cons (pv 1) pa_nil))))))))), ?_⟩
  refine run_seq (ρ1 := [some (.rule (rowsD qs)), some (.int n), none, none]) (run_drop (v_call (F := F_need_number) (ds := [.int n, .str "number"]) (es := [.non, .non]) (d := .non) (a_cons (v_var rfl) (a_cons v_str a_nil)) hd ⟨n, _, rfl, rfl⟩) fun _ _ h => h) ?_
  refine run_let (v_meth (F := F_entries_at) (v_var rfl) (a_cons (v_var rfl) a_nil) (by decide +kernel) ⟨qs, n, q, Nat.le_trans g.2.1 (by decide), h1, rfl, rfl⟩) ?_
  refine run_let (d := eD (ent qs n)) (v_ixT (v_var rfl) (v_mod (v_cb (a_cons (v_var rfl) a_nil) c_int) (v_cb (a_cons (v_var rfl) a_nil) (c_len (.inr rfl))) (by rw [List.length_map]; exact hl)) (by rw [List.length_map]; exact atI_map eD (atI_of (mod_lo n hl) he))) ?_
  unfold tell
  cases q4 : ent qs n with
  | none => exact run_ret (v_ifY (b_B (v_isN (x := .non) (v_var rfl))) rfl v_non)
  | some p =>
    obtain ⟨a, b, c⟩ := p
    rw [q4] at hok
    exact run_ret (v_ifN (b_B (v_isN (x := eD (some (a, b, c))) (v_var rfl))) rfl (v_call0 (F := F_worth_at) (ds := [eD (some (a, b, c)), .int n]) (a_cons (v_var rfl) (a_cons (v_var rfl) a_nil)) ⟨a, b, c, n, hok, rfl, rfl⟩))
/-! ### need_rule -/
abbrev s_need_rule : Stmt := topS 27
abbrev N_need_rule : List Str := ["value", "part"]
theorem sc_need_rule : FnScope N_need_rule ["value", "part"] (defScope s_need_rule) := ⟨rfl, rfl, rfl, by decide +kernel, rfl, by decide +kernel, by decide +kernel⟩
def F_need_rule (ds : List D) (d : D) : Prop := ∃ (qs : List D) (p : Str), ds = [.rule qs, .str p] ∧ d = .non
theorem ok_need_rule {f : Addr} {fd : FuncData} {dvs : List V} (Fn : FunD K "need_rule" "need_rule" (defArgs s_need_rule) (defBody s_need_rule) (defScope s_need_rule) dvs [] f fd) (T : Bt K mg C) : FnOk P w K mg base CX0 1 f fd ["value", "part"] (spD C F_need_rule) := by
  refine def_okD Fn sc_need_rule (by decide) (fun ds d h => by obtain ⟨_, _, rfl, _⟩ := h; rfl) fun cdv A outer s H E hr ds d hF => ?_
  obtain ⟨qs, p, rfl, rfl⟩ := hF
  have nd := sc_need_rule.nd
  refine ⟨_, (pss_one (ps_if (pt_not (pt_val (pe_callB (C8.call_isC T.ic) (by rfl) T.n_isinstance bo_isinstance (pa_cons (pv 0) (pa_cons (pe_glob (v := .ref C) (by rfl) T.mgC rfl) pa_nil))))) (pss_one ps_never) pss_nil)), ?_⟩
  exact run_ifN (b := false) (b_not (b_B (v_cb (a_cons (v_var rfl) (a_cons v_raw a_nil)) c_isC))) rfl (run_next fun _ _ _ => rfl)
end
end K55

set_option maxHeartbeats 2000000
/-! K55: statements over lists that change (not settled): triples. -/
namespace K55
open PySem PySem.Spec PyProof.Rows L2
abbrev As := Hp → Hp → Prop
/-- an assertion over (settled, all) that steps keep -/
structure OkI (I : As) : Prop where
  sub : ∀ {B H : Hp}, I B H → Sub B H
  up : ∀ {B H B' H' : Hp}, Step B H B' H' → I B H → I B' H'
theorem okFr (B0 H0 : Hp) : OkI (Step B0 H0) := ⟨fun h => h.s, fun s h => h.trans s⟩
section
variable {C : Addr} {K : PySem.W.Frag} {ρ ρ1 : Env} {ta : TA} {te tl : TE} {tt : TT} {t u tb : TS} {g : TG} {x y d : D} {I I1 J : As} {N N' : L2.St → As} {R R' : V → As} {b : Bool} {L : Addr} {out : List D} {j : Nat}
/-- the list at L, not settled: what it holds -/
def Cl (C : Addr) (L : Addr) (out : List D) : As := fun B H => B L = none ∧ ∃ acc, H L = some (.lst acc) ∧ Reps C B acc out
theorem Cl.up {B H B' H' : Hp} (s : Step B H B' H') (h : Cl C L out B H) : Cl C L out B' H' := by
  obtain ⟨n, acc, h, r⟩ := h
  exact ⟨lw_keep s n h, acc, s.h _ _ h, r.up s.b⟩
def And2 (I J : As) : As := fun B H => I B H ∧ J B H
theorem okAnd (h : OkI I) (hJ : ∀ {B H B' H' : Hp}, Step B H B' H' → J B H → J B' H') : OkI (And2 I J) := ⟨fun q => h.sub q.1, fun s q => ⟨h.up s q.1, hJ s q.2⟩⟩
theorem okCl (h : OkI I) : OkI (And2 I (Cl C L out)) := okAnd h Cl.up

def Tr (C : Addr) (t : TS) (ρ : Env) (I : As) (N : L2.St → As) (R : V → As) : Prop := ∀ (Z : Ends) σ B H, Sat C σ B ρ → I B H →
  (∀ σ' B' H', Sub B B' → N σ' B' H' → Z.nx σ' H') → (∀ v B' H', Sub B B' → R v B' H' → Z.rt v H') → t Z σ H
def ToI (C : Addr) (ρ : Env) (I : As) : L2.St → As := fun σ B H => Sat C σ B ρ ∧ I B H
theorem tr_run {N : L2.St → Hp → Prop} {R : V → Hp → Prop} (ok : OkI I) (h : Run C t ρ N R) : Tr C t ρ I (fun σ B H => N σ B ∧ I B H) (fun v B H => R v B ∧ I B H) := fun Z σ B H hs hI q1 q2 =>
  h Z σ B H hs (ok.sub hI) (fun σ' B' H' s n => q1 σ' B' H' s.b ⟨n, ok.up s hI⟩) fun v B' H' s r => q2 v B' H' s.b ⟨r, ok.up s hI⟩
theorem Tr.imp (h : Tr C t ρ I N R) (hn : ∀ σ B H, N σ B H → N' σ B H) (hr : ∀ v B H, R v B H → R' v B H) : Tr C t ρ I N' R' := fun Z σ B H hs hI q1 q2 =>
  h Z σ B H hs hI (fun σ' B' H' s n => q1 σ' B' H' s (hn _ _ _ n)) fun v B' H' s r => q2 v B' H' s (hr _ _ _ r)
theorem Tr.pre (h : Tr C t ρ1 I1 N R) (hp : ∀ σ B H, Sat C σ B ρ → I B H → Sat C σ B ρ1 ∧ I1 B H) : Tr C t ρ I N R := fun Z σ B H hs hI q1 q2 =>
  h Z σ B H (hp σ B H hs hI).1 (hp σ B H hs hI).2 q1 q2
theorem tr_ex {α : Sort _} {I : α → As} (h : ∀ a, Tr C t ρ (I a) N R) : Tr C t ρ (fun B H => ∃ a, I a B H) N R := fun Z σ B H hs hI q1 q2 => let ⟨a, hI⟩ := hI; h a Z σ B H hs hI q1 q2
theorem tr_pure {p : Prop} (h : p → Tr C t ρ I N R) : Tr C t ρ (fun B H => p ∧ I B H) N R := fun Z σ B H hs hI q1 q2 => h hI.1 Z σ B H hs hI.2 q1 q2
theorem tr_seq (h1 : Tr C t ρ I (ToI C ρ1 I1) R) (h2 : Tr C u ρ1 I1 N R) : Tr C (tSeq t u) ρ I N R := fun Z σ B H hs hI q1 q2 =>
  h1 { Z with nx := u Z } σ B H hs hI (fun σ1 B1 H1 s1 n => h2 Z σ1 B1 H1 n.1 n.2 (fun σ2 B2 H2 s2 n2 => q1 σ2 B2 H2 (s1.trans s2) n2) fun v B2 H2 s2 r => q2 v B2 H2 (s1.trans s2) r) q2
theorem tr_seqE {α : Sort _} {ρ1 : α → Env} {I1 : α → As} (h1 : Tr C t ρ I (fun σ B H => ∃ a, ToI C (ρ1 a) (I1 a) σ B H) R) (h2 : ∀ a, Tr C u (ρ1 a) (I1 a) N R) : Tr C (tSeq t u) ρ I N R := fun Z σ B H hs hI q1 q2 =>
  h1 { Z with nx := u Z } σ B H hs hI (fun σ1 B1 H1 s1 ⟨a, n⟩ => h2 a Z σ1 B1 H1 n.1 n.2 (fun σ2 B2 H2 s2 n2 => q1 σ2 B2 H2 (s1.trans s2) n2) fun v B2 H2 s2 r => q2 v B2 H2 (s1.trans s2) r) q2
/-- a statement that keeps I, ahead of the rest -/
theorem tr_fst {R' : V → Hp → Prop} (ok : OkI I) (h1 : Run C t ρ (To C ρ1) R') (hr : ∀ v B H, R' v B → I B H → R v B H) (h2 : Tr C u ρ1 I N R) : Tr C (tSeq t u) ρ I N R :=
  tr_seq ((tr_run ok h1).imp (fun _ _ _ z => z) fun v B H z => hr v B H z.1 z.2) h2
theorem tr_let {i : Nat} (ok : OkI I) (h : EvP C te ρ d) (h2 : Tr C u (ρ.set i (some d)) I N R) : Tr C (tSeq (tAsg te (gName i)) u) ρ I N R := tr_fst (R' := fun _ _ => False) ok (run_set h) (fun _ _ _ z _ => z.elim) h2
theorem tr_let2 {i j : Nat} (ok : OkI I) (h : EvA C ta ρ [x, y]) (h2 : Tr C u ((ρ.set i (some x)).set j (some y)) I N R) : Tr C (tSeq (tPar i j ta) u) ρ I N R := tr_fst (R' := fun _ _ => False) ok (run_par h) (fun _ _ _ z _ => z.elim) h2
theorem tr_lets {g : TG} {vs : List Nat} (ok : OkI I) (h : EvP C te ρ d) (hg : Asg C g ρ d ρ1 vs) (h2 : Tr C u ρ1 I N R) : Tr C (tSeq (tAsg te g) u) ρ I N R := tr_fst (R' := fun _ _ => False) ok (run_asg h hg) (fun _ _ _ z _ => z.elim) h2
theorem tr_do (ok : OkI I) (h : EvP C te ρ d) (h2 : Tr C u ρ I N R) : Tr C (tSeq (tDrop te) u) ρ I N R := tr_fst (R' := fun _ _ => False) (ρ1 := ρ) ok (run_drop h fun _ _ z => z) (fun _ _ _ z _ => z.elim) h2
theorem tr_next (h : ∀ σ B H, Sat C σ B ρ → I B H → N σ B H) : Tr C tNext ρ I N R := fun Z σ B H hs hI q1 q2 => q1 σ B H Sub.rfl' (h σ B H hs hI)
theorem tr_ret (ok : OkI I) (h : EvP C te ρ d) (hr : ∀ v B H, Rep C B v d → I B H → R v B H) : Tr C (tRet te) ρ I N R :=
  (tr_run (N := fun _ _ => False) ok (run_ret h)).imp (fun _ _ _ z => z.1.elim) fun v B H z => hr v B H z.1 z.2
theorem tr_if (ok : OkI I) (h : EvB C tt ρ b) (h1 : b = true → Tr C t ρ I N R) (h2 : b = false → Tr C u ρ I N R) : Tr C (tIfS tt t u) ρ I N R := fun Z σ B H hs hI q1 q2 =>
  h σ B H hs (ok.sub hI) _ fun B1 H1 s1 => by
    cases b with
    | true => exact iteT (h1 rfl Z σ B1 H1 (hs.up s1.b) (ok.up s1 hI) (fun σ2 B2 H2 s2 z => q1 σ2 B2 H2 (s1.b.trans s2) z) fun v B2 H2 s2 z => q2 v B2 H2 (s1.b.trans s2) z)
    | false => exact iteF (h2 rfl Z σ B1 H1 (hs.up s1.b) (ok.up s1 hI) (fun σ2 B2 H2 s2 z => q1 σ2 B2 H2 (s1.b.trans s2) z) fun v B2 H2 s2 z => q2 v B2 H2 (s1.b.trans s2) z)
/-- an if that returns, ahead of the rest; passed by -/
theorem tr_out (ok : OkI I) (h : EvB C tt ρ b) (e : b = true) (h1 : Tr C t ρ I (fun _ _ _ => False) R) : Tr C (tSeq (tIfS tt t tNext) u) ρ I N R := fun Z σ B H hs hI q1 q2 =>
  tr_if (u := tNext) (N := fun _ _ _ => False) ok h (fun _ => h1) (fun z => by rw [e] at z; cases z) { Z with nx := u Z } σ B H hs hI (fun _ _ _ _ z => z.elim) q2
theorem tr_by (ok : OkI I) (h : EvB C tt ρ b) (e : b = false) (h1 : Tr C u ρ I N R) : Tr C (tSeq (tIfS tt t tNext) u) ρ I N R := fun Z σ B H hs hI q1 q2 =>
  tr_if (t := t) (u := tNext) (N := ToI C ρ I) (R := R) ok h (fun z => by rw [e] at z; cases z) (fun _ => tr_next fun _ _ _ a b => ⟨a, b⟩) { Z with nx := u Z } σ B H hs hI (fun σ1 B1 H1 s1 n => h1 Z σ1 B1 H1 n.1 n.2 (fun σ2 B2 H2 s2 n2 => q1 σ2 B2 H2 (s1.trans s2) n2) fun v B2 H2 s2 r => q2 v B2 H2 (s1.trans s2) r) q2

/-! ### loops -/
theorem tr_forL {items : List D} (ok : OkI I) (h : EvP C tl ρ (.lst items)) (ρs : Nat → Env) (Is : Nat → As) (h0 : ∀ σ B H, Sat C σ B ρ → I B H → Sat C σ B (ρs 0) ∧ Is 0 B H) (oks : ∀ i B H, Is i B H → Sub B H)
    (hs : ∀ (i : Nat) (x : D), items[i]? = some x → ∃ ρ1 vs, Asg C g (ρs i) x ρ1 vs ∧ Tr C tb ρ1 (Is i) (ToI C (ρs (i + 1)) (Is (i + 1))) R)
    (hd : ∀ σ B H, Sat C σ B (ρs items.length) → Is items.length B H → N σ B H) : Tr C (tFor (iList K tl) g tb) ρ I N R := fun Z σ B H hS hI q1 q2 =>
  h σ B H hS (ok.sub hI) _ fun v B1 H1 s1 r1 => by
    obtain ⟨a, us, rfl, hB, r⟩ := r1.lst_inv
    have i0 := h0 σ B1 H1 (hS.up s1.b) (ok.up s1 hI)
    refine ⟨a, rfl, ⟨us, SqL.of (s1.s a _ hB)⟩, ?_⟩
    refine for_list (xs := us) (fun i σ' H' => ∃ B', Sub B1 B' ∧ Sat C σ' B' (ρs i) ∧ Is i B' H') ⟨B1, Sub.rfl', i0.1, i0.2⟩ ?_ ?_ ?_
    · rintro i σ' H' _ ⟨B', s', _, hi⟩
      exact SqL.of (oks i B' H' hi a _ (s' a _ hB))
    · rintro i z σ' H' hi ⟨B', s', hS', hF⟩
      obtain ⟨dz, hdz, rz⟩ := r.getV hi
      obtain ⟨ρ1, vs, hg, hb⟩ := hs i dz hdz
      refine hg σ' B' H' z _ hS' (oks i B' H' hF) (rz.up s') fun σ2 hS2 _ _ => ?_
      exact hb _ σ2 B' H' hS2 hF (fun σ3 B3 H3 s3 z3 => ⟨B3, s'.trans s3, z3.1, z3.2⟩) fun v3 B3 H3 s3 z3 => q2 v3 B3 H3 ((s1.b.trans s').trans s3) z3
    · rintro σ' H' ⟨B', s', hS', hF⟩
      rw [r.length] at hS' hF
      exact q1 σ' B' H' (s1.b.trans s') (hd σ' B' H' hS' hF)
theorem tr_forT {items : List D} (ok : OkI I) (h : EvP C tl ρ (.tup items)) (ρs : Nat → Env) (Is : Nat → As) (h0 : ∀ σ B H, Sat C σ B ρ → I B H → Sat C σ B (ρs 0) ∧ Is 0 B H) (oks : ∀ i B H, Is i B H → Sub B H)
    (hs : ∀ (i : Nat) (x : D), items[i]? = some x → ∃ ρ1 vs, Asg C g (ρs i) x ρ1 vs ∧ Tr C tb ρ1 (Is i) (ToI C (ρs (i + 1)) (Is (i + 1))) R)
    (hd : ∀ σ B H, Sat C σ B (ρs items.length) → Is items.length B H → N σ B H) : Tr C (tFor (iTup K tl) g tb) ρ I N R := fun Z σ B H hS hI q1 q2 =>
  h σ B H hS (ok.sub hI) _ fun v B1 H1 s1 r1 => by
    obtain ⟨a, us, rfl, hB, r⟩ := r1.tup_inv
    have i0 := h0 σ B1 H1 (hS.up s1.b) (ok.up s1 hI)
    refine ⟨a, rfl, ⟨us, SqT.of (s1.s a _ hB)⟩, ?_⟩
    refine for_tup (xs := us) (fun i σ' H' => ∃ B', Sub B1 B' ∧ Sat C σ' B' (ρs i) ∧ Is i B' H') ⟨B1, Sub.rfl', i0.1, i0.2⟩ ?_ ?_ ?_
    · rintro i σ' H' _ ⟨B', s', _, hi⟩
      exact SqT.of (oks i B' H' hi a _ (s' a _ hB))
    · rintro i z σ' H' hi ⟨B', s', hS', hF⟩
      obtain ⟨dz, hdz, rz⟩ := r.getV hi
      obtain ⟨ρ1, vs, hg, hb⟩ := hs i dz hdz
      refine hg σ' B' H' z _ hS' (oks i B' H' hF) (rz.up s') fun σ2 hS2 _ _ => ?_
      exact hb _ σ2 B' H' hS2 hF (fun σ3 B3 H3 s3 z3 => ⟨B3, s'.trans s3, z3.1, z3.2⟩) fun v3 B3 H3 s3 z3 => q2 v3 B3 H3 ((s1.b.trans s').trans s3) z3
    · rintro σ' H' ⟨B', s', hS', hF⟩
      rw [r.length] at hS' hF
      exact q1 σ' B' H' (s1.b.trans s') (hd σ' B' H' hS' hF)
theorem tr_forR1 {j : Int} (ok : OkI I) (h : EvA C ta ρ [.int j]) (hr : -(2 ^ 62) ≤ j ∧ j < 2 ^ 62) (ρs : Nat → Env) (Is : Nat → As) (h0 : ∀ σ B H, Sat C σ B ρ → I B H → Sat C σ B (ρs 0) ∧ Is 0 B H) (oks : ∀ i B H, Is i B H → Sub B H)
    (hs : ∀ (n : Nat), n < j.toNat → ∃ ρ1 vs, Asg C g (ρs n) (.int n) ρ1 vs ∧ Tr C tb ρ1 (Is n) (ToI C (ρs (n + 1)) (Is (n + 1))) R)
    (hd : ∀ σ B H, Sat C σ B (ρs j.toNat) → Is j.toNat B H → N σ B H) : Tr C (tFor (iRng1 ta) g tb) ρ I N R := fun Z σ B H hS hI q1 q2 =>
  h σ B H hS (ok.sub hI) _ fun vs B1 H1 s1 r1 => by
    obtain ⟨v, ws, rfl, h1, h2⟩ := r1.cons_inv
    rw [h2.nil_inv, h1.int_inv]
    have i0 := h0 σ B1 H1 (hS.up s1.b) (ok.up s1 hI)
    refine ⟨j, rfl, hr.1, hr.2, ?_⟩
    refine for_range (fun i σ' H' => ∃ B', Sub B1 B' ∧ Sat C σ' B' (ρs i) ∧ Is i B' H') ⟨B1, Sub.rfl', i0.1, i0.2⟩ ?_ ?_
    · rintro n σ' H' hi ⟨B', s', hS', hF⟩
      obtain ⟨ρ1, vs, hg, hb⟩ := hs n hi
      rw [Int.zero_add]
      refine hg σ' B' H' _ _ hS' (oks n B' H' hF) (.int _) fun σ2 hS2 _ _ => ?_
      exact hb _ σ2 B' H' hS2 hF (fun σ3 B3 H3 s3 z3 => ⟨B3, s'.trans s3, z3.1, z3.2⟩) fun v3 B3 H3 s3 z3 => q2 v3 B3 H3 ((s1.b.trans s').trans s3) z3
    · rintro σ' H' ⟨B', s', hS', hF⟩
      exact q1 σ' B' H' (s1.b.trans s') (hd σ' B' H' hS' hF)

/-! ### the list that grows -/
theorem tr_app {K : PySem.W.Frag} (ok : OkI J) (hu : ∀ {B H : Hp} {o : HO}, B L = none → J B H → J B (upd H L o)) (hj : ρ[j]? = some (some (.raw (.ref L)))) (h : EvP C te ρ d) (hl : out.length < 100000) :
    Tr C (tDrop (tBM K "list" rAppend (tVar j) (tCons te tNil))) ρ (And2 J (Cl C L out)) (ToI C ρ (And2 J (Cl C L (out ++ [d])))) R := fun Z σ B H hS hI q1 q2 => by
  obtain ⟨v, hv, rv⟩ := hS.get j _ hj
  cases rv.raw_inv
  obtain ⟨hJ, n, acc, hL, r⟩ := id hI
  refine ⟨_, hv, ?_, h σ B H hS (ok.sub hJ) _ fun y B1 H1 s1 r1 => ?_⟩
  · exact .inl ⟨rfl, acc, SqL.of hL⟩
  · refine ⟨L, acc, y, rfl, rfl, s1.h L _ hL, by rw [r.length]; exact fitsLt hl, ?_⟩
    have n1 := lw_keep s1 n hL
    exact q1 σ B1 _ s1.b ⟨hS.up s1.b, hu n1 (ok.up s1 hJ), n1, _, upd_same, (r.up s1.b).snoc r1⟩
theorem fr_upd {B0 H0 : Hp} (hL : H0 L = none) {B H : Hp} {o : HO} (n : B L = none) (h : Step B0 H0 B H) : Step B0 H0 B (upd H L o) :=
  ⟨h.b, fun a u q => by rw [upd_ne (ne_of_none q hL)]; exact h.h a u q, h.s.side n, h.f⟩
theorem fr_settle {B0 H0 : Hp} (hL : H0 L = none) {B H : Hp} {o : HO} (n : B L = none) (e : H L = some o) (h : Step B0 H0 B H) : Step B0 H0 (upd B L o) H :=
  ⟨h.b.side (by cases q : B0 L with | none => rfl | some u => rw [h.b L u q] at n; cases n), h.h, fun a u q => by
    by_cases ha : a = L
    · rw [ha, upd_same] at q; cases q; rw [ha]; exact e
    · rw [upd_ne ha] at q; exact h.s a u q, fun a u q z => by
    by_cases ha : a = L
    · rw [ha]; exact hL
    · rw [upd_ne ha] at q; exact h.f a u q z⟩
/-- from here on it stays -/
theorem tr_settle (hs : ∀ {B H : Hp} {o : HO}, B L = none → H L = some o → J B H → J (upd B L o) H) (hj : ρ[j]? = some (some (.raw (.ref L)))) (h : Tr C t (ρ.set j (some (.lst out))) J N R) : Tr C t ρ (And2 J (Cl C L out)) N R := fun Z σ B H hS hI q1 q2 => by
  obtain ⟨v, hv, rv⟩ := hS.get j _ hj
  cases rv.raw_inv
  obtain ⟨hJ, n, acc, hL, r⟩ := id hI
  have up : Sub B (upd B L (.lst acc)) := Sub.new n
  have e : σ.set j (some (.ref L)) = σ := by
    refine List.ext_getElem? fun i => ?_
    by_cases hi : j = i
    · subst hi
      have hlt := (List.getElem?_eq_some_iff.mp hv).1
      rw [List.getElem?_set_self hlt, hv]
    · rw [List.getElem?_set_ne hi]
  have hS2 := (hS.up up).put (i := j) (v := .ref L) (.lst upd_same (r.up up))
  rw [e] at hS2
  exact h Z σ _ H hS2 (hs n hL hJ) (fun σ' B' H' s z => q1 σ' B' H' (up.trans s) z) fun v B' H' s z => q2 v B' H' (up.trans s) z
end
/-! ### defs -/
section
variable {C : Addr} {P : Program} {w : World} {K : PySem.W.Frag} {mg : Str → Option Value} {base : Heap}
theorem def_okT {x qual : Str} {st : Stmt} {f : Addr} {fd : FuncData} {N ps : List Str} {k : Nat} {F : List D → D → Prop} (Fn : Fun K x qual st f fd) (S : FnScope N ps (defScope st)) (hN : ps.length ≤ N.length) (hlen : ∀ ds d, F ds d → ds.length = ps.length)
    (body : ∀ (cdv : Value) (A : Around) (outer : List PySem.Env) (s : Shared) (H : Hp) (E : XK), Room k (A.deeper (envOfC qual (defScope st) s.heap.objs.size f cdv)) → ∀ ds d, F ds d →
      ∃ t, PSs (cxOf CX0 P w K mg base N qual (defScope st) f cdv A outer s H E).nox (defBody st) t ∧ ∀ B0 H0, Sub B0 H0 → Tr C t (ds.map some ++ List.replicate (N.length - ds.length) none) (Step B0 H0) (fun _ B H => d = .non ∧ Step B0 H0 B H) (fun v B H => Rep C B v d ∧ Step B0 H0 B H)) :
    FnOk P w K mg base CX0 (k + 1) f fd ps (spD C F) := by
  refine Fn.ok S (fun vs H Q E h => ?_) (fun cdv A outer s H vs Q E hr h => ?_)
  · obtain ⟨B, ds, d, e, r, hF, q⟩ := h
    rw [r.length]; exact hlen ds d hF
  · obtain ⟨B, ds, d, e, r, hF, q⟩ := h
    obtain ⟨t, ht, hrun⟩ := body cdv A outer s H E hr ds d hF
    refine ⟨t, ht, hrun B H e _ _ B H (sat_start r (by rw [hlen ds d hF]; exact hN)) (.refl e) (fun σ' B' H' _ z => ?_) fun v B' H' _ z => q v B' H' z.2 z.1⟩
    obtain ⟨z, s'⟩ := z
    subst z
    exact q .non B' H' s' .non
end
end K55

set_option maxHeartbeats 2000000
/-! K55: {k: True for .. in a tuple}. -/
namespace K55
open PySem PySem.Spec PyProof.Rows L2
def ddup (ks : List Int) : List Int := ks.foldl (fun acc k => if k ∈ acc then acc else acc ++ [k]) []
theorem ddup_snoc (ks : List Int) (k : Int) : ddup (ks ++ [k]) = if k ∈ ddup ks then ddup ks else ddup ks ++ [k] := by
  unfold ddup
  rw [List.foldl_append]; rfl
theorem ddup_spec : ∀ (ks acc : List Int), acc.Nodup → (ks.foldl (fun acc k => if k ∈ acc then acc else acc ++ [k]) acc).Nodup ∧ (∀ x, x ∈ ks.foldl (fun acc k => if k ∈ acc then acc else acc ++ [k]) acc ↔ x ∈ acc ∨ x ∈ ks) ∧
    (ks.foldl (fun acc k => if k ∈ acc then acc else acc ++ [k]) acc).length ≤ acc.length + ks.length
  | [], acc, h => ⟨h, fun x => by simp, by simp⟩
  | k :: ks, acc, h => by
    rw [List.foldl_cons]
    by_cases hk : k ∈ acc
    · rw [if_pos hk]
      obtain ⟨h1, h2, h3⟩ := ddup_spec ks acc h
      refine ⟨h1, fun x => ?_, by rw [List.length_cons]; omega⟩
      rw [h2 x, List.mem_cons]
      constructor
      · rintro (z | z)
        · exact .inl z
        · exact .inr (.inr z)
      · rintro (z | rfl | z)
        · exact .inl z
        · exact .inl hk
        · exact .inr z
    · rw [if_neg hk]
      have hn : (acc ++ [k]).Nodup := by
        rw [List.nodup_append]
        refine ⟨h, by simp, fun a ha b hb => ?_⟩
        rw [List.mem_singleton] at hb
        subst hb
        exact fun z => hk (z ▸ ha)
      obtain ⟨h1, h2, h3⟩ := ddup_spec ks (acc ++ [k]) hn
      refine ⟨h1, fun x => ?_, by rw [List.length_cons]; rw [List.length_append] at h3; simp at h3; omega⟩
      rw [h2 x, List.mem_append, List.mem_singleton, List.mem_cons, or_assoc]
theorem ddup_nodup (ks : List Int) : (ddup ks).Nodup := (ddup_spec ks [] List.nodup_nil).1
theorem mem_ddup {ks : List Int} {x : Int} : x ∈ ddup ks ↔ x ∈ ks := by
  have := (ddup_spec ks [] List.nodup_nil).2.1 x
  simpa [ddup] using this
theorem ddup_len (ks : List Int) : (ddup ks).length ≤ ks.length := by
  have := (ddup_spec ks [] List.nodup_nil).2.2
  simpa [ddup] using this
def kvT (ks : List Int) : List (Key × V) := ks.map fun k => ((Sum.inl k : Key), V.bl true)
theorem putK_kvT (ks : List Int) (k : Int) : putK (kvT ks) (Sum.inl k : Key) (.bl true) = kvT (if k ∈ ks then ks else ks ++ [k]) := by
  have e : ((kvT ks).any fun kv => decide (kv.1 = (Sum.inl k : Key))) = decide (k ∈ ks) := by
    unfold kvT
    rw [List.any_map]
    induction ks with
    | nil => simp
    | cons x xs ih =>
      rw [List.any_cons, ih]
      by_cases hx : x = k
      · subst hx; simp
      · have : ¬ (Sum.inl x : Key) = Sum.inl k := fun z => hx (Sum.inl.inj z)
        have hx' : ¬ k = x := fun z => hx z.symm
        simp [hx, hx']
  unfold putK
  rw [e]
  by_cases hk : k ∈ ks
  · rw [if_pos (decide_eq_true hk), if_pos hk]
    unfold kvT
    rw [List.map_map]
    refine List.map_congr_left fun x _ => ?_
    show (if (Sum.inl x : Key) = Sum.inl k then ((Sum.inl x : Key), V.bl true) else (Sum.inl x, V.bl true)) = _
    split <;> rfl
  · rw [if_neg (by rw [decide_eq_true_eq]; exact hk), if_neg hk]
    unfold kvT
    rw [List.map_append]; rfl
theorem lw_any {B' H B4 H4 : Hp} {L : Addr} {o : HO} (s4 : Step B' H B4 H4) (n : B' L = none) (h : H L = some o) : B4 L = none := by
  cases q : B4 L with
  | none => rfl
  | some o => have := s4.f L o q n; rw [h] at this; cases this
section
variable {C : Addr} {K : PySem.W.Frag} {ρ : Env} {te tl tk tv : TE} {g : TG} {α : Type} {vs : List Nat}
theorem v_dcT {ts : List α} {enc : α → D} {key : α → Int} (h : EvP C tl ρ (.tup (ts.map enc))) (hn : ts.length ≤ 50000)
    (T : ∀ a, a ∈ ts → ∃ r ws, Asg C g (wipeE ρ vs) (enc a) r ws ∧ (∀ j, j ∈ ws → j ∈ vs) ∧ EvP C tk r (.int (key a)) ∧ EvP C tv r (.bl true)) : EvP C (tDc (iTup K tl) g tYes tk tv vs) ρ (.keys (ddup (ts.map key))) := fun σ B H hS e Q q =>
  h σ B H hS e _ fun v B1 H1 s1 r1 => by
    obtain ⟨a0, us, rfl, hB, r⟩ := r1.tup_inv
    have hul : us.length = ts.length := by rw [r.length, List.length_map]
    refine ⟨a0, rfl, ⟨us, SqT.of (s1.s a0 _ hB)⟩, fun L hL => ?_⟩
    refine dc_tup (xs := us) (fun i H' => ∃ B', Step B1 H1 B' H' ∧ B' L = none ∧ H' L = some (.dK (kvT (ddup ((ts.take i).map key))))) ⟨B1, ⟨Sub.rfl', Sub.new hL, s1.s.side (s1.s.free hL), fun a o h n => by rw [h] at n; cases n⟩, s1.s.free hL, upd_same⟩ ?_ ?_ ?_
    · rintro i H' _ ⟨B', s', _⟩
      exact SqT.of (s'.h a0 _ (s1.s a0 _ hB))
    · rintro i x H2 hi ⟨B', s', nB, hL2⟩
      obtain ⟨dz, hdz, rz⟩ := r.getV hi
      rw [List.getElem?_map] at hdz
      cases ht : ts[i]? with
      | none => rw [ht] at hdz; cases hdz
      | some t =>
        rw [ht] at hdz
        cases hdz
        obtain ⟨r', ws, hg, hw, hk, hv⟩ := T t (List.mem_of_getElem? ht)
        refine hg (wipe σ vs) B' H2 x _ ((hS.up (s1.trans s').b).wipe vs) s'.s (rz.up s'.b) fun σ2 hS2 hl ho => ⟨wipe_same hl fun j hj => ho j fun z => hj (hw j z), ?_⟩
        unfold tYes
        dsimp only
        rw [if_pos rfl]
        refine hk σ2 B' H2 hS2 s'.s _ fun y B3 H3 s3 r3 => hv σ2 B3 H3 (hS2.up s3.b) s3.s _ fun z B4 H4 s4 r4 => ?_
        have s34 := s3.trans s4
        have n4 := lw_any s34 nB hL2
        refine ⟨_, Sum.inl (key t), r3.int_inv, s34.h L _ hL2, ?_, B4, ⟨s'.b.trans s34.b, (s'.h.trans s34.h).side hL, s34.s.side n4, (s'.trans s34).f⟩, n4, ?_⟩
        · have h1 := ddup_len ((ts.take i).map key)
          rw [List.length_map, List.length_take] at h1
          unfold kvT
          rw [List.length_map]
          exact fitsLt (by omega)
        · rw [upd_same, r4.bl_inv, putK_kvT]
          have ht1 : ts.take (i + 1) = ts.take i ++ [t] := by rw [List.take_add_one, ht]; rfl
          rw [ht1, List.map_append, List.map_cons, List.map_nil, ddup_snoc]
    · rintro H' ⟨B', s', nB, hL2⟩
      rw [hul, List.take_length] at hL2
      refine q _ (upd B' L _) H' (s1.trans ⟨s'.b.side (s'.b.free nB), s'.h, fun a o q => ?_, fun a o q z => ?_⟩) (.keys upd_same)
      · by_cases ha : a = L
        · rw [ha, upd_same] at q; cases q; rw [ha]; exact hL2
        · rw [upd_ne ha] at q; exact s'.s a o q
      · by_cases ha : a = L
        · rw [ha]; exact hL
        · rw [upd_ne ha] at q; exact s'.f a o q z
end
end K55

set_option maxHeartbeats 2000000
/-! K55: lots of two rules, in plain lists. -/
namespace K55
theorem lcm2_spec {a b : Int} (ha : 0 < a) (hb : 0 < b) : 0 < lcm2 a b ∧ a ∣ lcm2 a b ∧ b ∣ lcm2 a b ∧ lcm2 a b ≤ a * b := by
  have hg : 0 < gc a b := gc_pos ha
  obtain ⟨k, hk⟩ := gc_dvd_l a b
  obtain ⟨m, hm⟩ := gc_dvd_r a b
  have e : a / gc a b = k := by
    have : gc a b * k / gc a b = k := Int.mul_ediv_cancel_left k (by omega)
    rwa [← hk] at this
  have hk0 : 0 < k := by
    by_cases q : 0 < k
    · exact q
    · have : gc a b * k ≤ gc a b * 0 := Int.mul_le_mul_of_nonneg_left (by omega) (by omega)
      omega
  have hka : k ≤ a := by
    have : 1 * k ≤ gc a b * k := Int.mul_le_mul_of_nonneg_right (by omega) (by omega)
    omega
  unfold lcm2
  rw [e]
  refine ⟨Int.mul_pos hk0 hb, ⟨m, ?_⟩, Int.dvd_mul_left k b, Int.mul_le_mul_of_nonneg_right hka (by omega)⟩
  have e1 : k * b = k * (gc a b * m) := congrArg (k * ·) hm
  have e2 : a * m = gc a b * k * m := congrArg (· * m) hk
  rw [e1, e2, ← Int.mul_assoc, Int.mul_comm k (gc a b)]
def entsAt (qs : List Row) (n : Int) : List Ent := match rowAt qs n with
  | none => []
  | some q => q.ents
def starts (qs rs : List Row) : List Int := ddup ((qs.drop 1 ++ rs.drop 1).map fun q => q.first.getD 0)
def inside (p : Option Int × Option Int) : Int := match p.1, p.2 with
  | some f, _ => f
  | none, some l => l
  | none, none => 0
def lotAt (m t : List Ent) (p : Option Int × Option Int) (r : Nat) : Lot := ⟨p.1, p.2, lcm2 m.length t.length, r, (m[r % m.length]?).getD none, (t[r % t.length]?).getD none⟩
def lotsIn (qs rs : List Row) (p : Option Int × Option Int) : List Lot := (List.range (lcm2 (entsAt qs (inside p)).length (entsAt rs (inside p)).length).toNat).map (lotAt (entsAt qs (inside p)) (entsAt rs (inside p)) p)
def allLots (qs rs : List Row) : List Lot := (stretches (starts qs rs)).flatMap (lotsIn qs rs)
def lots (qs rs : List Row) : List Lot := (allLots qs rs).filter fun t => (near t.first t.last t.many t.rest).isSome
theorem entsAt_len {qs : List Row} (g : Good qs) (n : Int) : 0 < (entsAt qs n).length ∧ (entsAt qs n).length ≤ 30 := by
  obtain ⟨q, h1, h2, h3⟩ := rowAt_some g n
  unfold entsAt
  rw [h1]
  exact ⟨h3.1, h3.2.1⟩
theorem many_le {a b : List Ent} (ha : 0 < a.length) (hb : 0 < b.length) (ha' : a.length ≤ 30) (hb' : b.length ≤ 30) : 0 < lcm2 a.length b.length ∧ lcm2 a.length b.length ≤ 900 := by
  have h := lcm2_spec (a := (a.length : Int)) (b := b.length) (by omega) (by omega)
  refine ⟨h.1, Int.le_trans h.2.2.2 ?_⟩
  have h1 : (a.length : Int) * b.length ≤ 30 * b.length := Int.mul_le_mul_of_nonneg_right (by omega) (by omega)
  omega
theorem starts_len {qs rs : List Row} (g : Good qs) (h : Good rs) : (starts qs rs).length ≤ 40 := by
  refine Nat.le_trans (ddup_len _) ?_
  rw [List.length_map, List.length_append, List.length_drop, List.length_drop]
  have := g.2.1
  have := h.2.1
  omega
theorem stretches_len (ks : List Int) : (stretches ks).length = ks.length + 1 := by
  unfold stretches
  rw [List.length_zip, List.length_cons, List.length_map, List.length_append, List.length_map, (srt_perm ks).length_eq]
  simp
theorem lotsIn_len {qs rs : List Row} (g : Good qs) (h : Good rs) (p : Option Int × Option Int) : (lotsIn qs rs p).length ≤ 900 := by
  unfold lotsIn
  rw [List.length_map, List.length_range]
  have a := entsAt_len g (inside p)
  have b := entsAt_len h (inside p)
  have := many_le a.1 b.1 a.2 b.2
  omega
theorem lots_len {qs rs : List Row} (g : Good qs) (h : Good rs) (i : Nat) : (((stretches (starts qs rs)).take i).flatMap (lotsIn qs rs)).length ≤ 36900 := by
  have h1 := flat_len (n := 900) (lotsIn qs rs) (xs := (stretches (starts qs rs)).take i) fun p _ => lotsIn_len g h p
  have h2 : ((stretches (starts qs rs)).take i).length ≤ 41 := by
    rw [List.length_take, stretches_len]
    have := starts_len g h
    omega
  omega
theorem allLots_len {qs rs : List Row} (g : Good qs) (h : Good rs) : (allLots qs rs).length ≤ 36900 := by
  have := lots_len g h (stretches (starts qs rs)).length
  rw [List.take_length] at this
  exact this
end K55

set_option maxHeartbeats 2000000
namespace K55
open PySem PySem.Spec PyProof.Rows L2
local macro_rules | `(tactic| walk_at "ev1") => `(tactic| first
  | exact v_var rfl | exact v_int | exact v_bl | exact v_non | exact v_str | exact a_nil | exact v_raw
  | apply a_cons
  | apply v_add | apply v_sub | apply v_mul | apply v_mod | apply v_fdiv | apply v_neg
  | apply v_lt | apply v_le | apply v_gt | apply v_ge | apply v_eqI | apply v_neI
  | apply v_isN | apply v_notN
  | apply b_B | apply b_test | apply b_not | apply b_and0 | apply b_or0
  | apply v_and0 | apply v_or0 | apply v_not
  | apply v_tup | apply v_lst
  | refine' v_cb ?_ c_int
  | exact Nat.le_of_ble_eq_true rfl)
local macro_rules | `(tactic| walk_at "ev") => `(tactic| repeat' walk_at "ev1")
/-- knowing less, slot by slot -/
inductive Weak : Env → Env → Prop
  | nil : Weak [] []
  | same {x : Option D} {a b : Env} : Weak a b → Weak (x :: a) (x :: b)
  | less {x : Option D} {a b : Env} : Weak a b → Weak (none :: a) (x :: b)
theorem Weak.len : ∀ {a b : Env}, Weak a b → a.length = b.length
  | _, _, .nil => rfl
  | _, _, .same h => by rw [List.length_cons, List.length_cons, h.len]
  | _, _, .less h => by rw [List.length_cons, List.length_cons, h.len]
theorem Weak.get : ∀ {a b : Env}, Weak a b → ∀ (i : Nat) (d : D), a[i]? = some (some d) → b[i]? = some (some d)
  | _, _, .nil, i, d, h => h
  | _, _, .same w, 0, d, h => h
  | _, _, .same w, i + 1, d, h => w.get i d h
  | _, _, .less w, 0, d, h => nomatch h
  | _, _, .less w, i + 1, d, h => w.get i d h
theorem Sat.weak {C : Addr} {σ : L2.St} {B : Hp} {a b : Env} (h : Sat C σ B b) (w : Weak a b) : Sat C σ B a := h.less w.len w.get
local macro_rules | `(tactic| walk_at "weak") => `(tactic| repeat' (first | exact Weak.nil | apply Weak.same | apply Weak.less))
section
variable {C : Addr} {K : PySem.W.Frag} {ρ : Env} {te : TE} {x : D} {i j : Nat} {R : V → As}
theorem tr_parNew {B0 H0 : Hp} (h : EvP C te ρ x) : Tr C (tPar i j (tCons te (tCons (tLst tNil) tNil))) ρ (Step B0 H0) (fun σ B H => ∃ L, ToI C ((ρ.set i (some x)).set j (some (.raw (.ref L)))) (fun B H => H0 L = none ∧ And2 (Step B0 H0) (Cl C L []) B H) σ B H) R := fun Z σ B H hS hI q1 q2 =>
  h σ B H hS hI.s _ fun v B1 H1 s1 r1 => by
    refine ⟨Nat.zero_le _, fun L hL => ⟨v, .ref L, rfl, ?_⟩⟩
    have s2 := hI.trans s1
    refine q1 _ B1 _ s1.b ⟨L, ((hS.up s1.b).put r1).put (.raw _), s2.h.free hL, ⟨s2.b, fun a u q => ?_, s1.s.side (s1.s.free hL), s2.f⟩, s1.s.free hL, [], upd_same, .nil⟩
    rw [upd_ne (ne_of_none (s2.h a u q) hL)]
    exact s2.h a u q
end
section
variable {C : Addr} {P : Program} {w : World} {K : PySem.W.Frag} {mg : Str → Option Value} {base : Heap}
/-! ### lots_of -/
abbrev s_lots_of : Stmt := topS 28
abbrev N_lots_of : List Str := ["one", "other", "starts", "found", "first", "last", "inside", "mine", "its", "many", "rest", "lot", "row"]
theorem sc_lots_of : FnScope N_lots_of ["one", "other"] (defScope s_lots_of) := ⟨rfl, rfl, rfl, by decide +kernel, rfl, by decide +kernel, by decide +kernel⟩
def F_lots_of (ds : List D) (d : D) : Prop := ∃ qs rs : List Row, Good qs ∧ Good rs ∧ ds = [.rule (rowsD qs), .rule (rowsD rs)] ∧ d = .lst ((lots qs rs).map lotD)
theorem rowsD_drop (qs : List Row) : cutD (rowsD qs) (some 1) none = (qs.drop 1).map rowD := by
  rw [cutD_tail]
  unfold rowsD
  rw [List.map_drop]
theorem ok_lots_of {f : Addr} {fd : FuncData} (Fn : Fun K "lots_of" "lots_of" s_lots_of f fd) (T : Bt K mg C) (G_stretches_from : Df P w K mg base 1 "stretches_from" ["starts"] (spD C F_stretches_from))
    (G_Rule_entries_at : Dm P w K mg base C 1 "entries_at" ["self", "number"] (spD C F_entries_at)) (G_lcm_in : Df P w K mg base 1 "lcm_in" ["numbers"] (spD C F_lcm_in)) (G_nearest : Df P w K mg base 1 "nearest" ["first", "last", "many", "rest"] (spD C F_nearest)) :
    FnOk P w K mg base CX0 2 f fd ["one", "other"] (spD C F_lots_of) := by
  refine def_okT Fn sc_lots_of (by decide) (fun ds d h => by obtain ⟨_, _, _, _, rfl, _⟩ := h; rfl) fun cdv A outer s H E hr ds d hF => ?_
  obtain ⟨qs, rs, g, h, rfl, rfl⟩ := hF
  have nd := sc_lots_of.nd
  have hk := starts_len g h
  have tailF : ∀ {qs : List Row} {q : Row}, Good qs → q ∈ qs.drop 1 → oi q.first = .int (q.first.getD 0) := by
    intro qs q g hq
    obtain ⟨i, hi⟩ := List.getElem?_of_mem hq
    rw [List.getElem?_drop] at hi
    have hlt := (List.getElem?_eq_some_iff.mp hi).1
    obtain ⟨l, _, e2, _⟩ := g.1.2.2.2 i qs[i] q (List.getElem?_eq_getElem (by omega)) (by rw [Nat.add_comm]; exact hi)
    rw [e2]; rfl
  refine ⟨_, (pss_cons (ps_par (i := 2) (j := 3) (by rfl) nd rfl rfl (by decide) rfl rfl (pa_cons (pe_dc (own := [("row", 12)]) (by rfl) nd (pi_tup (pe_tup (StX.pa_star (pe_slice sl_tupA (pe_fld (pv 0) rfl) (po_some pe_int) po_none) (StX.pa_star (pe_slice sl_tupA (pe_fld (pv 1) rfl) (po_some pe_int) po_none) pa_nil)))) (blkOk_by (own := [("row", 12)]) (N := N_lots_of) (sc := defScope s_lots_of) (by decide +kernel)) (fun _ _ _ _ _ => (pg_name (i := 12) nd rfl (.inl rfl))) (fun _ _ _ _ _ => pts_nil) (fun _ _ _ _ _ => (pe_ix (ixT (K := K) rfl) (pv 12) pe_int (fun _ _ => rfl))) (fun _ _ _ _ _ => pe_bl)) (pa_cons (pe_lst pa_nil) pa_nil)) (by rfl))
      (pss_cons (ps_for PassesOwn.never rfl (pi_list (pcall G_stretches_from (hr.mono (by first | decide | omega)) (by rfl) (pa_cons (pv 2) pa_nil))) (pg_tup (by rfl) (pgs_cons (pg_name (i := 4) nd rfl (.inl rfl)) (pgs_cons (pg_name (i := 5) nd rfl (.inl rfl)) pgs_nil))) (pss_cons (ps_set (i := 6) nd rfl (.inl rfl) (pe_ifExp (pt_cmp (pc_notN (pv 4))) (pv 4) (pe_ifExp (pt_cmp (pc_notN (pv 5))) (pv 5) pe_int)))
      (pss_cons (ps_par (i := 7) (j := 8) (by rfl) nd rfl rfl (by decide) rfl rfl (pa_cons (pmeth T.cl G_Rule_entries_at (hr.mono (by first | decide | omega)) (pv 0) (pa_cons (pv 6) pa_nil)) (pa_cons (pmeth T.cl G_Rule_entries_at (hr.mono (by first | decide | omega)) (pv 1) (pa_cons (pv 6) pa_nil)) pa_nil)) (by rfl))
      (pss_cons (ps_set (i := 9) nd rfl (.inl rfl) (pcall G_lcm_in (hr.mono (by first | decide | omega)) (by rfl) (pa_cons (pe_lst (pa_cons (pe_callB call_len_seq (by rfl) T.n_len bo_len (pa_cons (pv 7) pa_nil)) (pa_cons (pe_callB call_len_seq (by rfl) T.n_len bo_len (pa_cons (pv 8) pa_nil)) pa_nil))) pa_nil)))
      (pss_one (ps_for PassesOwn.never rfl (pi_range1 (by rfl) T.n_range (pa_cons (pv 9) pa_nil)) (pg_name (i := 10) nd rfl (.inl rfl)) (pss_one (ps_expr (pe_bm PySem.F.plainAttrs_list PySem.F.slot_list_append PySem.F.type_list_append mt_append (pv 3) (pa_cons (pe_tup (pa_cons (pv 4) (pa_cons (pv 5) (pa_cons (pv 9) (pa_cons (pv 10) (pa_cons (pe_ix ix_tup (pv 7) (pe_op op_mod (pv 10) (pe_callB call_len_seq (by rfl) T.n_len bo_len (pa_cons (pv 7) pa_nil))) (fun _ _ => rfl)) (pa_cons (pe_ix ix_tup (pv 8) (pe_op op_mod (pv 10) (pe_callB call_len_seq (by rfl) T.n_len bo_len (pa_cons (pv 8) pa_nil))) (fun _ _ => rfl)) pa_nil))))))) pa_nil))))))))))
      (pss_one (ps_ret (pe_lc (own := [("lot", 11)]) (by rfl) nd (pi_list (pv 3)) (blkOk_by (own := [("lot", 11)]) (N := N_lots_of) (sc := defScope s_lots_of) (by decide +kernel)) (fun _ _ _ _ _ => (pg_name (i := 11) nd rfl (.inl rfl))) (fun _ _ _ _ _ => (pts_one (pt_cmp (pc_notN (pcall G_nearest (hr.mono (by first | decide | omega)) (by rfl) (pa_cons (pe_ix (ixT (K := K) rfl) (pv 11) pe_int (fun _ _ => rfl)) (pa_cons (pe_ix (ixT (K := K) rfl) (pv 11) pe_int (fun _ _ => rfl)) (pa_cons (pe_ix (ixT (K := K) rfl) (pv 11) pe_int (fun _ _ => rfl)) (pa_cons (pe_ix (ixT (K := K) rfl) (pv 11) pe_int (fun _ _ => rfl)) pa_nil))))))))) (fun _ _ _ _ _ => (pv 11))))))), fun B0 H0 e0 => ?_⟩
  refine tr_seqE (tr_parNew (x := .keys (starts qs rs)) (v_dcT (ts := qs.drop 1 ++ rs.drop 1) (enc := rowD) (key := fun q => q.first.getD 0) ?_ ?_ fun q hq => ⟨_, _, g_name, by simp, v_ixT (z := .int (q.first.getD 0)) (v_var rfl) v_int ?_, v_bl⟩)) fun L => tr_pure fun hL => ?_
  · refine (v_tup (a_starT (v_sliceT (v_rows (v_var rfl) T.cl T.nR) (o_some v_int) o_none) (a_starT (v_sliceT (v_rows (v_var rfl) T.cl T.nR) (o_some v_int) o_none) a_nil)) ?_).is ?_
    · rw [rowsD_drop, rowsD_drop, List.append_nil, List.length_append, List.length_map, List.length_map, List.length_drop, List.length_drop]
      have := g.2.1
      have := h.2.1
      omega
    · rw [rowsD_drop, rowsD_drop, List.append_nil, List.map_append]
  · rw [List.length_append, List.length_drop, List.length_drop]
    have := g.2.1
    have := h.2.1
    omega
  · have : oi q.first = .int (q.first.getD 0) := by
      rcases List.mem_append.mp hq with z | z
      · exact tailF g z
      · exact tailF h z
    rw [← this]
    rfl
  have okJ := okFr B0 H0
  let ρL : Env := [some (.rule (rowsD qs)), some (.rule (rowsD rs)), some (.keys (starts qs rs)), some (.raw (.ref L)), none, none, none, none, none, none, none, none, none]
  refine tr_seq (ρ1 := ρL) (I1 := And2 (Step B0 H0) (Cl C L ((allLots qs rs).map lotD))) (tr_forL (okCl okJ) (v_call0 (F := F_stretches_from) (ds := [.keys (starts qs rs)]) (a_cons (v_var rfl) a_nil) ⟨_, by omega, rfl, rfl⟩) (fun _ => ρL) (fun i => And2 (Step B0 H0) (Cl C L ((((stretches (starts qs rs)).take i).flatMap (lotsIn qs rs)).map lotD))) (fun σ B H a b => ⟨a, by simpa using b⟩) (fun i B H z => z.1.s) (fun i x hx => ?_) fun σ B H a b => ?_) ?_
  · rw [List.getElem?_map] at hx
    cases hp : (stretches (starts qs rs))[i]? with
    | none => rw [hp] at hx; cases hx
    | some p =>
      rw [hp] at hx
      cases hx
      refine ⟨_, _, g_tup (gs_cons g_name (gs_cons g_name gs_nil)) rfl, ?_⟩
      have out1 : ((stretches (starts qs rs)).take (i + 1)).flatMap (lotsIn qs rs) = ((stretches (starts qs rs)).take i).flatMap (lotsIn qs rs) ++ lotsIn qs rs p := by
        rw [List.take_add_one, hp, List.flatMap_append]
        simp
      rw [out1]
      obtain ⟨q1, a1, a2, a3⟩ := rowAt_some g (inside p)
      obtain ⟨q2, b1, b2, b3⟩ := rowAt_some h (inside p)
      have m1 : entsAt qs (inside p) = q1.ents := by unfold entsAt; rw [a1]
      have m2 : entsAt rs (inside p) = q2.ents := by unfold entsAt; rw [b1]
      have mn := many_le a3.1 b3.1 a3.2.1 b3.2.1
      have pre := lots_len g h i
      refine tr_let (okCl okJ) (d := .int (inside p)) ?_ ?_
      · obtain ⟨f, l⟩ := p
        cases f with
        | some f => exact v_ifY (b_B (v_notN (x := .int f) (v_var rfl))) rfl (v_var rfl)
        | none =>
          refine v_ifN (b_B (v_notN (x := .non) (v_var rfl))) rfl ?_
          cases l with
          | some l => exact v_ifY (b_B (v_notN (x := .int l) (v_var rfl))) rfl (v_var rfl)
          | none => exact v_ifN (b_B (v_notN (x := .non) (v_var rfl))) rfl v_int
      refine tr_let2 (okCl okJ) (x := .tup (q1.ents.map eD)) (y := .tup (q2.ents.map eD)) (a_cons (v_meth (F := F_entries_at) (v_var rfl) (a_cons (v_var rfl) a_nil) (by decide +kernel) ⟨qs, _, q1, Nat.le_trans g.2.1 (by decide), a1, rfl, rfl⟩) (a_cons (v_meth (F := F_entries_at) (v_var rfl) (a_cons (v_var rfl) a_nil) (by decide +kernel) ⟨rs, _, q2, Nat.le_trans h.2.1 (by decide), b1, rfl, rfl⟩) a_nil)) ?_
      have ln1 : ((q1.ents.map eD).length : Int) = q1.ents.length := by rw [List.length_map]
      have ln2 : ((q2.ents.map eD).length : Int) = q2.ents.length := by rw [List.length_map]
      have pos1 := a3.1
      have pos2 := b3.1
      have le1 := a3.2.1
      have le2 := b3.2.1
      refine tr_let (okCl okJ) (d := .int (lcm2 q1.ents.length q2.ents.length)) (v_call0 (F := F_lcm_in) (ds := [.lst [.int q1.ents.length, .int q2.ents.length]]) (a_cons (v_lst (a_cons ((v_cb (a_cons (v_var rfl) a_nil) (c_len (.inr rfl))).is (by rw [ln1])) (a_cons ((v_cb (a_cons (v_var rfl) a_nil) (c_len (.inr rfl))).is (by rw [ln2])) a_nil)) (Nat.le_of_ble_eq_true rfl)) a_nil) ⟨q1.ents.length, q2.ents.length, ⟨by omega, by omega⟩, ⟨by omega, by omega⟩, rfl, rfl⟩) ?_
      let ρI : Env := [some (.rule (rowsD qs)), some (.rule (rowsD rs)), some (.keys (starts qs rs)), some (.raw (.ref L)), some (oi p.1), some (oi p.2), some (.int (inside p)), some (.tup (q1.ents.map eD)), some (.tup (q2.ents.map eD)), some (.int (lcm2 q1.ents.length q2.ents.length)), none, none, none]
      refine tr_forR1 (okCl okJ) (a_cons (v_var rfl) a_nil) ⟨by omega, by omega⟩ (fun _ => ρI) (fun n => And2 (Step B0 H0) (Cl C L ((((stretches (starts qs rs)).take i).flatMap (lotsIn qs rs)).map lotD ++ ((List.range n).map (lotAt q1.ents q2.ents p)).map lotD))) (fun σ B H a b => ⟨a, by simpa using b⟩) (fun i B H z => z.1.s) (fun n hn => ⟨_, _, g_name, ?_⟩) fun σ B H a b => ⟨a.weak (by walk_at "weak"), ?_⟩
      · have hmod1 : (n : Int) % q1.ents.length = ((n % q1.ents.length : Nat) : Int) := rfl
        have hmod2 : (n : Int) % q2.ents.length = ((n % q2.ents.length : Nat) : Int) := rfl
        have hlt1 := Nat.mod_lt n pos1
        have hlt2 := Nat.mod_lt n pos2
        have g1 : q1.ents[n % q1.ents.length]? = some ((q1.ents[n % q1.ents.length]?).getD none) := by rw [List.getElem?_eq_getElem hlt1]; rfl
        have g2 : q2.ents[n % q2.ents.length]? = some ((q2.ents[n % q2.ents.length]?).getD none) := by rw [List.getElem?_eq_getElem hlt2]; rfl
        refine (tr_app okJ (fun n' s' => fr_upd hL n' s') (j := 3) (d := lotD (lotAt q1.ents q2.ents p n)) rfl (v_tup (a_cons (v_var rfl) (a_cons (v_var rfl) (a_cons (v_var rfl) (a_cons (v_var rfl) (a_cons (v_ixT (z := eD ((q1.ents[n % q1.ents.length]?).getD none)) (v_var rfl) (v_mod (v_var rfl) ((v_cb (a_cons (v_var rfl) a_nil) (c_len (.inr rfl))).is (by rw [ln1])) (by omega)) ?_) (a_cons (v_ixT (z := eD ((q2.ents[n % q2.ents.length]?).getD none)) (v_var rfl) (v_mod (v_var rfl) ((v_cb (a_cons (v_var rfl) a_nil) (c_len (.inr rfl))).is (by rw [ln2])) (by omega)) ?_) a_nil)))))) (Nat.le_of_ble_eq_true rfl)) ?_).imp (fun σ B H z => ⟨z.1.weak (by walk_at "weak"), ?_⟩) fun _ _ _ z => z
        · rw [hmod1]; exact atI_map eD (atI_nat g1)
        · rw [hmod2]; exact atI_map eD (atI_nat g2)
        · rw [List.length_append, List.length_map, List.length_map, List.length_map, List.length_range]
          omega
        · have := z.2
          rw [List.range_succ, List.map_append, List.map_append, ← List.append_assoc]
          exact this
      · rw [List.map_append]
        unfold lotsIn
        rw [m1, m2]
        exact b
  · refine ⟨a, ?_⟩
    rw [List.length_map, List.take_length] at b
    exact b
  · refine tr_settle (j := 3) (out := (allLots qs rs).map lotD) (fun n e s => fr_settle hL n e s) rfl ?_
    have hlen := allLots_len g h
    refine tr_ret okJ (v_lcL (ts := allLots qs rs) (enc := lotD) (f := fun t => (near t.first t.last t.many t.rest).isSome) (o := lotD) (v_var rfl) (by omega) fun t ht => ⟨_, _, g_name, by simp, ?_, fun _ => v_var rfl⟩) fun v B H a b => ⟨a, b⟩
    obtain ⟨p, _, hp⟩ := List.mem_flatMap.mp ht
    obtain ⟨r, _, rfl⟩ := List.mem_map.mp hp
    have a3 := entsAt_len g (inside p)
    have b3 := entsAt_len h (inside p)
    have mn := many_le a3.1 b3.1 a3.2 b3.2
    refine (b_B (v_notN (x := oP (near p.1 p.2 (lcm2 (entsAt qs (inside p)).length (entsAt rs (inside p)).length) r)) (v_call0 (F := F_nearest) (ds := [oi p.1, oi p.2, .int (lcm2 (entsAt qs (inside p)).length (entsAt rs (inside p)).length), .int r]) (a_cons (v_ixT (v_var rfl) v_int rfl) (a_cons (v_ixT (v_var rfl) v_int rfl) (a_cons (v_ixT (v_var rfl) v_int rfl) (a_cons (v_ixT (v_var rfl) v_int rfl) a_nil)))) ⟨p.1, p.2, _, r, mn.1, rfl, rfl⟩))).is ?_
    show _ = (near p.1 p.2 (lcm2 (entsAt qs (inside p)).length (entsAt rs (inside p)).length) r).isSome
    cases near p.1 p.2 (lcm2 (entsAt qs (inside p)).length (entsAt rs (inside p)).length) r <;> rfl
end
end K55

set_option maxHeartbeats 2000000
/-! K55: == of data, None in a tuple. -/
namespace K55
open PySem PySem.Spec PyProof.Rows L2
/- data of None, bools, ints, lists and tuples -/
mutual
def D.pure : D → Bool
  | .non => true
  | .bl _ => true
  | .int _ => true
  | .lst xs => pures xs
  | .tup xs => pures xs
  | _ => false
def pures : List D → Bool
  | [] => true
  | x :: xs => x.pure && pures xs
end
theorem pures_of : ∀ {xs : List D}, (∀ x, x ∈ xs → x.pure = true) → pures xs = true
  | [], _ => by unfold pures; rfl
  | y :: ys, h => by
    unfold pures
    rw [h y List.mem_cons_self, pures_of fun x hx => h x (List.mem_cons_of_mem _ hx)]; rfl
mutual
theorem pure_plain : ∀ d : D, d.pure = true → d.plain = true
  | .non, _ => by unfold D.plain; rfl
  | .bl _, _ => by unfold D.plain; rfl
  | .int _, _ => by unfold D.plain; rfl
  | .str _, h => by unfold D.pure at h; cases h
  | .lst xs, h => by unfold D.pure at h; unfold D.plain; exact pures_plains xs h
  | .tup xs, h => by unfold D.pure at h; unfold D.plain; exact pures_plains xs h
  | .rule _, h => by unfold D.pure at h; cases h
  | .raw _, h => by unfold D.pure at h; cases h
  | .keys _, h => by unfold D.pure at h; cases h
theorem pures_plains : ∀ xs : List D, pures xs = true → plains xs = true
  | [], _ => by unfold plains; rfl
  | x :: xs, h => by
    unfold pures at h
    have h' := (Bool.and_eq_true _ _).mp h
    unfold plains
    rw [pure_plain x h'.1, pures_plains xs h'.2]; rfl
end
mutual
theorem pure_lay : ∀ d : D, d.pure = true → d.py.canLay0 = true
  | .non, _ => by unfold D.py PyData.canLay0; rfl
  | .bl _, _ => by unfold D.py PyData.canLay0; rfl
  | .int _, _ => by unfold D.py PyData.canLay0; rfl
  | .str _, h => by unfold D.pure at h; cases h
  | .lst xs, h => by unfold D.pure at h; unfold D.py PyData.canLay0; exact pures_lay xs h
  | .tup xs, h => by unfold D.pure at h; unfold D.py PyData.canLay0; exact pures_lay xs h
  | .rule _, h => by unfold D.pure at h; cases h
  | .raw _, h => by unfold D.pure at h; cases h
  | .keys _, h => by unfold D.pure at h; cases h
theorem pures_lay : ∀ xs : List D, pures xs = true → PyData.canLayAll0 (pys xs) = true
  | [], _ => by unfold pys PyData.canLayAll0; rfl
  | x :: xs, h => by
    unfold pures at h
    have h' := (Bool.and_eq_true _ _).mp h
    unfold pys PyData.canLayAll0
    rw [pure_lay x h'.1, pures_lay xs h'.2]; rfl
end
mutual
theorem pure_depth : ∀ d : D, d.py.depth ≤ dep d
  | .non => by unfold D.py PyData.depth; omega
  | .bl _ => by unfold D.py PyData.depth; omega
  | .int _ => by unfold D.py PyData.depth; omega
  | .str _ => by unfold D.py PyData.depth; omega
  | .lst xs => by unfold D.py PyData.depth dep; have := pures_depth xs; omega
  | .tup xs => by unfold D.py PyData.depth dep; have := pures_depth xs; omega
  | .rule _ => by unfold D.py PyData.depth; omega
  | .raw _ => by unfold D.py PyData.depth; omega
  | .keys _ => by unfold D.py PyData.depth; omega
theorem pures_depth : ∀ xs : List D, PyData.depthAll (pys xs) ≤ deps xs
  | [] => by unfold pys PyData.depthAll; omega
  | x :: xs => by
    unfold pys PyData.depthAll deps
    have h1 := pure_depth x
    have h2 := pures_depth xs
    omega
end
mutual
theorem eqv_refl : ∀ d : D, d.pure = true → PyData.eqv d.py d.py = true
  | .non, _ => by unfold D.py PyData.eqv; rfl
  | .bl _, _ => by unfold D.py PyData.eqv; simp
  | .int _, _ => by unfold D.py PyData.eqv; simp
  | .str _, h => by unfold D.pure at h; cases h
  | .lst xs, h => by unfold D.pure at h; unfold D.py PyData.eqv; exact eqv_refls xs h
  | .tup xs, h => by unfold D.pure at h; unfold D.py PyData.eqv; exact eqv_refls xs h
  | .rule _, h => by unfold D.pure at h; cases h
  | .raw _, h => by unfold D.pure at h; cases h
  | .keys _, h => by unfold D.pure at h; cases h
theorem eqv_refls : ∀ xs : List D, pures xs = true → PyData.eqvAll (pys xs) (pys xs) = true
  | [], _ => by unfold pys PyData.eqvAll; rfl
  | x :: xs, h => by
    unfold pures at h
    have h' := (Bool.and_eq_true _ _).mp h
    unfold pys PyData.eqvAll
    rw [eqv_refl x h'.1, eqv_refls xs h'.2]; rfl
end
theorem eqv_nil (xs : List D) : PyData.eqv (D.lst xs).py (D.lst []).py = xs.isEmpty := by
  cases xs <;> simp [D.py, pys, PyData.eqv, PyData.eqvAll]
theorem pure_shaped {d : D} (h : d.pure = true) (hd : dep d ≤ 60) : SeqAt.shaped d.py = true := by
  unfold SeqAt.shaped
  rw [pure_lay d h, Bool.true_and]
  exact decide_eq_true (Nat.le_trans (pure_depth d) (by omega))
theorem pure_oi (o : Option Int) : (oi o).pure = true := by cases o <;> unfold oi D.pure <;> rfl
theorem pure_eD (e : Ent) : (eD e).pure = true := by
  rcases e with _ | ⟨a, b, c⟩
  · unfold eD D.pure; rfl
  · unfold eD; simp [D.pure, pures]
theorem pure_rowD (q : Row) : (rowD q).pure = true := by
  have h : pures (q.ents.map eD) = true := pures_of fun x hx => by
    obtain ⟨e, _, rfl⟩ := List.mem_map.mp hx
    exact pure_eD e
  unfold rowD
  simp only [D.pure, pures, pure_oi, Bool.and_true, Bool.true_and]
  exact h
theorem pure_rowsD (qs : List Row) : (D.tup (rowsD qs)).pure = true := by
  unfold D.pure
  exact pures_of fun x hx => by
    obtain ⟨q, _, rfl⟩ := List.mem_map.mp hx
    exact pure_rowD q
theorem pure_ints (ns : List Int) : (D.lst (ns.map D.int)).pure = true := by
  unfold D.pure
  exact pures_of fun x hx => by
    obtain ⟨q, _, rfl⟩ := List.mem_map.mp hx
    unfold D.pure; rfl
theorem dep_ints (ns : List Int) : dep (D.lst (ns.map D.int)) ≤ 1 := by
  unfold dep
  have := deps_of (xs := ns.map D.int) (n := 0) fun x hx => by
    obtain ⟨q, _, rfl⟩ := List.mem_map.mp hx
    unfold dep; omega
  omega
theorem dep_rowsD (qs : List Row) : dep (.tup (rowsD qs)) ≤ 4 := by
  unfold dep
  have : deps (rowsD qs) ≤ 3 := deps_of fun x hx => by
    obtain ⟨p, _, rfl⟩ := List.mem_map.mp hx
    have h : deps (p.ents.map eD) ≤ 1 := deps_of fun x hx => by
      obtain ⟨e, _, rfl⟩ := List.mem_map.mp hx
      exact dep_eD e
    unfold rowD
    simp only [dep, deps, dep_oi]
    omega
  omega
section
variable {X : Cx}
/-- x in a tuple of data -/
def rInT (K : PySem.W.Frag) : R2 := fun x y H Q => ∃ d ds, Dp K H x d ∧ Dp K H y (.tuple ds) ∧ SeqAt.shaped d = true ∧ d.depth ≤ 60 ∧ SeqAt.shaped (.tuple ds) = true ∧ Q (.bl (ds.any fun z => PyData.eqv z d)) H
theorem op_inT (hu : X.A.units + 64 < cLine) : OpR X (compareOp .In) (rInT X.K) := by
  intro pins s σ H x y v u Q I rx ry h
  obtain ⟨d, ds, hd, he, sd, dd, se, q⟩ := h
  obtain ⟨as, r1⟩ := Dp.reads I d x v hd rx
  obtain ⟨bs, r2⟩ := Dp.reads I (.tuple ds) y u he ry
  exact SeqAt.in_tuple_reads r2 r1 (SeqAt.canLay_of_shaped se) (SeqAt.canLay_of_shaped sd) (Nat.lt_of_le_of_lt (by have := Nat.min_le_right (PyData.depthAll ds) d.depth; omega) hu) ⟨.bl _, H, I, rfl, q⟩
end
section
variable {C : Addr} {K : PySem.W.Frag} {ρ : Env} {ta tb : TE} {x y : D} {xs : List D}
theorem pys_map : ∀ xs : List D, pys xs = xs.map D.py
  | [] => by unfold pys; rfl
  | x :: xs => by unfold pys; rw [pys_map xs, List.map_cons]
theorem eqv_non (d : D) (h : d.pure = true) : PyData.eqv d.py .none = d.isN := by
  cases d <;> first | (unfold D.pure at h; cases h; done) | (unfold D.py PyData.eqv D.isN; rfl)
theorem any_non (xs : List D) (h : pures xs = true) : ((pys xs).any fun z => PyData.eqv z .none) = xs.any D.isN := by
  induction xs with
  | nil => unfold pys; rfl
  | cons x xs ih =>
    unfold pures at h
    have h' := (Bool.and_eq_true _ _).mp h
    unfold pys
    rw [List.any_cons, List.any_cons, ih h'.2, eqv_non x h'.1]
theorem v_nonInT (hb : EvP C tb ρ (.tup xs)) (p : pures xs = true) (hd : dep (.tup xs) ≤ 60) : EvP C (tOp (rInT K) (tC .non) tb) ρ (.bl (xs.any D.isN)) :=
  v_op v_non hb fun B H e v u rv ru Q q => by
    have p1 : (D.tup xs).pure = true := by unfold D.pure; exact p
    have d1 := Rep.dp (K := K) u (.tup xs) (ru.up e) (pure_plain _ p1)
    refine ⟨.none, pys xs, Rep.dp v .non (rv.up e) rfl, d1, rfl, by show 0 ≤ 60; omega, pure_shaped p1 hd, ?_⟩
    rw [any_non xs p]
    exact q _ B H (.refl e) (.bl _)
theorem v_nonInL (hb : EvP C tb ρ (.lst xs)) (p : pures xs = true) (hd : dep (.lst xs) ≤ 60) : EvP C (tOp (rInD K) (tC .non) tb) ρ (.bl (xs.any D.isN)) :=
  v_op v_non hb fun B H e v u rv ru Q q => by
    have p1 : (D.lst xs).pure = true := by unfold D.pure; exact p
    have d1 := Rep.dp (K := K) u (.lst xs) (ru.up e) (pure_plain _ p1)
    refine ⟨.none, pys xs, Rep.dp v .non (rv.up e) rfl, d1, rfl, pure_shaped p1 hd, ?_⟩
    rw [any_non xs p]
    exact q _ B H (.refl e) (.bl _)
theorem v_eqP {b : Bool} (ha : EvP C ta ρ x) (hb : EvP C tb ρ y) (p : x.pure = true) (p' : y.pure = true) (s : dep x ≤ 60) (s' : dep y ≤ 60) (hd : PyData.eqv x.py y.py = b) : EvP C (tOp (rEqD K) ta tb) ρ (.bl b) :=
  v_eqD ha hb (pure_plain x p) (pure_plain y p') (pure_shaped p s) (pure_shaped p' s') hd
theorem v_neP {b : Bool} (ha : EvP C ta ρ x) (hb : EvP C tb ρ y) (p : x.pure = true) (p' : y.pure = true) (s : dep x ≤ 60) (s' : dep y ≤ 60) (hd : (!PyData.eqv x.py y.py) = b) : EvP C (tOp (rNeD K) ta tb) ρ (.bl b) :=
  v_neD ha hb (pure_plain x p) (pure_plain y p') (pure_shaped p s) (pure_shaped p' s') hd
end
end K55

set_option maxHeartbeats 2000000
/-! K55: what is known of a lot; where two rules part, in plain lists. -/
namespace K55
structure LotOk (t : Lot) : Prop where
  near : ∃ p, near t.first t.last t.many t.rest = some p
  pos : 0 < t.many
  le : t.many ≤ 900
  r0 : 0 ≤ t.rest
  r1 : t.rest < t.many
  mine : EntOk t.mine
  its : EntOk t.its
theorem entOk_at {qs : List Row} (g : Good qs) (n : Int) (i : Nat) : EntOk (((entsAt qs n)[i]?).getD none) := by
  obtain ⟨q, h1, h2, h3⟩ := rowAt_some g n
  unfold entsAt
  rw [h1]
  show EntOk ((q.ents[i]?).getD none)
  cases hq : q.ents[i]? with
  | none => exact trivial
  | some e => exact (h3.2.2 i e hq).1
theorem lots_mem {qs rs : List Row} {t : Lot} (h : t ∈ lots qs rs) : ∃ p r, p ∈ stretches (starts qs rs) ∧ r < (lcm2 (entsAt qs (inside p)).length (entsAt rs (inside p)).length).toNat ∧ t = lotAt (entsAt qs (inside p)) (entsAt rs (inside p)) p r ∧ (near t.first t.last t.many t.rest).isSome = true := by
  have h1 := List.mem_filter.mp h
  obtain ⟨p, hp, h2⟩ := List.mem_flatMap.mp h1.1
  obtain ⟨r, hr, rfl⟩ := List.mem_map.mp h2
  exact ⟨p, r, hp, List.mem_range.mp hr, rfl, h1.2⟩
theorem lots_ok {qs rs : List Row} (g : Good qs) (h : Good rs) {t : Lot} (ht : t ∈ lots qs rs) : LotOk t := by
  obtain ⟨p, r, hp, hr, rfl, hn⟩ := lots_mem ht
  have a3 := entsAt_len g (inside p)
  have b3 := entsAt_len h (inside p)
  have mn := many_le a3.1 b3.1 a3.2 b3.2
  refine ⟨Option.isSome_iff_exists.mp hn, mn.1, mn.2, Int.natCast_nonneg r, ?_, entOk_at g _ _, entOk_at h _ _⟩
  show (r : Int) < lcm2 (entsAt qs (inside p)).length (entsAt rs (inside p)).length
  omega
def geO : Option Int → Int → Bool
  | none, _ => true
  | some f, n => decide (f ≤ n)
def leO : Option Int → Int → Bool
  | none, _ => true
  | some l, n => decide (n ≤ l)
def isIn (f l : Option Int) (n : Int) : Bool := geO f n && leO l n
theorem isIn_iff {f l : Option Int} {n : Int} : isIn f l n = true ↔ InS f l n := by
  unfold isIn InS
  cases f <;> cases l <;> simp [geO, leO]
/-- the number at which the two entries differ -/
def hits (f l : Option Int) (x y : Int × Int × Int) (n : Int) : Bool := isIn f l n && !decide (worth x.1 x.2.1 x.2.2 n = worth y.1 y.2.1 y.2.2 n)
def unl (t : Lot) : Option Int := match near t.first t.last t.many t.rest, t.mine, t.its with
  | none, _, _ => none
  | some _, none, none => none
  | some p, some x, some y => [p.1, p.1 + p.2].find? (hits t.first t.last x y)
  | some p, none, some _ => some p.1
  | some p, some _, none => some p.1
def partedAt (qs rs : List Row) : Option Int := ((lots qs rs).map unl).findSome? id
end K55

set_option maxHeartbeats 2000000
namespace K55
open PySem PySem.Spec PyProof.Rows L2
local macro_rules | `(tactic| walk_at "ev1") => `(tactic| first
  | exact v_var rfl | exact v_int | exact v_bl | exact v_non | exact v_str | exact a_nil | exact v_raw
  | apply a_cons
  | apply v_add | apply v_sub | apply v_mul | apply v_mod | apply v_fdiv | apply v_neg
  | apply v_lt | apply v_le | apply v_gt | apply v_ge | apply v_eqI | apply v_neI
  | apply v_isN | apply v_notN
  | apply b_B | apply b_test | apply b_not | apply b_and0 | apply b_or0
  | apply v_and0 | apply v_or0 | apply v_not
  | apply v_tup | apply v_lst
  | refine' v_cb ?_ c_int
  | exact Nat.le_of_ble_eq_true rfl)
local macro_rules | `(tactic| walk_at "ev") => `(tactic| repeat' walk_at "ev1")
local macro_rules | `(tactic| walk_at "weak") => `(tactic| repeat' (first | exact Weak.nil | apply Weak.same | apply Weak.less))
section
variable {C : Addr} {P : Program} {w : World} {K : PySem.W.Frag} {mg : Str → Option Value} {base : Heap}
/-! ### tells_unlike -/
abbrev s_tells_unlike : Stmt := topS 29
abbrev N_tells_unlike : List Str := ["lot", "first", "last", "many", "rest", "mine", "its", "at", "step", "number", "is_in"]
theorem sc_tells_unlike : FnScope N_tells_unlike ["lot"] (defScope s_tells_unlike) := ⟨rfl, rfl, rfl, by decide +kernel, rfl, by decide +kernel, by decide +kernel⟩
def F_tells_unlike (ds : List D) (d : D) : Prop := ∃ t : Lot, LotOk t ∧ ds = [lotD t] ∧ d = oi (unl t)
theorem ok_tells_unlike {f : Addr} {fd : FuncData} (Fn : Fun K "tells_unlike" "tells_unlike" s_tells_unlike f fd) (T : Bt K mg C) (G_nearest : Df P w K mg base 1 "nearest" ["first", "last", "many", "rest"] (spD C F_nearest)) (G_worth_at : Df P w K mg base 1 "worth_at" ["entry", "number"] (spD C F_worth_at)) :
    FnOk P w K mg base CX0 2 f fd ["lot"] (spD C F_tells_unlike) := by
  refine def_ok Fn sc_tells_unlike (by decide) (fun ds d h => by obtain ⟨_, _, rfl, _⟩ := h; rfl) fun cdv A outer s H E hr ds d hF => ?_
  obtain ⟨⟨fi, la, m, r, mi, it⟩, ⟨⟨⟨at', step⟩, hn⟩, hm, hm2, r0, r1, ok1, ok2⟩, rfl, rfl⟩ := hF
  dsimp only at hn hm hm2 r0 r1 ok1 ok2
  have nd := sc_tells_unlike.nd
  refine ⟨_, (pss_cons (ps_asg (pv 0) (pg_tup (by rfl) (pgs_cons (pg_name (i := 1) nd rfl (.inl rfl)) (pgs_cons (pg_name (i := 2) nd rfl (.inl rfl)) (pgs_cons (pg_name (i := 3) nd rfl (.inl rfl)) (pgs_cons (pg_name (i := 4) nd rfl (.inl rfl)) (pgs_cons (pg_name (i := 5) nd rfl (.inl rfl)) (pgs_cons (pg_name (i := 6) nd rfl (.inl rfl)) pgs_nil))))))))
      (pss_cons (ps_asg (pcall G_nearest (hr.mono (by first | decide | omega)) (by rfl) (pa_cons (pv 1) (pa_cons (pv 2) (pa_cons (pv 3) (pa_cons (pv 4) pa_nil))))) (pg_tup (by rfl) (pgs_cons (pg_name (i := 7) nd rfl (.inl rfl)) (pgs_cons (pg_name (i := 8) nd rfl (.inl rfl)) pgs_nil))))
      (pss_cons (ps_if (PW.pt (pw_or (pt_cmp (pc_isN (pv 5))) (pw_or1 (pt_cmp (pc_isN (pv 6)))))) (pss_one (ps_ret (pe_ifExp (pt_cmpR (op_eqD hr.units) (pv 5) (pv 6) (nomark _)) pe_non (pv 7)))) pss_nil)
      (pss_cons (ps_for PassesOwn.never rfl (pi_tup (pe_tup (pa_cons (pv 7) (pa_cons (pe_op op_add (pv 7) (pv 8)) pa_nil)))) (pg_name (i := 9) nd rfl (.inl rfl)) (pss_cons (ps_set (i := 10) nd rfl (.inl rfl) (pe_and (pe_or (pe_cmp (pc_isN (pv 1))) (pe_one (pe_cmpR op_ge (pv 9) (pv 1) (nomark _)))) (pe_one (pe_or (pe_cmp (pc_isN (pv 2))) (pe_one (pe_cmpR op_le (pv 9) (pv 2) (nomark _)))))))
      (pss_one (ps_if (PW.pt (pw_and (pt_val (pv 10)) (pw_and1 (pt_cmpR op_ne (pcall G_worth_at (hr.mono (by first | decide | omega)) (by rfl) (pa_cons (pv 5) (pa_cons (pv 9) pa_nil))) (pcall G_worth_at (hr.mono (by first | decide | omega)) (by rfl) (pa_cons (pv 6) (pa_cons (pv 9) pa_nil))) (nomark _))))) (pss_one (ps_ret (pv 9))) pss_nil))))
      (pss_one (ps_ret pe_non)))))), ?_⟩
  apply run_lets (v_var rfl) (g_tup (gs_cons g_name (gs_cons g_name (gs_cons g_name (gs_cons g_name (gs_cons g_name (gs_cons g_name gs_nil)))))) rfl)
  refine run_lets (d := .tup [.int at', .int step]) (v_call0 (F := F_nearest) (ds := [oi fi, oi la, .int m, .int r]) (by walk_at "ev") ⟨fi, la, m, r, hm, rfl, by rw [hn]; rfl⟩) (g_tup (gs_cons g_name (gs_cons g_name gs_nil)) rfl) ?_
  have eqE : ∀ {K : PySem.W.Frag} {e e' : Ent} {b : Bool}, PyData.eqv (eD e).py (eD e').py = b → EvP C (tOp (rEqD K) (tVar 5) (tVar 6)) ([some (lotD ⟨fi, la, m, r, e, e'⟩), some (oi fi), some (oi la), some (.int m), some (.int r), some (eD e), some (eD e'), some (.int at'), some (.int step), none, none] : Env) (.bl b) := fun {K e e' b} h =>
    v_eqP (v_var rfl) (v_var rfl) (pure_eD e) (pure_eD e') (Nat.le_trans (dep_eD e) (by decide)) (Nat.le_trans (dep_eD e') (by decide)) h
  rcases mi with _ | ⟨a, b, c⟩
  · apply run_out (b_orT (b_B (v_isN (x := .non) (v_var rfl))) rfl) rfl
    rcases it with _ | ⟨a', b', c'⟩
    · refine run_back (d' := .non) (v_ifT (b_test (eqE (e := none) (e' := none) rfl)) v_non) ?_
      show D.non = oi (unl _)
      unfold unl
      simp only [hn]; rfl
    · refine run_back (d' := .int at') (v_ifF (b_test (eqE (e := none) (e' := some (a', b', c')) rfl)) (v_var rfl)) ?_
      show D.int at' = oi (unl _)
      unfold unl
      simp only [hn]; rfl
  · rcases it with _ | ⟨a', b', c'⟩
    · apply run_out (b_orF (b_B (v_isN (x := eD (some (a, b, c))) (v_var rfl))) rfl (b_B (v_isN (x := .non) (v_var rfl)))) rfl
      refine run_back (d' := .int at') (v_ifF (b_test (eqE (e := some (a, b, c)) (e' := none) rfl)) (v_var rfl)) ?_
      show D.int at' = oi (unl _)
      unfold unl
      simp only [hn]; rfl
    · apply run_by (b_orF (b_B (v_isN (x := eD (some (a, b, c))) (v_var rfl))) rfl (b_B (v_isN (x := eD (some (a', b', c'))) (v_var rfl)))) rfl
      have eu : unl ⟨fi, la, m, r, some (a, b, c), some (a', b', c')⟩ = [at', at' + step].find? (hits fi la (a, b, c) (a', b', c')) := by
        unfold unl
        simp only [hn]
      rw [eu]
      let ρ0 : Env := [some (lotD ⟨fi, la, m, r, some (a, b, c), some (a', b', c')⟩), some (oi fi), some (oi la), some (.int m), some (.int r), some (eD (some (a, b, c))), some (eD (some (a', b', c'))), some (.int at'), some (.int step), none, none]
      let x : Int × Int × Int := (a, b, c)
      let y : Int × Int × Int := (a', b', c')
      have isin : ∀ n : Int, EvP C (tAndV (tOrV (tIsN (tVar 1)) (tOp (rI0 fun i j => .bl (decide (j ≤ i))) (tVar 9) (tVar 1))) (tOrV (tIsN (tVar 2)) (tOp (rI0 fun i j => .bl (decide (i ≤ j))) (tVar 9) (tVar 2)))) (ρ0.set 9 (some (.int n))) (.bl (isIn fi la n)) := fun n => by
        have h1 : EvP C (tOrV (tIsN (tVar 1)) (tOp (rI0 fun i j => .bl (decide (j ≤ i))) (tVar 9) (tVar 1))) (ρ0.set 9 (some (.int n))) (.bl (geO fi n)) := by
          cases fi with
          | none => exact v_orT (v_isN (x := .non) (v_var rfl)) rfl
          | some f => exact v_orF (v_isN (x := .int f) (v_var rfl)) rfl (v_ge (v_var rfl) (v_var rfl))
        have h2 : EvP C (tOrV (tIsN (tVar 2)) (tOp (rI0 fun i j => .bl (decide (i ≤ j))) (tVar 9) (tVar 2))) (ρ0.set 9 (some (.int n))) (.bl (leO la n)) := by
          cases la with
          | none => exact v_orT (v_isN (x := .non) (v_var rfl)) rfl
          | some l => exact v_orF (v_isN (x := .int l) (v_var rfl)) rfl (v_le (v_var rfl) (v_var rfl))
        exact v_and0 h1 h2
      have test : ∀ n : Int, EvB C (tAnd (tB (tVar 10)) (tTest (tOp rNe (tCall (spD C F_worth_at) [] E0 (tCons (tVar 5) (tCons (tVar 9) tNil))) (tCall (spD C F_worth_at) [] E0 (tCons (tVar 6) (tCons (tVar 9) tNil)))))) ((ρ0.set 9 (some (.int n))).set 10 (some (.bl (isIn fi la n)))) (hits fi la x y n) := fun n =>
        b_and (b_B (v_var rfl)) fun _ => b_test (v_neI (v_call0 (F := F_worth_at) (ds := [eD (some (a, b, c)), .int n]) (a_cons (v_var rfl) (a_cons (v_var rfl) a_nil)) ⟨a, b, c, n, ok1, rfl, rfl⟩) (v_call0 (F := F_worth_at) (ds := [eD (some (a', b', c')), .int n]) (a_cons (v_var rfl) (a_cons (v_var rfl) a_nil)) ⟨a', b', c', n, ok2, rfl, rfl⟩))
      have items : EvP C (tTup (tCons (tVar 7) (tCons (tOp (rI0 fun i j => V.int (i + j)) (tVar 7) (tVar 8)) tNil))) ρ0 (.tup ([at', at' + step].map D.int)) := v_tup (by walk_at "ev") (Nat.le_of_ble_eq_true rfl)
      cases hf : [at', at' + step].find? (hits fi la x y) with
      | none =>
        have hno := List.find?_eq_none.mp hf
        refine run_seq (ρ1 := ρ0) (run_forT items (fun _ => ρ0) (fun _ => True) trivial (fun _ _ h => h) (fun i z hi _ => ?_) fun _ σ B h => h) (run_ret v_non)
        rw [List.getElem?_map] at hi
        cases hz : ([at', at' + step] : List Int)[i]? with
        | none => rw [hz] at hi; cases hi
        | some n =>
          rw [hz] at hi
          cases hi
          refine ⟨_, _, g_name, ?_⟩
          apply run_let (isin n)
          exact run_ifN (test n) (by simpa using hno n (List.mem_of_getElem? hz)) (run_next fun σ B h => ⟨trivial, h.weak (by walk_at "weak")⟩)
      | some m =>
        refine run_seqR (run_forT items (fun _ => ρ0) (fun i => ∀ n, n ∈ [at', at' + step].take i → hits fi la x y n = false) (by simp) (fun _ _ h => h) (fun i z hi hF => ?_) fun hF σ B h => ?_)
        · rw [List.getElem?_map] at hi
          cases hz : ([at', at' + step] : List Int)[i]? with
          | none => rw [hz] at hi; cases hi
          | some n =>
            rw [hz] at hi
            cases hi
            refine ⟨_, _, g_name, ?_⟩
            apply run_let (isin n)
            refine run_if (test n) (fun e => ?_) fun e => run_next fun σ B h => ⟨fun k hk => ?_, h.weak (by walk_at "weak")⟩
            · have em : m = n := by
                match i, hz with
                | 0, hz =>
                  have : at' = n := by simpa using hz
                  subst this
                  rw [List.find?_cons_of_pos e] at hf
                  exact (Option.some.inj hf).symm
                | 1, hz =>
                  have e2 : at' + step = n := by simpa using hz
                  have e1 := hF at' (by simp)
                  rw [List.find?_cons_of_neg (by rw [e1]; decide), e2, List.find?_cons_of_pos e] at hf
                  exact (Option.some.inj hf).symm
              subst em
              exact run_ret (v_var rfl)
            · rw [List.take_add_one, hz] at hk
              rcases List.mem_append.mp hk with hk | hk
              · exact hF k hk
              · have : k = n := by simpa using hk
                rw [this]; exact e
        · have h1 := List.find?_some hf
          have h2 := List.mem_of_find?_eq_some hf
          rw [hF m (by simpa using h2)] at h1
          cases h1
/-! ### parted_at -/
abbrev s_parted_at : Stmt := topS 33
abbrev N_parted_at : List Str := ["one", "other", "found", "number", "lot"]
theorem sc_parted_at : FnScope N_parted_at ["one", "other"] (defScope s_parted_at) := ⟨rfl, rfl, rfl, by decide +kernel, rfl, by decide +kernel, by decide +kernel⟩
def F_parted_at (ds : List D) (d : D) : Prop := ∃ qs rs : List Row, Good qs ∧ Good rs ∧ ds = [.rule (rowsD qs), .rule (rowsD rs)] ∧ d = oi (partedAt qs rs)
theorem some_ints : ∀ l : List (Option Int), ((l.filter fun o => o.isSome).map oi) = (l.filterMap id).map D.int
  | [] => rfl
  | none :: l => by rw [List.filter_cons_of_neg (by simp)]; exact some_ints l
  | some x :: l => by rw [List.filter_cons_of_pos (by simp), List.map_cons, some_ints l]; rfl
theorem ok_parted_at {f : Addr} {fd : FuncData} (Fn : Fun K "parted_at" "parted_at" s_parted_at f fd) (T : Bt K mg C) (G_need_rule : Df P w K mg base 1 "need_rule" ["value", "part"] (spD C F_need_rule)) (G_lots_of : Df P w K mg base 2 "lots_of" ["one", "other"] (spD C F_lots_of))
    (G_tells_unlike : Df P w K mg base 2 "tells_unlike" ["lot"] (spD C F_tells_unlike)) : FnOk P w K mg base CX0 3 f fd ["one", "other"] (spD C F_parted_at) := by
  refine def_ok Fn sc_parted_at (by decide) (fun ds d h => by obtain ⟨_, _, _, _, rfl, _⟩ := h; rfl) fun cdv A outer s H E hr ds d hF => ?_
  obtain ⟨qs, rs, g, h, rfl, rfl⟩ := hF
  have nd := sc_parted_at.nd
  have hl : (lots qs rs).length ≤ 36900 := Nat.le_trans (List.length_filter_le _ _) (allLots_len g h)
  refine ⟨_, (pss_cons (ps_expr (pcall G_need_rule (hr.mono (by first | decide | omega)) (by rfl) (pa_cons (pv 0) (pa_cons pe_str pa_nil))))
      (pss_cons (ps_expr (pcall G_need_rule (hr.mono (by first | decide | omega)) (by rfl) (pa_cons (pv 1) (pa_cons pe_str pa_nil))))
      (pss_cons (ps_setLc (i := 2) (own := [("number", 3)]) (by rfl) nd rfl rfl (sw_true rfl rfl rfl (by decide +kernel)) (pi_list (pe_lc (own := [("lot", 4)]) (by rfl) nd (pi_list (pcall G_lots_of (hr.mono (by first | decide | omega)) (by rfl) (pa_cons (pv 0) (pa_cons (pv 1) pa_nil)))) (blkOk_by (own := [("lot", 4)]) (N := N_parted_at) (sc := defScope s_parted_at) (by decide +kernel)) (fun _ _ _ _ _ => (pg_name (i := 4) nd rfl (.inl rfl))) (fun _ _ _ _ _ => pts_nil) (fun _ _ _ _ _ => (pcall G_tells_unlike (hr.mono (by first | decide | omega)) (by rfl) (pa_cons (pv 4) pa_nil))))) (blkOk_by (own := [("number", 3)]) (N := N_parted_at) (sc := defScope s_parted_at) (by decide +kernel)) (fun _ _ _ _ _ => (pg_name (i := 3) nd rfl (.inl rfl))) (fun _ _ _ _ _ => (pts_one (pt_cmp (pc_notN (pv 3))))) (fun _ _ _ _ _ => (pv 3)))
      (pss_one (ps_ret (pe_ifExp (pt_cmpR (op_neD hr.units) (pv 2) (pe_lst pa_nil) (nomark _)) (pe_ix ix_list (pv 2) pe_int (fun _ _ => rfl)) pe_non)))))), ?_⟩
  refine run_seq (ρ1 := [some (.rule (rowsD qs)), some (.rule (rowsD rs)), none, none, none]) (run_drop (v_call0 (F := F_need_rule) (ds := [.rule (rowsD qs), .str "one"]) (a_cons (v_var rfl) (a_cons v_str a_nil)) ⟨_, _, rfl, rfl⟩) fun _ _ z => z) ?_
  refine run_seq (ρ1 := [some (.rule (rowsD qs)), some (.rule (rowsD rs)), none, none, none]) (run_drop (v_call0 (F := F_need_rule) (ds := [.rule (rowsD rs), .str "other"]) (a_cons (v_var rfl) (a_cons v_str a_nil)) ⟨_, _, rfl, rfl⟩) fun _ _ z => z) ?_
  refine run_let (d := .lst ((((lots qs rs).map unl).filterMap id).map D.int)) ?_ ?_
  · rw [← some_ints]
    refine v_lcL (ts := (lots qs rs).map unl) (enc := oi) (f := fun o => o.isSome) (o := oi) ?_ (by rw [List.length_map]; omega) fun o ho => ⟨_, _, g_name, by simp, ?_, fun _ => v_var rfl⟩
    · have h1 := v_lcL (C := C) (K := K) (ρ := wipeE [some (.rule (rowsD qs)), some (.rule (rowsD rs)), none, none, none] []) (vs := [4]) (g := gName 4) (tt := tYes) (te := tCall (spD C F_tells_unlike) [] E0 (tCons (tVar 4) tNil)) (ts := lots qs rs) (enc := lotD) (f := fun _ => true) (o := fun t => oi (unl t)) (v_call0 (E := E0) (F := F_lots_of) (ds := [.rule (rowsD qs), .rule (rowsD rs)]) (a_cons (v_var (i := 0) rfl) (a_cons (v_var (i := 1) rfl) a_nil)) ⟨qs, rs, g, h, rfl, rfl⟩) (by omega) fun t ht =>
        ⟨_, _, g_name, by simp, b_yes, fun _ => v_call0 (F := F_tells_unlike) (ds := [lotD t]) (a_cons (v_var rfl) a_nil) ⟨t, lots_ok g h ht, rfl, rfl⟩⟩
      rw [List.filter_eq_self.mpr (fun _ _ => rfl)] at h1
      rw [List.map_map]
      exact h1
    · cases o with
      | none => exact b_B (v_notN (x := .non) (v_var rfl))
      | some n => exact b_B (v_notN (x := .int n) (v_var rfl))
  · have e : partedAt qs rs = (((lots qs rs).map unl).filterMap id).head? := by
      unfold partedAt
      rw [List.head?_filterMap]
    rw [e]
    generalize ((lots qs rs).map unl).filterMap id = ns
    have hne : EvP C (tOp (rNeD K) (tVar 2) (tLst tNil)) ([some (.rule (rowsD qs)), some (.rule (rowsD rs)), some (.lst (ns.map D.int)), none, none] : Env) (.bl (!ns.isEmpty)) := v_neP (v_var rfl) (v_lst a_nil (Nat.zero_le _)) (pure_ints ns) (pure_ints []) (Nat.le_trans (dep_ints ns) (by decide)) (by decide) (by rw [eqv_nil]; cases ns <;> rfl)
    cases ns with
    | nil => exact run_ret (v_ifF (b_test hne) v_non)
    | cons n ns => exact run_ret (v_ifT (b_test hne) (v_ixL (z := .int n) (v_var rfl) v_int (atI_map D.int (atI_of (x := n) (by omega) rfl))))
/-! ### growth_of -/
def flat : Ent → Bool
  | none => true
  | some (a, _, _) => decide (a = 0)
def grow (es : List Ent) : Str := bif es.any (fun e => e.isNone) then "endless" else bif es.all flat then "none" else "straight"
abbrev s_growth_of : Stmt := topS 32
abbrev N_growth_of : List Str := ["rule", "entries", "entry"]
theorem sc_growth_of : FnScope N_growth_of ["rule"] (defScope s_growth_of) := ⟨rfl, rfl, rfl, by decide +kernel, rfl, by decide +kernel, by decide +kernel⟩
def F_growth_of (ds : List D) (d : D) : Prop := ∃ (qs : List Row) (q : Row), Good qs ∧ qs[qs.length - 1]? = some q ∧ ds = [.rule (rowsD qs)] ∧ d = .str (grow q.ents)
theorem ok_growth_of {f : Addr} {fd : FuncData} {dvs : List V} (Fn : Fun K "growth_of" "growth_of" s_growth_of f fd) (T : Bt K mg C) (hd : ∀ B, Reps C B dvs [.str "rule"]) (G_need_rule1 : DfD P w K mg base 1 "need_rule" ["value", "part"] dvs (spD C F_need_rule)) :
    FnOk P w K mg base CX0 2 f fd ["rule"] (spD C F_growth_of) := by
  refine def_ok Fn sc_growth_of (by decide) (fun ds d h => by obtain ⟨_, _, _, _, rfl, _⟩ := h; rfl) fun cdv A outer s H E hr ds d hF => ?_
  obtain ⟨qs, q, g, hq, rfl, rfl⟩ := hF
  have nd := sc_growth_of.nd
  have hl := (g.2.2 q (List.mem_of_getElem? hq)).2.1
  refine ⟨_, (pss_cons (ps_expr (pcallD G_need_rule1 (hr.mono (by first | decide | omega)) (by rfl) (pa_cons (pv 0) pa_nil)))
      (pss_cons (ps_set (i := 1) nd rfl (.inl rfl) (pe_ix ix_tup (pe_ix ix_tup (pe_fld (pv 0) rfl) (pe_un un_neg pe_int) (fun _ _ => rfl)) pe_int (fun _ _ => rfl)))
      (pss_cons (ps_if (pt_cmpR (op_inT hr.units) pe_non (pv 1) (by rfl)) (pss_one (ps_ret pe_str)) pss_nil)
      (pss_one (ps_ret (pe_ifExp (pt_val (pe_callB (cr_all rfl) (by rfl) T.n_all bo_all (pa_cons (pe_lc (own := [("entry", 2)]) (by rfl) nd (pi_tup (pv 1)) (blkOk_by (own := [("entry", 2)]) (N := N_growth_of) (sc := defScope s_growth_of) (by decide +kernel)) (fun _ _ _ _ _ => (pg_name (i := 2) nd rfl (.inl rfl))) (fun _ _ _ _ _ => pts_nil) (fun _ _ _ _ _ => (pe_cmpR op_eq (pe_ix (ixT (K := K) rfl) (pv 2) pe_int (fun _ _ => rfl)) pe_int (nomark _)))) pa_nil))) pe_str pe_str)))))), ?_⟩
  refine run_seq (ρ1 := [some (.rule (rowsD qs)), none, none]) (run_drop (v_call (F := F_need_rule) (ds := [.rule (rowsD qs)]) (es := [.str "rule"]) (d := .non) (a_cons (v_var rfl) a_nil) hd ⟨_, _, rfl, rfl⟩) fun _ _ h => h) ?_
  refine run_let (d := .tup (q.ents.map eD)) (v_ixT (ds := [oi q.first, oi q.last, .tup (q.ents.map eD)]) (v_ixT (v_rows (v_var rfl) T.cl T.nR) (v_neg v_int) (atI_map (f := rowD) (atI_back hq))) v_int rfl) ?_
  have hp : pures (q.ents.map eD) = true := pures_of fun x hx => by
    obtain ⟨e, _, rfl⟩ := List.mem_map.mp hx
    exact pure_eD e
  have hdp : dep (.tup (q.ents.map eD)) ≤ 2 := by
    unfold dep
    have : deps (q.ents.map eD) ≤ 1 := deps_of fun x hx => by
      obtain ⟨e, _, rfl⟩ := List.mem_map.mp hx
      exact dep_eD e
    omega
  have hin : EvP C (tOp (rInT K) (tC .non) (tVar 1)) ([some (.rule (rowsD qs)), some (.tup (q.ents.map eD)), none] : Env) (.bl (q.ents.any fun e => e.isNone)) := (v_nonInT (v_var rfl) hp (Nat.le_trans hdp (by decide))).is (by
    rw [List.any_map]
    congr 2
    funext e
    rcases e with _ | ⟨a, b, c⟩ <;> rfl)
  unfold grow
  cases he : q.ents.any fun e => e.isNone with
  | true =>
    rw [he] at hin
    exact run_out (b_test hin) rfl (run_ret v_str)
  | false =>
    rw [he] at hin
    apply run_by (b_test hin) rfl
    have hall : EvP C (tCB (rAll K) (tCons (tLc (iTup K (tVar 1)) (gName 2) tYes (tOp rEq (tOp (rIxT K) (tVar 2) (tC (.int 0))) (tC (.int 0))) [2]) tNil)) ([some (.rule (rowsD qs)), some (.tup (q.ents.map eD)), none] : Env) (.bl (q.ents.all flat)) := by
      have h1 : EvP C (tLc (iTup K (tVar 1)) (gName 2) tYes (tOp rEq (tOp (rIxT K) (tVar 2) (tC (.int 0))) (tC (.int 0))) [2]) ([some (.rule (rowsD qs)), some (.tup (q.ents.map eD)), none] : Env) (.lst ((q.ents.map flat).map D.bl)) := by
        have h2 := v_lcT (C := C) (K := K) (ρ := [some (.rule (rowsD qs)), some (.tup (q.ents.map eD)), none]) (vs := [2]) (g := gName 2) (tt := tYes) (tl := tVar 1) (te := tOp rEq (tOp (rIxT K) (tVar 2) (tC (.int 0))) (tC (.int 0))) (ts := q.ents) (enc := eD) (f := fun _ => true) (o := fun e => .bl (flat e)) (v_var rfl) (by omega) fun e hm => ⟨_, _, g_name, by simp, b_yes, fun _ => ?_⟩
        · rw [List.filter_eq_self.mpr (fun _ _ => rfl)] at h2
          rw [List.map_map]
          exact h2
        · have hne : e.isNone = false := by
            have := List.any_eq_false.mp he e hm
            cases q5 : e.isNone with
            | false => rfl
            | true => exact absurd q5 this
          rcases e with _ | ⟨a, b, c⟩
          · cases hne
          · exact v_eqI (v_ixT (z := .int a) (v_var rfl) v_int rfl) v_int
      have h3 := v_cb (C := C) (a_cons h1 a_nil) (c_all (C := C) (K := K) (bs := q.ents.map flat))
      rw [List.all_map] at h3
      exact h3
    show Run C _ _ _ (Ret C (.str (bif q.ents.all flat then "none" else "straight")))
    cases hb : q.ents.all flat with
    | true =>
      rw [hb] at hall
      exact run_ret (v_ifT (b_B hall) v_str)
    | false =>
      rw [hb] at hall
      exact run_ret (v_ifF (b_B hall) v_str)
end
end K55

set_option maxHeartbeats 2000000
/-! K55: the most that a rule tells, lot by lot. -/
namespace K55
def bad (t : Lot) : Bool := match t.mine with
  | none => true
  | some x => !decide (x.1 = 0) && (t.first.isNone || t.last.isNone)
def nearN (t : Lot) : Int := match near t.first t.last t.many t.rest with
  | none => 0
  | some p => p.1
def endsOf (t : Lot) : List Int := match t.first, t.last with
  | some _, some l => [nearN t, far l t.many t.rest]
  | _, _ => [nearN t]
def worths (t : Lot) : List Int := match t.mine with
  | none => []
  | some x => (endsOf t).map (worth x.1 x.2.1 x.2.2)
def mx (m : Int) (ws : List Int) : Int := ws.foldl max m
def mostF : List Lot → Int → Option Int
  | [], m => some m
  | t :: ts, m => bif bad t then none else mostF ts (mx m (worths t))
def mostOf (qs : List Row) : Option Int := mostF (lots qs qs) 0
theorem mx_spec : ∀ (ws : List Int) (m : Int), mx m ws ∈ m :: ws ∧ ∀ y, y ∈ m :: ws → y ≤ mx m ws
  | [], m => ⟨List.mem_singleton.mpr rfl, fun y hy => by rw [List.mem_singleton] at hy; rw [hy]; exact Int.le_refl m⟩
  | w :: ws, m => by
    have e : mx m (w :: ws) = mx (max m w) ws := by unfold mx; rw [List.foldl_cons]
    obtain ⟨h1, h2⟩ := mx_spec ws (max m w)
    rw [e]
    refine ⟨?_, fun y hy => ?_⟩
    · rcases List.mem_cons.mp h1 with z | z
      · rw [z]
        by_cases q : m ≤ w
        · rw [Int.max_eq_right q]; simp
        · rw [Int.max_eq_left (by omega)]; simp
      · exact List.mem_cons_of_mem _ (List.mem_cons_of_mem _ z)
    · have h3 := h2 (max m w) List.mem_cons_self
      rcases List.mem_cons.mp hy with rfl | hy
      · exact Int.le_trans (Int.le_max_left _ _) h3
      · rcases List.mem_cons.mp hy with rfl | hy
        · exact Int.le_trans (Int.le_max_right _ _) h3
        · exact h2 y (List.mem_cons_of_mem _ hy)
end K55

set_option maxHeartbeats 2000000
namespace K55
open PySem PySem.Spec PyProof.Rows L2
local macro_rules | `(tactic| walk_at "ev1") => `(tactic| first
  | exact v_var rfl | exact v_int | exact v_bl | exact v_non | exact v_str | exact a_nil | exact v_raw
  | apply a_cons
  | apply v_add | apply v_sub | apply v_mul | apply v_mod | apply v_fdiv | apply v_neg
  | apply v_lt | apply v_le | apply v_gt | apply v_ge | apply v_eqI | apply v_neI
  | apply v_isN | apply v_notN
  | apply b_B | apply b_test | apply b_not | apply b_and0 | apply b_or0
  | apply v_and0 | apply v_or0 | apply v_not
  | apply v_tup | apply v_lst
  | refine' v_cb ?_ c_int
  | exact Nat.le_of_ble_eq_true rfl)
local macro_rules | `(tactic| walk_at "ev") => `(tactic| repeat' walk_at "ev1")
local macro_rules | `(tactic| walk_at "weak") => `(tactic| repeat' (first | exact Weak.nil | apply Weak.same | apply Weak.less))
section
variable {C : Addr} {K : PySem.W.Frag} {ρ : Env} {ta : TA} {j : Nat} {R : V → As} {ds : List D}
theorem tr_newL {B0 H0 : Hp} (h : EvA C ta ρ ds) (hl : ds.length ≤ 100000) : Tr C (tAsg (tLst ta) (gName j)) ρ (Step B0 H0) (fun σ B H => ∃ L, ToI C (ρ.set j (some (.raw (.ref L)))) (fun B H => H0 L = none ∧ And2 (Step B0 H0) (Cl C L ds) B H) σ B H) R := fun Z σ B H hS hI q1 q2 =>
  h σ B H hS hI.s _ fun vs B1 H1 s1 r1 => by
    refine ⟨by rw [r1.length]; exact fits hl, fun L hL => ?_⟩
    have s2 := hI.trans s1
    refine q1 _ B1 _ s1.b ⟨L, (hS.up s1.b).put (.raw _), s2.h.free hL, ⟨s2.b, fun a u q => ?_, s1.s.side (s1.s.free hL), s2.f⟩, s1.s.free hL, vs, upd_same, r1⟩
    rw [upd_ne (ne_of_none (s2.h a u q) hL)]
    exact s2.h a u q
end
section
variable {C : Addr} {P : Program} {w : World} {K : PySem.W.Frag} {mg : Str → Option Value} {base : Heap}
/-! ### most_of -/
abbrev s_most_of : Stmt := topS 31
abbrev N_most_of : List Str := ["rule", "found", "first", "last", "many", "rest", "entry", "_", "ends", "end"]
theorem sc_most_of : FnScope N_most_of ["rule"] (defScope s_most_of) := ⟨rfl, rfl, rfl, by decide +kernel, rfl, by decide +kernel, by decide +kernel⟩
def F_most_of (ds : List D) (d : D) : Prop := ∃ qs : List Row, Good qs ∧ ds = [.rule (rowsD qs)] ∧ d = oi (mostOf qs)
theorem ok_most_of {f : Addr} {fd : FuncData} {dvs : List V} (Fn : Fun K "most_of" "most_of" s_most_of f fd) (T : Bt K mg C) (hdv : ∀ B, Reps C B dvs [.str "rule"]) (G_need_rule1 : DfD P w K mg base 1 "need_rule" ["value", "part"] dvs (spD C F_need_rule)) (G_lots_of : Df P w K mg base 2 "lots_of" ["one", "other"] (spD C F_lots_of))
    (G_nearest : Df P w K mg base 1 "nearest" ["first", "last", "many", "rest"] (spD C F_nearest)) (G_farthest : Df P w K mg base 1 "farthest" ["first", "last", "many", "rest"] (spD C F_farthest)) (G_worth_at : Df P w K mg base 1 "worth_at" ["entry", "number"] (spD C F_worth_at)) :
    FnOk P w K mg base CX0 3 f fd ["rule"] (spD C F_most_of) := by
  refine def_okT Fn sc_most_of (by decide) (fun ds d h => by obtain ⟨_, _, rfl, _⟩ := h; rfl) fun cdv A outer s H E hr ds d hF => ?_
  obtain ⟨qs, g, rfl, rfl⟩ := hF
  have nd := sc_most_of.nd
  refine ⟨_, (pss_cons (ps_expr (pcallD G_need_rule1 (hr.mono (by first | decide | omega)) (by rfl) (pa_cons (pv 0) pa_nil)))
      (pss_cons (ps_set (i := 1) nd rfl (.inl rfl) pe_int)
      (pss_cons (ps_for PassesOwn.never rfl (pi_list (pcall G_lots_of (hr.mono (by first | decide | omega)) (by rfl) (pa_cons (pv 0) (pa_cons (pv 0) pa_nil)))) (pg_tup (by rfl) (pgs_cons (pg_name (i := 2) nd rfl (.inl rfl)) (pgs_cons (pg_name (i := 3) nd rfl (.inl rfl)) (pgs_cons (pg_name (i := 4) nd rfl (.inl rfl)) (pgs_cons (pg_name (i := 5) nd rfl (.inl rfl)) (pgs_cons (pg_name (i := 6) nd rfl (.inr rfl)) (pgs_cons (pg_name (i := 7) nd rfl (.inl rfl)) pgs_nil))))))) (pss_cons (ps_if (PW.pt (pw_or (pt_cmp (pc_isN (pv 6))) (pw_or1 (PW.pt (pw_and (pt_cmpR op_ne (pe_ix ix_tup (pv 6) pe_int (fun _ _ => rfl)) pe_int (nomark _)) (pw_and1 (PW.pt (pw_or (pt_cmp (pc_isN (pv 2))) (pw_or1 (pt_cmp (pc_isN (pv 3)))))))))))) (pss_one (ps_ret pe_non)) pss_nil)
      (pss_cons (ps_set (i := 8) nd rfl (.inl rfl) (pe_lst (pa_cons (pe_ix ix_tup (pcall G_nearest (hr.mono (by first | decide | omega)) (by rfl) (pa_cons (pv 2) (pa_cons (pv 3) (pa_cons (pv 4) (pa_cons (pv 5) pa_nil))))) pe_int (fun _ _ => rfl)) pa_nil)))
      (pss_cons (ps_if (PW.pt (pw_and (pt_cmp (pc_notN (pv 2))) (pw_and1 (pt_cmp (pc_notN (pv 3)))))) (pss_one (ps_expr (pe_bm PySem.F.plainAttrs_list PySem.F.slot_list_append PySem.F.type_list_append mt_append (pv 8) (pa_cons (pcall G_farthest (hr.mono (by first | decide | omega)) (by rfl) (pa_cons (pv 2) (pa_cons (pv 3) (pa_cons (pv 4) (pa_cons (pv 5) pa_nil))))) pa_nil)))) pss_nil)
      (pss_one (ps_set (i := 1) nd rfl (.inl rfl) (pe_callB (cr_max rfl) (by rfl) T.n_max bo_max (pa_cons (pe_lst (pa_cons (pv 1) (StX.pa_star (pe_lc (own := [("end", 9)]) (by rfl) nd (pi_list (pv 8)) (blkOk_by (own := [("end", 9)]) (N := N_most_of) (sc := defScope s_most_of) (by decide +kernel)) (fun _ _ _ _ _ => (pg_name (i := 9) nd rfl (.inl rfl))) (fun _ _ _ _ _ => pts_nil) (fun _ _ _ _ _ => (pcall G_worth_at (hr.mono (by first | decide | omega)) (by rfl) (pa_cons (pv 6) (pa_cons (pv 9) pa_nil))))) pa_nil))) pa_nil))))))))
      (pss_one (ps_ret (pv 1)))))), fun B0 H0 e0 => ?_⟩
  have okJ := okFr B0 H0
  refine tr_do okJ (v_call (F := F_need_rule) (ds := [.rule (rowsD qs)]) (es := [.str "rule"]) (d := .non) (a_cons (v_var rfl) a_nil) hdv ⟨_, _, rfl, rfl⟩) ?_
  refine tr_let okJ v_int ?_
  let ms : Nat → Int := fun i => ((lots qs qs).take i).foldl (fun m t => mx m (worths t)) 0
  let ρs : Nat → Env := fun i => [some (.rule (rowsD qs)), some (.int (ms i)), none, none, none, none, none, none, none, none]
  let Is : Nat → As := fun i B H => mostF ((lots qs qs).drop i) (ms i) = mostOf qs ∧ Step B0 H0 B H
  refine tr_seq (ρ1 := ρs (lots qs qs).length) (I1 := Is (lots qs qs).length) (tr_forL okJ (v_call0 (F := F_lots_of) (ds := [.rule (rowsD qs), .rule (rowsD qs)]) (a_cons (v_var rfl) (a_cons (v_var rfl) a_nil)) ⟨qs, qs, g, g, rfl, rfl⟩) ρs Is (fun σ B H a b => ⟨a, rfl, b⟩) (fun i B H z => z.2.s) (fun i x hx => ?_) fun σ B H a b => ?_) ?_
  · rw [List.getElem?_map] at hx
    cases ht : (lots qs qs)[i]? with
    | none => rw [ht] at hx; cases hx
    | some t =>
      rw [ht] at hx
      cases hx
      have hlt := (List.getElem?_eq_some_iff.mp ht).1
      have ok := lots_ok g g (List.mem_of_getElem? ht)
      have hdrop : (lots qs qs).drop i = t :: (lots qs qs).drop (i + 1) := by
        rw [List.drop_eq_getElem_cons hlt]
        congr 1
        exact (List.getElem?_eq_some_iff.mp ht).2
      have hms : ms (i + 1) = mx (ms i) (worths t) := by
        show ((lots qs qs).take (i + 1)).foldl _ 0 = _
        rw [List.take_add_one, ht, List.foldl_append]; rfl
      refine ⟨_, _, g_tup (gs_cons g_name (gs_cons g_name (gs_cons g_name (gs_cons g_name (gs_cons g_name (gs_cons g_name gs_nil)))))) rfl, tr_pure fun hP => ?_⟩
      rw [hdrop] at hP
      have hP' : (bif bad t then none else mostF ((lots qs qs).drop (i + 1)) (mx (ms i) (worths t))) = mostOf qs := hP
      obtain ⟨⟨np, hn⟩, hm, hm2, r0, r1, ok1, ok2⟩ := ok
      have hnear : nearN t = np.1 := by unfold nearN; rw [hn]
      obtain ⟨fi, la, m, r, mi, it⟩ := t
      dsimp only at hn hm hm2 r0 r1 ok1 ok2
      rcases mi with _ | ⟨a, b, c⟩
      · refine tr_out okJ (b := true) (b_orT (b_B (v_isN (x := .non) (v_var rfl))) rfl) rfl ?_
        have : mostOf qs = none := hP'.symm
        rw [this]
        exact tr_ret okJ v_non fun v B H p q => ⟨p, q⟩
      have htest : EvB C (tOr (tB (tIsN (tVar 6))) (tAnd (tTest (tOp rNe (tOp (rIxT K) (tVar 6) (tC (.int 0))) (tC (.int 0)))) (tOr (tB (tIsN (tVar 2))) (tB (tIsN (tVar 3)))))) ([some (.rule (rowsD qs)), some (.int (ms i)), some (oi fi), some (oi la), some (.int m), some (.int r), some (eD (some (a, b, c))), some (eD it), none, none] : Env) (bad ⟨fi, la, m, r, some (a, b, c), it⟩) :=
        b_orF (b_B (v_isN (x := eD (some (a, b, c))) (v_var rfl))) rfl (b_and0 (b_test (v_neI (v_ixT (z := .int a) (v_var rfl) v_int rfl) v_int)) ((b_or0 (b_B (v_isN (x := oi fi) (v_var rfl))) (b_B (v_isN (x := oi la) (v_var rfl)))).is (by cases fi <;> cases la <;> rfl)))
      cases hb : bad ⟨fi, la, m, r, some (a, b, c), it⟩ with
      | true =>
        rw [hb] at hP' htest
        refine tr_out okJ htest rfl ?_
        have : mostOf qs = none := hP'.symm
        rw [this]
        exact tr_ret okJ v_non fun v B H p q => ⟨p, q⟩
      | false =>
        rw [hb] at hP' htest
        have hP2 : mostF ((lots qs qs).drop (i + 1)) (ms (i + 1)) = mostOf qs := by rw [hms]; exact hP'
        refine tr_by okJ htest rfl ?_
        refine tr_seqE (tr_newL (ds := [.int np.1]) (a_cons (v_ixT (z := .int np.1) (v_call0 (F := F_nearest) (ds := [oi fi, oi la, .int m, .int r]) (d := .tup [.int np.1, .int np.2]) (by walk_at "ev") ⟨fi, la, m, r, hm, rfl, by rw [hn]; rfl⟩) v_int rfl) a_nil) (by simp)) fun L => tr_pure fun hL => ?_
        have hboth : EvB C (tAnd (tB (tNotN (tVar 2))) (tB (tNotN (tVar 3)))) ([some (.rule (rowsD qs)), some (.int (ms i)), some (oi fi), some (oi la), some (.int m), some (.int r), some (eD (some (a, b, c))), some (eD it), some (.raw (.ref L)), none] : Env) (fi.isSome && la.isSome) :=
          (b_and0 (b_B (v_notN (x := oi fi) (v_var rfl))) (b_B (v_notN (x := oi la) (v_var rfl)))).is (by cases fi <;> cases la <;> rfl)
        refine tr_seq (ρ1 := [some (.rule (rowsD qs)), some (.int (ms i)), some (oi fi), some (oi la), some (.int m), some (.int r), some (eD (some (a, b, c))), some (eD it), some (.raw (.ref L)), none]) (I1 := And2 (Step B0 H0) (Cl C L ((endsOf ⟨fi, la, m, r, some (a, b, c), it⟩).map D.int))) (tr_if (okCl okJ) hboth (fun e => ?_) fun e => tr_next fun σ B H p q => ⟨p, ?_⟩) ?_
        · cases fi with
          | none => cases e
          | some f =>
            cases la with
            | none => cases e
            | some l =>
              have e1 : endsOf ⟨some f, some l, m, r, some (a, b, c), it⟩ = [np.1] ++ [far l m r] := by
                show [nearN _, far l m r] = _
                rw [hnear]; rfl
              rw [e1, List.map_append]
              exact (tr_app (d := .int (far l m r)) okJ (fun n' s' => fr_upd hL n' s') (j := 8) rfl (v_call0 (F := F_farthest) (ds := [oi (some f), .int l, .int m, .int r]) (by walk_at "ev") ⟨some f, l, m, r, hm, rfl, rfl⟩) (by simp)).imp (fun σ B H z => z) fun _ _ _ z => z
        · have e1 : endsOf ⟨fi, la, m, r, some (a, b, c), it⟩ = [np.1] := by
            cases fi with
            | none => show [nearN _] = _; rw [hnear]
            | some f =>
              cases la with
              | none => show [nearN _] = _; rw [hnear]
              | some l => cases e
          rw [e1]
          exact q
        · refine tr_settle (j := 8) (fun n e s => fr_settle hL n e s) rfl ?_
          have hlen : (endsOf ⟨fi, la, m, r, some (a, b, c), it⟩).length ≤ 2 := by
            unfold endsOf
            split <;> simp
          have hw : worths ⟨fi, la, m, r, some (a, b, c), it⟩ = (endsOf ⟨fi, la, m, r, some (a, b, c), it⟩).map (worth a b c) := rfl
          have hmx := mx_spec (worths ⟨fi, la, m, r, some (a, b, c), it⟩) (ms i)
          refine (tr_run (N := To C _) (R := fun _ _ => False) okJ (run_set (d := .int (ms (i + 1))) (v_cb (a_cons ((v_lst (a_cons (v_var rfl) (a_starL (v_lcL (ts := endsOf ⟨fi, la, m, r, some (a, b, c), it⟩) (enc := D.int) (f := fun _ => true) (o := fun n => .int (worth a b c n)) (v_var rfl) (by omega) fun n hn => ⟨_, _, g_name, by simp, b_yes, fun _ => v_call0 (F := F_worth_at) (ds := [eD (some (a, b, c)), .int n]) (a_cons (v_var rfl) (a_cons (v_var rfl) a_nil)) ⟨a, b, c, n, ok1, rfl, rfl⟩⟩) a_nil)) ?_).is (y := .lst ((ms i :: worths ⟨fi, la, m, r, some (a, b, c), it⟩).map D.int)) ?_) a_nil) (c_max (by simp) (by rw [hms]; exact hmx.1) (by rw [hms]; exact hmx.2))))).imp (fun σ B H z => ⟨z.1.weak (by walk_at "weak"), hP2, z.2⟩) fun _ _ _ z => z.1.elim
          · rw [List.length_cons, List.append_nil, List.length_map, List.filter_eq_self.mpr (fun _ _ => rfl)]
            omega
          · rw [List.append_nil, List.filter_eq_self.mpr (fun _ _ => rfl), hw, List.map_cons, List.map_map]
            rfl
  · rw [List.length_map] at a b
    exact ⟨a, b⟩
  · refine tr_pure fun hP => ?_
    rw [List.drop_length] at hP
    have hP' : some (ms (lots qs qs).length) = mostOf qs := hP
    rw [← hP']
    exact tr_ret okJ (v_var rfl) fun v B H a b => ⟨a, b⟩
end
end K55

set_option maxHeartbeats 2000000
/-! K55, own rule 2: a dict whose keys are pairs of None or int, its values lists. -/
namespace K55
open PySem PySem.Spec PyProof.Rows L2

abbrev NK := Option Int × Option Int
def nk1 : Option Int → NestedKey
  | none => .none
  | some i => .num i
def nk (p : NK) : NestedKey := .tup [nk1 p.1, nk1 p.2]
def oV : Option Int → V
  | none => .non
  | some i => .int i
/-- an entry: its key, where the key's tuple stands, where the list stands -/
abbrev NE := NK × Addr × Addr
def nx (e : NE) : NestedKey × Addr × Value := (nk e.1, e.2.1, .ref e.2.2)
theorem nk1_inj {a b : Option Int} (h : nk1 a = nk1 b) : a = b := by
  cases a <;> cases b <;> first | rfl | (cases h; done) | (cases h; rfl)
theorem nk_inj {a b : NK} (h : nk a = nk b) : a = b := by
  unfold nk at h
  injection h with h
  injection h with h1 h2
  injection h2 with h2 h3
  exact Prod.ext (nk1_inj h1) (nk1_inj h2)
def nfind (es : List NE) (p : NK) : Option NE := es.find? fun e => decide (e.1 = p)
def nput (es : List NE) (p : NK) (b l : Addr) : List NE := if (nfind es p).isSome then es.map (fun e => if e.1 = p then (e.1, e.2.1, l) else e) else es ++ [(p, b, l)]
theorem at_nx (p : NK) : ∀ es : List NE, atKey (es.map nx) (nk p) = (nfind es p).map fun e => (e.2.1, Value.ref e.2.2)
  | [] => rfl
  | e :: es => by
    have ih := at_nx p es
    unfold atKey nfind at ih ⊢
    rw [List.map_cons, List.find?_cons, List.find?_cons]
    by_cases h : e.1 = p
    · have h1 : (nx e).1 = nk p := by show nk e.1 = nk p; rw [h]
      rw [decide_eq_true h, decide_eq_true h1]; rfl
    · have h1 : ¬ (nx e).1 = nk p := fun z => h (nk_inj z)
      rw [decide_eq_false h, decide_eq_false h1]
      exact ih
theorem stored_nx (es : List NE) (p : NK) (b l : Addr) : storedH (es.map nx) (nk p) b (.ref l) = (nput es p b l).map nx := by
  unfold storedH nput
  rw [at_nx, Option.isSome_map]
  cases (nfind es p).isSome with
  | false => rw [if_neg (by decide), if_neg (by decide), List.map_append]; rfl
  | true =>
    rw [if_pos rfl, if_pos rfl, List.map_map, List.map_map]
    refine List.map_congr_left fun e _ => ?_
    show putAt (nk p) (.ref l) (nx e) = nx (if e.1 = p then (e.1, e.2.1, l) else e)
    unfold putAt
    by_cases h : e.1 = p
    · rw [if_pos h, if_pos (show (nx e).1 = nk p by show nk e.1 = nk p; rw [h])]; rfl
    · rw [if_neg h, if_neg (fun z : (nx e).1 = nk p => h (nk_inj z))]
section
variable (P : Program) (w : World)
def nphi (a : Addr) (es : List NE) : Heap → Prop := fun h => (a == sysModules) = false ∧ ∃ o arr ep, h.get? a = some o ∧ o.ExactDict ∧ o.data = .dict arr ep ∧ arr.toList = (es.map nx).map (entryOfKey (nestedKind P w)) ∧ ((es.map nx).map (·.1)).Nodup
def NDO (a : Addr) (es : List NE) : HO := .ext (nphi P w a es)
end
/-- the tuples that are the keys -/
def NKeys (H : Hp) (es : List NE) : Prop := ∀ e, e ∈ es → H e.2.1 = some (.tup [oV e.1.1, oV e.1.2])
section
variable {P : Program} {w : World} {H : Hp} {h : Heap} {a b : Addr} {es : List NE}
theorem ndo_ok (x : nphi P w a es h) : ObjOk P w H h a (NDO P w a es) := by
  refine ⟨x, ?_, fun h1 h2 y k => ?_⟩
  · obtain ⟨_, o, _, _, ho, _⟩ := x
    exact ⟨o, ho⟩
  · obtain ⟨hs, o, arr, ep, ho, r⟩ := y
    exact ⟨hs, o, arr, ep, k o ho, r⟩
theorem nkey_of {p : NK} (ok : HOk P w H h) (e : H b = some (.tup [oV p.1, oV p.2])) : (nestedKind P w).is h (nk p) b := by
  obtain ⟨_, its, r, o, h1, h2, n, h3⟩ := (show ObjOk P w H h b (.tup [oV p.1, oV p.2]) from ok b _ e)
  have one : ∀ {q : Option Int} {u : Value}, RelV (oV q) u → NestedIs h (nk1 q) u := by
    intro q u ru
    cases q with
    | none => cases ru; exact .none
    | some i => obtain ⟨t, rfl⟩ := (show ∃ t, u = Value.int i t from ru); exact .int i t
  cases r with
  | cons r1 r2 =>
    cases r2 with
    | cons r2 r3 =>
      cases r3
      exact ⟨NestedIs.tup h1 h2 h3 (.cons (one r1) (.cons (one r2) .nil)), by obtain ⟨p1, p2⟩ := p; cases p1 <;> cases p2 <;> simp [nk, nk1, NestedKey.depth, NestedKey.depthAll]⟩
theorem nd_of (ok : HOk P w H h) (e : Rd H a (NDO P w a es)) (hk : NKeys H es) : (a == sysModules) = false ∧ h.DictOfH (nestedKind P w) a (es.map nx) := by
  obtain ⟨⟨hs, o, arr, ep, ho, hx, hd, he, hn⟩, _⟩ := (show ObjOk P w H h a (NDO P w a es) from e.ok ok)
  refine ⟨hs, o, arr, ep, ho, hx, hd, he, fun x hx => ?_, hn⟩
  obtain ⟨y, hy, rfl⟩ := List.mem_map.mp hx
  exact nkey_of ok (hk y hy)
theorem ndo_empty (h : Heap) (hb : sysModules < h.objs.size) : ObjOk P w H (h.push { cls := .type "dict", data := .dict #[] }) h.objs.size (NDO P w h.objs.size []) :=
  ndo_ok ⟨beq_eq_false_iff_ne.mpr (Ne.symm (Nat.ne_of_lt hb)), _, #[], 0, Heap.get?_push_size _ rfl, ⟨rfl, rfl, rfl⟩, rfl, rfl, List.nodup_nil⟩
end
section
variable {X : Cx} {pos : Pos}
def tDNewN (P : Program) (w : World) : TE := fun _ H Q => ∀ p, H p = none → Q (.ref p) (upd H p (NDO P w p []))
theorem pe_dnewN : PE X (.Dict [] [] pos) (tDNewN X.prog X.w) := ⟨fun pins s σ H Q I h =>
  wpAny_Dict_empty ⟨.ref s.heap.objs.size, _, I.laid (a := s.heap.objs.size) (o := NDO X.prog X.w s.heap.objs.size []) (t' := s.toks) (fun _ _ q => Heap.get?_push_of_some _ q) (Nat.le_refl _) (ndo_empty s.heap I.big), rfl, h _ (I.hok.fresh (Nat.le_refl _))⟩⟩
variable {o e : Expr} {xs : List Expr} {to td : TE} {t : TA} {apos cpos : Pos}
/-- d.get(key, a list) -/
def tGetN (P : Program) (w : World) (to : TE) (t : TA) : TE := fun σ H Q => to σ H fun x H1 => ∃ a es, x = .ref a ∧ H1 a = some (NDO P w a es) ∧ NKeys H1 es ∧ t σ H1 fun vs H2 => H2 a = some (NDO P w a es) ∧ NKeys H2 es ∧ ∃ b l p, vs = [.ref b, .ref l] ∧ H2 b = some (.tup [oV p.1, oV p.2]) ∧
  Q (.ref (((nfind es p).map (·.2.2)).getD l)) H2
theorem pe_getN (hu : X.A.units + 64 < cLine) (ho : PE X o to) (ha : PA X (e :: xs) t)
    (hbase : attributeBase o "get" X.env (eval o X.env) = eval o X.env := by rfl)
    (hfew : ((backTo cpos (starEach (e :: xs) X.env)).all (fun x => !x.1) && (backToKw cpos (keywordEach [] X.env)).all (fun x => x.1.isSome)
      && decide ((e :: xs).length + ([] : List Keyword).length + (if ([] : List Keyword).isEmpty then 0 else 1) < 30)) = true := by rfl)
    (hline : (apos.endLine == cpos.line) = true := by rfl) (hs : starEach (e :: xs) X.env = (false, eval e X.env) :: starEach xs X.env := by rfl) (hplain : (backTo cpos (starEach xs X.env)).any (·.1) = false := by rfl) :
    PE X (.Call (.Attribute o "get" apos) (e :: xs) [] cpos) (tGetN X.prog X.w to t) := by
  refine ⟨fun pins s σ H Q I h => ?_⟩
  refine wpAny_Call_method_late hbase hfew hline rfl (thn (ho.run pins s σ H _ I h) fun v s1 ⟨x, H1, I1, r1, a, es, ex, hd, hk, q1⟩ => ?_)
  subst ex
  cases r1
  obtain ⟨hs1, o1, arr, ep, ho1, hx1, hd1, _⟩ := nd_of I1.hok (.inl hd) hk
  refine ⟨"dict", "dict.get", PySem.F.plainAttrs_dict, PySem.F.slot_dict_get, PySem.F.type_dict_get, ⟨o1, ho1, hx1.1⟩, fun b eb => ?_, ?_⟩
  · cases eb
    exact ⟨o1, ho1, hx1.2.1⟩
  have hA := ha.run cpos pins s1 σ H1 _ I1 q1
  rw [hs] at hA ⊢
  refine Calls.callWith_builtin (by show (false || (backTo cpos (starEach xs X.env)).any (·.1)) = false; rw [hplain] <;> rfl) (Calls.evalArgs_plain ?_)
  refine thn hA fun us s2 ⟨vs, H2, I2, r2, hd2, hk2, b, l, p, evs, hb, q2⟩ => ?_
  subst evs
  obtain ⟨u1, u2, rfl, r3, r4⟩ := Vals.two r2
  cases r3
  cases r4
  obtain ⟨hs2, dd⟩ := nd_of I2.hok (.inl hd2) hk2
  refine call_meetsIn PySem.F.slot_dict_get dd.typeIs PySem.F.entry_dict_get (PySem.F.args_dict_get_3 _ _ _) (meetsH_dict_get_default (nestedKind X.prog X.w) a b hs2 (.ref l)) ⟨?_, nk p, es.map nx, nkey_of I2.hok hb, dd, ?_⟩
  · show X.A.units + 1 + 8 < cLine
    omega
  · refine ⟨.ref (((nfind es p).map (·.2.2)).getD l), H2, I2.tok _, ?_, q2⟩
    rw [at_nx]
    cases nfind es p <;> rfl
/-- d[key] = a list -/
def rSetN (P : Program) (w : World) : TSet := fun o i v H Q => ∃ a es b l p, o = .ref a ∧ i = .ref b ∧ v = .ref l ∧ H a = some (NDO P w a es) ∧ NKeys H es ∧ H b = some (.tup [oV p.1, oV p.2]) ∧ es.length < 100000 ∧ Q (upd H a (NDO P w a (nput es p b l)))
theorem set_nd (hu : X.A.units + 64 < cLine) : PSet X (rSetN X.prog X.w) := by
  intro pins s σ H o i v ov iv u Q I ro ri rv h
  obtain ⟨a, es, b, l, p, rfl, rfl, rfl, hd, hk, hb, hl, q⟩ := h
  cases ro
  cases ri
  cases rv
  obtain ⟨hs, dd⟩ := nd_of I.hok (.inl hd) hk
  refine wpAny_setItem_heap (hsz := by rw [List.length_map]; exact Nat.le_trans (Nat.le_of_lt hl) (by decide)) (show X.A.units + 1 + 8 < cLine by omega) (nkey_of I.hok hb) dd fun h' dd' hs' => ?_
  rw [stored_nx] at dd'
  obtain ⟨o2, es2, ep2, hq, h2, h3, h4, _, h5⟩ := dd'
  exact ⟨_, d_write I (by rw [hd]; exact True.intro) hs' ⟨o2, hq⟩ (ndo_ok ⟨hs, o2, es2, ep2, hq, h2, h3, h4, h5⟩), q⟩

/-! ### for .. in d.items() -/
/-- the pairs of the locked dict -/
def Itn (P : Program) (w : World) (d : Addr) (o : Obj) (es : List NE) : It :=
  ⟨fun i H => H d = some (.frz o (NDO P w d es)) ∧ i < es.length, fun i H x H' => ∃ T en, es[i]? = some en ∧ x = .ref T ∧ H T = none ∧ H' = upd H T (.tup [.ref en.2.1, .ref en.2.2]), fun i H => H d = some (.frz o (NDO P w d es)) ∧ es.length ≤ i⟩
theorem frzN {pins : List (Addr × Obj)} {σ : L2.St} {H : Hp} {s : Shared} {d : Addr} {ob : Obj} {es : List NE} (I : Inv X pins σ H s) (h : H d = some (.frz ob (NDO X.prog X.w d es))) :
    (d == sysModules) = false ∧ s.heap.get? d = some ob ∧ ob.ExactDict ∧ ∃ (arr : Array DictEntry) (ep : Nat), ob.data = .dict arr ep ∧ arr.size = es.length ∧ ∀ (i : Nat) (hi : i < arr.size), ∃ en, es[i]? = some en ∧ arr[i].key = .ref en.2.1 ∧ arr[i].val = .ref en.2.2 := by
  obtain ⟨hd, ⟨hs, o', arr, ep, ho, hx, hdt, he, hn⟩, _⟩ := I.hok d _ h
  rw [hd] at ho
  cases ho
  have hsz : arr.size = es.length := by
    have := size_of_entries he
    rw [List.length_map] at this
    exact this
  refine ⟨hs, hd, hx, arr, ep, hdt, hsz, fun i hi => ?_⟩
  have q := entry_at he i
  rw [Array.getElem?_eq_getElem hi, List.getElem?_map, List.getElem?_eq_getElem (by omega)] at q
  have q' := Option.some.inj q
  exact ⟨es[i], List.getElem?_eq_getElem (by omega), by rw [q']; rfl, by rw [q']; rfl⟩
section
variable {P : Program} {w : World} {K : PySem.W.Frag} {ob : Obj} {arr : Array DictEntry} {ep : Nat} {d : Addr}
theorem turn_itemsN {es : List NE} {elts : List Expr} {kk : Nat} {tpos : Pos} (it : Addr) (hod : ob.data = .dict arr ep) :
    Turn P w K (.Tuple elts kk tpos) (Itn P w d ob es) [it] it (fun i h => ∃ ok ov, IsItemIter h it d i es.length ep ok ov) where
  mem := by simp
  obj := fun i h st b hb => by
    have e : b = it := by simpa using hb
    subst e
    obtain ⟨ok, ov, e⟩ := st
    exact ⟨_, e, fun v z => nomatch z⟩
  keep := fun i h h' st k => let ⟨ok, ov, e⟩ := st; ⟨ok, ov, k it (by simp) _ e⟩
  item := by
    intro X hP hw hK hc i pins s σ H E I hf st hg
    subst hP hw hK
    obtain ⟨hd, hi⟩ := hg
    obtain ⟨hs, hgd, hx, arr', ep', hdt, hsz, ent⟩ := frzN I hd
    obtain ⟨rfl, rfl⟩ := dict_ep hod hdt
    obtain ⟨ok, ov, he⟩ := st
    rw [← hsz] at he
    have hia : i < arr'.size := by rw [hsz]; exact hi
    obtain ⟨en, hen, hk1, hv1⟩ := ent i hia
    have hlt : it < s.heap.objs.size := Heap.lt_size he
    refine wpAny_pyNext_items_item_raw he ⟨ob, hgd, hx, hdt⟩ hia fun h' ho hT hz hk => ?_
    rw [hk1, hv1] at ho hT
    refine ⟨_, rfl, wpAny_letOwnedTupleGo_items (s := { s with heap := h' }) ho fun h'' he' sb => ?_⟩
    have hT2 : h''.get? s.heap.objs.size = some { cls := .type "tuple", data := .seq #[.ref en.2.1, .ref en.2.2] } := (sb.2 _ (Nat.ne_of_gt hlt)).trans hT
    have new : ObjOk X.prog X.w (upd H s.heap.objs.size (.tup [.ref en.2.1, .ref en.2.2])) h'' s.heap.objs.size (.tup [.ref en.2.1, .ref en.2.2]) :=
      ⟨by show 2 ≤ sizeLine; decide, [.ref en.2.1, .ref en.2.2], .cons rfl (.cons rfl .nil), ⟨_, hT2, rfl, _, rfl⟩⟩
    have I1 : Inv X pins σ (upd H s.heap.objs.size (.tup [.ref en.2.1, .ref en.2.2])) { s with heap := h'' } :=
      I.turnedNew (t' := s.toks) (ch := [it]) (fun b ob hb e => (sb.2 b (by simpa using hb)).trans (hk b ob (by simpa using hb) e)) hf (Nat.le_refl _) new
    refine ⟨.ref s.heap.objs.size, _, I1, rfl, ⟨_, en, hen, rfl, I.hok.fresh (Nat.le_refl _), rfl⟩, ⟨.ref en.2.1, .ref en.2.2, ?_⟩, fun b hb => ?_⟩
    · rw [← hsz]; exact he'
    · have e : b = it := by simpa using hb
      rw [e, upd_ne (Nat.ne_of_lt hlt)]
      exact (hf it (by simp)).1
  done := by
    intro X hP hw hK hc i pins s σ H E I hf st hg
    subst hP hw hK
    obtain ⟨hd, hi⟩ := hg
    obtain ⟨f0, f1, f2, f3, f4, f5⟩ := hf it (by simp)
    obtain ⟨hs, hgd, hx, arr', ep', hdt, hsz, ent⟩ := frzN I hd
    obtain ⟨rfl, rfl⟩ := dict_ep hod hdt
    obtain ⟨ok, ov, he⟩ := st
    rw [← hsz] at he
    exact wpAny_pyNext_items_end_raw (I.ok.hd hc) he ⟨ob, hgd, hx, hdt⟩ (by rw [hsz]; exact hi) fun h' eb => ⟨rfl, I.turned (t' := s.toks) (fun b ob hb e => eb b ob hb e) f0 f1 f3 f4 f5⟩
  self := fun A i s Q E st h => let ⟨_, _, e⟩ := st; PySem.W.kcp_self e h
end
def iItemsN (P : Program) (w : World) (td : TE) : TI := fun σ H R => td σ H fun x H1 => ∃ d o es, x = .ref d ∧ H1 d = some (.frz o (NDO P w d es)) ∧ R (Itn P w d o es) H1
theorem pi_itemsN {elts : List Expr} {kk : Nat} {tpos : Pos} (he : PE X e td) (hbase : attributeBase e "items" X.env (eval e X.env) = eval e X.env := by rfl) (hline : (apos.endLine == cpos.line) = true := by rfl) :
    PI X (.Tuple elts kk tpos) (.Call (.Attribute e "items" apos) [] [] cpos) (iItemsN X.prog X.w td) := by
  refine ⟨fun pins s σ H R I h => ?_⟩
  refine wpAny_Call_method (T := "dict") (id := "dict.items") hbase rfl hline PySem.F.plainAttrs_dict PySem.F.slot_dict_items PySem.F.type_dict_items (thn (he.run pins s σ H _ I h) fun u s1 ⟨x, H1, I1, rx, d, ob, es, ex, hd, q⟩ => ?_)
  subst ex
  obtain rfl : u = Value.ref d := rx
  obtain ⟨hs, hgd, hx, arr, ep, hdt, hsz, ent⟩ := frzN I1 hd
  refine ⟨⟨ob, hgd, hx.1⟩, fun b eb => by cases eb; exact ⟨ob, hgd, hx.2.1⟩, ?_⟩
  have I2 : Inv X pins σ H1 { s1 with heap := s1.heap.push { cls := .type "dict_items", data := .fields #[.ref d] } } := I1.kept (t' := s1.toks) fun b ob q => Heap.get?_push_of_some _ q
  have fin : wpAny (model X.prog X.w) X.A (pyIter (.ref s1.heap.objs.size)) (PIE X pins σ (.Tuple elts kk tpos) R) X.xe { s1 with heap := s1.heap.push { cls := .type "dict_items", data := .fields #[.ref d] } } := by
    refine wpAny_pyIter_items_raw (d := d) ⟨_, Heap.get?_push_size _ rfl, rfl, rfl⟩ ⟨ob, Heap.get?_push_of_some _ hgd, hx, hdt⟩ (pi_one (tk := s1.toks) I2 _ (turn_itemsN _ hdt) ⟨.none, .none, ?_⟩ q)
    rw [hsz]
    exact Heap.get?_push_size _ rfl
  show wpAny _ _ (callWith cpos (.builtin "dict.items") [.ref d] [] []) _ X.xe s1
  exact method_meetsIn PySem.F.slot_dict_items PySem.F.entry_dict_items rfl (PySem.evalArgs_none ⟨rfl, ⟨ob, hgd, hx.1⟩, PySem.F.args_dict_items_1 _, _, meets_dict_items_raw d hs, ⟨arr, ep, ob, hgd, hx, hdt⟩, fin⟩)
end
end K55

set_option maxHeartbeats 2000000
/-! K55: the sum of two rules, in plain lists. -/
namespace K55
def sumE : Ent → Ent → Ent
  | some (a, b, c), some (a', b', c') => some (thin (a * c' + a' * c) (b * c' + b' * c) (c * c'))
  | _, _ => none
abbrev Acc := List (NK × List Ent)
def accFind (acc : Acc) (p : NK) : Option (NK × List Ent) := acc.find? fun q => decide (q.1 = p)
def accPut (acc : Acc) (p : NK) (es : List Ent) : Acc := if (accFind acc p).isSome then acc.map (fun q => if q.1 = p then (q.1, es) else q) else acc ++ [(p, es)]
def curOf (acc : Acc) (t : Lot) : List Ent := ((accFind acc (t.first, t.last)).map (·.2)).getD (List.replicate t.many.toNat (some (0, 0, 1)))
def addStep (acc : Acc) (t : Lot) : Acc := accPut acc (t.first, t.last) ((curOf acc t).set t.rest.toNat (sumE t.mine t.its))
def accOf (qs rs : List Row) : Acc := (lots qs rs).foldl addStep []
def accRow (q : NK × List Ent) : Row := ⟨q.1.1, q.1.2, q.2⟩
def addRows (qs rs : List Row) : List Row := (accOf qs rs).map accRow
def manyOf (qs rs : List Row) (p : NK) : Int := lcm2 (entsAt qs (inside p)).length (entsAt rs (inside p)).length
theorem lots_many {qs rs : List Row} {t : Lot} (h : t ∈ lots qs rs) : t.many = manyOf qs rs (t.first, t.last) := by
  obtain ⟨p, r, hp, hr, rfl, hn⟩ := lots_mem h
  rfl
def SmallE : Ent → Prop
  | none => True
  | some (_, _, c) => c ≤ 1000
theorem accPut_len (acc : Acc) (p : NK) (es : List Ent) : (accPut acc p es).length ≤ acc.length + 1 := by
  unfold accPut
  split
  · rw [List.length_map]; omega
  · rw [List.length_append]; simp
theorem accPut_mem {acc : Acc} {p : NK} {es : List Ent} {q : NK × List Ent} (h : q ∈ accPut acc p es) : q ∈ acc ∨ q = (p, es) := by
  unfold accPut at h
  split at h
  · obtain ⟨x, hx, rfl⟩ := List.mem_map.mp h
    by_cases e : x.1 = p
    · rw [if_pos e, e]; exact .inr rfl
    · rw [if_neg e]; exact .inl hx
  · rcases List.mem_append.mp h with h | h
    · exact .inl h
    · exact .inr (List.mem_singleton.mp h)
/-- the accumulator's lists are as long as their stretch's count -/
def AccOk (qs rs : List Row) (acc : Acc) : Prop := ∀ q, q ∈ acc → q.2.length = (manyOf qs rs q.1).toNat
theorem cur_len {qs rs : List Row} {acc : Acc} {t : Lot} (h : AccOk qs rs acc) (ht : t ∈ lots qs rs) : (curOf acc t).length = t.many.toNat := by
  unfold curOf
  cases e : accFind acc (t.first, t.last) with
  | none => simp
  | some q =>
    have h1 := h q (List.mem_of_find?_eq_some e)
    have h2 : q.1 = (t.first, t.last) := by simpa using List.find?_some e
    show q.2.length = _
    rw [h1, lots_many ht, h2]
theorem acc_step {qs rs : List Row} {acc : Acc} {t : Lot} (h : AccOk qs rs acc) (ht : t ∈ lots qs rs) : AccOk qs rs (addStep acc t) := fun q hq => by
  rcases accPut_mem hq with hq | rfl
  · exact h q hq
  · show (List.set _ _ _).length = _
    rw [List.length_set, cur_len h ht, lots_many ht]
end K55

set_option maxHeartbeats 2000000
namespace K55
open PySem PySem.Spec PyProof.Rows L2
local macro_rules | `(tactic| walk_at "ev1") => `(tactic| first
  | exact v_var rfl | exact v_int | exact v_bl | exact v_non | exact v_str | exact a_nil | exact v_raw
  | apply a_cons
  | apply v_add | apply v_sub | apply v_mul | apply v_mod | apply v_fdiv | apply v_neg
  | apply v_lt | apply v_le | apply v_gt | apply v_ge | apply v_eqI | apply v_neI
  | apply v_isN | apply v_notN
  | apply b_B | apply b_test | apply b_not | apply b_and0 | apply b_or0
  | apply v_and0 | apply v_or0 | apply v_not
  | apply v_tup | apply v_lst
  | refine' v_cb ?_ c_int
  | exact Nat.le_of_ble_eq_true rfl)
local macro_rules | `(tactic| walk_at "ev") => `(tactic| repeat' walk_at "ev1")
local macro_rules | `(tactic| walk_at "weak") => `(tactic| repeat' (first | exact Weak.nil | apply Weak.same | apply Weak.less))
section
variable {P : Program} {w : World} {C : Addr} {K : PySem.W.Frag} {ρ : Env} {te : TE} {j k : Nat} {R : V → As} {B0 H0 : Hp} {d L : Addr} {es : List NE} {acc : Acc} {x : Option Addr}
theorem oV_inv {B : Hp} {v : V} {o : Option Int} (h : Rep C B v (oi o)) : v = oV o := by
  cases o with
  | none => exact h.non_inv
  | some i => exact h.int_inv
theorem pair_inv {B : Hp} {v : V} {p : NK} (h : Rep C B v (.tup [oi p.1, oi p.2])) : ∃ b, v = .ref b ∧ B b = some (.tup [oV p.1, oV p.2]) := by
  obtain ⟨b, vs, rfl, hb, r⟩ := h.tup_inv
  obtain ⟨v1, ws, rfl, r1, r2⟩ := r.cons_inv
  obtain ⟨v2, ws, rfl, r3, r4⟩ := r2.cons_inv
  rw [r4.nil_inv, oV_inv r1, oV_inv r3] at hb
  exact ⟨b, rfl, hb⟩
/-- the dict of lists, not settled; x: the list that is not told -/
structure DSt (P : Program) (w : World) (C : Addr) (H0 : Hp) (d : Addr) (es : List NE) (acc : Acc) (x : Option Addr) (B H : Hp) : Prop where
  bd : B d = none
  hd : H d = some (NDO P w d es)
  len : es.length = acc.length
  nd : (es.map (·.2.2)).Nodup
  at' : ∀ (i : Nat) (e : NE), es[i]? = some e → B e.2.1 = some (.tup [oV e.1.1, oV e.1.2]) ∧ H0 e.2.2 = none ∧ ∃ ents, acc[i]? = some (e.1, ents) ∧ (some e.2.2 ≠ x → B e.2.2 = none ∧ ∃ vs, H e.2.2 = some (.lst vs) ∧ Reps C B vs (ents.map eD))
theorem DSt.up {B H B' H' : Hp} (s : Step B H B' H') (h : DSt P w C H0 d es acc x B H) : DSt P w C H0 d es acc x B' H' :=
  ⟨lw_any s h.bd h.hd, s.h _ _ h.hd, h.len, h.nd, fun i e he => by
    obtain ⟨h1, h2, ents, h3, h4⟩ := h.at' i e he
    refine ⟨s.b _ _ h1, h2, ents, h3, fun hx => ?_⟩
    obtain ⟨h5, vs, h6, h7⟩ := h4 hx
    exact ⟨lw_any s h5 h6, vs, s.h _ _ h6, h7.up s.b⟩⟩
theorem DSt.keys {B H : Hp} (e : Sub B H) (h : DSt P w C H0 d es acc x B H) : NKeys H es := fun y hy => by
  obtain ⟨i, hi⟩ := List.getElem?_of_mem hy
  exact e _ _ (h.at' i y hi).1
theorem okD (x : Option Addr) : OkI (And2 (Step B0 H0) (DSt P w C H0 d es acc x)) := okAnd (okFr B0 H0) fun s h => h.up s
/-- the list at L is written -/
theorem DSt.wr {B H : Hp} {o : HO} (hdL : d ≠ L) (h : DSt P w C H0 d es acc (some L) B H) : DSt P w C H0 d es acc (some L) B (upd H L o) :=
  ⟨h.bd, by rw [upd_ne hdL]; exact h.hd, h.len, h.nd, fun i e he => by
    obtain ⟨h1, h2, ents, h3, h4⟩ := h.at' i e he
    refine ⟨h1, h2, ents, h3, fun hx => ?_⟩
    obtain ⟨h5, vs, h6, h7⟩ := h4 hx
    exact ⟨h5, vs, by rw [upd_ne (fun z => hx (by rw [z]))]; exact h6, h7⟩⟩
theorem reps_set {B : Hp} : ∀ {vs : List V} {ds : List D} {i : Nat} {v : V} {dv : D}, Reps C B vs ds → Rep C B v dv → Reps C B (vs.set i v) (ds.set i dv)
  | _, _, _, _, _, .nil, _ => .nil
  | _, _, 0, _, _, .cons r t, h => .cons h t
  | _, _, i + 1, _, _, .cons r t, h => .cons r (reps_set t h)
/-- xs[i] = .., the list at L -/
theorem tr_setI {J : As} {dx : D} {cur : List D} {r : Int} (ok : OkI J) (hu : ∀ {B H : Hp} {o : HO}, B L = none → J B H → J B (upd H L o)) (hj : ρ[j]? = some (some (.raw (.ref L)))) (hk : ρ[k]? = some (some (.int r))) (h0 : 0 ≤ r) (h1 : r.toNat < cur.length) (h2 : r < 2 ^ 62) (h : EvP C te ρ dx) :
    Tr C (tAsg te (gSub (tVar j) (tVar k) rSetL)) ρ (And2 J (Cl C L cur)) (ToI C ρ (And2 J (Cl C L (cur.set r.toNat dx)))) R := fun Z σ B H hS hI q1 q2 => by
  obtain ⟨v, hv, rv⟩ := hS.get j _ hj
  cases rv.raw_inv
  obtain ⟨u, hu2, ru⟩ := hS.get k _ hk
  cases ru.int_inv
  obtain ⟨hJ, n, acc, hL, rr⟩ := id hI
  refine h σ B H hS (ok.sub hJ) _ fun y B1 H1 s1 r1 => ?_
  have n1 := lw_any s1 n hL
  refine ⟨_, hv, _, hu2, L, acc, r, r.toNat, rfl, rfl, s1.h L _ hL, ?_, ?_⟩
  · unfold ixN
    have := rr.length
    rw [if_pos (by omega), if_pos (by omega)]
  · refine q1 σ B1 _ s1.b ⟨hS.up s1.b, hu n1 (ok.up s1 hJ), n1, _, upd_same, ?_⟩
    exact reps_set (rr.up s1.b) r1
theorem tc_op {r : R2} {ta tb : TE} {tr : TA} {σ : L2.St} {H : Hp} {Q : List V → Hp → Prop} (h : ta σ H fun x H1 => tb σ H1 fun y H2 => r x y H2 fun z H3 => tr σ H3 fun xs H4 => Q (z :: xs) H4) : tCons (tOp r ta tb) tr σ H Q := h
theorem reps_rep {B : Hp} {v : V} {dv : D} (h : Rep C B v dv) : ∀ n : Nat, Reps C B (List.replicate n v) (List.replicate n dv)
  | 0 => .nil
  | n + 1 => .cons h (reps_rep h n)
theorem find_both {p : NK} : ∀ {es : List NE} {acc : Acc}, es.map (·.1) = acc.map (·.1) → (nfind es p = none ∧ accFind acc p = none) ∨
    ∃ (i : Nat) (e : NE) (q : NK × List Ent), es[i]? = some e ∧ acc[i]? = some q ∧ nfind es p = some e ∧ accFind acc p = some q ∧ e.1 = p ∧ q.1 = p
  | [], [], _ => .inl ⟨rfl, rfl⟩
  | [], _ :: _, h => by cases h
  | _ :: _, [], h => by cases h
  | e :: es, q :: acc, h => by
    rw [List.map_cons, List.map_cons] at h
    injection h with h1 h2
    by_cases hp : e.1 = p
    · refine .inr ⟨0, e, q, rfl, rfl, ?_, ?_, hp, by rw [← h1]; exact hp⟩
      · unfold nfind; rw [List.find?_cons_of_pos (by simpa using hp)]
      · unfold accFind; rw [List.find?_cons_of_pos (by rw [← h1]; simpa using hp)]
    · have hq : ¬ q.1 = p := by rw [← h1]; exact hp
      have n1 : nfind (e :: es) p = nfind es p := by unfold nfind; rw [List.find?_cons_of_neg (by simpa using hp)]
      have n2 : accFind (q :: acc) p = accFind acc p := by unfold accFind; rw [List.find?_cons_of_neg (by simpa using hq)]
      rw [n1, n2]
      rcases find_both (p := p) h2 with z | ⟨i, e', q', a1, a2, a3⟩
      · exact .inl z
      · exact .inr ⟨i + 1, e', q', a1, a2, a3⟩
theorem DSt.fsts {B H : Hp} (h : DSt P w C H0 d es acc x B H) : es.map (·.1) = acc.map (·.1) := by
  refine List.ext_getElem? fun i => ?_
  rw [List.getElem?_map, List.getElem?_map]
  cases he : es[i]? with
  | none =>
    have := List.getElem?_eq_none_iff.mp he
    rw [List.getElem?_eq_none (by rw [← h.len]; exact this)]; rfl
  | some e =>
    obtain ⟨_, _, ents, h3, _⟩ := h.at' i e he
    rw [h3]; rfl
/-- the list that the dict gave -/
def Gave (H0 : Hp) (d : Addr) (es : List NE) (p : NK) (L : Addr) : Prop := H0 L = none ∧ d ≠ L ∧ ((∃ e, nfind es p = some e ∧ e.2.2 = L) ∨ (nfind es p = none ∧ ∀ e, e ∈ es → e.2.2 ≠ L))
abbrev tGet9 (P : Program) (w : World) : TE := tGetN P w (tVar 2) (tCons (tTup (tCons (tVar 3) (tCons (tVar 4) tNil))) (tCons (tOp rRep (tLst (tCons (tTup (tCons (tC (.int 0)) (tCons (tC (.int 0)) (tCons (tC (.int 1)) tNil)))) tNil)) (tVar 5)) tNil))
theorem tr_get9 {p : NK} {m : Int} (hd0 : H0 d = none) (h2 : ρ[2]? = some (some (.raw (.ref d)))) (h3 : ρ[3]? = some (some (oi p.1))) (h4 : ρ[4]? = some (some (oi p.2))) (h5 : ρ[5]? = some (some (.int m))) (hm0 : 0 < m) (hm : m ≤ 900) :
    Tr C (tAsg (tGet9 P w) (gName 9)) ρ (And2 (Step B0 H0) (DSt P w C H0 d es acc none)) (fun σ B H => ∃ L, ToI C (ρ.set 9 (some (.raw (.ref L)))) (fun B H => Gave H0 d es p L ∧ And2 (And2 (Step B0 H0) (DSt P w C H0 d es acc (some L))) (Cl C L ((((accFind acc p).map (·.2)).getD (List.replicate m.toNat (some (0, 0, 1)))).map eD)) B H) σ B H) R := fun Z σ B H hS hI q1 q2 => by
  obtain ⟨hF, hD⟩ := hI
  obtain ⟨v, hv, rv⟩ := hS.get 2 _ h2
  cases rv.raw_inv
  refine ⟨_, hv, d, es, rfl, hD.hd, hD.keys hF.s, ?_⟩
  -- the key's tuple
  refine v_tup (C := C) (ds := [oi p.1, oi p.2]) (a_cons (v_var h3) (a_cons (v_var h4) a_nil)) (Nat.le_of_ble_eq_true rfl) σ B H hS hF.s _ fun kb B1 H1 s1 r1 => ?_
  obtain ⟨b, rfl, hb⟩ := pair_inv r1
  -- the list of one, times many
  refine tc_op ?_
  refine v_lst (C := C) (ds := [.tup [.int 0, .int 0, .int 1]]) (a_cons (v_tup (a_cons v_int (a_cons v_int (a_cons v_int a_nil))) (Nat.le_of_ble_eq_true rfl)) a_nil) (Nat.le_of_ble_eq_true rfl) σ B1 H1 (hS.up s1.b) s1.s _ fun lv B2 H2 s2 r2 => ?_
  obtain ⟨l1, vs1, rfl, hl1, rl1⟩ := r2.lst_inv
  obtain ⟨um, hum, rum⟩ := (hS.up (s1.trans s2).b).get 5 _ h5
  cases rum.int_inv
  have e1 : vs1.length = 1 := rl1.length
  refine ⟨_, hum, l1, m, vs1, rfl, rfl, s2.s _ _ hl1, by omega, by omega, fits (by rw [e1]; omega), fun L hL => ?_⟩
  have s12 := s1.trans s2
  have hF2 := hF.trans s12
  have hD2 := hD.up s12
  have hdL : d ≠ L := ne_of_none hD2.hd hL
  have hL0 : H0 L = none := hF2.h.free hL
  have nL : B2 L = none := s2.s.free hL
  have hF3 : Step B0 H0 B2 (upd H2 L (.lst (List.replicate m.toNat vs1).flatten)) := fr_upd hL0 nL hF2
  have hk2 : NKeys (upd H2 L (.lst (List.replicate m.toNat vs1).flatten)) es := fun y hy => by
    have := hD2.keys s2.s y hy
    rw [upd_ne (ne_of_none this hL)]; exact this
  have hb2 : H2 b = some (.tup [oV p.1, oV p.2]) := s2.s _ _ (s2.b _ _ hb)
  refine ⟨by rw [upd_ne hdL]; exact hD2.hd, hk2, b, L, p, rfl, by rw [upd_ne (ne_of_none hb2 hL)]; exact hb2, ?_⟩
  have hS2 := hS.up s12.b
  rcases find_both (p := p) hD2.fsts with ⟨f1, f2⟩ | ⟨i, e, q, a1, a2, f1, f2, ep, qp⟩
  · rw [f1]
    rw [f2] at q1
    refine q1 _ B2 _ s12.b ⟨L, hS2.put (.raw _), ⟨hL0, hdL, .inr ⟨f1, fun e he z => ?_⟩⟩, ⟨hF3, ?_⟩, nL, _, upd_same, ?_⟩
    · obtain ⟨i, hi⟩ := List.getElem?_of_mem he
      obtain ⟨_, _, ents, _, h9⟩ := hD2.at' i e hi
      obtain ⟨_, vs, h10, _⟩ := h9 (fun z => nomatch z)
      rw [z, hL] at h10; cases h10
    · refine ⟨hD2.bd, by rw [upd_ne hdL]; exact hD2.hd, hD2.len, hD2.nd, fun i e he => ?_⟩
      obtain ⟨g1, g2, ents, g3, g4⟩ := hD2.at' i e he
      refine ⟨g1, g2, ents, g3, fun hx => ?_⟩
      obtain ⟨g5, vs, g6, g7⟩ := g4 (fun z => nomatch z)
      exact ⟨g5, vs, by rw [upd_ne (ne_of_none g6 hL)]; exact g6, g7⟩
    · obtain ⟨v1, ws1, rfl, r3, r4⟩ := rl1.cons_inv
      rw [r4.nil_inv, List.flatten_replicate_singleton]
      show Reps C B2 (List.replicate m.toNat v1) ((List.replicate m.toNat (some (0, 0, 1))).map eD)
      rw [List.map_replicate]
      exact reps_rep r3 m.toNat
  · rw [f1]
    rw [f2] at q1
    obtain ⟨g1, g2, ents, g3, g4⟩ := hD2.at' i e a1
    obtain ⟨g5, vs, g6, g7⟩ := g4 (fun z => nomatch z)
    have eq2 : q = (e.1, ents) := by rw [a2] at g3; exact Option.some.inj g3
    subst eq2
    have hne : e.2.2 ≠ L := ne_of_none g6 hL
    refine q1 _ B2 _ s12.b ⟨e.2.2, hS2.put (.raw _), ⟨g2, fun z => ?_, .inl ⟨e, f1, rfl⟩⟩, ⟨hF3, ?_⟩, g5, vs, by rw [upd_ne hne]; exact g6, g7⟩
    · rw [← z, hD2.hd] at g6; cases g6
    · refine ⟨hD2.bd, by rw [upd_ne hdL]; exact hD2.hd, hD2.len, hD2.nd, fun i' e' he => ?_⟩
      obtain ⟨k1, k2, ents', k3, k4⟩ := hD2.at' i' e' he
      refine ⟨k1, k2, ents', k3, fun hx => ?_⟩
      obtain ⟨k5, vs', k6, k7⟩ := k4 (fun z => nomatch z)
      exact ⟨k5, vs', by rw [upd_ne (ne_of_none k6 hL)]; exact k6, k7⟩
theorem key_one {β : Type} : ∀ {l : List (NK × β)} {x y : NK × β}, (l.map (·.1)).Nodup → x ∈ l → y ∈ l → x.1 = y.1 → x = y
  | z :: l, x, y, hn, hx, hy, e => by
    rw [List.map_cons, List.nodup_cons] at hn
    rcases List.mem_cons.mp hx with rfl | hx2
    · rcases List.mem_cons.mp hy with rfl | hy2
      · rfl
      · exact absurd (List.mem_map.mpr ⟨y, hy2, e.symm⟩) hn.1
    · rcases List.mem_cons.mp hy with rfl | hy2
      · exact absurd (show y.1 ∈ l.map (·.1) from List.mem_map.mpr ⟨x, hx2, e⟩) hn.1
      · exact key_one hn.2 hx2 hy2 e
theorem nput_same {p : NK} {b : Addr} {e : NE} (hn : (es.map (·.1)).Nodup) (hf : nfind es p = some e) : nput es p b e.2.2 = es := by
  unfold nput
  rw [hf, if_pos (show (some e).isSome = true from rfl)]
  have hp : e.1 = p := by simpa using List.find?_some hf
  have h : es.map (fun e' => if e'.1 = p then (e'.1, e'.2.1, e.2.2) else e') = es.map id := by
    refine List.map_congr_left fun x hx => ?_
    by_cases hxp : x.1 = p
    · rw [if_pos hxp, key_one hn hx (List.mem_of_find?_eq_some hf) (by rw [hxp, hp])]; rfl
    · rw [if_neg hxp]; rfl
  rw [h, List.map_id]
theorem nput_new {p : NK} {b l : Addr} (hf : nfind es p = none) : nput es p b l = es ++ [(p, b, l)] := by
  unfold nput
  rw [hf, if_neg (by decide)]
theorem tr_put9 {p : NK} {new : List Ent} (hd0 : H0 d = none) (h2 : ρ[2]? = some (some (.raw (.ref d)))) (h3 : ρ[3]? = some (some (oi p.1))) (h4 : ρ[4]? = some (some (oi p.2))) (h9 : ρ[9]? = some (some (.raw (.ref L)))) (hn : (acc.map (·.1)).Nodup) (hlen : acc.length < 100000) (hg : Gave H0 d es p L) :
    Tr C (tAsg (tVar 9) (gSub (tVar 2) (tTup (tCons (tVar 3) (tCons (tVar 4) tNil))) (rSetN P w))) ρ (And2 (And2 (Step B0 H0) (DSt P w C H0 d es acc (some L))) (Cl C L (new.map eD))) (fun σ B H => Sat C σ B ρ ∧ ∃ es', And2 (Step B0 H0) (DSt P w C H0 d es' (accPut acc p new) none) B H) R := fun Z σ B H hS hI q1 q2 => by
  obtain ⟨⟨hF, hD⟩, nL, vs, hL, rL⟩ := hI
  obtain ⟨v, hv, rv⟩ := hS.get 2 _ h2
  cases rv.raw_inv
  obtain ⟨u, hu, ru⟩ := hS.get 9 _ h9
  cases ru.raw_inv
  refine ⟨_, hu, _, hv, ?_⟩
  refine v_tup (C := C) (ds := [oi p.1, oi p.2]) (a_cons (v_var h3) (a_cons (v_var h4) a_nil)) (Nat.le_of_ble_eq_true rfl) σ B H hS hF.s _ fun kb B1 H1 s1 r1 => ?_
  obtain ⟨b, rfl, hb⟩ := pair_inv r1
  have hF1 := hF.trans s1
  have hD1 := hD.up s1
  have nL1 := lw_any s1 nL hL
  have hL1 := s1.h _ _ hL
  have rL1 := rL.up s1.b
  refine ⟨d, es, b, L, p, rfl, rfl, rfl, hD1.hd, hD1.keys s1.s, s1.s _ _ hb, by rw [hD1.len]; exact hlen, ?_⟩
  have hnes : (es.map (·.1)).Nodup := by rw [hD1.fsts]; exact hn
  have hdL := hg.2.1
  refine q1 σ B1 _ s1.b ⟨hS.up s1.b, nput es p b L, fr_upd hd0 hD1.bd hF1, ?_⟩
  rcases hg.2.2 with ⟨e, he, hel⟩ | ⟨hnone, hall⟩
  · -- the list that stood there
    have hacc : accFind acc p ≠ none := by
      rcases find_both (p := p) hD1.fsts with ⟨f1, _⟩ | ⟨i, e', q, _, _, _, f2, _⟩
      · rw [he] at f1; cases f1
      · rw [f2]; exact fun z => nomatch z
    have hsome : (accFind acc p).isSome = true := by
      cases q : accFind acc p with
      | none => exact absurd q hacc
      | some _ => rfl
    rw [← hel, nput_same hnes he]
    unfold accPut
    rw [if_pos hsome]
    have hee := List.mem_of_find?_eq_some he
    have hep : e.1 = p := by simpa using List.find?_some he
    refine ⟨hD1.bd, upd_same, by rw [List.length_map]; exact hD1.len, hD1.nd, fun i e' he' => ?_⟩
    obtain ⟨k1, k2, ents, k3, k4⟩ := hD1.at' i e' he'
    by_cases hp : e'.1 = p
    · have e1 : e' = e := key_one hnes (List.mem_of_getElem? he') hee (by rw [hp, hep])
      refine ⟨k1, k2, new, ?_, fun _ => ?_⟩
      · rw [List.getElem?_map, k3]
        show some (if e'.1 = p then (e'.1, new) else (e'.1, ents)) = _
        rw [if_pos hp]
      · rw [e1, hel]
        exact ⟨nL1, vs, by rw [upd_ne hdL.symm]; exact hL1, rL1⟩
    · have hne : e'.2.2 ≠ L := fun z => by
        have : e' = e := by
          obtain ⟨i2, hi2⟩ := List.getElem?_of_mem hee
          have a1 : (es.map (·.2.2))[i]? = some L := by rw [List.getElem?_map, he', ← z]; rfl
          have a2 : (es.map (·.2.2))[i2]? = some L := by rw [List.getElem?_map, hi2, ← hel]; rfl
          have hlt := (List.getElem?_eq_some_iff.mp a1).1
          have e2 : i = i2 := (List.getElem?_inj hlt hD1.nd).mp (a1.trans a2.symm)
          rw [← e2, he'] at hi2
          exact Option.some.inj hi2
        exact hp (by rw [this, hep])
      refine ⟨k1, k2, ents, ?_, fun _ => ?_⟩
      · rw [List.getElem?_map, k3]
        show some (if e'.1 = p then (e'.1, new) else (e'.1, ents)) = _
        rw [if_neg hp]
      · obtain ⟨k5, vs', k6, k7⟩ := k4 (fun z => hne (Option.some.inj z))
        exact ⟨k5, vs', by rw [upd_ne (fun z => by rw [z, hD1.hd] at k6; cases k6)]; exact k6, k7⟩
  · rw [nput_new hnone]
    have hnacc : accFind acc p = none := by
      rcases find_both (p := p) hD1.fsts with ⟨_, f2⟩ | ⟨i, e', q, _, _, f1, _⟩
      · exact f2
      · rw [hnone] at f1; cases f1
    unfold accPut
    rw [hnacc, if_neg (by decide)]
    refine ⟨hD1.bd, upd_same, by rw [List.length_append, List.length_append, hD1.len]; rfl, ?_, fun i e' he' => ?_⟩
    · rw [List.map_append, List.nodup_append]
      refine ⟨hD1.nd, by simp, fun a ha c hc => ?_⟩
      have : c = L := by simpa using hc
      subst this
      obtain ⟨e', he', rfl⟩ := List.mem_map.mp ha
      exact hall e' he'
    · by_cases hi : i < es.length
      · rw [List.getElem?_append_left hi] at he'
        obtain ⟨k1, k2, ents, k3, k4⟩ := hD1.at' i e' he'
        refine ⟨k1, k2, ents, by rw [List.getElem?_append_left (by rw [← hD1.len]; exact hi)]; exact k3, fun _ => ?_⟩
        obtain ⟨k5, vs', k6, k7⟩ := k4 (fun z => hall e' (List.mem_of_getElem? he') (Option.some.inj z))
        exact ⟨k5, vs', by rw [upd_ne (fun z => by rw [z, hD1.hd] at k6; cases k6)]; exact k6, k7⟩
      · rw [List.getElem?_append_right (by omega)] at he'
        have hlt := (List.getElem?_eq_some_iff.mp he').1
        have hi0 : i - es.length = 0 := by simp at hlt; omega
        rw [hi0] at he'
        have e1 : e' = (p, b, L) := by simpa using he'.symm
        subst e1
        refine ⟨hb, hg.1, new, ?_, fun _ => ⟨nL1, vs, by rw [upd_ne hdL.symm]; exact hL1, rL1⟩⟩
        rw [List.getElem?_append_right (by rw [← hD1.len]; omega), ← hD1.len, hi0]; rfl
end
end K55

set_option maxHeartbeats 2000000
namespace K55
open PySem PySem.Spec PyProof.Rows L2
local macro_rules | `(tactic| walk_at "ev1") => `(tactic| first
  | exact v_var rfl | exact v_int | exact v_bl | exact v_non | exact v_str | exact a_nil | exact v_raw
  | apply a_cons
  | apply v_add | apply v_sub | apply v_mul | apply v_mod | apply v_fdiv | apply v_neg
  | apply v_lt | apply v_le | apply v_gt | apply v_ge | apply v_eqI | apply v_neI
  | apply v_isN | apply v_notN
  | apply b_B | apply b_test | apply b_not | apply b_and0 | apply b_or0
  | apply v_and0 | apply v_or0 | apply v_not
  | apply v_tup | apply v_lst
  | refine' v_cb ?_ c_int
  | exact Nat.le_of_ble_eq_true rfl)
local macro_rules | `(tactic| walk_at "ev") => `(tactic| repeat' walk_at "ev1")
local macro_rules | `(tactic| walk_at "weak") => `(tactic| repeat' (first | exact Weak.nil | apply Weak.same | apply Weak.less))
section
variable {P : Program} {w : World} {C : Addr} {K : PySem.W.Frag} {ρ : Env} {t : TA} {σ : L2.St} {B H B0 H0 : Hp} {d : Addr} {dd : D} {es : List NE} {acc : Acc}
theorem make_at {F : D → List D → Prop} {rows : List D} {Q : VK} (e : Sub B H) (ha : ∀ Q' : List V → Hp → Prop, (∀ vs B1 H1, Step B H B1 H1 → Reps C B1 vs [dd] → Q' vs H1) → t σ H Q') (hF : F dd rows) (q : ∀ v B' H', Step B H B' H' → Rep C B' v (.rule rows) → Q v H') :
    tMake C (spInit C F) [] E0 t σ H Q := ha _ fun vs B1 H1 s1 r1 x dx hx hdx ne => by
    obtain ⟨v, ws, rfl, h1, h2⟩ := r1.cons_inv
    rw [h2.nil_inv]
    have hBx := s1.s.free hx
    have hBd := s1.s.free hdx
    refine ⟨B1, x, dx, v, dd, rows, rfl, (s1.s.side hBd).side hBx, hBx, upd_same, h1, hF, fun B' H' u b1 b2 bx keep fr hx' ru => ⟨rfl, ?_⟩⟩
    have kH : Sub H1 H' := fun a o q => keep a o (ne_of_none q hx) (by rw [upd_ne (ne_of_none q hx), upd_ne (ne_of_none q hdx)]; exact q)
    refine q _ (upd B' x (.ins C dx [("rows", u)])) H' (s1.trans ⟨b1.side hBx, kH, fun a o q => ?_, fun a o q z => ?_⟩) (.rule upd_same (ru.up (Sub.new bx)))
    · by_cases ha : a = x
      · rw [ha, upd_same] at q; cases q; rw [ha]; exact hx'
      · rw [upd_ne ha] at q; exact b2 a o q
    · by_cases ha : a = x
      · rw [ha]; exact hx
      · rw [upd_ne ha] at q
        have h3 := fr a o q z
        by_cases hd : a = dx
        · rw [hd]; exact hdx
        · rw [upd_ne ha, upd_ne hd] at h3; exact h3
abbrev gPair (K : PySem.W.Frag) : TG := gTup K 2 (gCons (gTup K 2 (gCons (gName 3) (gCons (gName 4) gNil))) (gCons (gName 9) gNil))
abbrev tRow3 : TE := tTup (tCons (tVar 3) (tCons (tVar 4) (tCons (tVar 9) tNil)))
theorem lcN (hB : ∀ (i : Nat) (e : NE), es[i]? = some e → ∃ q, acc[i]? = some q ∧ q.1 = e.1 ∧ B e.2.1 = some (.tup [oV e.1.1, oV e.1.2]) ∧ Rep C B (.ref e.2.2) (.lst (q.2.map eD))) (hlen : es.length = acc.length) (hl : acc.length < 100000) (hl9 : 9 < ρ.length)
    (hS : Sat C σ B ρ) (h2 : ρ[2]? = some (some (.raw (.ref d)))) (hsub : Sub B H) (hBd : B d = none) (hd : H d = some (NDO P w d es)) (Q : VK) (q : ∀ v B' H', Step B H B' H' → Rep C B' v (.lst (acc.map fun q => rowIn (accRow q, true))) → Q v H') :
    tLockE (tLc (iItemsN P w (tVar 2)) (gPair K) tYes tRow3 [9, 3, 4]) σ H Q := by
  refine ⟨d, _, hd, True.intro, fun od => ?_⟩
  obtain ⟨v, hv, rv⟩ := hS.get 2 _ h2
  cases rv.raw_inv
  have hsub1 : Sub B (upd H d (.frz od (NDO P w d es))) := hsub.side hBd
  refine ⟨_, hv, d, od, es, rfl, upd_same, fun L hL => ?_⟩
  let H1 : Hp := upd H d (.frz od (NDO P w d es))
  have hL1 : H1 L = none := hL
  refine ⟨fun i m H' => m = es.length - i ∧ i ≤ es.length ∧ Lw C B H1 L ((acc.take i).map fun q => rowIn (accRow q, true)) H', ⟨es.length, rfl, Nat.zero_le _, by simpa using Lw.start hsub1 hL⟩, ?_⟩
  rintro i m H' ⟨rfl, hi, wl⟩
  obtain ⟨B', av, s', nB, hacc, racc⟩ := id wl
  have hd' : H' d = some (.frz od (NDO P w d es)) := s'.h d _ upd_same
  by_cases hlt : i < es.length
  · refine .inr ⟨⟨hd', hlt⟩, fun H2 => Lw C B H1 L ((acc.take (i + 1)).map fun q => rowIn (accRow q, true)) H2, fun H2 p => ⟨es.length - (i + 1), by omega, rfl, hlt, p⟩, fun x H2 y => ?_⟩
    obtain ⟨T, en, hen, rfl, hT, rfl⟩ := y
    obtain ⟨qq, hq1, hq2, hk, hv1⟩ := hB i en hen
    have sN : Step B' H' (upd B' T (.tup [.ref en.2.1, .ref en.2.2])) (upd H' T (.tup [.ref en.2.1, .ref en.2.2])) := .new s'.s hT
    have sA := s'.trans sN
    have hTL : L ≠ T := ne_of_none hacc hT
    have rk : Rep C (upd B' T (.tup [.ref en.2.1, .ref en.2.2])) (.ref en.2.1) (.tup [oi en.1.1, oi en.1.2]) := by
      have one : ∀ o : Option Int, Rep C (upd B' T (.tup [.ref en.2.1, .ref en.2.2])) (oV o) (oi o) := fun o => by cases o with
        | none => exact .non
        | some i => exact .int i
      exact .tup (sA.b _ _ hk) (.cons (one _) (.cons (one _) .nil))
    have rT : Rep C (upd B' T (.tup [.ref en.2.1, .ref en.2.2])) (.ref T) (.tup [.tup [oi en.1.1, oi en.1.2], .lst (qq.2.map eD)]) := .tup upd_same (.cons rk (.cons (hv1.up sA.b) .nil))
    have hg : Asg C (gPair K) (wipeE ρ [9, 3, 4]) (.tup [.tup [oi en.1.1, oi en.1.2], .lst (qq.2.map eD)]) (((((wipeE ρ [9, 3, 4]).set 3 (some (oi en.1.1))).set 4 (some (oi en.1.2))).set 9 (some (.lst (qq.2.map eD))))) [3, 4, 9] :=
      g_tup (gs_cons (g_tup (gs_cons g_name (gs_cons g_name gs_nil)) rfl) (gs_cons g_name gs_nil)) rfl
    refine hg (wipe σ [9, 3, 4]) _ _ _ _ ((hS.up sA.b).wipe [9, 3, 4]) sN.s rT fun σ2 hS2 hl2 ho => ⟨wipe_same hl2 fun j hj => ho j fun z => hj (by simp at z ⊢; omega), ?_⟩
    unfold tYes
    dsimp only
    rw [if_pos rfl]
    have hte : EvP C tRow3 ((((wipeE ρ [9, 3, 4]).set 3 (some (oi en.1.1))).set 4 (some (oi en.1.2))).set 9 (some (.lst (qq.2.map eD)))) (rowIn (accRow qq, true)) := by
      have wl : (wipeE ρ [9, 3, 4]).length = ρ.length := by simp [wipeE]
      have e3 : ((((wipeE ρ [9, 3, 4]).set 3 (some (oi en.1.1))).set 4 (some (oi en.1.2))).set 9 (some (.lst (qq.2.map eD))))[3]? = some (some (oi en.1.1)) := by
        rw [List.getElem?_set_ne (by decide), List.getElem?_set_ne (by decide), List.getElem?_set_self (by omega)]
      have e4 : ((((wipeE ρ [9, 3, 4]).set 3 (some (oi en.1.1))).set 4 (some (oi en.1.2))).set 9 (some (.lst (qq.2.map eD))))[4]? = some (some (oi en.1.2)) := by
        rw [List.getElem?_set_ne (by decide), List.getElem?_set_self (by rw [List.length_set]; omega)]
      have e9 : ((((wipeE ρ [9, 3, 4]).set 3 (some (oi en.1.1))).set 4 (some (oi en.1.2))).set 9 (some (.lst (qq.2.map eD))))[9]? = some (some (.lst (qq.2.map eD))) := by
        rw [List.getElem?_set_self (by rw [List.length_set, List.length_set]; omega)]
      refine (v_tup (a_cons (v_var e3) (a_cons (v_var e4) (a_cons (v_var e9) a_nil))) (Nat.le_of_ble_eq_true rfl)).is ?_
      unfold rowIn accRow
      rw [hq2]; rfl
    refine hte σ2 _ _ hS2 sN.s _ fun y B4 H4 s4 r4 => ?_
    have nBT : (upd B' T (.tup [.ref en.2.1, .ref en.2.2])) L = none := by rw [upd_ne hTL]; exact nB
    have hLT : (upd H' T (.tup [.ref en.2.1, .ref en.2.2])) L = some (.lst av) := by rw [upd_ne hTL]; exact hacc
    have n4 := lw_any s4 nBT hLT
    have sZ := sA.trans s4
    refine ⟨av, s4.h _ _ hLT, by rw [racc.length, List.length_map, List.length_take]; exact fitsLt (by omega), B4, av ++ [y], ⟨sZ.b, sZ.h.side hL1, sZ.s.side n4, sZ.f⟩, n4, upd_same, ?_⟩
    have e1 : acc.take (i + 1) = acc.take i ++ [qq] := by rw [List.take_add_one, hq1]; rfl
    rw [e1, List.map_append]
    exact (racc.up (sN.trans s4).b).snoc r4
  · have ei : i = es.length := by omega
    refine .inl ⟨⟨hd', by omega⟩, hd', ?_⟩
    rw [ei, hlen, List.take_length] at wl
    obtain ⟨B5, s5, r5⟩ := wl.fin hL1
    have nd5 : B5 d = none := by
      cases z : B5 d with
      | none => rfl
      | some o =>
        have := s5.f d o z hBd
        have h9 : H1 d = some (.frz od (NDO P w d es)) := upd_same
        rw [h9] at this; cases this
    refine q _ B5 _ ⟨s5.b, fun a o z => ?_, s5.s.side nd5, fun a o z n => ?_⟩ r5
    · by_cases ha : a = d
      · rw [ha] at z ⊢; rw [upd_same, ← z, hd]
      · rw [upd_ne ha]
        exact s5.h a o (by show (upd H d _) a = some o; rw [upd_ne ha]; exact z)
    · have h9 := s5.f a o z n
      by_cases ha : a = d
      · rw [ha] at h9
        have h10 : H1 d = some (.frz od (NDO P w d es)) := upd_same
        rw [h10] at h9; cases h9
      · have h10 : H1 a = H a := upd_ne ha
        rw [h10] at h9
        exact h9
theorem tr_newN {R : V → As} : Tr C (tAsg (tDNewN P w) (gName 2)) ρ (Step B0 H0) (fun σ B H => ∃ d, ToI C (ρ.set 2 (some (.raw (.ref d)))) (fun B H => H0 d = none ∧ And2 (Step B0 H0) (DSt P w C H0 d [] [] none) B H) σ B H) R := fun Z σ B H hS hI q1 q2 p hp => by
  have h0 := hI.h.free hp
  have nB := hI.s.free hp
  exact q1 _ B _ Sub.rfl' ⟨p, hS.put (.raw _), h0, fr_upd h0 nB hI, nB, upd_same, rfl, List.nodup_nil, fun i e he => by simp at he⟩
theorem acc_facts {qs rs : List Row} : ∀ (ts : List Lot) (acc : Acc), (∀ t, t ∈ ts → t ∈ lots qs rs) → (acc.map (·.1)).Nodup → AccOk qs rs acc →
    ((ts.foldl addStep acc).map (·.1)).Nodup ∧ (ts.foldl addStep acc).length ≤ acc.length + ts.length ∧ AccOk qs rs (ts.foldl addStep acc)
  | [], acc, _, h1, h2 => ⟨h1, by simp, h2⟩
  | t :: ts, acc, h0, h1, h2 => by
    rw [List.foldl_cons]
    have n1 : ((addStep acc t).map (·.1)).Nodup := by
      unfold addStep accPut
      split
      · rw [List.map_map]
        have e : (fun q : NK × List Ent => q.1) ∘ (fun q => if q.1 = (t.first, t.last) then (q.1, (curOf acc t).set t.rest.toNat (sumE t.mine t.its)) else q) = fun q => q.1 := by
          funext q
          show (if q.1 = _ then _ else _ : NK × List Ent).1 = _
          split <;> rfl
        rw [e]; exact h1
      · rename_i hn
        rw [List.map_append, List.nodup_append]
        refine ⟨h1, by simp, fun a ha b hb => ?_⟩
        have : b = (t.first, t.last) := by simpa using hb
        subst this
        intro e
        subst e
        obtain ⟨q, hq, e⟩ := List.mem_map.mp ha
        refine hn ?_
        unfold accFind
        rw [List.find?_isSome]
        exact ⟨q, hq, by simpa using e⟩
    obtain ⟨a1, a2, a3⟩ := acc_facts ts (addStep acc t) (fun x hx => h0 x (List.mem_cons_of_mem _ hx)) n1 (acc_step h2 (h0 t List.mem_cons_self))
    have := accPut_len acc (t.first, t.last) ((curOf acc t).set t.rest.toNat (sumE t.mine t.its))
    exact ⟨a1, by rw [List.length_cons]; unfold addStep at a2 ⊢; omega, a3⟩
end
section
variable {C : Addr} {P : Program} {w : World} {K : PySem.W.Frag} {mg : Str → Option Value} {base : Heap}
abbrev s_added : Stmt := topS 30
abbrev N_added : List Str := ["one", "other", "found", "first", "last", "many", "rest", "mine", "its", "entries", "d", "other_d"]
theorem sc_added : FnScope N_added ["one", "other"] (defScope s_added) := ⟨rfl, rfl, rfl, by decide +kernel, rfl, by decide +kernel, by decide +kernel⟩
def F_added (ds : List D) (d : D) : Prop := ∃ qs rs : List Row, Good qs ∧ Good rs ∧ (∀ t, t ∈ lots qs rs → SmallE t.mine ∧ SmallE t.its) ∧ Good (addRows qs rs) ∧ ds = [.rule (rowsD qs), .rule (rowsD rs)] ∧ d = .rule (rowsD (addRows qs rs))
theorem ok_added {f : Addr} {fd : FuncData} (Fn : Fun K "added" "added" s_added f fd) (T : Bt K mg C) (G_need_rule : Df P w K mg base 1 "need_rule" ["value", "part"] (spD C F_need_rule)) (G_lots_of : Df P w K mg base 2 "lots_of" ["one", "other"] (spD C F_lots_of))
    (G_thin_entry : Df P w K mg base 5 "thin_entry" ["slope", "constant", "d"] (spD C F_thin_entry)) (G_Rule_init : Di P w K mg base C 6 ["self", "rows"] (spInit C F_init)) : FnOk P w K mg base CX0 8 f fd ["one", "other"] (spD C F_added) := by
  refine def_okT Fn sc_added (by decide) (fun ds d h => by obtain ⟨_, _, _, _, _, _, rfl, _⟩ := h; rfl) fun cdv A outer s H E hr ds d hF => ?_
  obtain ⟨qs, rs, g, h, sm, gs, rfl, rfl⟩ := hF
  have nd := sc_added.nd
  refine ⟨_, (pss_cons (ps_expr (pcall G_need_rule (hr.mono (by first | decide | omega)) (by rfl) (pa_cons (pv 0) (pa_cons pe_str pa_nil))))
      (pss_cons (ps_expr (pcall G_need_rule (hr.mono (by first | decide | omega)) (by rfl) (pa_cons (pv 1) (pa_cons pe_str pa_nil))))
      (pss_cons (ps_set (i := 2) nd rfl (.inl rfl) pe_dnewN)
      (pss_cons (ps_for PassesOwn.never rfl (pi_list (pcall G_lots_of (hr.mono (by first | decide | omega)) (by rfl) (pa_cons (pv 0) (pa_cons (pv 1) pa_nil)))) (pg_tup (by rfl) (pgs_cons (pg_name (i := 3) nd rfl (.inl rfl)) (pgs_cons (pg_name (i := 4) nd rfl (.inl rfl)) (pgs_cons (pg_name (i := 5) nd rfl (.inl rfl)) (pgs_cons (pg_name (i := 6) nd rfl (.inl rfl)) (pgs_cons (pg_name (i := 7) nd rfl (.inl rfl)) (pgs_cons (pg_name (i := 8) nd rfl (.inl rfl)) pgs_nil))))))) (pss_cons (ps_set (i := 9) nd rfl (.inl rfl) (pe_getN hr.units (pv 2) (pa_cons (pe_tup (pa_cons (pv 3) (pa_cons (pv 4) pa_nil))) (pa_cons (pe_op op_rep (pe_lst (pa_cons (pe_tup (pa_cons pe_int (pa_cons pe_int (pa_cons pe_int pa_nil)))) pa_nil)) (pv 5)) pa_nil))))
      (pss_cons (ps_if (PW.pt (pw_or (pt_cmp (pc_isN (pv 7))) (pw_or1 (pt_cmp (pc_isN (pv 8)))))) (pss_one (ps_asg pe_non (pg_sub (pv 9) (pv 6) set_list))) (pss_cons (ps_par (i := 10) (j := 11) (by rfl) nd rfl rfl (by decide) rfl rfl (pa_cons (pe_ix ix_tup (pv 7) pe_int (fun _ _ => rfl)) (pa_cons (pe_ix ix_tup (pv 8) pe_int (fun _ _ => rfl)) pa_nil)) (by rfl))
      (pss_one (ps_asg (pcall G_thin_entry (hr.mono (by first | decide | omega)) (by rfl) (pa_cons (pe_op op_add (pe_op op_mul (pe_ix ix_tup (pv 7) pe_int (fun _ _ => rfl)) (pv 11)) (pe_op op_mul (pe_ix ix_tup (pv 8) pe_int (fun _ _ => rfl)) (pv 10))) (pa_cons (pe_op op_add (pe_op op_mul (pe_ix ix_tup (pv 7) pe_int (fun _ _ => rfl)) (pv 11)) (pe_op op_mul (pe_ix ix_tup (pv 8) pe_int (fun _ _ => rfl)) (pv 10))) (pa_cons (pe_op op_mul (pv 10) (pv 11)) pa_nil)))) (pg_sub (pv 9) (pv 6) set_list)))))
      (pss_one (ps_asg (pv 9) (pg_sub (pv 2) (pe_tup (pa_cons (pv 3) (pa_cons (pv 4) pa_nil))) (set_nd hr.units)))))))
      (pss_one (ps_ret (pmake G_Rule_init (hr.mono (by first | decide | omega)) (by rfl) T.mgC (pa_cons (pe_lock (pe_lc (own := [("entries", 9), ("first", 3), ("last", 4)]) (by rfl) nd (pi_itemsN (pv 2)) (blkOk_by (own := [("entries", 9), ("first", 3), ("last", 4)]) (N := N_added) (sc := defScope s_added) (by decide +kernel)) (fun _ _ _ _ _ => (gtupK (K := K) (n := 2) rfl rfl (pgs_cons (gtupK (K := K) (n := 2) rfl rfl (pgs_cons (pg_name (i := 3) nd rfl (.inl rfl)) (pgs_cons (pg_name (i := 4) nd rfl (.inl rfl)) pgs_nil))) (pgs_cons (pg_name (i := 9) nd rfl (.inl rfl)) pgs_nil)))) (fun _ _ _ _ _ => pts_nil) (fun _ _ _ _ _ => (pe_tup (pa_cons (pv 3) (pa_cons (pv 4) (pa_cons (pv 9) pa_nil))))))) pa_nil)))))))), fun B0 H0 e0 => ?_⟩
  have okJ := okFr B0 H0
  refine tr_do okJ (v_call0 (F := F_need_rule) (ds := [.rule (rowsD qs), .str "one"]) (d := .non) (a_cons (v_var rfl) (a_cons v_str a_nil)) ⟨_, _, rfl, rfl⟩) ?_
  refine tr_do okJ (v_call0 (F := F_need_rule) (ds := [.rule (rowsD rs), .str "other"]) (d := .non) (a_cons (v_var rfl) (a_cons v_str a_nil)) ⟨_, _, rfl, rfl⟩) ?_
  refine tr_seqE (tr_newN (P := P) (w := w)) fun d => tr_pure fun hd0 => ?_
  let accI : Nat → Acc := fun i => ((lots qs rs).take i).foldl addStep []
  have accf : ∀ i, ((accI i).map (·.1)).Nodup ∧ (accI i).length ≤ 40000 ∧ AccOk qs rs (accI i) := fun i => by
    obtain ⟨a1, a2, a3⟩ := acc_facts (qs := qs) (rs := rs) ((lots qs rs).take i) [] (fun t ht => List.mem_of_mem_take ht) List.nodup_nil (fun q hq => nomatch hq)
    refine ⟨a1, ?_, a3⟩
    have h1 : ((lots qs rs).take i).length ≤ (lots qs rs).length := by rw [List.length_take]; exact Nat.min_le_right _ _
    have h2 : (lots qs rs).length ≤ 36900 := Nat.le_trans (List.length_filter_le _ _) (allLots_len g h)
    have h3 : ([] : Acc).length = 0 := rfl
    show (((lots qs rs).take i).foldl addStep []).length ≤ 40000
    omega
  let ρ0 : Env := [some (.rule (rowsD qs)), some (.rule (rowsD rs)), some (.raw (.ref d)), none, none, none, none, none, none, none, none, none]
  let Is : Nat → As := fun i B H => ∃ es, And2 (Step B0 H0) (DSt P w C H0 d es (accI i) none) B H
  refine tr_seq (ρ1 := ρ0) (I1 := Is (lots qs rs).length) (tr_forL (okD none) (v_call0 (F := F_lots_of) (ds := [.rule (rowsD qs), .rule (rowsD rs)]) (a_cons (v_var rfl) (a_cons (v_var rfl) a_nil)) ⟨qs, rs, g, h, rfl, rfl⟩) (fun _ => ρ0) Is (fun σ B H a b => ⟨a, [], b⟩) (fun i B H z => by obtain ⟨_, z, _⟩ := z; exact z.s) (fun i x hx => ?_) fun σ B H a b => ?_) ?_
  · rw [List.getElem?_map] at hx
    cases ht : (lots qs rs)[i]? with
    | none => rw [ht] at hx; cases hx
    | some t =>
      rw [ht] at hx
      cases hx
      have hmem := List.mem_of_getElem? ht
      have ok := lots_ok g h hmem
      have small := sm t hmem
      have hacc : accI (i + 1) = addStep (accI i) t := by
        show ((lots qs rs).take (i + 1)).foldl addStep [] = _
        rw [List.take_add_one, ht, List.foldl_append]; rfl
      have hcur := cur_len (accf i).2.2 hmem
      refine ⟨_, _, g_tup (gs_cons g_name (gs_cons g_name (gs_cons g_name (gs_cons g_name (gs_cons g_name (gs_cons g_name gs_nil)))))) rfl, tr_ex fun es => ?_⟩
      obtain ⟨fi, la, m, r, mi, it⟩ := t
      obtain ⟨⟨np, hn⟩, hm, hm2, r0, r1, ok1, ok2⟩ := ok
      dsimp only at hn hm hm2 r0 r1 ok1 ok2 small hcur
      refine tr_seqE (tr_get9 (p := (fi, la)) (m := m) hd0 rfl rfl rfl rfl hm hm2) fun L => tr_pure fun hg => ?_
      have okL : OkI (And2 (Step B0 H0) (DSt P w C H0 d es (accI i) (some L))) := okD (some L)
      have hu : ∀ {B H : Hp} {o : HO}, B L = none → And2 (Step B0 H0) (DSt P w C H0 d es (accI i) (some L)) B H → And2 (Step B0 H0) (DSt P w C H0 d es (accI i) (some L)) B (upd H L o) := fun n z => ⟨fr_upd hg.1 n z.1, z.2.wr hg.2.1⟩
      let ρ2 : Env := [some (.rule (rowsD qs)), some (.rule (rowsD rs)), some (.raw (.ref d)), some (oi fi), some (oi la), some (.int m), some (.int r), some (eD mi), some (eD it), some (.raw (.ref L)), none, none]
      let cur : List Ent := curOf (accI i) ⟨fi, la, m, r, mi, it⟩
      let new : List Ent := cur.set r.toNat (sumE mi it)
      have hlc : r.toNat < (cur.map eD).length := by
        rw [List.length_map]
        show r.toNat < (curOf (accI i) ⟨fi, la, m, r, mi, it⟩).length
        rw [hcur]; omega
      have hset : ∀ e : Ent, sumE mi it = e → (cur.map eD).set r.toNat (eD e) = new.map eD := fun e he => by
        show _ = (cur.set r.toNat (sumE mi it)).map eD
        rw [List.map_set, he]
      refine tr_seq (ρ1 := ρ2) (I1 := And2 (And2 (Step B0 H0) (DSt P w C H0 d es (accI i) (some L))) (Cl C L (new.map eD))) ?_ ?_
      · rcases mi with _ | ⟨a, b, c⟩
        · refine tr_if (b := true) (okCl okL) (b_orT (b_B (v_isN (x := .non) (v_var rfl))) rfl) (fun _ => ?_) (fun z => nomatch z)
          have := tr_setI (C := C) (R := fun v B H => Rep C B v (.rule (rowsD (addRows qs rs))) ∧ Step B0 H0 B H) (ρ := ρ2) (j := 9) (k := 6) (te := tC .non) (L := L) (cur := cur.map eD) (r := r) (dx := eD none) okL hu rfl rfl r0 hlc (by omega) v_non
          rw [hset none rfl] at this
          exact this
        · rcases it with _ | ⟨a', b', c'⟩
          · refine tr_if (b := true) (okCl okL) (b_orF (b_B (v_isN (x := eD (some (a, b, c))) (v_var rfl))) rfl (b_B (v_isN (x := .non) (v_var rfl)))) (fun _ => ?_) (fun z => nomatch z)
            have := tr_setI (C := C) (R := fun v B H => Rep C B v (.rule (rowsD (addRows qs rs))) ∧ Step B0 H0 B H) (ρ := ρ2) (j := 9) (k := 6) (te := tC .non) (L := L) (cur := cur.map eD) (r := r) (dx := eD none) okL hu rfl rfl r0 hlc (by omega) v_non
            rw [hset none rfl] at this
            exact this
          · have h1 : 0 < c := ok1.2.1
            have h2 : 0 < c' := ok2.2.1
            have hc1 : c ≤ 1000 := small.1
            have hc2 : c' ≤ 1000 := small.2
            have hp : 0 < c * c' := Int.mul_pos h1 h2
            have hpl : c * c' ≤ 1000 * 1000 := by
              have q1 : c * c' ≤ 1000 * c' := Int.mul_le_mul_of_nonneg_right hc1 (by omega)
              omega
            refine tr_if (b := false) (okCl okL) (b_orF (b_B (v_isN (x := eD (some (a, b, c))) (v_var rfl))) rfl (b_B (v_isN (x := eD (some (a', b', c'))) (v_var rfl)))) (fun z => nomatch z) (fun _ => ?_)
            refine tr_let2 (okCl okL) (x := .int c) (y := .int c') (a_cons (v_ixT (z := .int c) (v_var rfl) v_int rfl) (a_cons (v_ixT (z := .int c') (v_var rfl) v_int rfl) a_nil)) ?_
            have := fun te hte => tr_setI (C := C) (R := fun v B H => Rep C B v (.rule (rowsD (addRows qs rs))) ∧ Step B0 H0 B H) (ρ := (ρ2.set 10 (some (.int c))).set 11 (some (.int c'))) (j := 9) (k := 6) (te := te) (L := L) (cur := cur.map eD) (r := r) (dx := eD (some (thin (a * c' + a' * c) (b * c' + b' * c) (c * c')))) okL hu rfl rfl r0 hlc (by omega) hte
            rw [hset (some (thin (a * c' + a' * c) (b * c' + b' * c) (c * c'))) rfl] at this
            refine (this _ ?_).imp (fun σ B H z => ⟨z.1.weak (by walk_at "weak"), z.2⟩) fun _ _ _ z => z
            exact v_call0 (F := F_thin_entry) (ds := [.int (a * c' + a' * c), .int (b * c' + b' * c), .int (c * c')]) (a_cons (v_add (v_mul (v_ixT (z := .int a) (v_var rfl) v_int rfl) (v_var rfl) (.inl ok1.1)) (v_mul (v_ixT (z := .int a') (v_var rfl) v_int rfl) (v_var rfl) (.inl ok2.1))) (a_cons (v_add (v_mul (v_ixT (z := .int b) (v_var rfl) v_int rfl) (v_var rfl) (.inr (by omega))) (v_mul (v_ixT (z := .int b') (v_var rfl) v_int rfl) (v_var rfl) (.inr (by omega)))) (a_cons (v_mul (v_var rfl) (v_var rfl) (.inl (by omega))) a_nil))) ⟨_, _, _, hp, by omega, rfl, rfl⟩
      · refine (tr_put9 (p := (fi, la)) (new := new) hd0 rfl rfl rfl rfl (accf i).1 (by have := (accf i).2.1; omega) hg).imp (fun σ B H z => ?_) fun _ _ _ z => z
        refine ⟨z.1.weak (by walk_at "weak"), ?_⟩
        obtain ⟨es', z2⟩ := z.2
        exact ⟨es', by rw [hacc]; exact z2⟩
  · rw [List.length_map] at b
    exact ⟨a, b⟩
  · intro Z σ B H hS hI q1 q2
    obtain ⟨es, hF, hD⟩ := hI
    let Bs : Hp := fun a => if a ∈ es.map (·.2.2) then H a else B a
    have inL : ∀ {a : Addr}, a ∈ es.map (·.2.2) → B a = none ∧ H0 a = none ∧ a ≠ d := fun {a} ha => by
      obtain ⟨e, he, rfl⟩ := List.mem_map.mp ha
      obtain ⟨i, hi⟩ := List.getElem?_of_mem he
      obtain ⟨_, k2, ents, _, k4⟩ := hD.at' i e hi
      obtain ⟨k5, vs, k6, _⟩ := k4 (fun z => nomatch z)
      exact ⟨k5, k2, fun z => by rw [z, hD.hd] at k6; cases k6⟩
    have subB : Sub B Bs := fun a o q => by
      by_cases ha : a ∈ es.map (·.2.2)
      · rw [(inL ha).1] at q; cases q
      · show (if a ∈ es.map (·.2.2) then H a else B a) = _
        rw [if_neg ha]; exact q
    have subH : Sub Bs H := fun a o q => by
      by_cases ha : a ∈ es.map (·.2.2)
      · have q' : (if a ∈ es.map (·.2.2) then H a else B a) = some o := q
        rw [if_pos ha] at q'; exact q'
      · have q' : (if a ∈ es.map (·.2.2) then H a else B a) = some o := q
        rw [if_neg ha] at q'; exact hF.s a o q'
    have hFs : Step B0 H0 Bs H := ⟨hF.b.trans subB, hF.h, subH, fun a o q n => by
      by_cases ha : a ∈ es.map (·.2.2)
      · exact (inL ha).2.1
      · have q' : (if a ∈ es.map (·.2.2) then H a else B a) = some o := q
        rw [if_neg ha] at q'; exact hF.f a o q' n⟩
    have ndB : Bs d = none := by
      show (if d ∈ es.map (·.2.2) then H d else B d) = none
      rw [if_neg (fun z => (inL z).2.2 rfl)]
      exact hD.bd
    have hlenA := (accf (lots qs rs).length).2.1
    have hB : ∀ (i : Nat) (e : NE), es[i]? = some e → ∃ q, (accI (lots qs rs).length)[i]? = some q ∧ q.1 = e.1 ∧ Bs e.2.1 = some (.tup [oV e.1.1, oV e.1.2]) ∧ Rep C Bs (.ref e.2.2) (.lst (q.2.map eD)) := fun i e he => by
      obtain ⟨k1, k2, ents, k3, k4⟩ := hD.at' i e he
      obtain ⟨k5, vs, k6, k7⟩ := k4 (fun z => nomatch z)
      refine ⟨_, k3, rfl, subB _ _ k1, .lst (vs := vs) ?_ (k7.up subB)⟩
      show (if e.2.2 ∈ es.map (·.2.2) then H e.2.2 else B e.2.2) = _
      rw [if_pos (List.mem_map.mpr ⟨e, List.mem_of_getElem? he, rfl⟩)]
      exact k6
    have eacc : accI (lots qs rs).length = accOf qs rs := by
      show ((lots qs rs).take (lots qs rs).length).foldl addStep [] = _
      rw [List.take_length]; rfl
    have erows : (D.lst ((accI (lots qs rs).length).map fun q => rowIn (accRow q, true))) = .lst (((addRows qs rs).map fun r => (r, true)).map rowIn) := by
      rw [eacc]
      unfold addRows
      rw [List.map_map, List.map_map]; rfl
    have efst : ((addRows qs rs).map fun r => (r, true)).map (·.1) = addRows qs rs := by
      rw [List.map_map]
      exact List.map_id _
    refine make_at (dd := .lst ((accI (lots qs rs).length).map fun q => rowIn (accRow q, true))) (rows := rowsD (addRows qs rs)) (B := Bs) (H := H) subH (fun Q' q' => ?_) ⟨(addRows qs rs).map fun r => (r, true), by rw [efst]; exact gs, erows, by rw [efst]⟩ fun v B' H' s' r' => q2 v B' H' (subB.trans s'.b) ⟨r', hFs.trans s'⟩
    exact lcN (ρ := ρ0) (d := d) hB hD.len (by omega) (by simp [ρ0]) (hS.up subB) rfl subH ndB hD.hd _ fun v B' H' s' r' => q' _ B' H' s' (.cons r' .nil)
end
end K55

set_option maxHeartbeats 2000000
/-! K55: the valley: a list that changes, its draws. -/
namespace K55
open PySem PySem.Spec PyProof.Rows L2
/-- all but the thing at vv stays -/
structure StepV (vv : Addr) (B H B' H' : Hp) : Prop where
  b : Sub B B'
  h : ∀ a o, a ≠ vv → H a = some o → H' a = some o
  s : Sub B' H'
  f : ∀ a o, a ≠ vv → B' a = some o → B a = none → H a = none
theorem StepV.trans {vv : Addr} {B H B1 H1 B2 H2 : Hp} (x : StepV vv B H B1 H1) (y : StepV vv B1 H1 B2 H2) : StepV vv B H B2 H2 :=
  ⟨x.b.trans y.b, fun a o na q => y.h a o na (x.h a o na q), y.s, fun a o na h nB => by
    cases q : B1 a with
    | some o' => exact x.f a o' na q nB
    | none =>
      have h1 := y.f a o na h q
      cases q2 : H a with
      | none => rfl
      | some u => rw [x.h a u na q2] at h1; cases h1⟩
theorem Step.v {vv : Addr} {B H B' H' : Hp} (s : Step B H B' H') : StepV vv B H B' H' := ⟨s.b, fun a o _ q => s.h a o q, s.s, fun a o _ q n => s.f a o q n⟩
section
variable {C : Addr} {K : PySem.W.Frag} {ρ ρ1 : Env} {te ta tb : TE} {tt : TT} {t u : TS} {vv c : Addr} {cells : List Int} {turn rest r : Int} {B H H0 : Hp} {σ : L2.St} {Z : Ends}
/-- the valley as it stands: its cells, its turn, its rest -/
def vD (cells : List Int) (turn rest : Int) : D := .lst [.lst (cells.map D.int), .int turn, .int rest]
structure VS (C vv : Addr) (B H0 : Hp) (c : Addr) (cells : List Int) (ρ : Env) (turn rest : Int) (σ : L2.St) (H : Hp) : Prop where
  sat : Sat C σ B ρ
  raw : ρ[0]? = some (some (.raw (.ref vv)))
  sub : Sub B H
  v : H vv = some (.lst [.ref c, .int turn, .int rest])
  fr : ∀ a o, a ≠ vv → H0 a = some o → H a = some o
  bv : B vv = none
  bc : B c = some (.lst (cells.map V.int))
theorem VS.plus (s : VS C vv B H0 c cells ρ turn rest σ H) : Sat C σ (upd B vv (.lst [.ref c, .int turn, .int rest])) (ρ.set 0 (some (vD cells turn rest))) ∧ Sub (upd B vv (.lst [.ref c, .int turn, .int rest])) H := by
  have up : Sub B (upd B vv (.lst [.ref c, .int turn, .int rest])) := Sub.new s.bv
  obtain ⟨v, hv, rv⟩ := s.sat.get 0 _ s.raw
  cases rv.raw_inv
  have e : σ.set 0 (some (.ref vv)) = σ := by
    refine List.ext_getElem? fun i => ?_
    by_cases hi : 0 = i
    · subst hi
      have hlt := (List.getElem?_eq_some_iff.mp hv).1
      rw [List.getElem?_set_self hlt, hv]
    · rw [List.getElem?_set_ne hi]
  have h2 := (s.sat.up up).put (i := 0) (v := .ref vv) (.lst upd_same (.cons (.lst (up _ _ s.bc) (reps_ints cells)) (.cons (.int turn) (.cons (.int rest) .nil))))
  rw [e] at h2
  refine ⟨h2, fun a o q => ?_⟩
  by_cases ha : a = vv
  · rw [ha, upd_same] at q; cases q; rw [ha]; exact s.v
  · rw [upd_ne ha] at q; exact s.sub a o q
theorem VS.keep {H' : Hp} (s : VS C vv B H0 c cells ρ turn rest σ H) (k : Sub H H') : VS C vv B H0 c cells ρ turn rest σ H' :=
  ⟨s.sat, s.raw, fun a o q => k a o (s.sub a o q), k _ _ s.v, fun a o n q => k a o (s.fr a o n q), s.bv, s.bc⟩
theorem vs_ev (h : EvP C te (ρ.set 0 (some (vD cells turn rest))) (.int r)) (s : VS C vv B H0 c cells ρ turn rest σ H) {Q : VK} (q : ∀ H', VS C vv B H0 c cells ρ turn rest σ H' → Q (.int r) H') : te σ H Q :=
  h σ _ H s.plus.1 s.plus.2 _ fun v B' H' st rv => by
    rw [rv.int_inv]
    exact q H' (s.keep st.h)
theorem vs_test {b : Bool} (h : EvB C tt (ρ.set 0 (some (vD cells turn rest))) b) (s : VS C vv B H0 c cells ρ turn rest σ H) {Q : Bool → Hp → Prop} (q : ∀ H', VS C vv B H0 c cells ρ turn rest σ H' → Q b H') : tt σ H Q :=
  h σ _ H s.plus.1 s.plus.2 _ fun B' H' st => q H' (s.keep st.h)
theorem vs_let {i : Nat} (hi : 0 ≠ i) (h : EvP C te (ρ.set 0 (some (vD cells turn rest))) (.int r)) (s : VS C vv B H0 c cells ρ turn rest σ H) (q : ∀ σ' H', VS C vv B H0 c cells (ρ.set i (some (.int r))) turn rest σ' H' → u Z σ' H') : tSeq (tAsg te (gName i)) u Z σ H :=
  vs_ev h s fun H' s' => q _ H' ⟨s'.sat.put (.int r), by rw [List.getElem?_set_ne (Ne.symm hi)]; exact s'.raw, s'.sub, s'.v, s'.fr, s'.bv, s'.bc⟩
theorem vs_ret (h : EvP C te (ρ.set 0 (some (vD cells turn rest))) (.int r)) (s : VS C vv B H0 c cells ρ turn rest σ H) (q : ∀ H', VS C vv B H0 c cells ρ turn rest σ H' → Z.rt (.int r) H') : tRet te Z σ H := vs_ev h s q
theorem vs_cell (s : VS C vv B H0 c cells ρ turn rest σ H) {x y : Int} : VS C vv B H0 c cells ρ x y σ (upd H vv (.lst [.ref c, .int x, .int y])) :=
  ⟨s.sat, s.raw, s.sub.side s.bv, upd_same, fun a o n q => by rw [upd_ne n]; exact s.fr a o n q, s.bv, s.bc⟩
theorem vs_store2 (h : EvP C te (ρ.set 0 (some (vD cells turn rest))) (.int r)) (s : VS C vv B H0 c cells ρ turn rest σ H) (q : ∀ H', VS C vv B H0 c cells ρ turn r σ H' → u Z σ H') : tSeq (tAsg te (gSub (tVar 0) (tC (.int 2)) rSetL)) u Z σ H :=
  vs_ev h s fun H' s' => by
    obtain ⟨v, hv, rv⟩ := s'.sat.get 0 _ s'.raw
    cases rv.raw_inv
    exact ⟨_, hv, vv, _, 2, 2, rfl, rfl, s'.v, rfl, q _ (vs_cell s')⟩
theorem vs_store1 (h : EvP C te (ρ.set 0 (some (vD cells turn rest))) (.int r)) (s : VS C vv B H0 c cells ρ turn rest σ H) (q : ∀ H', VS C vv B H0 c cells ρ r rest σ H' → u Z σ H') : tSeq (tAsg te (gSub (tVar 0) (tC (.int 1)) rSetL)) u Z σ H :=
  vs_ev h s fun H' s' => by
    obtain ⟨v, hv, rv⟩ := s'.sat.get 0 _ s'.raw
    cases rv.raw_inv
    exact ⟨_, hv, vv, _, 1, 1, rfl, rfl, s'.v, rfl, q _ (vs_cell s')⟩
/-- an if that returns, ahead of the rest -/
theorem vs_when {b : Bool} (h : EvB C tt (ρ.set 0 (some (vD cells turn rest))) b) (s : VS C vv B H0 c cells ρ turn rest σ H) (q1 : b = true → ∀ H', VS C vv B H0 c cells ρ turn rest σ H' → ∀ Z', Z'.rt = Z.rt → t Z' σ H') (q2 : b = false → ∀ H', VS C vv B H0 c cells ρ turn rest σ H' → u Z σ H') : tSeq (tIfS tt t tNext) u Z σ H :=
  vs_test h s fun H' s' => by
    cases b with
    | true => exact iteT (q1 rfl H' s' _ rfl)
    | false => exact iteF (q2 rfl H' s')
end
/-- the valley ahead of its n-th draw at the latest -/
def VOk (C vv : Addr) (n : Nat) : As := fun B H => Sub B H ∧ B vv = none ∧ ∃ (c : Addr) (cells : List Int) (turn rest : Int), H vv = some (.lst [.ref c, .int turn, .int rest]) ∧ B c = some (.lst (cells.map V.int)) ∧ 0 ≤ turn ∧ turn ≤ n
theorem VOk.mono {C vv : Addr} {n m : Nat} (h : n ≤ m) {B H : Hp} (v : VOk C vv n B H) : VOk C vv m B H := by
  obtain ⟨s, b, c, cells, turn, rest, h1, h2, h3, h4⟩ := v
  exact ⟨s, b, c, cells, turn, rest, h1, h2, h3, by omega⟩
theorem VOk.up {C vv : Addr} {n : Nat} {B H B' H' : Hp} (s : Step B H B' H') (v : VOk C vv n B H) : VOk C vv n B' H' := by
  obtain ⟨_, b, c, cells, turn, rest, h1, h2, h3, h4⟩ := v
  exact ⟨s.s, lw_any s b h1, c, cells, turn, rest, s.h _ _ h1, s.b _ _ h2, h3, h4⟩
/-- the promise of a def that draws k times at the most: F0 of what is handed in behind the valley; F of it and the answer -/
def spV (C : Addr) (k : Nat) (F0 : List D → Prop) (F : List D → D → Prop) : Sp := fun vs H Q _ => ∃ B vv n ds, VOk C vv n B H ∧ n + k ≤ 1000 ∧ Reps C B vs (.raw (.ref vv) :: ds) ∧ F0 ds ∧ ∀ v d B' H', F ds d → StepV vv B H B' H' → VOk C vv (n + k) B' H' → Rep C B' v d → Q v H'
end K55

set_option maxHeartbeats 2000000
namespace K55
open PySem PySem.Spec PyProof.Rows L2
local macro_rules | `(tactic| walk_at "ev1") => `(tactic| first
  | exact v_var rfl | exact v_int | exact v_bl | exact v_non | exact v_str | exact a_nil | exact v_raw
  | apply a_cons
  | apply v_add | apply v_sub | apply v_mul | apply v_mod | apply v_fdiv | apply v_neg
  | apply v_lt | apply v_le | apply v_gt | apply v_ge | apply v_eqI | apply v_neI
  | apply v_isN | apply v_notN
  | apply b_B | apply b_test | apply b_not | apply b_and0 | apply b_or0
  | apply v_and0 | apply v_or0 | apply v_not
  | apply v_tup | apply v_lst
  | refine' v_cb ?_ c_int
  | exact Nat.le_of_ble_eq_true rfl)
local macro_rules | `(tactic| walk_at "ev") => `(tactic| repeat' walk_at "ev1")
section
variable {C : Addr} {P : Program} {w : World} {K : PySem.W.Frag} {mg : Str → Option Value} {base : Heap}
/-! ### _law_climb -/
abbrev s__law_climb : Stmt := topS 36
abbrev N__law_climb : List Str := ["_law_valley_here", "_law_many", "_law_rest", "_law_turn", "_law_cell", "_law_mixed"]
theorem sc__law_climb : FnScope N__law_climb ["_law_valley_here", "_law_many"] (defScope s__law_climb) := ⟨rfl, rfl, rfl, by decide +kernel, rfl, by decide +kernel, by decide +kernel⟩
def F0_climb (ds : List D) : Prop := ∃ m : Int, 0 < m ∧ m ≤ 1000 ∧ ds = [.int m]
def F_climb (ds : List D) (d : D) : Prop := ∃ m r : Int, ds = [.int m] ∧ 0 ≤ r ∧ r < m ∧ d = .int r
theorem ok_climb {f : Addr} {fd : FuncData} (Fn : Fun K "_law_climb" "_law_climb" s__law_climb f fd) (T : Bt K mg C) : FnOk P w K mg base CX0 1 f fd ["_law_valley_here", "_law_many"] (spV C 1 F0_climb F_climb) := by
  refine Fn.ok sc__law_climb (fun vs H Q E h => ?_) fun cdv A outer s H vs Q E hr h => ?_
  · obtain ⟨B, vv, n, ds, _, _, r, ⟨m, _, _, rfl⟩, _⟩ := h
    exact r.length
  obtain ⟨B, vv, n, ds, ⟨sub, bv, c, cells, turn, rest, hv, bc, ht0, ht1⟩, hn, rv, ⟨m, hm0, hm1, rfl⟩, k⟩ := h
  have nd := sc__law_climb.nd
  have hS := sat_start (C := C) (B := B) (N := N__law_climb) rv (by simp)
  have VS0 : VS C vv B H c cells [some (.raw (.ref vv)), some (.int m), none, none, none, none] turn rest (L2.start N__law_climb vs) H := ⟨hS, rfl, sub, hv, fun a o _ q => q, bv, bc⟩
  have fin : ∀ {ρ : Env} {turn' rest' r : Int} {σ : L2.St} {H' : Hp}, VS C vv B H c cells ρ turn' rest' σ H' → 0 ≤ turn' → turn' ≤ n + 1 → 0 ≤ r → r < m → Q (.int r) H' := fun {ρ turn' rest' r σ H'} s h0 h1 h2 h3 =>
    k _ (.int r) B H' ⟨m, r, rfl, h2, h3, rfl⟩ ⟨Sub.rfl', s.fr, s.sub, fun a o _ q z => by rw [q] at z; cases z⟩ ⟨s.sub, bv, c, cells, turn', rest', s.v, bc, h0, by omega⟩ (.int r)
  refine ⟨_, (pss_cons (ps_if (pt_cmpR (op_eqD hr.units) (pe_ix ix_list (pv 0) pe_int (fun _ _ => rfl)) (pe_lst pa_nil) (nomark _)) (pss_one (ps_ret pe_int)) pss_nil)
      (pss_cons (ps_if (pt_cmpR op_gt (pe_ix ix_list (pv 0) pe_int (fun _ _ => rfl)) pe_int (nomark _)) (pss_cons (ps_set (i := 2) nd rfl (.inl rfl) (pe_callTy call_int1 (by rfl) T.n_int bo_int (pa_cons (pe_ix ix_list (pv 0) pe_int (fun _ _ => rfl)) pa_nil)))
      (pss_cons (ps_asg (pe_op op_fdiv (pv 2) (pv 1)) (pg_sub (pv 0) pe_int set_list))
      (pss_one (ps_ret (pe_op op_mod (pe_callTy call_int1 (by rfl) T.n_int bo_int (pa_cons (pv 2) pa_nil)) (pv 1)))))) pss_nil)
      (pss_cons (ps_set (i := 3) nd rfl (.inl rfl) (pe_ix ix_list (pv 0) pe_int (fun _ _ => rfl)))
      (pss_cons (ps_asg (pe_op op_add (pv 3) pe_int) (pg_sub (pv 0) pe_int set_list))
      (pss_cons (ps_set (i := 4) nd rfl (.inl rfl) (pe_ix ix_list (pe_ix ix_list (pv 0) pe_int (fun _ _ => rfl)) (pe_op op_mod (pe_callTy call_int1 (by rfl) T.n_int bo_int (pa_cons (pv 3) pa_nil)) (pe_callB call_len_seq (by rfl) T.n_len bo_len (pa_cons (pe_ix ix_list (pv 0) pe_int (fun _ _ => rfl)) pa_nil))) (fun _ _ => rfl)))
      (pss_cons (ps_if (PW.pt (pw_and (pt_cmpR op_lt (pv 3) (pe_callB call_len_seq (by rfl) T.n_len bo_len (pa_cons (pe_ix ix_list (pv 0) pe_int (fun _ _ => rfl)) pa_nil)) (nomark _)) (pw_and1 (pt_cmpR op_ge (pe_callB call_abs (by rfl) T.n_abs bo_abs (pa_cons (pv 4) pa_nil)) (pe_op op_pow pe_int pe_int) (nomark _))))) (pss_cons (ps_set (i := 2) nd rfl (.inl rfl) (pe_op op_add (pe_op op_mul pe_int (pe_op op_sub (pe_callB call_abs (by rfl) T.n_abs bo_abs (pa_cons (pv 4) pa_nil)) (pe_op op_pow pe_int pe_int))) (pe_callTy call_int1 (by rfl) T.n_int bo_int (pa_cons (pe_cmpR op_lt (pv 4) pe_int (nomark _)) pa_nil))))
      (pss_cons (ps_asg (pe_op op_fdiv (pe_callTy call_int1 (by rfl) T.n_int bo_int (pa_cons (pv 2) pa_nil)) (pv 1)) (pg_sub (pv 0) pe_int set_list))
      (pss_one (ps_ret (pe_op op_mod (pe_callTy call_int1 (by rfl) T.n_int bo_int (pa_cons (pv 2) pa_nil)) (pv 1)))))) pss_nil)
      (pss_cons (ps_set (i := 5) nd rfl (.inl rfl) (pe_op op_mod (pe_callTy call_int1 (by rfl) T.n_int bo_int (pa_cons (pe_op op_pow (pe_op op_add (pe_op op_add (pe_op op_mod (pe_callTy call_int1 (by rfl) T.n_int bo_int (pa_cons (pv 4) pa_nil)) pe_int) (pe_op op_mul pe_int (pv 3))) pe_int) pe_int) pa_nil)) pe_int))
      (pss_cons (ps_set (i := 5) nd rfl (.inl rfl) (pe_op op_mod (pe_callTy call_int1 (by rfl) T.n_int bo_int (pa_cons (pe_op op_pow (pe_op op_add (pe_op op_add (pe_op op_mul (pv 5) (pe_op op_add (pe_op op_mul pe_int (pv 3)) pe_int)) (pe_op op_mul (pe_op op_mul pe_int (pv 3)) (pv 3))) pe_int) pe_int) pa_nil)) pe_int))
      (pss_one (ps_ret (pe_op op_mod (pe_callTy call_int1 (by rfl) T.n_int bo_int (pa_cons (pe_op op_fdiv (pv 5) pe_int) pa_nil)) (pv 1)))))))))))), ?_⟩
  have hcell : ∀ {K : PySem.W.Frag} {ρ : Env} {turn rest : Int}, ρ[0]? = some (some (vD cells turn rest)) → EvP C (tOp (rIxL K) (tVar 0) (tC (.int 0))) ρ (.lst (cells.map D.int)) := fun h => v_ixL (v_var h) v_int rfl
  have hturn : ∀ {K : PySem.W.Frag} {ρ : Env} {turn rest : Int}, ρ[0]? = some (some (vD cells turn rest)) → EvP C (tOp (rIxL K) (tVar 0) (tC (.int 1))) ρ (.int turn) := fun h => v_ixL (v_var h) v_int rfl
  have hrest : ∀ {K : PySem.W.Frag} {ρ : Env} {turn rest : Int}, ρ[0]? = some (some (vD cells turn rest)) → EvP C (tOp (rIxL K) (tVar 0) (tC (.int 2))) ρ (.int rest) := fun h => v_ixL (v_var h) v_int rfl
  have modr : ∀ x : Int, 0 ≤ x % m ∧ x % m < m := fun x => ⟨mod_lo x hm0, mod_hi x hm0⟩
  have hdiv : CDiv (0 : Int) m := ⟨hm0, by omega⟩
  refine vs_when (b := cells.isEmpty) (b_test (v_eqP (hcell rfl) (v_lst a_nil (Nat.zero_le _)) (pure_ints cells) (pure_ints []) (Nat.le_trans (dep_ints cells) (by decide)) (by decide) (by rw [eqv_nil]; cases cells <;> rfl))) VS0 (fun _ H1 s1 Z' hZ => vs_ret v_int s1 fun H2 s2 => by rw [hZ]; exact fin s2 ht0 (by omega) (by omega) hm0) fun hne H1 s1 => ?_
  have hlen : (0 : Int) < (cells.map D.int).length := by
    rw [List.length_map]
    cases cells with
    | nil => cases hne
    | cons _ _ => rw [List.length_cons]; omega
  refine vs_when (b := decide (0 < rest)) (b_test (v_gt (hrest rfl) v_int)) s1 (fun _ H2 s2 Z' hZ => ?_) fun _ H2 s2 => ?_
  · refine vs_let (by decide) (v_cb (a_cons (hrest rfl) a_nil) c_int) s2 fun σ3 H3 s3 => ?_
    refine vs_store2 (v_fdiv (v_var rfl) (v_var rfl) ⟨hm0, by omega⟩) s3 fun H4 s4 => ?_
    refine vs_ret (v_mod (v_cb (a_cons (v_var rfl) a_nil) c_int) (v_var rfl) hm0) s4 fun H5 s5 => ?_
    rw [hZ]
    exact fin s5 ht0 (by omega) (modr _).1 (modr _).2
  refine vs_let (by decide) (hturn rfl) s2 fun σ3 H3 s3 => ?_
  refine vs_store1 (v_add (v_var rfl) v_int) s3 fun H4 s4 => ?_
  have hm2 := mod_lo turn hlen
  have hm3 := mod_hi turn hlen
  obtain ⟨cell, hcellv⟩ : ∃ cell : Int, cells[(turn % ((cells.map D.int).length : Int)).toNat]? = some cell := by
    rw [List.length_map] at hm2 hm3 ⊢
    exact ⟨_, List.getElem?_eq_getElem (show (turn % (cells.length : Int)).toNat < cells.length by omega)⟩
  refine vs_let (r := cell) (by decide) (v_ixL (hcell rfl) (v_mod (v_cb (a_cons (v_var rfl) a_nil) c_int) (v_cb (a_cons (hcell rfl) a_nil) (c_len (.inl rfl))) hlen) (atI_map D.int (atI_of hm2 hcellv))) s4 fun σ5 H5 s5 => ?_
  have habs : ∀ {ρ : Env}, ρ[4]? = some (some (.int cell)) → EvP C (tCB (fun xs H Q => ∃ i : Int, xs = [V.int i] ∧ Q (.int (if i < 0 then -i else i)) H) (tCons (tVar 4) tNil)) ρ (.int (if cell < 0 then -cell else cell)) := fun h => v_cb (a_cons (v_var h) a_nil) c_abs
  have hpow : ∀ {ρ : Env}, EvP C (tOp (rI CPow fun i j => .int (i ^ j.toNat)) (tC (.int 10)) (tC (.int 18))) ρ (.int (10 ^ (18 : Int).toNat)) := v_pow v_int v_int ⟨by omega, by omega, by decide⟩
  refine vs_when (b := decide (turn < ((cells.map D.int).length : Int)) && decide ((10 : Int) ^ (18 : Int).toNat ≤ (if cell < 0 then -cell else cell))) (b_and0 (b_test (v_lt (v_var rfl) (v_cb (a_cons (hcell rfl) a_nil) (c_len (.inl rfl))))) (b_test (v_ge (habs rfl) hpow))) s5 (fun _ H6 s6 Z' hZ => ?_) fun _ H6 s6 => ?_
  · refine vs_let (r := 2 * ((if cell < 0 then -cell else cell) - 10 ^ (18 : Int).toNat) + (if decide (cell < 0) then 1 else 0)) (by decide) (v_add (v_mul v_int (v_sub (habs rfl) hpow) (.inl ⟨by omega, by omega⟩)) (v_cb (a_cons (v_lt (v_var rfl) v_int) a_nil) c_intB)) s6 fun σ7 H7 s7 => ?_
    refine vs_store2 (v_fdiv (v_cb (a_cons (v_var rfl) a_nil) c_int) (v_var rfl) ⟨hm0, by omega⟩) s7 fun H8 s8 => ?_
    refine vs_ret (v_mod (v_cb (a_cons (v_var rfl) a_nil) c_int) (v_var rfl) hm0) s8 fun H9 s9 => ?_
    rw [hZ]
    exact fin s9 (by omega) (by omega) (modr _).1 (modr _).2
  have c1 := mod_lo cell (show (0 : Int) < 2147483587 by omega)
  have c2 := mod_hi cell (show (0 : Int) < 2147483587 by omega)
  refine vs_let (by decide) (v_mod (v_cb (a_cons (v_pow (v_add (v_add (v_mod (v_cb (a_cons (v_var rfl) a_nil) c_int) v_int (by omega)) (v_mul v_int (v_var rfl) (.inl ⟨by omega, by omega⟩))) v_int) v_int ⟨by omega, by omega, by omega⟩) a_nil) c_int) v_int (by omega)) s6 fun σ7 H7 s7 => ?_
  generalize hmx : ((cell % 2147483587 + 30203 * turn + 9209) ^ (5 : Int).toNat) % 2147483563 = mx at s7
  have x1 : 0 ≤ mx := by rw [← hmx]; exact mod_lo _ (by omega)
  have x2 : mx < 2147483563 := by rw [← hmx]; exact mod_hi _ (by omega)
  have t1 : 0 ≤ mx * (2 * turn + 3581) := Int.mul_nonneg x1 (by omega)
  have t2 : mx * (2 * turn + 3581) ≤ 2147483563 * (2 * turn + 3581) := Int.mul_le_mul_of_nonneg_right (by omega) (by omega)
  have t3 : 0 ≤ 63131 * turn * turn := Int.mul_nonneg (by omega) ht0
  have t4 : 63131 * turn * turn ≤ 63131 * turn * 1000 := Int.mul_le_mul_of_nonneg_left (by omega) (by omega)
  refine vs_let (by decide) (v_mod (v_cb (a_cons (v_pow (v_add (v_add (v_mul (v_var rfl) (v_add (v_mul v_int (v_var rfl) (.inl ⟨by omega, by omega⟩)) v_int) (.inl ⟨by omega, by omega⟩)) (v_mul (v_mul v_int (v_var rfl) (.inl ⟨by omega, by omega⟩)) (v_var rfl) (.inl ⟨by omega, by omega⟩))) v_int) v_int ⟨by omega, by omega, by omega⟩) a_nil) c_int) v_int (by omega)) s7 fun σ8 H8 s8 => ?_
  refine vs_ret (v_mod (v_cb (a_cons (v_fdiv (v_var rfl) v_int ⟨by omega, by omega⟩) a_nil) c_int) (v_var rfl) hm0) s8 fun H9 s9 => ?_
  exact fin s9 (by omega) (by omega) (modr _).1 (modr _).2
end
end K55

set_option maxHeartbeats 2000000
/-! K55: readings whose answer is one of many, while the valley changes. -/
namespace K55
open PySem PySem.Spec PyProof.Rows L2
section
variable (C : Addr)
def Ex (te : TE) (ρ : Env) (I : As) (F : D → Prop) (I1 : As) : Prop := ∀ σ B H, Sat C σ B ρ → I B H → ∀ Q : VK, (∀ v d B' H', Sub B B' → F d → I1 B' H' → Rep C B' v d → Q v H') → te σ H Q
def ExB (tt : TT) (ρ : Env) (I : As) (F : Bool → Prop) (I1 : As) : Prop := ∀ σ B H, Sat C σ B ρ → I B H → ∀ Q : Bool → Hp → Prop, (∀ b B' H', Sub B B' → F b → I1 B' H' → Q b H') → tt σ H Q
def ExA (ta : TA) (ρ : Env) (I : As) (F : List D → Prop) (I1 : As) : Prop := ∀ σ B H, Sat C σ B ρ → I B H → ∀ Q : List V → Hp → Prop, (∀ vs ds B' H', Sub B B' → F ds → I1 B' H' → Reps C B' vs ds → Q vs H') → ta σ H Q
end
section
variable {C : Addr} {K : PySem.W.Frag} {ρ ρ1 : Env} {te ta tb tl : TE} {tt t2 : TT} {tr targ : TA} {t u : TS} {g : TG} {d x y : D} {I I1 I2 J : As} {F F1 F2 : D → Prop} {G G1 : List D → Prop} {p p1 : Bool → Prop} {N : L2.St → As} {R : V → As} {r : R2} {vv : Addr}
theorem x_pure (ok : OkI I) (h : EvP C te ρ d) (hF : F d) : Ex C te ρ I F I := fun σ B H hs hI Q q => h σ B H hs (ok.sub hI) _ fun v B1 H1 s1 r1 => q v d B1 H1 s1.b hF (ok.up s1 hI) r1
theorem Ex.imp (h : Ex C te ρ I F I1) (hF : ∀ d, F d → F1 d) (hI : ∀ B H, I1 B H → I2 B H) : Ex C te ρ I F1 I2 := fun σ B H hs h0 Q q => h σ B H hs h0 Q fun v d B' H' s a b r => q v d B' H' s (hF d a) (hI B' H' b) r
theorem ExB.imp (h : ExB C tt ρ I p I1) (hF : ∀ b, p b → p1 b) (hI : ∀ B H, I1 B H → I2 B H) : ExB C tt ρ I p1 I2 := fun σ B H hs h0 Q q => h σ B H hs h0 Q fun b B' H' s a i => q b B' H' s (hF b a) (hI B' H' i)
theorem x_op (ok : OkI I2) (h1 : Ex C ta ρ I F1 I1) (h2 : Ex C tb ρ I1 F2 I2) (hz : ∀ d1 d2, F1 d1 → F2 d2 → ∃ z, F z ∧ RvP C r d1 d2 z) : Ex C (tOp r ta tb) ρ I F I2 := fun σ B H hs hI Q q =>
  h1 σ B H hs hI _ fun v d1 B1 H1 s1 f1 i1 r1 => h2 σ B1 H1 (hs.up s1) i1 _ fun u d2 B2 H2 s2 f2 i2 r2 => by
    obtain ⟨z, hz1, hz2⟩ := hz d1 d2 f1 f2
    exact hz2 B2 H2 (ok.sub i2) v u (r1.up s2) r2 Q fun w B3 H3 s3 r3 => q w z B3 H3 ((s1.trans s2).trans s3.b) hz1 (ok.up s3 i2) r3
theorem xb_test (h : Ex C te ρ I (fun d => ∃ b, p b ∧ d = .bl b) I1) : ExB C (tTest te) ρ I p I1 := fun σ B H hs hI Q q => h σ B H hs hI _ fun v d B' H' s f i r' => by
  obtain ⟨b, hb, rfl⟩ := f
  exact ⟨b, r'.bl_inv, q b B' H' s hb i⟩
theorem xb_pure {b : Bool} (ok : OkI I) (h : EvB C tt ρ b) (hp : p b) : ExB C tt ρ I p I := fun σ B H hs hI Q q => h σ B H hs (ok.sub hI) _ fun B1 H1 s1 => q b B1 H1 s1.b hp (ok.up s1 hI)
theorem xb_and (h1 : ExB C tt ρ I p1 I1) (h2 : ExB C t2 ρ I1 p I2) (hF : p1 false → p false) (hI : ∀ B H, I1 B H → I2 B H) : ExB C (tAnd tt t2) ρ I p I2 := fun σ B H hs h0 Q q => h1 σ B H hs h0 _ fun b B1 H1 s1 f1 i1 => by
  cases b with
  | true => exact iteT (h2 σ B1 H1 (hs.up s1) i1 Q fun b B2 H2 s2 f2 i2 => q b B2 H2 (s1.trans s2) f2 i2)
  | false => exact iteF (q false B1 H1 s1 (hF f1) (hI _ _ i1))
theorem x_if (h : ExB C tt ρ I p I1) (h1 : p true → Ex C ta ρ I1 F I2) (h2 : p false → Ex C tb ρ I1 F I2) : Ex C (tIf tt ta tb) ρ I F I2 := fun σ B H hs h0 Q q => h σ B H hs h0 _ fun b B1 H1 s1 f1 i1 => by
  cases b with
  | true => exact iteT (h1 f1 σ B1 H1 (hs.up s1) i1 Q fun v d B2 H2 s2 a b r' => q v d B2 H2 (s1.trans s2) a b r')
  | false => exact iteF (h2 f1 σ B1 H1 (hs.up s1) i1 Q fun v d B2 H2 s2 a b r' => q v d B2 H2 (s1.trans s2) a b r')
theorem xa_nil : ExA C tNil ρ I (fun ds => ds = []) I := fun σ B H hs hI Q q => q [] [] B H Sub.rfl' rfl hI .nil
theorem xa_cons (h1 : Ex C te ρ I F I1) (h2 : ExA C tr ρ I1 G I2) : ExA C (tCons te tr) ρ I (fun ds => ∃ d es, F d ∧ G es ∧ ds = d :: es) I2 := fun σ B H hs hI Q q =>
  h1 σ B H hs hI _ fun v d B1 H1 s1 f1 i1 r1 => h2 σ B1 H1 (hs.up s1) i1 _ fun vs ds B2 H2 s2 f2 i2 r2 => q _ _ B2 H2 (s1.trans s2) ⟨d, ds, f1, f2, rfl⟩ i2 (.cons (r1.up s2) r2)
theorem xa_pure {ds : List D} (ok : OkI I) (h : EvA C tr ρ ds) : ExA C tr ρ I (fun es => es = ds) I := fun σ B H hs hI Q q => h σ B H hs (ok.sub hI) _ fun vs B1 H1 s1 r1 => q vs ds B1 H1 s1.b rfl (ok.up s1 hI) r1
theorem x_tup (ok : OkI I1) (h : ExA C tr ρ I G I1) (hl : ∀ ds, G ds → ds.length ≤ 100000) : Ex C (tTup tr) ρ I (fun d => ∃ ds, G ds ∧ d = .tup ds) I1 := fun σ B H hs hI Q q =>
  h σ B H hs hI _ fun vs ds B1 H1 s1 f1 i1 r1 => ⟨by rw [r1.length]; exact fits (hl ds f1), fun L hL => by
    have st : Step B1 H1 (upd B1 L (.tup vs)) (upd H1 L (.tup vs)) := .new (ok.sub i1) hL
    exact q _ _ (upd B1 L (.tup vs)) _ (s1.trans st.b) ⟨ds, f1, rfl⟩ (ok.up st i1) (.tup upd_same (r1.up st.b))⟩
theorem x_cb {rc : List V → Hp → VK → Prop} (ok : OkI I1) (h : ExA C tr ρ I G I1) (hz : ∀ ds, G ds → ∃ z, F z ∧ RcP C rc ds z) : Ex C (tCB rc tr) ρ I F I1 := fun σ B H hs hI Q q =>
  h σ B H hs hI _ fun vs ds B1 H1 s1 f1 i1 r1 => by
    obtain ⟨z, hz1, hz2⟩ := hz ds f1
    exact hz2 B1 H1 (ok.sub i1) vs r1 Q fun w B2 H2 s2 r2 => q w z B2 H2 (s1.trans s2.b) hz1 (ok.up s2 i1) r2

/-! ### statements -/
theorem tr_letX (ok : OkI I1) (h : Ex C te ρ I F I1) (k : ∀ d, F d → ∃ ρ1 vs, Asg C g ρ d ρ1 vs ∧ Tr C u ρ1 I1 N R) : Tr C (tSeq (tAsg te g) u) ρ I N R := fun Z σ B H hs hI q1 q2 =>
  h σ B H hs hI _ fun v d B1 H1 s1 f1 i1 r1 => by
    obtain ⟨ρ1, vs, hg, hu⟩ := k d f1
    exact hg σ B1 H1 v _ (hs.up s1) (ok.sub i1) r1 fun σ2 hS2 _ _ => hu Z σ2 B1 H1 hS2 i1 (fun σ3 B3 H3 s3 n => q1 σ3 B3 H3 (s1.trans s3) n) fun v3 B3 H3 s3 n => q2 v3 B3 H3 (s1.trans s3) n
theorem tr_setX {i : Nat} (h : Ex C te ρ I F I1) : Tr C (tAsg te (gName i)) ρ I (fun σ B H => ∃ d, F d ∧ ToI C (ρ.set i (some d)) I1 σ B H) R := fun Z σ B H hs hI q1 q2 =>
  h σ B H hs hI _ fun v d B1 H1 s1 f1 i1 r1 => q1 _ B1 H1 s1 ⟨d, f1, (hs.up s1).put r1, i1⟩
theorem tr_par2X {i j : Nat} (h : ExA C tr ρ I G I1) (hl : ∀ ds, G ds → ds.length = 2) (k : ∀ x y, G [x, y] → Tr C u ((ρ.set i (some x)).set j (some y)) I1 N R) : Tr C (tSeq (tPar i j tr) u) ρ I N R := fun Z σ B H hs hI q1 q2 =>
  h σ B H hs hI _ fun vs ds B1 H1 s1 f1 i1 r1 => by
    match ds, hl ds f1 with
    | [x, y], _ =>
      obtain ⟨v, ws, rfl, h1, h2⟩ := r1.cons_inv
      obtain ⟨v', ws', rfl, h3, h4⟩ := h2.cons_inv
      rw [h4.nil_inv]
      exact ⟨v, v', rfl, k x y f1 Z _ B1 H1 (((hs.up s1).put h1).put h3) i1 (fun σ3 B3 H3 s3 n => q1 σ3 B3 H3 (s1.trans s3) n) fun v3 B3 H3 s3 n => q2 v3 B3 H3 (s1.trans s3) n⟩
theorem tr_ifX (h : ExB C tt ρ I p I1) (h1 : p true → Tr C t ρ I1 N R) (h2 : p false → Tr C u ρ I1 N R) : Tr C (tIfS tt t u) ρ I N R := fun Z σ B H hs hI q1 q2 =>
  h σ B H hs hI _ fun b B1 H1 s1 f1 i1 => by
    cases b with
    | true => exact iteT (h1 f1 Z σ B1 H1 (hs.up s1) i1 (fun σ3 B3 H3 s3 n => q1 σ3 B3 H3 (s1.trans s3) n) fun v3 B3 H3 s3 n => q2 v3 B3 H3 (s1.trans s3) n)
    | false => exact iteF (h2 f1 Z σ B1 H1 (hs.up s1) i1 (fun σ3 B3 H3 s3 n => q1 σ3 B3 H3 (s1.trans s3) n) fun v3 B3 H3 s3 n => q2 v3 B3 H3 (s1.trans s3) n)
theorem tr_whenX (h : ExB C tt ρ I p I1) (h1 : p true → Tr C t ρ I1 (fun _ _ _ => False) R) (h2 : p false → Tr C u ρ I1 N R) : Tr C (tSeq (tIfS tt t tNext) u) ρ I N R := fun Z σ B H hs hI q1 q2 =>
  h σ B H hs hI _ fun b B1 H1 s1 f1 i1 => by
    cases b with
    | true => exact iteT (h1 f1 { Z with nx := u Z } σ B1 H1 (hs.up s1) i1 (fun _ _ _ _ z => z.elim) fun v3 B3 H3 s3 n => q2 v3 B3 H3 (s1.trans s3) n)
    | false => exact iteF (h2 f1 Z σ B1 H1 (hs.up s1) i1 (fun σ3 B3 H3 s3 n => q1 σ3 B3 H3 (s1.trans s3) n) fun v3 B3 H3 s3 n => q2 v3 B3 H3 (s1.trans s3) n)
theorem tr_retX (h : Ex C te ρ I F I1) (hr : ∀ v d B H, F d → I1 B H → Rep C B v d → R v B H) : Tr C (tRet te) ρ I N R := fun Z σ B H hs hI q1 q2 =>
  h σ B H hs hI _ fun v d B1 H1 s1 f1 i1 r1 => q2 v B1 H1 s1 (hr v d B1 H1 f1 i1 r1)

/-! ### the valley -/
structure OkV (vv : Addr) (J : As) : Prop where
  up : ∀ {B H B' H' : Hp}, Step B H B' H' → J B H → J B' H'
  upv : ∀ {B H B' H' : Hp}, StepV vv B H B' H' → B' vv = none → H vv ≠ none → J B H → J B' H'
abbrev VI (C vv : Addr) (J : As) (n : Nat) : As := And2 J (VOk C vv n)
theorem okVI (h : OkV vv J) (n : Nat) : OkI (VI C vv J n) := ⟨fun z => z.2.1, fun s z => ⟨h.up s z.1, z.2.up s⟩⟩
theorem okV0 (B0 H0 : Hp) : OkV vv (StepV vv B0 H0) := ⟨fun s h => h.trans s.v, fun s _ _ h => h.trans s⟩
theorem okVT : OkV vv (fun _ _ => True) := ⟨fun _ _ => trivial, fun _ _ _ _ => trivial⟩
theorem okV2 (h : OkV vv I) (h2 : OkV vv J) : OkV vv (And2 I J) := ⟨fun s z => ⟨h.up s z.1, h2.up s z.2⟩, fun s n m z => ⟨h.upv s n m z.1, h2.upv s n m z.2⟩⟩
/-- a list that grows, what it holds told by p -/
def ClE (C : Addr) (L : Addr) (p : List D → Prop) : As := fun B H => ∃ out, p out ∧ Cl C L out B H
theorem okVC {L : Addr} {q : List D → Prop} (hL : L ≠ vv) : OkV vv (ClE C L q) := by
  refine ⟨fun s ⟨out, ho, h⟩ => ⟨out, ho, h.up s⟩, ?_⟩
  rintro B H B' H' s _ _ ⟨out, ho, n, acc, h, r⟩
  refine ⟨out, ho, ?_, acc, s.h _ _ hL h, r.up s.b⟩
  cases z : B' L with
  | none => rfl
  | some o => have := s.f L o hL z n; rw [h] at this; cases this
theorem x_callV {k n : Nat} {F0 : List D → Prop} {Fd : List D → D → Prop} {ds : List D} {E : XK} (hJ : OkV vv J) (ha : EvA C targ ρ (.raw (.ref vv) :: ds)) (h0 : F0 ds) (hn : n + k ≤ 1000) : Ex C (tCall (spV C k F0 Fd) [] E targ) ρ (VI C vv J n) (Fd ds) (VI C vv J (n + k)) := fun σ B H hs hI Q q =>
  ha σ B H hs hI.2.1 _ fun vs B1 H1 s1 r1 => by
    have v1 := hI.2.up s1
    refine ⟨B1, vv, n, ds, v1, hn, by rw [List.append_nil]; exact r1, h0, fun v d B' H' hF sv vo rv => q v d B' H' (s1.b.trans sv.b) hF ⟨?_, vo⟩ rv⟩
    exact hJ.upv sv vo.2.1 (by obtain ⟨_, _, c, cells, turn, rest, h1, _⟩ := v1; rw [h1]; exact fun z => nomatch z) (hJ.up s1 hI.1)
theorem VI.mono {n m : Nat} (h : n ≤ m) {B H : Hp} (v : VI C vv J n B H) : VI C vv J m B H := ⟨v.1, v.2.mono h⟩
theorem VOk.upd {n : Nat} {L : Addr} {B H : Hp} {o : HO} (hL : L ≠ vv) (n0 : B L = none) (v : VOk C vv n B H) : VOk C vv n B (upd H L o) := by
  obtain ⟨s, b, c, cells, turn, rest, h1, h2, h3, h4⟩ := v
  exact ⟨s.side n0, b, c, cells, turn, rest, by rw [upd_ne hL.symm]; exact h1, h2, h3, h4⟩
theorem StepV.upd {L : Addr} {B0 H0 B H : Hp} {o : HO} (hL : H0 L = none) (n0 : B L = none) (v : StepV vv B0 H0 B H) : StepV vv B0 H0 B (upd H L o) :=
  ⟨v.b, fun a u na q => by rw [upd_ne (ne_of_none q hL)]; exact v.h a u na q, v.s.side n0, v.f⟩
/-- [.. for i in range(m)], each one's answer one of many -/
theorem x_lcR {m : Nat} {n k : Nat} {vs : List Nat} {F : Nat → D → Prop} (hJ : OkV vv J) (ha : EvA C targ ρ [.int m]) (hm : m < 50000)
    (hs : ∀ (i : Nat), i < m → ∃ r ws, Asg C g (wipeE ρ vs) (.int i) r ws ∧ (∀ j, j ∈ ws → j ∈ vs) ∧ ∀ (J' : As) (n' : Nat), OkV vv J' → n' + k ≤ n + m * k → Ex C te r (VI C vv J' n') (F i) (VI C vv J' (n' + k))) :
    Ex C (tLc (iRng1 targ) g tYes te vs) ρ (VI C vv J n) (fun d => ∃ ds, ds.length = m ∧ (∀ (j : Nat) x, ds[j]? = some x → F j x) ∧ d = .lst ds) (VI C vv J (n + m * k)) := fun σ B H hS hI Q q =>
  ha σ B H hS hI.2.1 _ fun us B1 H1 s1 r1 => by
    obtain ⟨v, ws, rfl, h1, h2⟩ := r1.cons_inv
    rw [h2.nil_inv, h1.int_inv]
    refine ⟨m, rfl, by omega, by omega, fun L hL => ?_⟩
    have v1 := hI.2.up s1
    have hvv : H1 vv ≠ none := by
      obtain ⟨_, _, c, cells, turn, rest, h1, _⟩ := v1
      rw [h1]; exact fun z => nomatch z
    have hLv : L ≠ vv := fun z => hvv (z ▸ hL)
    have nL : B1 L = none := s1.s.free hL
    rw [Int.toNat_natCast]
    refine ⟨fun i mm H' => mm = m - i ∧ i ≤ m ∧ ∃ B', Sub B1 B' ∧ StepV vv B1 H1 B' H' ∧ VOk C vv (n + i * k) B' H' ∧ ∃ ds, ds.length = i ∧ (∀ (j : Nat) x, ds[j]? = some x → F j x) ∧ Cl C L ds B' H',
      ⟨m, rfl, Nat.zero_le _, B1, Sub.rfl', (StepV.upd hL nL ⟨Sub.rfl', fun a o _ q => q, s1.s, fun a o _ h n => by rw [h] at n; cases n⟩), (by simpa using v1.upd hLv nL), [], rfl, (fun j x hx => by simp at hx), nL, [], upd_same, .nil⟩, ?_⟩
    rintro i mm H' ⟨rfl, hi, B', sb, sv, vo, ds, hlen, hF, nB, acc, hacc, racc⟩
    by_cases hlt : i < m
    · refine .inr ⟨hlt, fun H2 => ∃ B', Sub B1 B' ∧ StepV vv B1 H1 B' H2 ∧ VOk C vv (n + (i + 1) * k) B' H2 ∧ ∃ ds, ds.length = i + 1 ∧ (∀ (j : Nat) x, ds[j]? = some x → F j x) ∧ Cl C L ds B' H2, fun H2 p => ⟨m - (i + 1), by omega, rfl, hlt, p⟩, fun x H2 y => ?_⟩
      obtain ⟨rfl, rfl⟩ := y
      rw [Int.zero_add]
      obtain ⟨r, ws2, hg, hw, hx⟩ := hs i hlt
      refine hg (wipe σ vs) B' H2 _ _ ((hS.up (s1.b.trans sb)).wipe vs) sv.s (.int _) fun σ2 hS2 hl ho => ⟨wipe_same hl fun j hj => ho j fun z => hj (hw j z), ?_⟩
      unfold tYes
      dsimp only
      rw [if_pos rfl]
      have hk : n + i * k + k ≤ n + m * k := by
        have : (i + 1) * k ≤ m * k := Nat.mul_le_mul_right k hlt
        rw [Nat.succ_mul] at this
        omega
      refine hx (And2 (StepV vv B1 H1) (ClE C L fun out => out = ds)) (n + i * k) (okV2 (okV0 B1 H1) (okVC hLv)) hk σ2 B' H2 hS2 ⟨⟨sv, ds, rfl, nB, acc, hacc, racc⟩, vo⟩ _ fun y d B4 H4 s4 fd i4 r4 => ?_
      obtain ⟨⟨sv4, out, rfl, n4, acc4, hacc4, racc4⟩, vo4⟩ := i4
      refine ⟨acc4, hacc4, by rw [racc4.length, hlen]; exact fitsLt (by omega), B4, sb.trans s4, StepV.upd hL n4 sv4, ?_, out ++ [d], by rw [List.length_append, hlen]; rfl, fun j x hx => ?_, n4, _, upd_same, racc4.snoc r4⟩
      · have e : n + (i + 1) * k = n + i * k + k := by rw [Nat.succ_mul]; omega
        rw [e]
        exact vo4.upd hLv n4
      · by_cases hj : j < out.length
        · rw [List.getElem?_append_left hj] at hx
          exact hF j x hx
        · rw [List.getElem?_append_right (by omega)] at hx
          have hj2 := (List.getElem?_eq_some_iff.mp hx).1
          have hj3 : j = out.length := by simp at hj2; omega
          subst hj3
          rw [Nat.sub_self] at hx
          have : d = x := by simpa using hx
          rw [← this, hlen]; exact fd
    · have e : i = m := by omega
      subst e
      refine .inl ⟨Nat.le_refl _, ?_⟩
      -- the list is settled
      have up : Sub B' (upd B' L (.lst acc)) := Sub.new nB
      have sv2 : StepV vv B1 H1 (upd B' L (.lst acc)) H' := ⟨sv.b.trans up, sv.h, fun a o q => by
        by_cases ha : a = L
        · rw [ha, upd_same] at q; cases q; rw [ha]; exact hacc
        · rw [upd_ne ha] at q; exact sv.s a o q, fun a o na q z => by
        by_cases ha : a = L
        · rw [ha]; exact hL
        · rw [upd_ne ha] at q; exact sv.f a o na q z⟩
      have vo2 : VOk C vv (n + i * k) (upd B' L (.lst acc)) H' := by
        obtain ⟨s, b, c, cells, turn, rest, h1, h2, h3, h4⟩ := vo
        exact ⟨sv2.s, by rw [upd_ne hLv.symm]; exact b, c, cells, turn, rest, h1, up _ _ h2, h3, h4⟩
      refine q _ (.lst ds) (upd B' L (.lst acc)) H' ((s1.b.trans sb).trans up) ⟨ds, hlen, hF, rfl⟩ ⟨?_, vo2⟩ (.lst upd_same (racc.up up))
      exact hJ.upv sv2 vo2.2.1 hvv (hJ.up s1 hI.1)
end
end K55

set_option maxHeartbeats 3200000
/-! K55, own rule 3: set(a list of ints), sorted. -/
namespace K55
open PySem PySem.Spec PyProof.Rows L2
section
variable {P : Program} {w : World} {A : Around} {E : Value → Shared → Prop} {s : Shared}
/-- a set object ahead of its first member -/
abbrev setOb (w : World) : Obj := { cls := .type "set", dict := none, data := .set #[] 0 (.fresh 0 0 (!w.params.followText "set-order")) }
theorem set_of_list {x : Addr} {its : Array Value} (zs : List Int) {Q : Value → Shared → Prop} (quiet : A.handled = none) (isL : s.heap.IsList x its) (areI : IntsAre its.toList zs) (room : zs.length + 1 < scanBound)
    (fin : ∀ (h1 : Heap) (tk c : Nat), SetR w h1 s.heap.objs.size (fun j => decide (j ∈ zs)) c → c ≤ zs.length → (∀ b o, s.heap.get? b = some o → h1.get? b = some o) → Q (.ref s.heap.objs.size) { s with heap := h1, toks := tk }) :
    wpAny (model P w) A (call (.type "set") [.ref x]) Q E s := by
  have cnt : its.size = zs.length := (Array.length_toList (xs := its)).symm.trans (IntsAre.length areI)
  obtain ⟨c0, tl0, mro0⟩ := PySem.F.called_set.mro
  have made0 := PySem.F.called_set.made
  have sub0 := PySem.F.called_set.sub
  refine wpAny_call (codeAny_of_tree ?_)
  show wpAny _ _ (callAny (.type "set") _) _ _ _
  refine wpAny_pure ⟨Code.quiet_builtin _ (by decide +kernel), codeAny_builtin PySem.F.entry_type_call ?_⟩
  rw [Around.under_plain (weight_type_call_type "set" [.ref x] []) rfl]
  have k1 := PySem.F.called_set.notType
  have k2 := PySem.F.called_set.canCreate
  have k3 := PySem.F.typeCall_set_1 (.ref x)
  repeat (any_goals (first | assumption | wp_step))
  refine codeAny_mono (code_set_led1 (.ref x) (E := E) (Q₁ := fun ob t1 => ob = .ref s.heap.objs.size ∧ t1 = { s with heap := s.heap.push (setOb w) }) ⟨rfl, rfl⟩) fun r t1 hr => ?_
  cases r with
  | error e => exact hr
  | ok fl =>
    cases fl with
    | ret ob =>
      obtain ⟨rfl, rfl⟩ := hr
      have at0 : (s.heap.push (setOb w)).get? s.heap.objs.size = some (setOb w) := Heap.get?_push_size _ rfl
      have ty0 : Shared.TypeIs { s with heap := s.heap.push (setOb w) } (.ref s.heap.objs.size) "set" := ⟨_, at0, rfl⟩
      have look0 := PySem.F.called_set.init.lookup
      have bind0 := PySem.F.called_set.init.bind (.ref s.heap.objs.size)
      repeat (any_goals (first | assumption | wp_step))
      refine codeAny_mono (codeAny_call_builtin (R := wants (fun r t2 => r = .none ∧ ∃ h1 tk c, t2 = { s with heap := h1, toks := tk } ∧ SetR w h1 s.heap.objs.size (fun j => decide (j ∈ zs)) c ∧ c ≤ zs.length ∧
          (∀ b o, s.heap.get? b = some o → h1.get? b = some o)) E) PySem.F.called_set.init.plain PySem.F.entry_set_init (check_set_init_1 ty0 ?_)) fun r2 t2 hr2 => ?_
      · obtain ⟨ol, atL, clsL, nL, datL⟩ := isL
        obtain ⟨oc, od, odat, osl⟩ := ol
        simp only at clsL datL
        subst clsL; subst datL
        have atL2 : (s.heap.push (setOb w)).get? x = some { cls := .type "list", dict := od, data := .seq its nL, slots := osl } := Heap.get?_push_of_some _ atL
        have s1 := PySem.F.sub_list_set
        have s2 := PySem.F.sub_list_frozenset
        have s3 : (Value.type "list" == Value.type "dict") = false := by decide
        have isL2 : (s.heap.push (setOb w)).IsList x its := ⟨_, atL2, rfl, nL, rfl⟩
        unfold Builtin.«set.__init__» noKeywords Builtin.Frozenset.updateFrom
        generalize hIt : pyIter = It0
        wp_walk
        subst hIt
        refine wpAny_pyIter_list isL2 ?_
        refine wpAny_bind (wpAny_runValue ?_)
        have ltx : x < s.heap.objs.size := Heap.lt_size atL
        have quiet3 : A.in1.in1.in1.handled = none := by simp [quiet]
        have sz1 : (s.heap.push (setOb w)).objs.size = s.heap.objs.size + 1 := Heap.size_push ..
        have apart1 : x ≠ (s.heap.push (setOb w)).objs.size := by rw [sz1]; exact Nat.ne_of_lt (Nat.lt_succ_of_lt ltx)
        have apart2 : s.heap.objs.size ∉ [(s.heap.push (setOb w)).objs.size, x] := by
          rw [sz1]
          intro z
          rcases List.mem_cons.mp z with z | z
          · exact absurd z (Nat.ne_of_lt (Nat.lt_succ_self _))
          · exact absurd (List.mem_singleton.mp z) (Nat.ne_of_gt ltx)
        have vals0 : ∀ (i : Nat) (v : Value), its[i]? = some v → ∃ k t, zs[i]? = some k ∧ v = .int k t := fun i v hv => by
          have hi : i < zs.length := cnt ▸ (Array.getElem?_eq_some_iff.mp hv).1
          obtain ⟨t, e⟩ := PyProof.Rows.IntsAre.int_at areI i v (by rw [Array.getElem?_toList]; exact hv)
          exact ⟨zs[i], t, List.getElem?_eq_getElem hi, by rw [e, List.getD_eq_getElem?_getD, List.getElem?_eq_getElem hi]; rfl⟩
        refine set_update_ints ((Walks.list quiet3 _ x apart1 its).toS) s.heap.objs.size
          apart2 zs cnt room vals0 (its.size - 0) 0 _ (by omega) (Nat.zero_le _)
          ⟨⟨_, Heap.get?_push_size _ rfl, rfl, rfl⟩, (isL2.push _)⟩ ?start ?done
        case start => exact ⟨0, Nat.le_refl 0, setR_new_at (Heap.get?_push_of_some _ at0)⟩
        case done =>
          intro t3 c3 mv le3 R3
          obtain ⟨h1, g1, d1, tk1, os1⟩ := t3
          have eqg : g1 = s.gens := mv.gens
          have eqd : d1 = s.drawn := mv.drawn
          have eqo : os1 = s.os := mv.os
          subst eqg eqd eqo
          show wpAny _ _ _ _ _ _
          refine wpAny_pure ?_
          show wpAny _ _ (ret Value.none) _ _ _
          refine wpAny_pure ⟨rfl, h1, tk1, c3, rfl, R3, by rw [← cnt]; exact le3, fun b o e => ?_⟩
          have ltb : b < s.heap.objs.size := Heap.lt_size e
          refine mv.heap b o (fun z => ?_) (Heap.get?_push_of_some _ (Heap.get?_push_of_some _ e))
          rcases List.mem_cons.mp z with z | z
          · exact absurd z (Nat.ne_of_lt ltb)
          · have z2 := List.mem_singleton.mp z
            rw [sz1] at z2
            exact absurd z2 (Nat.ne_of_lt (Nat.lt_succ_of_lt ltb))
      · cases r2 with
        | error e => exact hr2
        | ok fl2 =>
          cases fl2 with
          | ret r =>
            obtain ⟨rfl, h1, tk1, c3, rfl, R3, le3, keep3⟩ := hr2
            repeat (any_goals (first | assumption | wp_step))
            exact fin _ _ _ R3 le3 keep3
          | _ => exact hr2.elim
    | _ => exact hr.elim
end
section
variable {X : Cx}
/-- set(ns) -/
def rSetL1 (K : PySem.W.Frag) (w : World) : List V → Hp → VK → Prop := fun xs H Q => ∃ (l : Addr) (ns : List Int), xs = [V.ref l] ∧ SqL K H l (ns.map V.int) ∧ ns.length < 60 ∧ ∀ (p : Addr) (c : Nat), H p = none → c ≤ ns.length → Q (.ref p) (upd H p (SetO w p (fun j => decide (j ∈ ns)) c))
theorem cr_setL1 (hc : X.calm = true) : CallR X (.type "set") (rSetL1 X.K X.w) := by
  intro pins s σ H xs us Q I r h
  obtain ⟨l, ns, rfl, hl, hn, q⟩ := h
  rw [Vals.ref1 r]
  obtain ⟨its, rv, pl, hz⟩ := I.list hl
  refine set_of_list ns (I.ok.hd hc) pl.isList (by simpa using intsAre_of rv) (by unfold scanBound; omega) fun h1 tk c R le keep => ?_
  exact ⟨.ref s.heap.objs.size, _, I.laid (t' := tk) keep (Nat.le_refl _) (setO_new R), rfl, q _ c (I.hok.fresh (Nat.le_refl _)) le⟩
end
section
variable {C : Addr} {K : PySem.W.Frag} {w : World}
/-- sorted(set(ns)): the members, going up -/
def upOf (ns : List Int) : List Int := srt (ddup ns)
theorem upOf_lt (ns : List Int) : (upOf ns).Pairwise (· < ·) := by
  have h1 := srt_up (ddup ns)
  have h2 : (srt (ddup ns)).Nodup := (srt_perm (ddup ns)).nodup_iff.mpr (ddup_nodup ns)
  exact (h1.and h2).imp fun {a b} h => by
    have := h.1
    have := h.2
    omega
theorem mem_upOf {ns : List Int} {x : Int} : x ∈ upOf ns ↔ x ∈ ns := by
  unfold upOf
  rw [(srt_perm (ddup ns)).mem_iff, mem_ddup]
theorem lt_one {xs ys : List Int} (hx : xs.Pairwise (· < ·)) (hy : ys.Pairwise (· < ·)) (h : ∀ k, k ∈ xs ↔ k ∈ ys) : xs = ys := by
  have n1 : xs.Nodup := hx.imp fun h => by omega
  have n2 : ys.Nodup := hy.imp fun h => by omega
  exact up_one ((List.perm_ext_iff_of_nodup n1 n2).mpr h) (hx.imp fun h => by omega) (hy.imp fun h => by omega)
/-- the whole: the argument of sorted is set(..) -/
theorem c_sortedSet {ta : TA} {ρ : Env} {ns : List Int} (h : EvA C ta ρ [.lst (ns.map D.int)]) (hn : ns.length < 60) : EvP C (tCB (rSortedSet w) (tCons (tCB (rSetL1 K w) ta) tNil)) ρ (.lst ((upOf ns).map D.int)) := fun σ B H hs e Q q =>
  h σ B H hs e _ fun vs B1 H1 s1 r1 => by
    obtain ⟨v, ws, rfl, h1, h2⟩ := r1.cons_inv
    obtain ⟨l, us, rfl, hl, r2⟩ := h1.lst_inv
    rw [h2.nil_inv]
    rw [r2.ints] at hl
    refine ⟨l, ns, rfl, SqL.of (s1.s _ _ hl), hn, fun p c hp hc => ⟨p, _, c, rfl, upd_same, by omega, fun ms p2 hu hm hlen hp2 => ?_⟩⟩
    have e1 : ms = upOf ns := lt_one hu (upOf_lt ns) fun k => by rw [hm k, mem_upOf]; simp
    rw [e1]
    have sN : Step B1 H1 (upd B1 p (SetO w p (fun j => decide (j ∈ ns)) c)) (upd H1 p (SetO w p (fun j => decide (j ∈ ns)) c)) := .new s1.s hp
    exact q _ (upd (upd B1 p (SetO w p (fun j => decide (j ∈ ns)) c)) p2 (.lst ((upOf ns).map V.int))) _ ((s1.trans sN).trans (.new sN.s hp2)) (.lst upd_same (reps_ints _))
end
end K55

set_option maxHeartbeats 2000000
namespace K55
open PySem PySem.Spec PyProof.Rows L2
local macro_rules | `(tactic| walk_at "ev1") => `(tactic| first
  | exact v_var rfl | exact v_int | exact v_bl | exact v_non | exact v_str | exact a_nil | exact v_raw
  | apply a_cons
  | apply v_add | apply v_sub | apply v_mul | apply v_mod | apply v_fdiv | apply v_neg
  | apply v_lt | apply v_le | apply v_gt | apply v_ge | apply v_eqI | apply v_neI
  | apply v_isN | apply v_notN
  | apply b_B | apply b_test | apply b_not | apply b_and0 | apply b_or0
  | apply v_and0 | apply v_or0 | apply v_not
  | apply v_tup | apply v_lst
  | refine' v_cb ?_ c_int
  | exact Nat.le_of_ble_eq_true rfl)
local macro_rules | `(tactic| walk_at "ev") => `(tactic| repeat' walk_at "ev1")
local macro_rules | `(tactic| walk_at "weak") => `(tactic| repeat' (first | exact Weak.nil | apply Weak.same | apply Weak.less))
section
variable {C : Addr} {P : Program} {w : World} {K : PySem.W.Frag} {mg : Str → Option Value} {base : Heap}
/-- a def that draws -/
theorem def_okX {x qual : Str} {st : Stmt} {f : Addr} {fd : FuncData} {N ps : List Str} {k lv : Nat} {F0 : List D → Prop} {F : List D → D → Prop} (Fn : Fun K x qual st f fd) (S : FnScope N ps (defScope st)) (hN : ps.length ≤ N.length) (hlen : ∀ ds, F0 ds → ds.length + 1 = ps.length)
    (body : ∀ (cdv : Value) (A : Around) (outer : List PySem.Env) (s : Shared) (H : Hp) (E : XK), Room lv (A.deeper (envOfC qual (defScope st) s.heap.objs.size f cdv)) → ∀ ds, F0 ds →
      ∃ t, PSs (cxOf CX0 P w K mg base N qual (defScope st) f cdv A outer s H E).nox (defBody st) t ∧ ∀ (vv : Addr) (B0 H0 : Hp) (n : Nat), n + k ≤ 1000 →
        Tr C t ((D.raw (.ref vv) :: ds).map some ++ List.replicate (N.length - (ds.length + 1)) none) (VI C vv (StepV vv B0 H0) n) (fun _ _ _ => False) (fun v B H => ∃ d, F ds d ∧ Rep C B v d ∧ VI C vv (StepV vv B0 H0) (n + k) B H)) :
    FnOk P w K mg base CX0 (lv + 1) f fd ps (spV C k F0 F) := by
  refine Fn.ok S (fun vs H Q E h => ?_) (fun cdv A outer s H vs Q E hr h => ?_)
  · obtain ⟨B, vv, n, ds, _, _, r, h0, _⟩ := h
    rw [r.length, List.length_cons]; exact hlen ds h0
  · obtain ⟨B, vv, n, ds, vo, hn, r, h0, q⟩ := h
    obtain ⟨t, ht, hrun⟩ := body cdv A outer s H E hr ds h0
    refine ⟨t, ht, hrun vv B H n hn _ _ B H (sat_start r (by rw [List.length_cons, hlen ds h0]; exact hN)) ⟨⟨Sub.rfl', fun a o _ z => z, vo.1, fun a o _ h n => by rw [h] at n; cases n⟩, vo⟩ (fun _ _ _ _ z => z.elim) fun v B' H' _ z => ?_⟩
    obtain ⟨d, hF, rv, hv⟩ := z
    exact q v d B' H' hF hv.1 hv.2 rv
/-! ### _law_pick -/
abbrev s__law_pick : Stmt := topS 37
abbrev N__law_pick : List Str := ["_law_valley_here", "_law_some"]
theorem sc__law_pick : FnScope N__law_pick ["_law_valley_here", "_law_some"] (defScope s__law_pick) := ⟨rfl, rfl, rfl, by decide +kernel, rfl, by decide +kernel, by decide +kernel⟩
def F0_pick (ds : List D) : Prop := ∃ xs : List D, 0 < xs.length ∧ xs.length ≤ 1000 ∧ ds = [.lst xs]
def F_pick (ds : List D) (d : D) : Prop := ∃ xs : List D, ds = [.lst xs] ∧ d ∈ xs
theorem ok_pick {f : Addr} {fd : FuncData} (Fn : Fun K "_law_pick" "_law_pick" s__law_pick f fd) (T : Bt K mg C) (G__law_climb : Df P w K mg base 1 "_law_climb" ["_law_valley_here", "_law_many"] (spV C 1 F0_climb F_climb)) : FnOk P w K mg base CX0 2 f fd ["_law_valley_here", "_law_some"] (spV C 1 F0_pick F_pick) := by
  refine def_okX Fn sc__law_pick (by decide) (fun ds h => by obtain ⟨_, _, _, rfl⟩ := h; rfl) fun cdv A outer s H E hr ds h0 => ?_
  obtain ⟨xs, h1, h2, rfl⟩ := h0
  have nd := sc__law_pick.nd
  refine ⟨_, (pss_one (ps_ret (pe_ix ix_list (pv 1) (pcall G__law_climb (hr.mono (by first | decide | omega)) (by rfl) (pa_cons (pv 0) (pa_cons (pe_callB call_len_seq (by rfl) T.n_len bo_len (pa_cons (pv 1) pa_nil)) pa_nil))) (fun _ _ => rfl)))), fun vv B0 H0 n hn => ?_⟩
  have hV := okV0 (vv := vv) B0 H0
  refine tr_retX (x_op (okVI hV _) (x_pure (okVI hV n) (v_var (i := 1) (d := .lst xs) rfl) (F := fun d => d = .lst xs) rfl) (x_callV hV (a_cons (v_var rfl) (a_cons (v_cb (a_cons (v_var rfl) a_nil) (c_len (.inl rfl))) a_nil)) ⟨xs.length, by omega, by omega, rfl⟩ hn) (F := fun d => d ∈ xs) ?_) fun v d B H hd hI r => ⟨d, ⟨xs, rfl, hd⟩, r, hI⟩
  rintro d1 d2 rfl ⟨m, r, e, r0, r1, rfl⟩
  have em : (xs.length : Int) = m := by
    injection e with e _
    injection e
  have hr : r.toNat < xs.length := by omega
  refine ⟨xs[r.toNat], List.getElem_mem hr, fun B H e2 v u rv ru Q q => ?_⟩
  obtain ⟨a, vs, rfl, hB, rr⟩ := rv.lst_inv
  have hg : xs[r.toNat]? = some xs[r.toNat] := List.getElem?_eq_getElem hr
  obtain ⟨x, hx, rx⟩ := rr.get hg
  have hat : atI vs r = some x := atI_of r0 hx
  exact ⟨a, vs, r, x, rfl, ru.int_inv, SqL.of (e2 _ _ hB), hat, q x B H (.refl e2) rx⟩
end
end K55

set_option maxHeartbeats 2000000
/-! K55: drawn entries in plain numbers. -/
namespace K55
def nearG (f l : Option Int) (m r : Int) : Int := match f, l with
  | none, none => r
  | none, some l => l - (l - r) % m
  | some f, _ => f + (r - f) % m
def wayG (f : Option Int) : Int := match f with
  | none => -1
  | some _ => 1
/-- slope and worth of a drawn entry -/
def CondG (f l : Option Int) (m s v : Int) : Prop := (0 ≤ v ∧ v ≤ 4 ∧ 0 ≤ s ∧ s ≤ 2 ∧ (f = none → l = none → s = 0)) ∨ ∃ f' l' s0 v0, f = some f' ∧ l = some l' ∧ 0 ≤ s0 ∧ s0 ≤ 2 ∧ 0 ≤ v0 ∧ v0 ≤ 4 ∧ s = -s0 ∧ v = v0 + s0 * ((l' - f') / m)
def entG (f l : Option Int) (m r more s v : Int) : Ent := some (more * wayG f * s, more * (v * m - wayG f * s * nearG f l m r), more * m)
def GenE (f l : Option Int) (m r : Int) (e : Ent) : Prop := e = none ∨ ∃ more s v, (more = 1 ∨ more = 3) ∧ CondG f l m s v ∧ e = entG f l m r more s v
theorem gen_val {m way s v more near n k : Int} (h : n = near + m * k) : more * way * s * n + more * (v * m - way * s * near) = (s * (way * k) + v) * (more * m) := by
  subst h
  grind
theorem near_mod {f l : Option Int} {m r : Int} (h0 : 0 ≤ r) (h1 : r < m) : nearG f l m r % m = r := by
  cases f with
  | some f => exact up_mod h0 h1
  | none =>
    cases l with
    | none => exact Int.emod_eq_of_lt h0 h1
    | some l => exact down_mod h0 h1
/-- from the near number onwards -/
theorem near_k {f l : Option Int} {m r n : Int} (h0 : 0 ≤ r) (h1 : r < m) (hs : InS f l n) (hn : n % m = r) (he : f ≠ none ∨ l ≠ none) : ∃ k, n = nearG f l m r + m * k ∧ 0 ≤ wayG f * k := by
  have hm : 0 < m := by omega
  obtain ⟨k1, e1⟩ := mod_ex hn
  obtain ⟨k2, e2⟩ := mod_ex (near_mod (f := f) (l := l) h0 h1)
  refine ⟨k1 - k2, by rw [Int.mul_sub]; omega, ?_⟩
  have e3 : n - nearG f l m r = m * (k1 - k2) := by rw [Int.mul_sub]; omega
  have nm := near_mod (f := f) (l := l) h0 h1
  cases f with
  | some f =>
    show 0 ≤ 1 * (k1 - k2)
    have b1 := hs.1 f rfl
    have b2 := mod_hi (r - f) hm
    have hle : nearG (some f) l m r ≤ n := by
      by_cases q : nearG (some f) l m r ≤ n
      · exact q
      · have := mod_step hm (hn.trans nm.symm) (by omega)
        have e4 : nearG (some f) l m r = f + (r - f) % m := rfl
        omega
    have h5 : m * 0 ≤ m * (k1 - k2) := by omega
    have := Int.le_of_mul_le_mul_left h5 hm
    omega
  | none =>
    cases l with
    | none => rcases he with z | z <;> exact absurd rfl z
    | some l =>
      show 0 ≤ -1 * (k1 - k2)
      have b1 := hs.2 l rfl
      have b2 := mod_hi (l - r) hm
      have hle : n ≤ nearG none (some l) m r := by
        by_cases q : n ≤ nearG none (some l) m r
        · exact q
        · have := mod_step hm (nm.trans hn.symm) (by omega)
          have e4 : nearG none (some l) m r = l - (l - r) % m := rfl
          omega
      have h5 : m * (k1 - k2) ≤ m * 0 := by omega
      have := Int.le_of_mul_le_mul_left h5 hm
      omega
theorem gen_law {f l : Option Int} {m r : Int} {e : Ent} (h0 : 0 ≤ r) (h1 : r < m) (g : GenE f l m r e) : EntLaw f l m r e := fun n hs hn a b c he => by
  have hm : 0 < m := by omega
  rcases g with rfl | ⟨more, s, v, hmore, hc, rfl⟩
  · cases he
  · have he' := Option.some.inj he
    simp only [Prod.mk.injEq] at he'
    obtain ⟨rfl, rfl, rfl⟩ := he'
    have hc0 : 0 < more * m := by rcases hmore with rfl | rfl <;> omega
    refine ⟨hc0, ?_⟩
    by_cases hend : f = none ∧ l = none
    · obtain ⟨rfl, rfl⟩ := hend
      rcases hc with ⟨v0, _, _, _, hz⟩ | ⟨f', _, _, _, hf, _⟩
      · have hs0 := hz rfl rfl
        subst hs0
        obtain ⟨k1, e1⟩ := mod_ex hn
        exact ⟨v, v0, by
          have := gen_val (m := m) (way := wayG none) (s := 0) (v := v) (more := more) (near := nearG none none m r) (n := n) (k := k1) (by show n = r + m * k1; exact e1)
          rw [this]; simp⟩
      · cases hf
    · have he2 : f ≠ none ∨ l ≠ none := by
        cases f with
        | some _ => exact .inl (fun z => nomatch z)
        | none =>
          cases l with
          | some _ => exact .inr (fun z => nomatch z)
          | none => exact absurd ⟨rfl, rfl⟩ hend
      obtain ⟨k, hk, hk0⟩ := near_k h0 h1 hs hn he2
      refine ⟨s * (wayG f * k) + v, ?_, gen_val hk⟩
      rcases hc with ⟨v0, _, s0, _, _⟩ | ⟨f', l', s0, v0, rfl, rfl, p1, p2, p3, p4, rfl, rfl⟩
      · have := Int.mul_nonneg s0 hk0
        omega
      · have hw : wayG (some f') * k = k := by show 1 * k = k; omega
        rw [hw] at hk0 ⊢
        have b1 := hs.1 f' rfl
        have b2 := hs.2 l' rfl
        have b3 := mod_lo (r - f') hm
        have e4 : nearG (some f') (some l') m r = f' + (r - f') % m := rfl
        have h6 : m * k ≤ l' - f' := by omega
        have h7 : k ≤ (l' - f') / m := by
          rw [Int.le_ediv_iff_mul_le hm, Int.mul_comm]; exact h6
        have h8 : s0 * k ≤ s0 * ((l' - f') / m) := Int.mul_le_mul_of_nonneg_left h7 p1
        rw [Int.neg_mul]
        omega
theorem gen_small {f l : Option Int} {m r : Int} {e : Ent} (hm : 0 < m) (hm4 : m ≤ 4) (g : GenE f l m r e) : ∀ a b c, e = some (a, b, c) → -6 ≤ a ∧ a ≤ 6 ∧ 0 < c ∧ c ≤ 12 ∧ (f = none → l = none → a = 0) := fun a b c he => by
  rcases g with rfl | ⟨more, s, v, hmore, hc, rfl⟩
  · cases he
  · have he' := Option.some.inj he
    simp only [Prod.mk.injEq] at he'
    obtain ⟨rfl, _, rfl⟩ := he'
    have hw : wayG f = -1 ∨ wayG f = 1 := by cases f <;> simp [wayG]
    have hs : -2 ≤ s ∧ s ≤ 2 := by
      rcases hc with ⟨_, _, _, _, _⟩ | ⟨_, _, s0, _, _, _, _, _, _, _, rfl, _⟩ <;> omega
    have hz : f = none → l = none → s = 0 := by
      rcases hc with ⟨_, _, _, _, h⟩ | ⟨_, _, s0, _, rfl, _⟩
      · exact h
      · exact fun z => nomatch z
    refine ⟨?_, ?_, ?_, ?_, fun h1 h2 => by rw [hz h1 h2]; simp⟩
    all_goals (rcases hmore with rfl | rfl <;> rcases hw with hw | hw <;> (try rw [hw]) <;> omega)
end K55

set_option maxHeartbeats 2000000
namespace K55
open PySem PySem.Spec PyProof.Rows L2
local macro_rules | `(tactic| walk_at "ev1") => `(tactic| first
  | exact v_var rfl | exact v_int | exact v_bl | exact v_non | exact v_str | exact a_nil | exact v_raw
  | apply a_cons
  | apply v_add | apply v_sub | apply v_mul | apply v_mod | apply v_fdiv | apply v_neg
  | apply v_lt | apply v_le | apply v_gt | apply v_ge | apply v_eqI | apply v_neI
  | apply v_isN | apply v_notN
  | apply b_B | apply b_test | apply b_not | apply b_and0 | apply b_or0
  | apply v_and0 | apply v_or0 | apply v_not
  | apply v_tup | apply v_lst
  | refine' v_cb ?_ c_int
  | exact Nat.le_of_ble_eq_true rfl)
local macro_rules | `(tactic| walk_at "ev") => `(tactic| repeat' walk_at "ev1")
local macro_rules | `(tactic| walk_at "weak") => `(tactic| repeat' (first | exact Weak.nil | apply Weak.same | apply Weak.less))
section
variable {C : Addr}
theorem rv_eqI {i j : Int} : RvP C rEq (.int i) (.int j) (.bl (decide (i = j))) := fun B H e v u rv ru Q q => by
  rw [rv.int_inv, ru.int_inv]
  exact ⟨rfl, q _ B H (.refl e) (by rw [show decide (V.int i = V.int j) = decide (i = j) by rw [dec_int]; exact (Bool.beq_eq_decide_eq i j)]; exact .bl _)⟩
/-- is a drawn number that one -/
theorem xb_eqI {te : TE} {ρ : Env} {I I1 : As} {F : D → Prop} {j : Int} (ok : OkI I1) (h : Ex C te ρ I F I1) (hF : ∀ d, F d → ∃ i : Int, d = .int i) : ExB C (tTest (tOp rEq te (tC (.int j)))) ρ I (fun _ => True) I1 :=
  xb_test (x_op ok h (x_pure ok v_int (F := fun d => d = .int j) rfl) fun d1 d2 h1 h2 => by
    obtain ⟨i, rfl⟩ := hF d1 h1
    subst h2
    exact ⟨_, ⟨_, trivial, rfl⟩, rv_eqI⟩)
theorem tr_tail {t u : TS} {ρ : Env} {I : As} {N N' : L2.St → As} {R : V → As} (h1 : Tr C t ρ I N' R) (h2 : ∀ Z σ B H, N' σ B H → (∀ σ' B' H', Sub B B' → N σ' B' H' → Z.nx σ' H') → (∀ v B' H', Sub B B' → R v B' H' → Z.rt v H') → u Z σ H) : Tr C (tSeq t u) ρ I N R := fun Z σ B H hs hI q1 q2 =>
  h1 { Z with nx := u Z } σ B H hs hI (fun σ1 B1 H1 s1 n => h2 Z σ1 B1 H1 n (fun σ2 B2 H2 s2 n2 => q1 σ2 B2 H2 (s1.trans s2) n2) fun v B2 H2 s2 r => q2 v B2 H2 (s1.trans s2) r) q2
end
section
variable {C : Addr} {P : Program} {w : World} {K : PySem.W.Frag} {mg : Str → Option Value} {base : Heap}
/-! ### _law_entry -/
abbrev s__law_entry : Stmt := topS 39
abbrev N__law_entry : List Str := ["_law_valley_here", "_law_first", "_law_last", "_law_many", "_law_rest", "_law_way", "_law_slope", "_law_worth", "_law_more", "_law_near_here"]
theorem sc__law_entry : FnScope N__law_entry ["_law_valley_here", "_law_first", "_law_last", "_law_many", "_law_rest"] (defScope s__law_entry) := ⟨rfl, rfl, rfl, by decide +kernel, rfl, by decide +kernel, by decide +kernel⟩
def F0_entry (ds : List D) : Prop := ∃ (f l : Option Int) (m r : Int), 0 < m ∧ m ≤ 4 ∧ 0 ≤ r ∧ r < m ∧ ds = [oi f, oi l, .int m, .int r]
def F_entry (ds : List D) (d : D) : Prop := ∃ (f l : Option Int) (m r : Int) (e : Ent), ds = [oi f, oi l, .int m, .int r] ∧ GenE f l m r e ∧ d = eD e
theorem ok_entry {f : Addr} {fd : FuncData} (Fn : Fun K "_law_entry" "_law_entry" s__law_entry f fd) (T : Bt K mg C) (G__law_climb : Df P w K mg base 1 "_law_climb" ["_law_valley_here", "_law_many"] (spV C 1 F0_climb F_climb))
    (G__law_pick : Df P w K mg base 2 "_law_pick" ["_law_valley_here", "_law_some"] (spV C 1 F0_pick F_pick)) : FnOk P w K mg base CX0 3 f fd ["_law_valley_here", "_law_first", "_law_last", "_law_many", "_law_rest"] (spV C 5 F0_entry F_entry) := by
  refine def_okX Fn sc__law_entry (by decide) (fun ds h => by obtain ⟨_, _, _, _, _, _, _, _, rfl⟩ := h; rfl) fun cdv A outer s H E hr ds h0 => ?_
  obtain ⟨fi, la, m, r, hm0, hm4, r0, r1, rfl⟩ := h0
  have nd := sc__law_entry.nd
  refine ⟨_, (pss_cons (ps_if (pt_cmpR op_eq (pcall G__law_climb (hr.mono (by first | decide | omega)) (by rfl) (pa_cons (pv 0) (pa_cons pe_int pa_nil))) pe_int (nomark _)) (pss_one (ps_ret pe_non)) pss_nil)
      (pss_cons (ps_asg (pe_tup (pa_cons (pe_ifExp (pt_cmp (pc_isN (pv 1))) (pe_un un_neg pe_int) pe_int) (pa_cons (pcall G__law_pick (hr.mono (by first | decide | omega)) (by rfl) (pa_cons (pv 0) (pa_cons (pe_lst (pa_cons pe_int (pa_cons pe_int (pa_cons pe_int (pa_cons pe_int pa_nil))))) pa_nil))) (pa_cons (pcall G__law_climb (hr.mono (by first | decide | omega)) (by rfl) (pa_cons (pv 0) (pa_cons pe_int pa_nil))) (pa_cons (pcall G__law_pick (hr.mono (by first | decide | omega)) (by rfl) (pa_cons (pv 0) (pa_cons (pe_lst (pa_cons pe_int (pa_cons pe_int (pa_cons pe_int pa_nil)))) pa_nil))) pa_nil))))) (pg_tup (by rfl) (pgs_cons (pg_name (i := 5) nd rfl (.inl rfl)) (pgs_cons (pg_name (i := 6) nd rfl (.inl rfl)) (pgs_cons (pg_name (i := 7) nd rfl (.inl rfl)) (pgs_cons (pg_name (i := 8) nd rfl (.inl rfl)) pgs_nil))))))
      (pss_cons (ps_set (i := 9) nd rfl (.inl rfl) (pe_ifExp (PW.pt (pw_and (pt_cmp (pc_isN (pv 1))) (pw_and1 (pt_cmp (pc_isN (pv 2)))))) (pv 4) (pe_ifExp (pt_cmp (pc_isN (pv 1))) (pe_op op_sub (pv 2) (pe_op op_mod (pe_callTy call_int1 (by rfl) T.n_int bo_int (pa_cons (pe_op op_sub (pv 2) (pv 4)) pa_nil)) (pv 3))) (pe_op op_add (pv 1) (pe_op op_mod (pe_callTy call_int1 (by rfl) T.n_int bo_int (pa_cons (pe_op op_sub (pv 4) (pv 1)) pa_nil)) (pv 3))))))
      (pss_cons (ps_if (PW.pt (pw_and (pt_cmp (pc_isN (pv 1))) (pw_and1 (pt_cmp (pc_isN (pv 2)))))) (pss_one (ps_set (i := 6) nd rfl (.inl rfl) pe_int)) (pss_one (ps_if (PW.pt (pw_and (pt_cmp (pc_notN (pv 1))) (pw_and (pt_cmp (pc_notN (pv 2))) (pw_and1 (pt_cmpR op_eq (pcall G__law_climb (hr.mono (by first | decide | omega)) (by rfl) (pa_cons (pv 0) (pa_cons pe_int pa_nil))) pe_int (nomark _)))))) (pss_one (ps_par (i := 6) (j := 7) (by rfl) nd rfl rfl (by decide) rfl rfl (pa_cons (pe_un un_neg (pv 6)) (pa_cons (pe_op op_add (pv 7) (pe_op op_mul (pv 6) (pe_op op_fdiv (pe_op op_sub (pv 2) (pv 1)) (pv 3)))) pa_nil)) (by rfl))) pss_nil)))
      (pss_one (ps_ret (pe_tup (pa_cons (pe_op op_mul (pe_op op_mul (pv 8) (pv 5)) (pv 6)) (pa_cons (pe_op op_mul (pv 8) (pe_op op_sub (pe_op op_mul (pv 7) (pv 3)) (pe_op op_mul (pe_op op_mul (pv 5) (pv 6)) (pv 9)))) (pa_cons (pe_op op_mul (pv 8) (pv 3)) pa_nil)))))))))), fun vv B0 H0 n hn => ?_⟩
  have hV := okV0 (vv := vv) B0 H0
  have fin : ∀ {e : Ent} {n' : Nat}, n' ≤ n + 5 → GenE fi la m r e → ∀ v B H, Rep C B v (eD e) → VI C vv (StepV vv B0 H0) n' B H → ∃ d, F_entry [oi fi, oi la, .int m, .int r] d ∧ Rep C B v d ∧ VI C vv (StepV vv B0 H0) (n + 5) B H := fun hn' hg v B H rv hI => ⟨_, ⟨fi, la, m, r, _, rfl, hg, rfl⟩, rv, hI.mono hn'⟩
  -- if climb(7) == 0: return None
  refine tr_whenX (xb_eqI (okVI hV _) (x_callV hV (by walk_at "ev") ⟨7, by omega, by omega, rfl⟩ (by omega)) fun d hd => by obtain ⟨_, r, _, _, _, rfl⟩ := hd; exact ⟨r, rfl⟩) (fun _ => tr_ret (okVI hV _) v_non fun v B H rv hI => fin (e := none) (by omega) (.inl rfl) v B H rv hI) fun _ => ?_
  -- the four draws
  have hway : EvP C (tIf (tB (tIsN (tVar 1))) (tUn (rU fun i => V.int (-i)) (tC (.int 1))) (tC (.int 1))) ((D.raw (.ref vv) :: [oi fi, oi la, .int m, .int r]).map some ++ List.replicate (N__law_entry.length - ([oi fi, oi la, .int m, .int r].length + 1)) none) (.int (wayG fi)) := by
    cases fi with
    | none => exact v_ifT (b_B (v_isN (x := .non) (v_var rfl))) (v_neg v_int)
    | some f => exact v_ifF (b_B (v_isN (x := .int f) (v_var rfl))) v_int
  refine tr_letX (okVI hV _) (x_tup (okVI hV _) (xa_cons (x_pure (okVI hV _) hway (F := fun d => d = .int (wayG fi)) rfl) (xa_cons (x_callV hV (by walk_at "ev") ⟨[.int 0, .int 1, .int 2, .int 1], by simp, by simp, rfl⟩ (by omega)) (xa_cons (x_callV hV (by walk_at "ev") ⟨5, by omega, by omega, rfl⟩ (by omega)) (xa_cons (x_callV hV (by walk_at "ev") ⟨[.int 1, .int 1, .int 3], by simp, by simp, rfl⟩ (by omega)) xa_nil)))) ?_) ?_
  · rintro ds ⟨_, _, _, ⟨_, _, _, ⟨_, _, _, ⟨_, _, _, rfl, rfl⟩, rfl⟩, rfl⟩, rfl⟩
    simp
  rintro d ⟨ds, ⟨_, _, rfl, ⟨ds1, _, ⟨xs1, e1, h1⟩, ⟨dw, _, ⟨m5, wv, e2, w0, w1, rfl⟩, ⟨ds3, _, ⟨xs3, e3, h3⟩, rfl, rfl⟩, rfl⟩, rfl⟩, rfl⟩, rfl⟩
  have hslope : ∃ s : Int, ds1 = .int s ∧ 0 ≤ s ∧ s ≤ 2 := by
    injection e1 with e1
    injection e1 with e1
    rw [← e1] at h1
    simp at h1
    rcases h1 with rfl | rfl | rfl | rfl
    · exact ⟨0, rfl, by omega, by omega⟩
    · exact ⟨1, rfl, by omega, by omega⟩
    · exact ⟨2, rfl, by omega, by omega⟩
    · exact ⟨1, rfl, by omega, by omega⟩
  have hmore : ∃ more : Int, ds3 = .int more ∧ (more = 1 ∨ more = 3) := by
    injection e3 with e3
    injection e3 with e3
    rw [← e3] at h3
    simp at h3
    rcases h3 with rfl | rfl
    · exact ⟨1, rfl, .inl rfl⟩
    · exact ⟨3, rfl, .inr rfl⟩
  obtain ⟨sl, rfl, s0, s2⟩ := hslope
  obtain ⟨more, rfl, hmo⟩ := hmore
  have hm5 : m5 = 5 := by
    injection e2 with e2
    injection e2 with e2
    exact e2.symm
  subst hm5
  refine ⟨_, _, g_tup (gs_cons g_name (gs_cons g_name (gs_cons g_name (gs_cons g_name gs_nil)))) rfl, ?_⟩
  have hw1 : -1 ≤ wayG fi ∧ wayG fi ≤ 1 := by cases fi <;> simp [wayG]
  let ρ1 : Env := [some (.raw (.ref vv)), some (oi fi), some (oi la), some (.int m), some (.int r), some (.int (wayG fi)), some (.int sl), some (.int wv), some (.int more), none]
  refine tr_let (okVI hV _) (d := .int (nearG fi la m r)) ?_ ?_
  · cases fi with
    | none =>
      cases la with
      | none => exact v_ifT (b_andT (b_B (v_isN (x := .non) (v_var rfl))) rfl (b_B (v_isN (x := .non) (v_var rfl)))) (v_var rfl)
      | some l => exact v_ifF (b_andT (b_B (v_isN (x := .non) (v_var rfl))) rfl (b_B (v_isN (x := .int l) (v_var rfl)))) (v_ifT (b_B (v_isN (x := .non) (v_var rfl))) (v_sub (v_var rfl) (v_mod (v_cb (a_cons (v_sub (v_var rfl) (v_var rfl)) a_nil) c_int) (v_var rfl) hm0)))
    | some f => exact v_ifF (b_andF (b_B (v_isN (x := .int f) (v_var rfl))) rfl) (v_ifF (b_B (v_isN (x := .int f) (v_var rfl))) (v_add (v_var rfl) (v_mod (v_cb (a_cons (v_sub (v_var rfl) (v_var rfl)) a_nil) c_int) (v_var rfl) hm0)))
  let ρ2 : Int × Int → Env := fun a => [some (.raw (.ref vv)), some (oi fi), some (oi la), some (.int m), some (.int r), some (.int (wayG fi)), some (.int a.1), some (.int a.2), some (.int more), some (.int (nearG fi la m r))]
  refine tr_seqE (ρ1 := ρ2) (I1 := fun a B H => (CondG fi la m a.1 a.2 ∧ -2 ≤ a.1 ∧ a.1 ≤ 2) ∧ VI C vv (StepV vv B0 H0) (n + 5) B H) ?_ fun a => tr_pure fun hc => ?_
  · have same : (fi = none → la = none → sl = 0) → ∀ {n' : Nat} {σ B H}, n' ≤ n + 5 → Sat C σ B (ρ2 (sl, wv)) → VI C vv (StepV vv B0 H0) n' B H → ∃ a, ToI C (ρ2 a) (fun B H => (CondG fi la m a.1 a.2 ∧ -2 ≤ a.1 ∧ a.1 ≤ 2) ∧ VI C vv (StepV vv B0 H0) (n + 5) B H) σ B H :=
      fun hz n' σ B H hn' hs hI => ⟨(sl, wv), hs, ⟨.inl ⟨w0, by omega, s0, s2, hz⟩, by omega, by omega⟩, hI.mono hn'⟩
    cases fi with
    | none =>
      cases la with
      | none =>
        refine tr_if (b := true) (okVI hV _) (b_andT (b_B (v_isN (x := .non) (v_var rfl))) rfl (b_B (v_isN (x := .non) (v_var rfl)))) (fun _ => ?_) (fun z => nomatch z)
        refine (tr_run (N := To C _) (R := fun _ _ => False) (okVI hV _) (run_set (d := .int 0) v_int)).imp (fun σ B H z => ⟨(0, wv), z.1, ⟨.inl ⟨w0, by omega, by omega, by omega, fun _ _ => rfl⟩, by show (-2 : Int) ≤ 0; omega, by show (0 : Int) ≤ 2; omega⟩, z.2.mono (by omega)⟩) fun _ _ _ z => z.1.elim
      | some l =>
        refine tr_if (b := false) (okVI hV _) (b_andT (b_B (v_isN (x := .non) (v_var rfl))) rfl (b_B (v_isN (x := .int l) (v_var rfl)))) (fun z => nomatch z) (fun _ => ?_)
        exact tr_if (b := false) (okVI hV _) (b_andF (b_B (v_notN (x := .non) (v_var rfl))) rfl) (fun z => nomatch z) (fun _ => tr_next fun σ B H hs hI => same (fun _ z => nomatch z) (by omega) hs hI)
    | some f =>
      refine tr_if (b := false) (okVI hV _) (b_andF (b_B (v_isN (x := .int f) (v_var rfl))) rfl) (fun z => nomatch z) (fun _ => ?_)
      cases la with
      | none => exact tr_if (b := false) (okVI hV _) (b_andT (b_B (v_notN (x := .int f) (v_var rfl))) rfl (b_andF (b_B (v_notN (x := .non) (v_var rfl))) rfl)) (fun z => nomatch z) (fun _ => tr_next fun σ B H hs hI => same (fun z => nomatch z) (by omega) hs hI)
      | some l =>
        refine tr_ifX (p := fun _ => True) (I1 := VI C vv (StepV vv B0 H0) (n + 1 + 1 + 1 + 1 + 1)) (xb_and (p1 := fun b => b = true) (I1 := VI C vv (StepV vv B0 H0) (n + 1 + 1 + 1 + 1)) (xb_pure (okVI hV _) (b_B (v_notN (x := .int f) (v_var rfl))) rfl) (xb_and (p1 := fun b => b = true) (I1 := VI C vv (StepV vv B0 H0) (n + 1 + 1 + 1 + 1)) (xb_pure (okVI hV _) (b_B (v_notN (x := .int l) (v_var rfl))) rfl) (xb_eqI (okVI hV _) (x_callV hV (by walk_at "ev") ⟨3, by omega, by omega, rfl⟩ (by omega)) fun d hd => by obtain ⟨_, r, _, _, _, rfl⟩ := hd; exact ⟨r, rfl⟩) (fun _ => trivial) fun B H z => z.mono (by omega)) (fun _ => trivial) fun B H z => z.mono (by omega)) (fun _ => ?_) fun _ => tr_next fun σ B H hs hI => same (fun z => nomatch z) (by omega) hs hI
        refine (tr_run (N := To C _) (R := fun _ _ => False) (okVI hV _) (run_par (x := .int (-sl)) (y := .int (wv + sl * ((l - f) / m))) (a_cons (v_neg (v_var rfl)) (a_cons (v_add (v_var rfl) (v_mul (v_var rfl) (v_fdiv (v_sub (v_var rfl) (v_var rfl)) (v_var rfl) ⟨hm0, by omega⟩) (.inl ⟨by omega, by omega⟩))) a_nil)))).imp (fun σ B H z => ⟨(-sl, wv + sl * ((l - f) / m)), z.1, ⟨.inr ⟨f, l, sl, wv, rfl, rfl, s0, s2, w0, by omega, rfl, rfl⟩, by show -2 ≤ -sl; omega, by show -sl ≤ 2; omega⟩, z.2.mono (by omega)⟩) fun _ _ _ z => z.1.elim
  · obtain ⟨s, v⟩ := a
    obtain ⟨hc, hs1, hs2⟩ := hc
    have hmw : -3 ≤ more * wayG fi ∧ more * wayG fi ≤ 3 := by rcases hmo with rfl | rfl <;> omega
    have hws : -2 ≤ wayG fi * s ∧ wayG fi * s ≤ 2 := by
      have : wayG fi = -1 ∨ wayG fi = 1 := by cases fi <;> simp [wayG]
      rcases this with h | h <;> rw [h] <;> omega
    refine tr_ret (okVI hV _) (d := eD (entG fi la m r more s v)) (v_tup (a_cons (v_mul (v_mul (v_var rfl) (v_var rfl) (.inl ?_)) (v_var rfl) (.inl ?_)) (a_cons (v_mul (v_var rfl) (v_sub (v_mul (v_var rfl) (v_var rfl) (.inr ?_)) (v_mul (v_mul (v_var rfl) (v_var rfl) (.inl ?_)) (v_var rfl) (.inl ?_))) (.inl ?_)) (a_cons (v_mul (v_var rfl) (v_var rfl) (.inl ?_)) a_nil))) (Nat.le_of_ble_eq_true rfl)) fun v' B H rv hI => fin (by omega) (.inr ⟨more, s, v, hmo, hc, rfl⟩) v' B H rv hI
    all_goals first | omega | (rcases hmo with rfl | rfl <;> omega)
end
end K55

set_option maxHeartbeats 2000000
/-! K55: more readings with draws: a count that is drawn, sorted sets, lists that grow, enumerate. -/
namespace K55
open PySem PySem.Spec PyProof.Rows L2
section
variable {C : Addr} {K : PySem.W.Frag} {w : World} {ρ ρ1 : Env} {te ta tb tl : TE} {targ : TA} {t u tbd : TS} {g : TG} {d x y : D} {I I1 J : As} {F F1 : D → Prop} {N : L2.St → As} {R : V → As} {vv L : Addr} {n k M : Nat} {B0 H0 : Hp}
theorem ExA.imp {G G1 : List D → Prop} {I2 : As} (h : ExA C targ ρ I G I1) (hF : ∀ ds, G ds → G1 ds) (hI : ∀ B H, I1 B H → I2 B H) : ExA C targ ρ I G1 I2 := fun σ B H hs h0 Q q => h σ B H hs h0 Q fun vs ds B' H' s a i r => q vs ds B' H' s (hF ds a) (hI B' H' i) r
/-- the count is drawn too -/
theorem x_lcRX {vs : List Nat} (hJ : OkV vv J) (ha : ExA C targ ρ I (fun ds => ∃ m : Nat, m ≤ M ∧ ds = [.int m]) (VI C vv J n)) (hM : M < 50000)
    (hs : ∀ (i : Nat), i < M → ∃ r ws, Asg C g (wipeE ρ vs) (.int i) r ws ∧ (∀ j, j ∈ ws → j ∈ vs) ∧ ∀ (J' : As) (n' : Nat), OkV vv J' → n' + k ≤ n + M * k → Ex C te r (VI C vv J' n') F (VI C vv J' (n' + k))) :
    Ex C (tLc (iRng1 targ) g tYes te vs) ρ I (fun d => ∃ ds, ds.length ≤ M ∧ (∀ x, x ∈ ds → F x) ∧ d = .lst ds) (VI C vv J (n + M * k)) := fun σ B H hS hI Q q =>
  ha σ B H hS hI _ fun us ds0 B1 H1 s1 f1 i1 r1 => by
    obtain ⟨m, hm, rfl⟩ := f1
    have hc : EvA C (fun _ H Q => Q [V.int m] H) ρ [.int m] := fun σ B H hs e Q q => q _ B H (.refl e) (.cons (.int _) .nil)
    have h := x_lcR (C := C) (ρ := ρ) (te := te) (targ := fun _ H Q => Q [V.int m] H) (g := g) (F := fun _ => F) (m := m) (n := n) (k := k) (vs := vs) hJ hc (by omega) (fun i hi => by
      obtain ⟨r, ws, hg, hw, hx⟩ := hs i (by omega)
      refine ⟨r, ws, hg, hw, fun J' n' hJ' hn' => hx J' n' hJ' ?_⟩
      have : m * k ≤ M * k := Nat.mul_le_mul_right k hm
      omega) σ B1 H1 (hS.up s1) i1 Q fun v d B2 H2 s2 f2 i2 r2 => by
        obtain ⟨ds, h1, h2, rfl⟩ := f2
        have : m * k ≤ M * k := Nat.mul_le_mul_right k hm
        exact q v _ B2 H2 (s1.trans s2) ⟨ds, by omega, fun x hx => (by obtain ⟨j, hj⟩ := List.getElem?_of_mem hx; exact h2 j x hj), rfl⟩ (i2.mono (by omega)) r2
    obtain ⟨v, ws, rfl, h1, h2⟩ := r1.cons_inv
    rw [h2.nil_inv, h1.int_inv]
    exact h
theorem x_sortedSet {p : List Int → Prop} (ok : OkI I1) (h : Ex C te ρ I (fun d => ∃ ns, p ns ∧ d = .lst (ns.map D.int)) I1) (hp : ∀ ns, p ns → ns.length < 60) :
    Ex C (tCB (rSortedSet w) (tCons (tCB (rSetL1 K w) (tCons te tNil)) tNil)) ρ I (fun d => ∃ ns, p ns ∧ d = .lst ((upOf ns).map D.int)) I1 := fun σ B H hS hI Q q =>
  h σ B H hS hI _ fun v d B1 H1 s1 f1 i1 r1 => by
    obtain ⟨ns, hn, rfl⟩ := f1
    have hlt := hp ns hn
    obtain ⟨l, us, rfl, hl, r2⟩ := r1.lst_inv
    rw [r2.ints] at hl
    refine ⟨l, ns, rfl, SqL.of (ok.sub i1 _ _ hl), hlt, fun p1 c hp1 hc => ⟨p1, _, c, rfl, upd_same, by omega, fun ms p2 hu hm hlen hp2 => ?_⟩⟩
    have e1 : ms = upOf ns := lt_one hu (upOf_lt ns) fun k => by rw [hm k, mem_upOf]; simp
    rw [e1]
    have sN : Step B1 H1 (upd B1 p1 (SetO w p1 (fun j => decide (j ∈ ns)) c)) (upd H1 p1 (SetO w p1 (fun j => decide (j ∈ ns)) c)) := .new (ok.sub i1) hp1
    have sM : Step B1 H1 (upd (upd B1 p1 (SetO w p1 (fun j => decide (j ∈ ns)) c)) p2 (.lst ((upOf ns).map V.int))) (upd (upd H1 p1 (SetO w p1 (fun j => decide (j ∈ ns)) c)) p2 (.lst ((upOf ns).map V.int))) := sN.trans (.new sN.s hp2)
    exact q _ _ _ _ (s1.trans sM.b) ⟨ns, hn, rfl⟩ (ok.up sM i1) (.lst upd_same (reps_ints _))
theorem v_cat {xs ys : List D} (ha : EvP C ta ρ (.lst xs)) (hb : EvP C tb ρ (.lst ys)) (hl : xs.length + ys.length ≤ 100000) : EvP C (tOp rCat ta tb) ρ (.lst (xs ++ ys)) :=
  v_op ha hb fun B H e v u rv ru Q q => by
    obtain ⟨a, vs, rfl, hA, ra⟩ := rv.lst_inv
    obtain ⟨b, us, rfl, hB, rb⟩ := ru.lst_inv
    refine ⟨a, b, vs, us, rfl, rfl, e _ _ hA, e _ _ hB, by rw [ra.length, rb.length]; exact fits hl, fun p hp => ?_⟩
    have sN : Step B H (upd B p (.lst (vs ++ us))) (upd H p (.lst (vs ++ us))) := .new e hp
    exact q _ _ _ sN (.lst upd_same ((ra.append rb).up sN.b))
/-- x, found = .., [] -/
theorem tr_parNewV {i j : Nat} (h : EvP C te ρ x) : Tr C (tPar i j (tCons te (tCons (tLst tNil) tNil))) ρ (VI C vv (StepV vv B0 H0) n) (fun σ B H => ∃ L, ToI C ((ρ.set i (some x)).set j (some (.raw (.ref L)))) (fun B H => (L ≠ vv ∧ H0 L = none) ∧ VI C vv (And2 (StepV vv B0 H0) (ClE C L fun out => out = [])) n B H) σ B H) R := fun Z σ B H hS hI q1 q2 =>
  h σ B H hS hI.2.1 _ fun v B1 H1 s1 r1 => by
    refine ⟨Nat.zero_le _, fun L hL => ⟨v, .ref L, rfl, ?_⟩⟩
    have v1 := hI.2.up s1
    have hvv : H1 vv ≠ none := by
      obtain ⟨_, _, c, cells, turn, rest, h1, _⟩ := v1
      rw [h1]; exact fun z => nomatch z
    have hLv : L ≠ vv := fun z => hvv (z ▸ hL)
    have nL : B1 L = none := s1.s.free hL
    have st : StepV vv B1 H1 B1 (upd H1 L (.lst [])) := StepV.upd hL nL ⟨Sub.rfl', fun a o _ q => q, s1.s, fun a o _ h n => by rw [h] at n; cases n⟩
    have hJ := okV0 (vv := vv) B0 H0
    have h1 := hJ.up s1 hI.1
    have h0 : H0 L = none := by
      cases z : H0 L with
      | none => rfl
      | some o => rw [h1.h L o hLv z] at hL; cases hL
    exact q1 _ B1 _ s1.b ⟨L, ((hS.up s1.b).put r1).put (.raw _), ⟨hLv, h0⟩, ⟨hJ.upv st v1.2.1 hvv h1, [], rfl, nL, [], upd_same, .nil⟩, v1.upd hLv nL⟩
/-- found.append(..) -/
theorem tr_appX {n' j : Nat} {p p' : List D → Prop} (hu : ∀ {B H : Hp} {o : HO}, B L = none → J B H → J B (upd H L o)) (hLv : L ≠ vv) (hj : ρ[j]? = some (some (.raw (.ref L)))) (hl : ∀ out, p out → out.length < 100000)
    (h : Ex C te ρ (VI C vv (And2 J (ClE C L p)) n) F (VI C vv (And2 J (ClE C L p)) n')) (hp : ∀ out d, p out → F d → p' (out ++ [d])) :
    Tr C (tDrop (tBM K "list" rAppend (tVar j) (tCons te tNil))) ρ (VI C vv (And2 J (ClE C L p)) n) (ToI C ρ (VI C vv (And2 J (ClE C L p')) n')) R := fun Z σ B H hS hI q1 q2 => by
  obtain ⟨v, hv, rv⟩ := hS.get j _ hj
  cases rv.raw_inv
  obtain ⟨⟨_, out0, _, _, acc0, hL0, _⟩, _⟩ := id hI
  refine ⟨_, hv, .inl ⟨rfl, acc0, SqL.of hL0⟩, h σ B H hS hI _ fun y d B1 H1 s1 fd i1 r1 => ?_⟩
  obtain ⟨⟨hJ1, out, ho, n1, acc, hL, r⟩, vo⟩ := i1
  refine ⟨L, acc, y, rfl, rfl, hL, by rw [r.length]; exact fitsLt (hl out ho), ?_⟩
  exact q1 σ B1 _ s1 ⟨hS.up s1, ⟨hu n1 hJ1, out ++ [d], hp out d ho fd, n1, _, upd_same, r.snoc r1⟩, vo.upd hLv n1⟩
/-- for i, x in enumerate(a list) -/
theorem tr_forEnum {items : List D} (ok : OkI I) (h : EvA C targ ρ [.lst items]) (ρs : Nat → Env) (Is : Nat → As) (h0 : ∀ σ B H, Sat C σ B ρ → I B H → Sat C σ B (ρs 0) ∧ Is 0 B H) (oks : ∀ i, OkI (Is i))
    (hs : ∀ (i : Nat) (x : D), items[i]? = some x → ∃ ρ1 vs, Asg C g (ρs i) (.tup [.int i, x]) ρ1 vs ∧ Tr C tbd ρ1 (Is i) (ToI C (ρs (i + 1)) (Is (i + 1))) R)
    (hd : ∀ σ B H, Sat C σ B (ρs items.length) → Is items.length B H → N σ B H) : Tr C (tFor (iEnum K targ) g tbd) ρ I N R := fun Z σ B H hS hI q1 q2 =>
  h σ B H hS (ok.sub hI) _ fun vs B1 H1 s1 r1 => by
    obtain ⟨v, ws, rfl, h1, h2⟩ := r1.cons_inv
    obtain ⟨a, us, rfl, hB, r⟩ := h1.lst_inv
    rw [h2.nil_inv]
    have i0 := h0 σ B1 H1 (hS.up s1.b) (ok.up s1 hI)
    refine ⟨a, us, rfl, SqL.of (s1.s a _ hB), fun i m σ' H' => m = us.length - i ∧ i ≤ us.length ∧ ∃ B', Sub B1 B' ∧ Sat C σ' B' (ρs i) ∧ Is i B' H', ⟨us.length, rfl, Nat.zero_le _, B1, Sub.rfl', i0.1, i0.2⟩, ?_⟩
    rintro i m σ' H' ⟨rfl, hi, B', s', hS', hF⟩
    have hq : SqL K H' a us := SqL.of ((oks i).sub hF a _ (s' a _ hB))
    by_cases hlt : i < us.length
    · refine .inr ⟨⟨us, _, hq, List.getElem?_eq_getElem hlt⟩, fun σ2 H2 => ∃ B2, Sub B1 B2 ∧ Sat C σ2 B2 (ρs (i + 1)) ∧ Is (i + 1) B2 H2, fun σ2 H2 p => ⟨us.length - (i + 1), by omega, rfl, hlt, p⟩, fun x H2 y => ?_⟩
      obtain ⟨T, x', rfl, hT, rfl, fx⟩ := y
      obtain ⟨dz, hdz, rz⟩ := r.getV (fx us hq)
      obtain ⟨ρ1, vs1, hg, hb⟩ := hs i dz hdz
      have sN : Step B' H' (upd B' T (.tup [.int i, x'])) (upd H' T (.tup [.int i, x'])) := .new ((oks i).sub hF) hT
      refine hg σ' _ _ _ _ (hS'.up sN.b) sN.s (.tup upd_same (.cons (.int _) (.cons (rz.up (s'.trans sN.b)) .nil))) fun σ2 hS2 _ _ => ?_
      exact hb _ σ2 _ _ hS2 ((oks i).up sN hF) (fun σ3 B3 H3 s3 z3 => ⟨B3, (s'.trans sN.b).trans s3, z3.1, z3.2⟩) fun v3 B3 H3 s3 z3 => q2 v3 B3 H3 (((s1.b.trans s').trans sN.b).trans s3) z3
    · have ei : i = us.length := by omega
      refine .inl ⟨⟨us, hq, by omega⟩, ?_⟩
      subst ei
      rw [r.length] at hS' hF
      exact q1 σ' B' H' (s1.b.trans s') (hd σ' B' H' hS' hF)
/-- from here on found stays -/
theorem tr_settleX {j : Nat} {p : List D → Prop} (hs : ∀ {B H : Hp} {o : HO}, B L = none → H L = some o → J B H → J (upd B L o) H) (hLv : L ≠ vv) (hj : ρ[j]? = some (some (.raw (.ref L)))) (h : ∀ out, p out → Tr C t (ρ.set j (some (.lst out))) (VI C vv J n) N R) : Tr C t ρ (VI C vv (And2 J (ClE C L p)) n) N R := fun Z σ B H hS hI q1 q2 => by
  obtain ⟨⟨hJ, out, ho, nL, acc, hL, r⟩, vo⟩ := hI
  have vo2 : And2 J (VOk C vv n) B H := ⟨hJ, vo⟩
  refine tr_settle (t := t) (ρ := ρ) (J := VI C vv J n) (L := L) (out := out) (j := j) (fun {B H o} n1 e z => ⟨hs n1 e z.1, ?_⟩) hj (h out ho) Z σ B H hS ⟨vo2, nL, acc, hL, r⟩ q1 q2
  obtain ⟨s, b, c, cells, turn, rest, h1, h2, h3, h4⟩ := z.2
  refine ⟨fun a u q => ?_, by rw [upd_ne hLv.symm]; exact b, c, cells, turn, rest, h1, Sub.new n1 _ _ h2, h3, h4⟩
  by_cases ha : a = L
  · rw [ha, upd_same] at q; cases q; rw [ha]; exact e
  · rw [upd_ne ha] at q; exact s a u q
theorem stepV_settle {o : HO} {B H : Hp} (hL : H0 L = none) (n1 : B L = none) (e : H L = some o) (h : StepV vv B0 H0 B H) : StepV vv B0 H0 (upd B L o) H :=
  ⟨h.b.trans (Sub.new n1), h.h, fun a u q => by
    by_cases ha : a = L
    · rw [ha, upd_same] at q; cases q; rw [ha]; exact e
    · rw [upd_ne ha] at q; exact h.s a u q, fun a u na q z => by
    by_cases ha : a = L
    · rw [ha]; exact hL
    · rw [upd_ne ha] at q; exact h.f a u na q z⟩
end
end K55

set_option maxHeartbeats 2000000
namespace K55
open PySem PySem.Spec PyProof.Rows L2
local macro_rules | `(tactic| walk_at "ev1") => `(tactic| first
  | exact v_var rfl | exact v_int | exact v_bl | exact v_non | exact v_str | exact a_nil | exact v_raw
  | apply a_cons
  | apply v_add | apply v_sub | apply v_mul | apply v_mod | apply v_fdiv | apply v_neg
  | apply v_lt | apply v_le | apply v_gt | apply v_ge | apply v_eqI | apply v_neI
  | apply v_isN | apply v_notN
  | apply b_B | apply b_test | apply b_not | apply b_and0 | apply b_or0
  | apply v_and0 | apply v_or0 | apply v_not
  | apply v_tup | apply v_lst
  | refine' v_cb ?_ c_int
  | exact Nat.le_of_ble_eq_true rfl)
local macro_rules | `(tactic| walk_at "ev") => `(tactic| repeat' walk_at "ev1")
local macro_rules | `(tactic| walk_at "weak") => `(tactic| repeat' (first | exact Weak.nil | apply Weak.same | apply Weak.less))
/-- a drawn row; drawn rows -/
def GenRow (p : NK) (q : Row) : Prop := q.first = p.1 ∧ q.last = p.2 ∧ 1 ≤ q.ents.length ∧ q.ents.length ≤ 4 ∧ ∀ (r : Nat) e, q.ents[r]? = some e → GenE p.1 p.2 q.ents.length r e
def RowsFor (ks : List Int) (i : Nat) (rows : List Row) : Prop := rows.length = i ∧ ∀ (j : Nat) q p, rows[j]? = some q → (stretches ks)[j]? = some p → GenRow p q
def GenRows (rows : List Row) : Prop := ∃ ns : List Int, ns.length ≤ 3 ∧ (∀ x, x ∈ ns → -10 ≤ x ∧ x ≤ 10) ∧ RowsFor (ddup ns) (stretches (ddup ns)).length rows
theorem str_get {ks : List Int} {i : Nat} (hi : i < (stretches ks).length) : (stretches ks)[i]? = some (((none :: (srt ks).map some) : List (Option Int))[i]?.getD none, (((srt ks)[i]?).map fun b => b - 1)) := by
  have hl := stretches_len ks
  have h2 : (srt ks).length = ks.length := (srt_perm ks).length_eq
  unfold stretches
  rw [List.getElem?_zip_eq_some]
  constructor
  · cases i with
    | zero => rfl
    | succ j =>
      rw [List.getElem?_cons_succ, List.getElem?_map]
      rw [List.getElem?_eq_getElem (show j < (srt ks).length by omega)]; rfl
  · by_cases h : i < (srt ks).length
    · rw [List.getElem?_append_left (by rw [List.length_map]; exact h), List.getElem?_map, List.getElem?_eq_getElem h]; rfl
    · have e : i = (srt ks).length := by omega
      rw [List.getElem?_append_right (by rw [List.length_map]; omega), List.length_map, e, Nat.sub_self, List.getElem?_eq_none (Nat.le_refl _)]; rfl
theorem ints_of {ds : List D} {p : Int → Prop} (h : ∀ x, x ∈ ds → ∃ i : Int, p i ∧ x = .int i) : ∃ ns : List Int, ds = ns.map D.int ∧ ∀ x, x ∈ ns → p x := by
  induction ds with
  | nil => exact ⟨[], rfl, fun x hx => nomatch hx⟩
  | cons d ds ih =>
    obtain ⟨i, hi, rfl⟩ := h d List.mem_cons_self
    obtain ⟨ns, rfl, hn⟩ := ih fun x hx => h x (List.mem_cons_of_mem _ hx)
    exact ⟨i :: ns, rfl, fun x hx => by rcases List.mem_cons.mp hx with rfl | hx; exact hi; exact hn x hx⟩
theorem ents_of {G : Nat → Ent → Prop} : ∀ (ds : List D), (∀ (j : Nat) x, ds[j]? = some x → ∃ e : Ent, G j e ∧ x = eD e) → ∃ ents : List Ent, ds = ents.map eD ∧ ents.length = ds.length ∧ ∀ (r : Nat) e, ents[r]? = some e → G r e := by
  intro ds
  induction ds generalizing G with
  | nil => exact fun _ => ⟨[], rfl, rfl, fun r e h => by simp at h⟩
  | cons d ds ih =>
    intro h
    obtain ⟨e, he, rfl⟩ := h 0 d rfl
    obtain ⟨es, rfl, h2, h3⟩ := ih (G := fun j => G (j + 1)) fun j x hx => h (j + 1) x hx
    exact ⟨e :: es, rfl, by simp, fun r e' hr => by cases r with
      | zero => cases hr; exact he
      | succ r => exact h3 r e' hr⟩
section
variable {C : Addr} {P : Program} {w : World} {K : PySem.W.Frag} {mg : Str → Option Value} {base : Heap}
abbrev s__law_rows : Stmt := topS 40
abbrev N__law_rows : List Str := ["_law_valley_here", "_law_starts", "_law_ends", "_law_found", "_law_at_here", "_law_first", "_law_last", "_law_many", "_law_turn", "_law_rest"]
theorem sc__law_rows : FnScope N__law_rows ["_law_valley_here"] (defScope s__law_rows) := ⟨rfl, rfl, rfl, by decide +kernel, rfl, by decide +kernel, by decide +kernel⟩
def F0_rows (ds : List D) : Prop := ds = []
def F_rows (ds : List D) (d : D) : Prop := ∃ rows, GenRows rows ∧ d = .lst (rowsD rows)
theorem ok_rows {f : Addr} {fd : FuncData} (Fn : Fun K "_law_rows" "_law_rows" s__law_rows f fd) (T : Bt K mg C) (G__law_climb : Df P w K mg base 1 "_law_climb" ["_law_valley_here", "_law_many"] (spV C 1 F0_climb F_climb))
    (G__law_pick : Df P w K mg base 2 "_law_pick" ["_law_valley_here", "_law_some"] (spV C 1 F0_pick F_pick)) (G__law_entry : Df P w K mg base 3 "_law_entry" ["_law_valley_here", "_law_first", "_law_last", "_law_many", "_law_rest"] (spV C 5 F0_entry F_entry)) :
    FnOk P w K mg base CX0 4 f fd ["_law_valley_here"] (spV C 88 F0_rows F_rows) := by
  refine def_okX Fn sc__law_rows (by decide) (fun ds h => by cases h; rfl) fun cdv A outer s H E hr ds h0 => ?_
  cases h0
  have nd := sc__law_rows.nd
  refine ⟨_, (pss_cons (ps_set (i := 1) nd rfl (.inl rfl) (pe_callB (cr_sortedSet rfl) (by rfl) T.n_sorted bo_sorted (pa_cons (pe_callTy (cr_setL1 rfl) (by rfl) T.n_set bo_set (pa_cons (pe_lc (own := [("_law_turn", 8)]) (by rfl) nd (pi_range1 (by rfl) T.n_range (pa_cons (pcall G__law_climb (hr.mono (by first | decide | omega)) (by rfl) (pa_cons (pv 0) (pa_cons pe_int pa_nil))) pa_nil)) (blkOk_by (own := [("_law_turn", 8)]) (N := N__law_rows) (sc := defScope s__law_rows) (by decide +kernel)) (fun _ _ _ _ _ => (pg_name (i := 8) nd rfl (.inl rfl))) (fun _ _ _ _ _ => pts_nil) (fun _ _ _ _ _ => (pe_op op_sub (pcall G__law_climb (hr.mono (by first | decide | omega)) (by rfl) (pa_cons (pv 0) (pa_cons pe_int pa_nil))) pe_int))) pa_nil)) pa_nil)))
      (pss_cons (ps_par (i := 2) (j := 3) (by rfl) nd rfl rfl (by decide) rfl rfl (pa_cons (pe_op op_cat (pe_lst (pa_cons pe_non pa_nil)) (pv 1)) (pa_cons (pe_lst pa_nil) pa_nil)) (by rfl))
      (pss_cons (ps_for PassesOwn.never rfl (pi_enum (by rfl) T.n_enumerate (pa_cons (pv 2) pa_nil)) (pg_tup (by rfl) (pgs_cons (pg_name (i := 4) nd rfl (.inl rfl)) (pgs_cons (pg_name (i := 5) nd rfl (.inr rfl)) pgs_nil))) (pss_cons (ps_asg (pe_tup (pa_cons (pe_ifExp (pt_cmpR op_lt (pe_op op_add (pv 4) pe_int) (pe_callB call_len_seq (by rfl) T.n_len bo_len (pa_cons (pv 2) pa_nil)) (nomark _)) (pe_op op_sub (pe_ix ix_list (pv 2) (pe_op op_add (pv 4) pe_int) (fun _ _ => rfl)) pe_int) pe_non) (pa_cons (pcall G__law_pick (hr.mono (by first | decide | omega)) (by rfl) (pa_cons (pv 0) (pa_cons (pe_lst (pa_cons pe_int (pa_cons pe_int (pa_cons pe_int (pa_cons pe_int pa_nil))))) pa_nil))) pa_nil))) (pg_tup (by rfl) (pgs_cons (pg_name (i := 6) nd rfl (.inr rfl)) (pgs_cons (pg_name (i := 7) nd rfl (.inr rfl)) pgs_nil))))
      (pss_one (ps_expr (pe_bm PySem.F.plainAttrs_list PySem.F.slot_list_append PySem.F.type_list_append mt_append (pv 3) (pa_cons (pe_tup (pa_cons (pv 5) (pa_cons (pv 6) (pa_cons (pe_callTy call_tuple_of (by rfl) T.n_tuple bo_tuple (pa_cons (pe_lc (own := [("_law_rest", 9)]) (by rfl) nd (pi_range1 (by rfl) T.n_range (pa_cons (pv 7) pa_nil)) (blkOk_by (own := [("_law_rest", 9)]) (N := N__law_rows) (sc := defScope s__law_rows) (by decide +kernel)) (fun _ _ _ _ _ => (pg_name (i := 9) nd rfl (.inl rfl))) (fun _ _ _ _ _ => pts_nil) (fun _ _ _ _ _ => (pcall G__law_entry (hr.mono (by first | decide | omega)) (by rfl) (pa_cons (pv 0) (pa_cons (pv 5) (pa_cons (pv 6) (pa_cons (pv 7) (pa_cons (pv 9) pa_nil)))))))) pa_nil)) pa_nil)))) pa_nil))))))
      (pss_one (ps_ret (pv 3)))))), fun vv B0 H0 n hn => ?_⟩
  have hV := okV0 (vv := vv) B0 H0
  have climb : ∀ {J : As} {ρ : Env} {m : Int} {n' : Nat}, OkV vv J → ρ[0]? = some (some (.raw (.ref vv))) → 0 < m → m ≤ 1000 → n' + 1 ≤ 1000 → Ex C (tCall (spV C 1 F0_climb F_climb) [] E0 (tCons (tVar 0) (tCons (tC (.int m)) tNil))) ρ (VI C vv J n') (fun d => ∃ r, 0 ≤ r ∧ r < m ∧ d = .int r) (VI C vv J (n' + 1)) :=
    fun {J ρ m n'} hJ h0 h1 h2 h3 => (x_callV hJ (a_cons (v_var h0) (a_cons v_int a_nil)) ⟨m, h1, h2, rfl⟩ h3).imp (fun d hd => by
      obtain ⟨m', r, e, r0, r1, rfl⟩ := hd
      have : m = m' := by injection e with e; injection e
      exact ⟨r, r0, by omega, rfl⟩) fun _ _ z => z
  -- the starts
  let ρ0 : Env := [some (.raw (.ref vv)), none, none, none, none, none, none, none, none, none]
  have count : ExA C (tCons (tCall (spV C 1 F0_climb F_climb) [] E0 (tCons (tVar 0) (tCons (tC (.int 4)) tNil))) tNil) ρ0 (VI C vv (StepV vv B0 H0) n) (fun ds => ∃ m : Nat, m ≤ 3 ∧ ds = [.int m]) (VI C vv (StepV vv B0 H0) (n + 1)) :=
    ExA.imp (xa_cons (climb (m := 4) (n' := n) hV rfl (by omega) (by omega) (by omega)) xa_nil) (fun ds hd => by
      obtain ⟨_, _, ⟨r, r0, r1, rfl⟩, rfl, rfl⟩ := hd
      exact ⟨r.toNat, by omega, by rw [Int.toNat_of_nonneg r0]⟩) fun _ _ z => z
  have drawn := x_lcRX (C := C) (M := 3) (k := 1) (n := n + 1) (ρ := ρ0) (vs := [8]) (g := gName 8) (te := tOp (rI0 fun i j => .int (i - j)) (tCall (spV C 1 F0_climb F_climb) [] E0 (tCons (tVar 0) (tCons (tC (.int 21)) tNil))) (tC (.int 10))) (F := fun d => ∃ x : Int, -10 ≤ x ∧ x ≤ 10 ∧ d = .int x) hV count (by omega) fun i hi => ⟨_, _, g_name, by simp, fun J' n' hJ' hn' =>
    x_op (okVI hJ' _) (climb (m := 21) (n' := n') hJ' rfl (by omega) (by omega) (by omega)) (x_pure (okVI hJ' _) v_int (F := fun d => d = .int 10) rfl) fun d1 d2 h1 h2 => by
      obtain ⟨r, r0, r1, rfl⟩ := h1
      subst h2
      exact ⟨.int (r - 10), ⟨r - 10, by omega, by omega, rfl⟩, r_I0 fun _ => .int _⟩⟩
  have drawn2 := drawn.imp (F1 := fun d => ∃ ns : List Int, (ns.length ≤ 3 ∧ ∀ x, x ∈ ns → -10 ≤ x ∧ x ≤ 10) ∧ d = .lst (ns.map D.int)) (fun d hd => by
    obtain ⟨ds, h1, h2, rfl⟩ := hd
    obtain ⟨ns, e, h3⟩ := ints_of (p := fun x => -10 ≤ x ∧ x ≤ 10) fun x hx => by obtain ⟨i, a, b, c⟩ := h2 x hx; exact ⟨i, ⟨a, b⟩, c⟩
    exact ⟨ns, ⟨by rw [← List.length_map (f := D.int), ← e]; exact h1, h3⟩, by rw [e]⟩) (fun _ _ z => z)
  refine tr_letX (okVI hV (n + 1 + 3 * 1)) (x_sortedSet (okVI hV _) drawn2 fun ns h => by omega) ?_
  rintro d ⟨ns, ⟨hns1, hns2⟩, rfl⟩
  refine ⟨_, _, g_name, ?_⟩
  have hlen : (srt (ddup ns)).length ≤ 3 := by
    rw [(srt_perm (ddup ns)).length_eq]
    exact Nat.le_trans (ddup_len ns) hns1
  have hupl : (upOf ns).length = (srt (ddup ns)).length := rfl
  let ends : List (Option Int) := none :: (srt (ddup ns)).map some
  have hends : ends.length = (stretches (ddup ns)).length := by
    rw [stretches_len, List.length_cons, List.length_map, (srt_perm (ddup ns)).length_eq]
  have endsD : (D.lst ([D.non] ++ (upOf ns).map D.int)) = .lst (ends.map oi) := by
    show _ = D.lst ((none :: (srt (ddup ns)).map some).map oi)
    rw [List.map_cons, List.map_map]; rfl
  refine tr_seqE (tr_parNewV (x := .lst (ends.map oi)) ((v_cat (v_lst (a_cons v_non a_nil) (by simp)) (v_var rfl) (by rw [List.length_map, hupl]; simp; omega)).is endsD)) fun L => tr_pure fun hL => ?_
  let ρL : Env := [some (.raw (.ref vv)), some (.lst ((upOf ns).map D.int)), some (.lst (ends.map oi)), some (.raw (.ref L)), none, none, none, none, none, none]
  let pI : Nat → List D → Prop := fun i out => ∃ rows, RowsFor (ddup ns) i rows ∧ out = rowsD rows
  have hVL : ∀ p : List D → Prop, OkV vv (And2 (StepV vv B0 H0) (ClE C L p)) := fun p => okV2 hV (okVC hL.1)
  refine tr_seq (ρ1 := ρL) (I1 := VI C vv (And2 (StepV vv B0 H0) (ClE C L (pI ends.length))) (n + 88)) (tr_forEnum (okVI (hVL _) _) (a_cons (v_var rfl) a_nil) (fun _ => ρL) (fun i => VI C vv (And2 (StepV vv B0 H0) (ClE C L (pI i))) (n + 4 + 21 * i)) (fun σ B H a b => ⟨a, ⟨b.1.1, ?_⟩, b.2.mono (by omega)⟩) (fun i => okVI (hVL _) _) (fun i x hx => ?_) fun σ B H a b => ?_) ?_
  · obtain ⟨out, rfl, hc⟩ := b.1.2
    exact ⟨[], ⟨[], ⟨rfl, fun j q p h => by simp at h⟩, rfl⟩, hc⟩
  · rw [List.getElem?_map] at hx
    cases hf : ends[i]? with
    | none => rw [hf] at hx; cases hx
    | some f =>
      rw [hf] at hx
      cases hx
      have hi : i < ends.length := (List.getElem?_eq_some_iff.mp hf).1
      have hil : i ≤ 3 := by
        have : ends.length = (srt (ddup ns)).length + 1 := by show (none :: (srt (ddup ns)).map some).length = _; rw [List.length_cons, List.length_map]
        omega
      let la : Option Int := ((srt (ddup ns))[i]?).map fun b => b - 1
      have hst : (stretches (ddup ns))[i]? = some (f, la) := by
        rw [str_get (by rw [← hends]; exact hi)]
        have : (ends[i]?).getD none = f := by rw [hf]; rfl
        rw [← this]
      refine ⟨_, _, g_tup (gs_cons g_name (gs_cons g_name gs_nil)) rfl, ?_⟩
      let ρ1 : Env := [some (.raw (.ref vv)), some (.lst ((upOf ns).map D.int)), some (.lst (ends.map oi)), some (.raw (.ref L)), some (.int i), some (oi f), none, none, none, none]
      have hla : ∀ {K : PySem.W.Frag}, EvP C (tIf (tTest (tOp (rI0 fun i j => .bl (decide (i < j))) (tOp (rI0 fun i j => .int (i + j)) (tVar 4) (tC (.int 1))) (tCB (fun xs H Q => ∃ p ys, xs = [V.ref p] ∧ (SqL K H p ys ∨ SqT K H p ys) ∧ Q (.int ys.length) H) (tCons (tVar 2) tNil)))) (tOp (rI0 fun i j => .int (i - j)) (tOp (rIxL K) (tVar 2) (tOp (rI0 fun i j => .int (i + j)) (tVar 4) (tC (.int 1)))) (tC (.int 1))) (tC .non)) ρ1 (oi la) := fun {K} => by
        have htest : EvB C (tTest (tOp (rI0 fun i j => .bl (decide (i < j))) (tOp (rI0 fun i j => .int (i + j)) (tVar 4) (tC (.int 1))) (tCB (fun xs H Q => ∃ p ys, xs = [V.ref p] ∧ (SqL K H p ys ∨ SqT K H p ys) ∧ Q (.int ys.length) H) (tCons (tVar 2) tNil)))) ρ1 (decide ((i : Int) + 1 < ends.length)) :=
          (b_test (v_lt (v_add (v_var rfl) v_int) (v_cb (a_cons (v_var rfl) a_nil) (c_len (.inl rfl))))).is (by rw [List.length_map])
        have hle : ends.length = (srt (ddup ns)).length + 1 := by show (none :: (srt (ddup ns)).map some).length = _; rw [List.length_cons, List.length_map]
        by_cases hb : i < (srt (ddup ns)).length
        · have e1 : (srt (ddup ns))[i]? = some (srt (ddup ns))[i] := List.getElem?_eq_getElem hb
          have e2 : la = some ((srt (ddup ns))[i] - 1) := by show ((srt (ddup ns))[i]?).map _ = _; rw [e1]; rfl
          have e3 : ends[i + 1]? = some (some (srt (ddup ns))[i]) := by
            show (none :: (srt (ddup ns)).map some)[i + 1]? = _
            rw [List.getElem?_cons_succ, List.getElem?_map, e1]; rfl
          rw [e2]
          refine v_ifT (htest.is (decide_eq_true (by omega))) (v_sub (i := (srt (ddup ns))[i]) (v_ixL (v_var rfl) (v_add (v_var rfl) v_int) ?_) v_int)
          have := atI_map oi (atI_nat e3)
          rw [show ((i + 1 : Nat) : Int) = (i : Int) + 1 by omega] at this
          exact this
        · have e2 : la = none := by
            show ((srt (ddup ns))[i]?).map _ = _
            rw [List.getElem?_eq_none (by omega)]; rfl
          rw [e2]
          exact v_ifF (htest.is (decide_eq_false (by omega))) v_non
      refine tr_letX (okVI (hVL _) _) (x_tup (okVI (hVL _) _) (xa_cons (x_pure (okVI (hVL _) _) hla (F := fun d => d = oi la) rfl) (xa_cons (x_callV (hVL _) (a_cons (v_var rfl) (a_cons (v_lst (ds := [.int 1, .int 2, .int 3, .int 4]) (by walk_at "ev") (by simp)) a_nil)) ⟨[.int 1, .int 2, .int 3, .int 4], by simp, by simp, rfl⟩ (by omega)) xa_nil)) ?_) ?_
      · rintro ds ⟨_, _, _, ⟨_, _, _, rfl, rfl⟩, rfl⟩
        simp
      rintro d ⟨ds, ⟨_, _, rfl, ⟨dm, _, ⟨xs1, e1, h1⟩, rfl, rfl⟩, rfl⟩, rfl⟩
      have hmany : ∃ m : Nat, dm = .int m ∧ 1 ≤ m ∧ m ≤ 4 := by
        injection e1 with e1
        injection e1 with e1
        rw [← e1] at h1
        simp at h1
        rcases h1 with rfl | rfl | rfl | rfl
        · exact ⟨1, rfl, by omega, by omega⟩
        · exact ⟨2, rfl, by omega, by omega⟩
        · exact ⟨3, rfl, by omega, by omega⟩
        · exact ⟨4, rfl, by omega, by omega⟩
      obtain ⟨m, rfl, hm1, hm4⟩ := hmany
      refine ⟨_, _, g_tup (gs_cons g_name (gs_cons g_name gs_nil)) rfl, ?_⟩
      have hk : n + 4 + 21 * i + 1 + m * 5 ≤ n + 4 + 21 * (i + 1) := by omega
      have hk2 : n + 4 + 21 * (i + 1) ≤ 1000 := by omega
      let ρ2 : Env := [some (.raw (.ref vv)), some (.lst ((upOf ns).map D.int)), some (.lst (ends.map oi)), some (.raw (.ref L)), some (.int i), some (oi f), some (oi la), some (.int m), none, none]
      have entsX : ∀ {J : As}, OkV vv J → Ex C (tLc (iRng1 (tCons (tVar 7) tNil)) (gName 9) tYes (tCall (spV C 5 F0_entry F_entry) [] E0 (tCons (tVar 0) (tCons (tVar 5) (tCons (tVar 6) (tCons (tVar 7) (tCons (tVar 9) tNil)))))) [9]) ρ2 (VI C vv J (n + 4 + 21 * i + 1)) (fun d => ∃ ents : List Ent, ents.length = m ∧ (∀ (r : Nat) e, ents[r]? = some e → GenE f la m r e) ∧ d = .lst (ents.map eD)) (VI C vv J (n + 4 + 21 * i + 1 + m * 5)) := fun {J} hJ =>
        (x_lcR (m := m) (k := 5) (F := fun r d => ∃ e : Ent, GenE f la m r e ∧ d = eD e) hJ (a_cons (v_var rfl) a_nil) (by omega) fun r hr => ⟨_, _, g_name, by simp, fun J' n' hJ' hn' =>
          (x_callV hJ' (a_cons (v_var rfl) (a_cons (v_var rfl) (a_cons (v_var rfl) (a_cons (v_var rfl) (a_cons (v_var rfl) a_nil))))) ⟨f, la, m, r, by omega, by omega, by omega, by omega, rfl⟩ (by omega)).imp (fun d hd => by
            obtain ⟨f', l', m', r', e, he, hg, rfl⟩ := hd
            injection he with he1 he
            injection he with he2 he
            injection he with he3 he
            injection he with he4 he
            injection he3 with he3
            injection he4 with he4
            have hf' : f' = f := by cases f <;> cases f' <;> first | rfl | (cases he1; done) | (cases he1; rfl)
            have hl' : l' = la := by
              revert he2
              generalize la = la'
              intro he2
              cases la' <;> cases l' <;> first | rfl | (cases he2; done) | (cases he2; rfl)
            subst hf' hl' he3 he4
            exact ⟨e, hg, rfl⟩) fun _ _ z => z⟩).imp (fun d hd => by
          obtain ⟨ds, h1, h2, rfl⟩ := hd
          obtain ⟨ents, e1, e2, e3⟩ := ents_of ds h2
          exact ⟨ents, by rw [e2]; exact h1, e3, by rw [e1]⟩) fun _ _ z => z
      refine (tr_appX (n' := n + 4 + 21 * (i + 1)) (J := StepV vv B0 H0) (L := L) (j := 3) (p := pI i) (p' := pI (i + 1)) (F := fun d => ∃ q : Row, GenRow (f, la) q ∧ d = rowD q) (fun n1 z => StepV.upd hL.2 n1 z) hL.1 rfl ?_ ?_ ?_).imp (fun σ B H z => ⟨z.1.weak (by walk_at "weak"), z.2⟩) fun _ _ _ z => z
      · rintro out ⟨rows, ⟨hr1, _⟩, rfl⟩
        show ((rows.map rowD)).length < 100000
        rw [List.length_map]; omega
      · refine (x_tup (okVI (hVL _) _) (xa_cons (x_pure (okVI (hVL _) _) (v_var (d := oi f) rfl) (F := fun d => d = oi f) rfl) (xa_cons (x_pure (okVI (hVL _) _) (v_var (d := oi la) rfl) (F := fun d => d = oi la) rfl) (xa_cons (x_cb (F := fun d => ∃ ents : List Ent, ents.length = m ∧ (∀ (r : Nat) e, ents[r]? = some e → GenE f la m r e) ∧ d = .tup (ents.map eD)) (okVI (hVL _) _) (xa_cons (entsX (hVL _)) xa_nil) ?_) xa_nil))) ?_).imp ?_ fun B H z => z.mono hk
        · rintro ds ⟨_, _, ⟨ents, h1, h2, rfl⟩, rfl, rfl⟩
          exact ⟨_, ⟨ents, h1, h2, rfl⟩, c_tuple⟩
        · rintro ds ⟨_, _, _, ⟨_, _, _, ⟨_, _, _, rfl, rfl⟩, rfl⟩, rfl⟩
          simp
        · rintro d ⟨ds, ⟨_, _, rfl, ⟨_, _, rfl, ⟨_, _, ⟨ents, h1, h2, rfl⟩, rfl, rfl⟩, rfl⟩, rfl⟩, rfl⟩
          exact ⟨⟨f, la, ents⟩, ⟨rfl, rfl, by show 1 ≤ ents.length; omega, by show ents.length ≤ 4; omega, fun r e he => by show GenE f la ents.length r e; rw [h1]; exact h2 r e he⟩, rfl⟩
      · rintro out d ⟨rows, ⟨hr1, hr2⟩, rfl⟩ ⟨q, hq, rfl⟩
        refine ⟨rows ++ [q], ⟨by rw [List.length_append, hr1]; rfl, fun j q' p hj hp => ?_⟩, by unfold rowsD; rw [List.map_append]; rfl⟩
        by_cases hj1 : j < rows.length
        · rw [List.getElem?_append_left hj1] at hj
          exact hr2 j q' p hj hp
        · rw [List.getElem?_append_right (by omega)] at hj
          have hj2 := (List.getElem?_eq_some_iff.mp hj).1
          have hj3 : j = i := by simp at hj2; omega
          subst hj3
          rw [hr1, Nat.sub_self] at hj
          have : q = q' := by simpa using hj
          subst this
          rw [hst] at hp
          cases hp
          exact hq
  · rw [List.length_map] at b
    refine ⟨a, b.mono ?_⟩
    have : ends.length = (srt (ddup ns)).length + 1 := by show (none :: (srt (ddup ns)).map some).length = _; rw [List.length_cons, List.length_map]
    omega
  · refine tr_settleX (j := 3) (fun n1 e z => stepV_settle hL.2 n1 e z) hL.1 rfl fun out ho => ?_
    obtain ⟨rows, hrows, rfl⟩ := ho
    refine tr_ret (okVI hV _) (v_var (d := .lst (rowsD rows)) rfl) fun v B H rv hI => ⟨_, ⟨rows, ⟨ns, hns1, hns2, by rw [← hends]; exact hrows⟩, rfl⟩, rv, hI⟩
end
end K55

set_option maxHeartbeats 2000000
namespace K55
open PySem PySem.Spec PyProof.Rows L2
local macro_rules | `(tactic| walk_at "ev1") => `(tactic| first
  | exact v_var rfl | exact v_int | exact v_bl | exact v_non | exact v_str | exact a_nil | exact v_raw
  | apply a_cons
  | apply v_add | apply v_sub | apply v_mul | apply v_mod | apply v_fdiv | apply v_neg
  | apply v_lt | apply v_le | apply v_gt | apply v_ge | apply v_eqI | apply v_neI
  | apply v_isN | apply v_notN
  | apply b_B | apply b_test | apply b_not | apply b_and0 | apply b_or0
  | apply v_and0 | apply v_or0 | apply v_not
  | apply v_tup | apply v_lst
  | refine' v_cb ?_ c_int
  | exact Nat.le_of_ble_eq_true rfl)
local macro_rules | `(tactic| walk_at "ev") => `(tactic| repeat' walk_at "ev1")
local macro_rules | `(tactic| walk_at "weak") => `(tactic| repeat' (first | exact Weak.nil | apply Weak.same | apply Weak.less))
/-- rows that _law_at reads -/
def RowE (q : Row) : Prop := 0 < q.ents.length ∧ q.ents.length ≤ 50000 ∧ ∀ e, e ∈ q.ents → EntOk e
def rowIn' (n : Int) (q : Row) : Bool := isIn q.first q.last n
def entIn (q : Row) (n : Int) : Ent := (q.ents[(n % q.ents.length).toNat]?).getD none
def lawAt (rows : List Row) (n : Int) : Option Int := match rows.find? (rowIn' n) with
  | none => some (-1)
  | some q => entTell (entIn q n) n
theorem entIn_get {q : Row} (h : 0 < q.ents.length) (n : Int) : q.ents[(n % q.ents.length).toNat]? = some (entIn q n) := by
  have h1 := mod_lo n (show (0 : Int) < q.ents.length by omega)
  have h2 := mod_hi n (show (0 : Int) < q.ents.length by omega)
  unfold entIn
  rw [List.getElem?_eq_getElem (show (n % q.ents.length).toNat < q.ents.length by omega)]; rfl
section
variable {C : Addr} {P : Program} {w : World} {K : PySem.W.Frag} {mg : Str → Option Value} {base : Heap}
abbrev s__law_at : Stmt := topS 38
abbrev N__law_at : List Str := ["_law_rows_here", "_law_number", "_law_first", "_law_last", "_law_entries", "_law_entry_here"]
theorem sc__law_at : FnScope N__law_at ["_law_rows_here", "_law_number"] (defScope s__law_at) := ⟨rfl, rfl, rfl, by decide +kernel, rfl, by decide +kernel, by decide +kernel⟩
def F_law_at (ds : List D) (d : D) : Prop := ∃ (rows : List Row) (n : Int), (∀ q, q ∈ rows → RowE q) ∧ ds = [.lst (rowsD rows), .int n] ∧ d = oi (lawAt rows n)
theorem ok_law_at {f : Addr} {fd : FuncData} (Fn : Fun K "_law_at" "_law_at" s__law_at f fd) (T : Bt K mg C) : FnOk P w K mg base CX0 1 f fd ["_law_rows_here", "_law_number"] (spD C F_law_at) := by
  refine def_ok Fn sc__law_at (by decide) (fun ds d h => by obtain ⟨_, _, _, rfl, _⟩ := h; rfl) fun cdv A outer s H E hr ds d hF => ?_
  obtain ⟨rows, n, hrow, rfl, rfl⟩ := hF
  have nd := sc__law_at.nd
  refine ⟨_, (pss_cons (ps_for PassesOwn.never rfl (pi_list (pv 0)) (pg_tup (by rfl) (pgs_cons (pg_name (i := 2) nd rfl (.inl rfl)) (pgs_cons (pg_name (i := 3) nd rfl (.inl rfl)) (pgs_cons (pg_name (i := 4) nd rfl (.inl rfl)) pgs_nil)))) (pss_one (ps_if (PW.pt (pw_and (PW.pt (pw_or (pt_cmp (pc_isN (pv 2))) (pw_or1 (pt_cmpR op_le (pv 2) (pv 1) (nomark _))))) (pw_and1 (PW.pt (pw_or (pt_cmp (pc_isN (pv 3))) (pw_or1 (pt_cmpR op_le (pv 1) (pv 3) (nomark _)))))))) (pss_cons (ps_set (i := 5) nd rfl (.inl rfl) (pe_ix ix_tup (pv 4) (pe_op op_mod (pe_callTy call_int1 (by rfl) T.n_int bo_int (pa_cons (pv 1) pa_nil)) (pe_callB call_len_seq (by rfl) T.n_len bo_len (pa_cons (pv 4) pa_nil))) (fun _ _ => rfl)))
      (pss_one (ps_ret (pe_ifExp (pt_cmp (pc_isN (pv 5))) pe_non (pe_op op_fdiv (pe_op op_add (pe_op op_mul (pe_ix ix_tup (pv 5) pe_int (fun _ _ => rfl)) (pv 1)) (pe_ix ix_tup (pv 5) pe_int (fun _ _ => rfl))) (pe_ix ix_tup (pv 5) pe_int (fun _ _ => rfl))))))) pss_nil)))
      (pss_one (ps_ret (pe_un un_neg pe_int)))), ?_⟩
  let ρ0 : Env := [some (.lst (rowsD rows)), some (.int n), none, none, none, none]
  have test : ∀ q : Row, EvB C (tAnd (tOr (tB (tIsN (tVar 2))) (tTest (tOp (rI0 fun i j => .bl (decide (i ≤ j))) (tVar 2) (tVar 1)))) (tOr (tB (tIsN (tVar 3))) (tTest (tOp (rI0 fun i j => .bl (decide (i ≤ j))) (tVar 1) (tVar 3))))) ([some (.lst (rowsD rows)), some (.int n), some (oi q.first), some (oi q.last), some (.tup (q.ents.map eD)), none] : Env) (rowIn' n q) := fun q => by
    have h1 : EvB C (tOr (tB (tIsN (tVar 2))) (tTest (tOp (rI0 fun i j => .bl (decide (i ≤ j))) (tVar 2) (tVar 1)))) ([some (.lst (rowsD rows)), some (.int n), some (oi q.first), some (oi q.last), some (.tup (q.ents.map eD)), none] : Env) (geO q.first n) := by
      cases q.first with
      | none => exact b_orT (b_B (v_isN (x := .non) (v_var rfl))) rfl
      | some f => exact b_orF (b_B (v_isN (x := .int f) (v_var rfl))) rfl (b_test (v_le (v_var rfl) (v_var rfl)))
    have h2 : EvB C (tOr (tB (tIsN (tVar 3))) (tTest (tOp (rI0 fun i j => .bl (decide (i ≤ j))) (tVar 1) (tVar 3)))) ([some (.lst (rowsD rows)), some (.int n), some (oi q.first), some (oi q.last), some (.tup (q.ents.map eD)), none] : Env) (leO q.last n) := by
      cases q.last with
      | none => exact b_orT (b_B (v_isN (x := .non) (v_var rfl))) rfl
      | some l => exact b_orF (b_B (v_isN (x := .int l) (v_var rfl))) rfl (b_test (v_le (v_var rfl) (v_var rfl)))
    exact b_and0 h1 h2
  cases hf : rows.find? (rowIn' n) with
  | none =>
    have hno := List.find?_eq_none.mp hf
    have e1 : lawAt rows n = some (-1) := by unfold lawAt; rw [hf]
    rw [e1]
    refine run_seq (ρ1 := ρ0) (run_forL (items := rowsD rows) (v_var rfl) (fun _ => ρ0) (fun _ => True) trivial (fun _ _ h => h) (fun i z hi _ => ?_) fun _ σ B h => h) (run_ret (v_neg v_int))
    unfold rowsD at hi
    rw [List.getElem?_map] at hi
    cases hz : rows[i]? with
    | none => rw [hz] at hi; cases hi
    | some q =>
      rw [hz] at hi
      cases hi
      refine ⟨_, _, g_tup (gs_cons g_name (gs_cons g_name (gs_cons g_name gs_nil))) rfl, ?_⟩
      exact run_ifN (test q) (by simpa using hno q (List.mem_of_getElem? hz)) (run_next fun σ B h => ⟨trivial, h.weak (by walk_at "weak")⟩)
  | some p =>
    have e1 : lawAt rows n = entTell (entIn p n) n := by unfold lawAt; rw [hf]
    rw [e1]
    refine run_seqR (run_forL (items := rowsD rows) (v_var rfl) (fun _ => ρ0) (fun i => ∀ q, q ∈ rows.take i → rowIn' n q = false) (by simp) (fun _ _ h => h) (fun i z hi hF => ?_) fun hF σ B h => ?_)
    · unfold rowsD at hi
      rw [List.getElem?_map] at hi
      cases hz : rows[i]? with
      | none => rw [hz] at hi; cases hi
      | some q =>
        rw [hz] at hi
        cases hi
        refine ⟨_, _, g_tup (gs_cons g_name (gs_cons g_name (gs_cons g_name gs_nil))) rfl, ?_⟩
        refine run_if (test q) (fun e => ?_) fun e => run_next fun σ B h => ⟨fun k hk => ?_, h.weak (by walk_at "weak")⟩
        · have em : p = q := by
            have hlt := (List.getElem?_eq_some_iff.mp hz).1
            have h1 : rows = rows.take i ++ rows.drop i := (List.take_append_drop i rows).symm
            rw [h1, List.find?_append, List.find?_eq_none.mpr (fun x hx => by rw [hF x hx]; decide), List.drop_eq_getElem_cons hlt] at hf
            have hq : rows[i] = q := (List.getElem?_eq_some_iff.mp hz).2
            rw [hq, List.find?_cons_of_pos e] at hf
            exact (Option.some.inj hf).symm
          subst em
          have hq := hrow p (List.mem_of_getElem? hz)
          have hl : (0 : Int) < p.ents.length := by have := hq.1; omega
          have hg := entIn_get hq.1 n
          have hok : EntOk (entIn p n) := hq.2.2 _ (List.mem_of_getElem? hg)
          refine run_let (d := eD (entIn p n)) (v_ixT (v_var rfl) (v_mod (v_cb (a_cons (v_var rfl) a_nil) c_int) (v_cb (a_cons (v_var rfl) a_nil) (c_len (.inr rfl))) (by rw [List.length_map]; exact hl)) (by rw [List.length_map]; exact atI_map eD (atI_of (mod_lo n hl) hg))) ?_
          cases q4 : entIn p n with
          | none => exact run_ret (v_ifT (b_B (v_isN (x := .non) (v_var rfl))) v_non)
          | some x =>
            obtain ⟨a, b, c⟩ := x
            rw [q4] at hok
            exact run_ret (v_ifF (b_B (v_isN (x := eD (some (a, b, c))) (v_var rfl))) (v_fdiv (v_add (v_mul (v_ixT (z := .int a) (v_var rfl) v_int rfl) (v_var rfl) (.inl hok.1)) (v_ixT (z := .int b) (v_var rfl) v_int rfl)) (v_ixT (z := .int c) (v_var rfl) v_int rfl) hok.2))
        · rw [List.take_add_one, hz] at hk
          rcases List.mem_append.mp hk with hk | hk
          · exact hF k hk
          · have : k = q := by simpa using hk
            rw [this]; exact e
    · have h1 := List.find?_some hf
      have h2 := List.mem_of_find?_eq_some hf
      have e3 : (rowsD rows).length = rows.length := by unfold rowsD; rw [List.length_map]
      rw [e3, List.take_length] at hF
      rw [hF p h2] at h1
      cases h1
abbrev s__law_plus : Stmt := topS 42
abbrev N__law_plus : List Str := ["_law_one", "_law_other"]
theorem sc__law_plus : FnScope N__law_plus ["_law_one", "_law_other"] (defScope s__law_plus) := ⟨rfl, rfl, rfl, by decide +kernel, rfl, by decide +kernel, by decide +kernel⟩
def plus : Option Int → Option Int → Option Int
  | some a, some b => some (a + b)
  | _, _ => none
def F_law_plus (ds : List D) (d : D) : Prop := ∃ a b : Option Int, ds = [oi a, oi b] ∧ d = oi (plus a b)
theorem ok_law_plus {f : Addr} {fd : FuncData} (Fn : Fun K "_law_plus" "_law_plus" s__law_plus f fd) (T : Bt K mg C) : FnOk P w K mg base CX0 1 f fd ["_law_one", "_law_other"] (spD C F_law_plus) := by
  refine def_ok Fn sc__law_plus (by decide) (fun ds d h => by obtain ⟨_, _, rfl, _⟩ := h; rfl) fun cdv A outer s H E hr ds d hF => ?_
  obtain ⟨a, b, rfl, rfl⟩ := hF
  have nd := sc__law_plus.nd
  refine ⟨_, (pss_one (ps_ret (pe_ifExp (PW.pt (pw_or (pt_cmp (pc_isN (pv 0))) (pw_or1 (pt_cmp (pc_isN (pv 1)))))) pe_non (pe_op op_add (pv 0) (pv 1))))), ?_⟩
  cases a with
  | none => exact run_back (d' := .non) (v_ifT (b_orT (b_B (v_isN (x := .non) (v_var rfl))) rfl) v_non) (by cases b <;> rfl)
  | some a =>
    cases b with
    | none => exact run_ret (v_ifT (b_orF (b_B (v_isN (x := .int a) (v_var rfl))) rfl (b_B (v_isN (x := .non) (v_var rfl)))) v_non)
    | some b => exact run_ret (v_ifF (b_orF (b_B (v_isN (x := .int a) (v_var rfl))) rfl (b_B (v_isN (x := .int b) (v_var rfl)))) (v_add (v_var rfl) (v_var rfl)))
end
end K55

set_option maxHeartbeats 2000000
namespace K55
open PySem PySem.Spec PyProof.Rows L2
local macro_rules | `(tactic| walk_at "ev1") => `(tactic| first
  | exact v_var rfl | exact v_int | exact v_bl | exact v_non | exact v_str | exact a_nil | exact v_raw
  | apply a_cons
  | apply v_add | apply v_sub | apply v_mul | apply v_mod | apply v_fdiv | apply v_neg
  | apply v_lt | apply v_le | apply v_gt | apply v_ge | apply v_eqI | apply v_neI
  | apply v_isN | apply v_notN
  | apply b_B | apply b_test | apply b_not | apply b_and0 | apply b_or0
  | apply v_and0 | apply v_or0 | apply v_not
  | apply v_tup | apply v_lst
  | refine' v_cb ?_ c_int
  | exact Nat.le_of_ble_eq_true rfl)
local macro_rules | `(tactic| walk_at "ev") => `(tactic| repeat' walk_at "ev1")
local macro_rules | `(tactic| walk_at "weak") => `(tactic| repeat' (first | exact Weak.nil | apply Weak.same | apply Weak.less))
def lowO : Option Int → Int
  | none => -60
  | some f => f
def highO : Option Int → Int
  | none => 60
  | some l => l
def cnt (q : Row) : Nat := (highO q.last + 1 - lowO q.first).toNat
def badE : Ent → Bool
  | none => true
  | some x => !decide (x.1 = 0)
def badN (rows : List Row) (q : Row) : Bool := (List.range (cnt q)).any fun k : Nat => (lawAt rows (lowO q.first + (k : Int))).isNone
def badR (rows : List Row) (q : Row) : Bool := badN rows q || ((q.first.isNone || q.last.isNone) && q.ents.any badE)
def mvals (rows : List Row) (q : Row) (n : Nat) (m : Int) : Int := (List.range n).foldl (fun (m : Int) (k : Nat) => max m ((lawAt rows (lowO q.first + (k : Int))).getD 0)) m
def mval (rows : List Row) (q : Row) (m : Int) : Int := mvals rows q (cnt q) m
def lawMost (rows : List Row) : Option Int := bif rows.any (badR rows) then none else some (rows.foldl (fun m q => mval rows q m) 0)
def RowB (q : Row) : Prop := (∀ f, q.first = some f → -1000000 ≤ f ∧ f ≤ 1000000) ∧ ∀ l, q.last = some l → -1000000 ≤ l ∧ l ≤ 1000000
theorem mvals_succ (rows : List Row) (q : Row) (n : Nat) (m : Int) : mvals rows q (n + 1) m = max (mvals rows q n m) ((lawAt rows (lowO q.first + (n : Int))).getD 0) := by
  unfold mvals
  rw [List.range_succ, List.foldl_append]; rfl
section
variable {C : Addr} {P : Program} {w : World} {K : PySem.W.Frag} {mg : Str → Option Value} {base : Heap}
abbrev s__law_most : Stmt := topS 45
abbrev N__law_most : List Str := ["_law_rows_here", "_law_found", "_law_first", "_law_last", "_law_entries", "_law_low", "_law_high", "_law_number", "_law_told", "_law_entry_here"]
theorem sc__law_most : FnScope N__law_most ["_law_rows_here"] (defScope s__law_most) := ⟨rfl, rfl, rfl, by decide +kernel, rfl, by decide +kernel, by decide +kernel⟩
def F_law_most (ds : List D) (d : D) : Prop := ∃ rows : List Row, (∀ q, q ∈ rows → RowE q ∧ RowB q) ∧ ds = [.lst (rowsD rows)] ∧ d = oi (lawMost rows)
theorem ok_law_most {f : Addr} {fd : FuncData} (Fn : Fun K "_law_most" "_law_most" s__law_most f fd) (T : Bt K mg C) (G__law_at : Df P w K mg base 1 "_law_at" ["_law_rows_here", "_law_number"] (spD C F_law_at)) : FnOk P w K mg base CX0 2 f fd ["_law_rows_here"] (spD C F_law_most) := by
  refine def_ok Fn sc__law_most (by decide) (fun ds d h => by obtain ⟨_, _, rfl, _⟩ := h; rfl) fun cdv A outer s H E hr ds d hF => ?_
  obtain ⟨rows, hrow, rfl, rfl⟩ := hF
  have nd := sc__law_most.nd
  refine ⟨_, (pss_cons (ps_set (i := 1) nd rfl (.inl rfl) pe_int)
      (pss_cons (ps_for PassesOwn.never rfl (pi_list (pv 0)) (pg_tup (by rfl) (pgs_cons (pg_name (i := 2) nd rfl (.inl rfl)) (pgs_cons (pg_name (i := 3) nd rfl (.inl rfl)) (pgs_cons (pg_name (i := 4) nd rfl (.inl rfl)) pgs_nil)))) (pss_cons (ps_par (i := 5) (j := 6) (by rfl) nd rfl rfl (by decide) rfl rfl (pa_cons (pe_ifExp (pt_cmp (pc_isN (pv 2))) (pe_un un_neg pe_int) (pv 2)) (pa_cons (pe_ifExp (pt_cmp (pc_isN (pv 3))) pe_int (pv 3)) pa_nil)) (by rfl))
      (pss_cons (ps_for PassesOwn.never rfl (pi_range2 (by rfl) T.n_range (pa_cons (pv 5) (pa_cons (pe_op op_add (pv 6) pe_int) pa_nil))) (pg_name (i := 7) nd rfl (.inl rfl)) (pss_cons (ps_set (i := 8) nd rfl (.inl rfl) (pcall G__law_at (hr.mono (by first | decide | omega)) (by rfl) (pa_cons (pv 0) (pa_cons (pv 7) pa_nil))))
      (pss_cons (ps_if (pt_cmp (pc_isN (pv 8))) (pss_one (ps_ret pe_non)) pss_nil)
      (pss_one (ps_set (i := 1) nd rfl (.inl rfl) (pe_callB (call_max2 rfl) (by rfl) T.n_max bo_max (pa_cons (pv 1) (pa_cons (pv 8) pa_nil))))))))
      (pss_one (ps_if (PW.pt (pw_or (pt_cmp (pc_isN (pv 2))) (pw_or1 (pt_cmp (pc_isN (pv 3)))))) (pss_one (ps_if (pt_cmpR (op_neD hr.units) (pe_lc (own := [("_law_entry_here", 9)]) (by rfl) nd (pi_tup (pv 4)) (blkOk_by (own := [("_law_entry_here", 9)]) (N := N__law_most) (sc := defScope s__law_most) (by decide +kernel)) (fun _ _ _ _ _ => (pg_name (i := 9) nd rfl (.inl rfl))) (fun _ _ _ _ _ => (pts_one (PW.pt (pw_or (pt_cmp (pc_isN (pv 9))) (pw_or1 (pt_cmpR op_ne (pe_ix (ixT (K := K) rfl) (pv 9) pe_int (fun _ _ => rfl)) pe_int (nomark _))))))) (fun _ _ _ _ _ => (pv 9))) (pe_lst pa_nil) (nomark _)) (pss_one (ps_ret pe_non)) pss_nil)) pss_nil)))))
      (pss_one (ps_ret (pv 1))))), ?_⟩
  apply run_let v_int
  let ms : Nat → Int := fun i => (rows.take i).foldl (fun m q => mval rows q m) 0
  let ρs : Nat → Env := fun i => [some (.lst (rowsD rows)), some (.int (ms i)), none, none, none, none, none, none, none, none]
  have e3 : (rowsD rows).length = rows.length := by unfold rowsD; rw [List.length_map]
  have body : ∀ (i : Nat) (q : Row), rows[i]? = some q → Run C (tSeq (tPar 5 6 (tCons (tIf (tB (tIsN (tVar 2))) (tUn (rU fun i => V.int (-i)) (tC (.int 60))) (tVar 2)) (tCons (tIf (tB (tIsN (tVar 3))) (tC (.int 60)) (tVar 3)) tNil)))
      (tSeq (tFor (iRng2 (tCons (tVar 5) (tCons (tOp (rI0 fun i j => .int (i + j)) (tVar 6) (tC (.int 1))) tNil))) (gName 7) (tSeq (tAsg (tCall (spD C F_law_at) [] E0 (tCons (tVar 0) (tCons (tVar 7) tNil))) (gName 8))
        (tSeq (tIfS (tB (tIsN (tVar 8))) (tRet (tC .non)) tNext) (tAsg (tCB (fun xs H Q => ∃ i j : Int, xs = [V.int i, V.int j] ∧ Q (.int (if j > i then j else i)) H) (tCons (tVar 1) (tCons (tVar 8) tNil))) (gName 1)))))
      (tIfS (tOr (tB (tIsN (tVar 2))) (tB (tIsN (tVar 3)))) (tIfS (tTest (tOp (rNeD K) (tLc (iTup K (tVar 4)) (gName 9) (tOr (tB (tIsN (tVar 9))) (tTest (tOp rNe (tOp (rIxT K) (tVar 9) (tC (.int 0))) (tC (.int 0))))) (tVar 9) [9]) (tLst tNil))) (tRet (tC .non)) tNext) tNext)))
      [some (.lst (rowsD rows)), some (.int (ms i)), some (oi q.first), some (oi q.last), some (.tup (q.ents.map eD)), none, none, none, none, none] (fun σ B => badR rows q = false ∧ Sat C σ B (ρs (i + 1))) (fun v B => badR rows q = true ∧ Rep C B v .non) := fun i q hq => by
    have hmem := List.mem_of_getElem? hq
    obtain ⟨hE, hB⟩ := hrow q hmem
    have hms : ms (i + 1) = mval rows q (ms i) := by
      show (rows.take (i + 1)).foldl _ 0 = _
      rw [List.take_add_one, hq, List.foldl_append]; rfl
    have hlo : -1000000 ≤ lowO q.first ∧ lowO q.first ≤ 1000000 := by
      cases hf : q.first with
      | none => exact ⟨by decide, by decide⟩
      | some f => exact hB.1 f hf
    have hhi : -1000000 ≤ highO q.last ∧ highO q.last ≤ 1000000 := by
      cases hf : q.last with
      | none => exact ⟨by decide, by decide⟩
      | some f => exact hB.2 f hf
    refine run_let2 (x := .int (lowO q.first)) (y := .int (highO q.last)) (a_cons ?_ (a_cons ?_ a_nil)) ?_
    · cases q.first with
      | none => exact v_ifT (b_B (v_isN (x := .non) (v_var rfl))) (v_neg v_int)
      | some f => exact v_ifF (b_B (v_isN (x := .int f) (v_var rfl))) (v_var rfl)
    · cases q.last with
      | none => exact v_ifT (b_B (v_isN (x := .non) (v_var rfl))) v_int
      | some f => exact v_ifF (b_B (v_isN (x := .int f) (v_var rfl))) (v_var rfl)
    let ρi : Nat → Env := fun j => [some (.lst (rowsD rows)), some (.int (mvals rows q j (ms i))), some (oi q.first), some (oi q.last), some (.tup (q.ents.map eD)), some (.int (lowO q.first)), some (.int (highO q.last)), none, none, none]
    have turn : ∀ j : Nat, Run C (tSeq (tAsg (tCall (spD C F_law_at) [] E0 (tCons (tVar 0) (tCons (tVar 7) tNil))) (gName 8))
        (tSeq (tIfS (tB (tIsN (tVar 8))) (tRet (tC .non)) tNext) (tAsg (tCB (fun xs H Q => ∃ i j : Int, xs = [V.int i, V.int j] ∧ Q (.int (if j > i then j else i)) H) (tCons (tVar 1) (tCons (tVar 8) tNil))) (gName 1)))) ((ρi j).set 7 (some (.int (lowO q.first + (j : Int)))))
        (fun σ B => lawAt rows (lowO q.first + (j : Int)) ≠ none ∧ Sat C σ B (ρi (j + 1))) (fun v B => lawAt rows (lowO q.first + (j : Int)) = none ∧ Rep C B v .non) := fun j => by
      refine run_let (d := oi (lawAt rows (lowO q.first + (j : Int)))) (v_call0 (F := F_law_at) (ds := [.lst (rowsD rows), .int (lowO q.first + (j : Int))]) (a_cons (v_var rfl) (a_cons (v_var rfl) a_nil)) ⟨rows, _, fun p hp => (hrow p hp).1, rfl, rfl⟩) ?_
      cases ht : lawAt rows (lowO q.first + (j : Int)) with
      | none => exact (run_out (b_B (v_isN (x := .non) (v_var rfl))) rfl (run_ret v_non)).imp (fun _ _ z => z) fun v B z => ⟨rfl, z⟩
      | some v =>
        refine run_by (b_B (v_isN (x := .int v) (v_var rfl))) rfl ?_
        have e1 : (if v > mvals rows q j (ms i) then v else mvals rows q j (ms i)) = mvals rows q (j + 1) (ms i) := by
          rw [mvals_succ, ht]
          show _ = max (mvals rows q j (ms i)) v
          split <;> omega
        refine (run_set (R := fun _ _ => False) (v_cb (a_cons (v_var rfl) (a_cons (v_var (d := .int v) rfl) a_nil)) (c_max2 (i := mvals rows q j (ms i)) (j := v)))).imp (fun σ B z => ⟨(fun w => nomatch w), ?_⟩) fun _ _ z => z.elim
        rw [e1] at z
        exact Sat.weak z (by walk_at "weak")
    have rng : (highO q.last + 1 - lowO q.first).toNat = cnt q := rfl
    cases hb : badN rows q with
    | true =>
      have hbr : badR rows q = true := by unfold badR; rw [hb]; rfl
      refine run_seqR (run_forR2 (i := lowO q.first) (j := highO q.last + 1) (a_cons (v_var rfl) (a_cons (v_add (v_var rfl) v_int) a_nil)) ⟨by omega, by omega, by omega, by omega⟩ ρi (fun j => ∀ k : Nat, k < j → lawAt rows (lowO q.first + (k : Int)) ≠ none) (fun k hk => absurd hk (Nat.not_lt_zero k)) (fun _ _ h => h) (fun j hj hF => ⟨_, _, g_name, (turn j).imp (fun σ B z => ⟨fun k hk => ?_, z.2⟩) fun v B z => ⟨hbr, z.2⟩⟩) fun hF σ B h => ?_)
      · by_cases hkj : k = j
        · rw [hkj]; exact z.1
        · exact hF k (by omega)
      · obtain ⟨k, hk, hn⟩ := List.any_eq_true.mp hb
        have := hF k (by rw [rng]; exact List.mem_range.mp hk)
        cases hz : lawAt rows (lowO q.first + (k : Int)) with
        | none => exact absurd hz this
        | some _ => rw [hz] at hn; cases hn
    | false =>
      have hno : ∀ k : Nat, k < cnt q → lawAt rows (lowO q.first + (k : Int)) ≠ none := fun k hk z => by
        have := List.any_eq_false.mp hb k (List.mem_range.mpr hk)
        rw [z] at this
        exact this rfl
      refine run_seq (ρ1 := ρi (cnt q)) (run_forR2 (i := lowO q.first) (j := highO q.last + 1) (a_cons (v_var rfl) (a_cons (v_add (v_var rfl) v_int) a_nil)) ⟨by omega, by omega, by omega, by omega⟩ ρi (fun _ => True) trivial (fun _ _ h => h) (fun j hj _ => ⟨_, _, g_name, (turn j).imp (fun σ B z => ⟨trivial, z.2⟩) fun v B z => absurd z.1 (hno j hj)⟩) fun _ σ B h => h) ?_
      have hend : EvB C (tOr (tB (tIsN (tVar 2))) (tB (tIsN (tVar 3)))) (ρi (cnt q)) (q.first.isNone || q.last.isNone) :=
        (b_or0 (b_B (v_isN (x := oi q.first) (v_var rfl))) (b_B (v_isN (x := oi q.last) (v_var rfl)))).is (by cases q.first <;> cases q.last <;> rfl)
      have hz : mvals rows q (cnt q) (ms i) = ms (i + 1) := hms.symm
      have next : ∀ {σ : L2.St} {B : Hp}, badR rows q = false → Sat C σ B (ρi (cnt q)) → badR rows q = false ∧ Sat C σ B (ρs (i + 1)) := fun {σ B} hbad h => ⟨hbad, Sat.weak (b := ρi (cnt q)) h (by
        show Weak [some (.lst (rowsD rows)), some (.int (ms (i + 1))), none, none, none, none, none, none, none, none] [some (.lst (rowsD rows)), some (.int (mvals rows q (cnt q) (ms i))), some (oi q.first), some (oi q.last), some (.tup (q.ents.map eD)), some (.int (lowO q.first)), some (.int (highO q.last)), none, none, none]
        rw [hz]
        walk_at "weak")⟩
      cases he : q.first.isNone || q.last.isNone with
      | false =>
        rw [he] at hend
        exact run_ifN hend rfl (run_next fun σ B h => next (by unfold badR; rw [hb, he]; rfl) h)
      | true =>
        rw [he] at hend
        refine run_ifY hend rfl ?_
        have hlc : EvP C (tLc (iTup K (tVar 4)) (gName 9) (tOr (tB (tIsN (tVar 9))) (tTest (tOp rNe (tOp (rIxT K) (tVar 9) (tC (.int 0))) (tC (.int 0))))) (tVar 9) [9]) (ρi (cnt q)) (.lst ((q.ents.filter badE).map eD)) := v_lcT (ts := q.ents) (enc := eD) (f := badE) (o := eD) (v_var rfl) hE.2.1 fun e hm => ⟨_, _, g_name, by simp, by
          rcases e with _ | ⟨a, b, c⟩
          · exact b_orT (b_B (v_isN (x := .non) (v_var rfl))) rfl
          · exact b_orF (b_B (v_isN (x := eD (some (a, b, c))) (v_var rfl))) rfl (b_test (v_neI (v_ixT (z := .int a) (v_var rfl) v_int rfl) v_int)), fun _ => v_var rfl⟩
        have hp : (D.lst ((q.ents.filter badE).map eD)).pure = true := by
          unfold D.pure
          exact pures_of fun x hx => by
            obtain ⟨e, _, rfl⟩ := List.mem_map.mp hx
            exact pure_eD e
        have hdp : dep (D.lst ((q.ents.filter badE).map eD)) ≤ 2 := by
          unfold dep
          have : deps ((q.ents.filter badE).map eD) ≤ 1 := deps_of fun x hx => by
            obtain ⟨e, _, rfl⟩ := List.mem_map.mp hx
            exact dep_eD e
          omega
        have hne : EvB C (tTest (tOp (rNeD K) (tLc (iTup K (tVar 4)) (gName 9) (tOr (tB (tIsN (tVar 9))) (tTest (tOp rNe (tOp (rIxT K) (tVar 9) (tC (.int 0))) (tC (.int 0))))) (tVar 9) [9]) (tLst tNil))) (ρi (cnt q)) (q.ents.any badE) := b_test (v_neP hlc (v_lst a_nil (Nat.zero_le _)) hp (pure_ints []) (Nat.le_trans hdp (by decide)) (by decide) (by
          rw [eqv_nil]
          cases hany : q.ents.any badE with
          | false =>
            have hnil : q.ents.filter badE = [] := List.filter_eq_nil_iff.mpr fun e he => List.any_eq_false.mp hany e he
            rw [hnil]; rfl
          | true =>
            obtain ⟨e, hm, hbe⟩ := List.any_eq_true.mp hany
            have hm2 : e ∈ q.ents.filter badE := List.mem_filter.mpr ⟨hm, hbe⟩
            cases hl : q.ents.filter badE with
            | nil => rw [hl] at hm2; cases hm2
            | cons _ _ => rfl))
        cases hany : q.ents.any badE with
        | true =>
          rw [hany] at hne
          exact run_ifY hne rfl ((run_ret v_non).imp (fun _ _ z => z) fun v B z => ⟨by unfold badR; rw [hb, he, hany]; rfl, z⟩)
        | false =>
          rw [hany] at hne
          exact run_ifN hne rfl (run_next fun σ B h => next (by unfold badR; rw [hb, he, hany]; rfl) h)
  cases hany : rows.any (badR rows) with
  | true =>
    have hres : oi (lawMost rows) = .non := by unfold lawMost; rw [hany]; rfl
    rw [hres]
    refine run_seqR (run_forL (items := rowsD rows) (v_var rfl) ρs (fun i => ∀ q, q ∈ rows.take i → badR rows q = false) (by simp) (fun _ _ h => h) (fun i z hi hF => ?_) fun hF σ B h => ?_)
    · unfold rowsD at hi
      rw [List.getElem?_map] at hi
      cases hz : rows[i]? with
      | none => rw [hz] at hi; cases hi
      | some q =>
        rw [hz] at hi
        cases hi
        refine ⟨_, _, g_tup (gs_cons g_name (gs_cons g_name (gs_cons g_name gs_nil))) rfl, (body i q hz).imp (fun σ B z => ⟨fun k hk => ?_, z.2⟩) fun v B z => z.2⟩
        rw [List.take_add_one, hz] at hk
        rcases List.mem_append.mp hk with hk2 | hk2
        · exact hF k hk2
        · have : k = q := by simpa using hk2
          rw [this]; exact z.1
    · obtain ⟨q, hq, hb⟩ := List.any_eq_true.mp hany
      rw [e3, List.take_length] at hF
      rw [hF q hq] at hb
      cases hb
  | false =>
    have hres : oi (lawMost rows) = .int (ms rows.length) := by
      unfold lawMost
      rw [hany]
      show D.int _ = D.int ((rows.take rows.length).foldl _ 0)
      rw [List.take_length]
    rw [hres]
    refine run_seq (ρ1 := ρs rows.length) (run_forL (items := rowsD rows) (v_var rfl) ρs (fun _ => True) trivial (fun _ _ h => h) (fun i z hi _ => ?_) fun _ σ B h => by rw [e3] at h; exact h) (run_ret (v_var rfl))
    unfold rowsD at hi
    rw [List.getElem?_map] at hi
    cases hz : rows[i]? with
    | none => rw [hz] at hi; cases hi
    | some q =>
      rw [hz] at hi
      cases hi
      refine ⟨_, _, g_tup (gs_cons g_name (gs_cons g_name (gs_cons g_name gs_nil))) rfl, (body i q hz).imp (fun σ B z => ⟨trivial, z.2⟩) fun v B z => ?_⟩
      have := List.any_eq_false.mp hany q (List.mem_of_getElem? hz)
      exact absurd z.1 this
end
end K55

set_option maxHeartbeats 2000000
/-! K55, own rule 4: calls by keywords alone; != by the own __eq__; repr of None and ints. -/
namespace K55
open PySem PySem.Spec PyProof.Rows L2
section
variable {X : Cx} {CX : CXT} {k : Nat} {f : Addr} {fd : FuncData} {ps ks : List Str} {sp : Sp} {E : XK} {g : List Value → List Value → List Value} {gV : List V → List V → List V} {kws : List Keyword} {tk : TA} {x : Str} {p pos : Pos}
def tCallK0 (sp : Sp) (gV : List V → List V → List V) (E : XK) (tk : TA) : TE := fun σ H Q => tk σ H fun zs H1 => sp (gV [] zs) H1 Q E
/-- f(k = v, ..) -/
theorem pe_callK0 (F : FnOk X.prog X.w X.K X.mg X.base CX k f fd ps sp) (room : Room k X.A) (glob : Gl X x) (held : X.mg x = some (.ref f)) (kept : PySem.W.keepIn X.K (.ref f) = true) (bd : KBinds X.K fd ps ks g gV) (pass : Passes CX X E) (kw : PK X kws tk)
    (named : (backToKw pos (keywordEach kws X.env)).all (·.1.isSome) = true := by rfl) (names : (backToKw pos (keywordEach kws X.env)).filterMap (·.1) = ks := by rfl) (nodebug : (x == ("__debug__" : Str)) = false := by decide)
    (plain : ((backTo pos (starEach [] X.env)).any (·.1) || (backToKw pos (keywordEach kws X.env)).any (·.1.isNone)) = false := by rfl) :
    PE X (.Call (.Name x p) [] kws pos) (tCallK0 sp gV E tk) := by
  refine ⟨fun pins s σ H Q I h => wpAny_Call_Name_kw (ld_glob I glob held ?_ nodebug)⟩
  refine PySem.W.callWith_KW0 (h₀ := X.base) I.ok.mod.kin kept named ?_ plain
  refine thn (kw.run pos pins s σ H _ I h) fun ws s2 ⟨zs, H2, I2, rz, q2⟩ => ⟨I2.kIn, ?_⟩
  rw [names]
  exact run_fnk (us := []) (vs := []) F room bd pass I2 .nil rz q2
end
/-! ### a != b by the own == -/
section
variable {M : Model} {A : Around} {E : Value → Shared → Prop} {s : Shared} {K : PySem.W.Frag} {x C : Addr} {ox : Obj} {od : Option Obj}
theorem bound_ne {more : List Value} {Q : Option Value → Shared → Prop} (inK : K.In s.heap) (isI : PySem.W.InstAt s.heap x ox C od) (own : PySem.W.findIn K (.ref C) "__ne__" = some (some (.builtin "object.__ne__")))
    (go : wpAny M A (call (.builtin "object.__ne__") (.ref x :: more)) (fun v => Q (some v)) E s) : wpAny M A (callSpecialIfBound? (.ref x) "__ne__" more) Q E s := by
  simp only [callSpecialIfBound?, bindSpecialIfBound?]
  refine wpAny_holding (wpAny_bind (wpAny_bind (wpAny_bind (isI.type.here ((PySem.W.looks_findIn inK own).here ?_)))))
  refine wpAny_bind (wpAny_askSetting (wpAny_ite ?_))
  have done : wpAny M A (call (.builtin "object.__ne__") ([.ref x] ++ more) >>= fun v => pure (some v)) Q E s := wpAny_bind (wpAny_mono go (fun v t z => wpAny_pure z) fun _ _ z => z)
  split
  · exact wpAny_bind (wpAny_of_eq (PySem.F.cmp_object.ne.bind _) (wpAny_pure (by exact done)))
  · exact wpAny_tryCatch (wpAny_bind (wpAny_of_eq (PySem.F.cmp_object.ne.bind _) (wpAny_pure (by exact done))))
end
section
variable {X : Cx}
def rNeI (C : Addr) (sp : Sp) : R2 := fun x y H Q => ∃ a b dx dy fs gs, x = .ref a ∧ y = .ref b ∧ H a = some (.ins C dx fs) ∧ H b = some (.ins C dy gs) ∧ sp [x, y] H (fun v H1 => ∃ k, v = .bl k ∧ Q (.bl (!k)) H1) E0
theorem op_neI {C f : Addr} {fd : FuncData} {ps : List Str} {sp : Sp} {n : Nat} (F : FnOk X.prog X.w X.K X.mg X.base CX0 n f fd ps sp) (own : PySem.W.findIn X.K (.ref C) "__eq__" = some (some (.ref f))) (noNe : PySem.W.findIn X.K (.ref C) "__ne__" = some (some (.builtin "object.__ne__")))
    (under : PySem.W.mroIn X.K C (.type "object") = some true) (isF : PySem.W.isFn X.K (.ref f) = true) (bd : Binds X.K fd ps []) (room : Room (n + 1) X.A) : OpR X (compareOp .NotEq) (rNeI C sp) := by
  intro pins s σ H x y u v Q I rx ry hyp
  obtain ⟨a, b, dx, dy, fs, gs, rfl, rfl, ha, hb, hsp⟩ := hyp
  cases rx
  cases ry
  obtain ⟨mA, JA, _⟩ := ins_get I.hok ha
  obtain ⟨mB, JB, _⟩ := ins_get I.hok hb
  obtain ⟨oA, JA, _⟩ := JA.look
  obtain ⟨oB, JB, _⟩ := JB.look
  have units0 := room.units0
  have units1 : X.A.in1.units < cLine := by have := room.un; show X.A.units + 1 < cLine; omega
  show wpAny _ _ (richCompare .NotEq (.ref a) (.ref b)) _ _ s
  -- the own ==, one step further in
  have eqCall : wpAny (model X.prog X.w) X.A.in1 (call (.ref f) [.ref a, .ref b]) (fun r t => ∃ k, r = .bool k ∧ EP X pins σ Q (.bool (!k)) t) X.xe s := by
    have e0 : Env0 X.prog X.w X.K X.mg X.base X.A.in1 X.stack s H := I.env0.in1
    have len := F.len _ _ _ _ hsp
    have vals : Vals [V.ref a, V.ref b] [Value.ref a, Value.ref b] := .cons rfl (.cons rfl .nil)
    refine wpAny_call (codeAny_mono (F.run X.A.in1 X.stack s H ⟨[.ref a, .ref b], []⟩ [.ref a, .ref b] [.ref a, .ref b] _ E0 room.in1 e0 (by
      have z := bd s [.ref a, .ref b] I.kIn (by simpa using len)
      simpa using z) vals hsp) fun r t hq => ?_)
    cases r with
    | error e => exact (pass0 (X := X) pins σ H s e t I hq)
    | ok fl =>
      cases fl with
      | ret w1 =>
        obtain ⟨z, H1, I1, rz, k, rfl, q1⟩ := I.after hq
        cases rz
        exact ⟨k, rfl, .bl (!k), H1, I1, rfl, q1⟩
      | next => exact False.elim hq
      | brk => exact False.elim hq
      | cont => exact False.elim hq
  have neCall : wpAny (model X.prog X.w) X.A (call (.builtin "object.__ne__") [.ref a, .ref b]) (fun r t => ∃ k : Bool, r = .bool k ∧ EP X pins σ Q (.bool k) t) X.xe s := by
    refine wpAny_call (codeAny_call_builtin PySem.F.cmp_object.ne.plain PySem.F.cmpEntry_ne (PySem.W.check_slot PySem.F.cmpKind_ne PySem.F.cmpSplit_ne (JA.type.andThen (PySem.W.looks_mroIn I.kIn under)) (PySem.F.cmpArgs_ne _ _) ?_))
    unfold Builtin.«object.__ne__»
    repeat (first
      | with_reducible refine wpAny_cRoomFor units1 ?_
      | (refine wpAny_bind (m := callSpecialIfBound? (.ref a) (Str.ofString "__eq__") [.ref b]) (PySem.W.ifBound_K I.kIn JA own isF (wpAny_mono eqCall (fun r t hr => by
          obtain ⟨k, rfl, q1⟩ := hr
          repeat (first | exact ⟨_, rfl, q1⟩ | exact ⟨_, rfl, _, rfl, q1⟩ | exact wpAny_pure ⟨_, rfl, q1⟩ | (refine wpAny_bind (m := truthy (.bool _)) (wpAny_truthy_bool ?_)) | wp_step)) fun _ _ e => e)))
      | wp_step)
  have tried : wpAny (model X.prog X.w) X.A (tryCompare (.ref a) "__ne__" (.ref b)) (fun r t => ∃ k : Bool, r = some (.bool k) ∧ EP X pins σ Q (.bool k) t) X.xe s := by
    unfold tryCompare
    refine wpAny_bind (bound_ne I.kIn JA noNe (wpAny_mono neCall (fun r t hr => ?_) fun _ _ e => e))
    obtain ⟨k, rfl, q1⟩ := hr
    exact wpAny_pure ⟨k, rfl, q1⟩
  unfold richCompare
  simp only [oneThing_ref]
  refine wpAny_holding (wpAny_bind (wpAny_cRoomFor units0 ?_))
  rw [cmpInfo_NotEq]
  refine wpAny_bind (JA.type.here (wpAny_bind (JB.type.here ?_)))
  split
  · rename_i odd
    exact absurd odd (by simp)
  · refine wpAny_bind (wpAny_pure ?_)
    simp only [Bool.false_eq_true, if_false]
    refine wpAny_bind (wpAny_mono tried (fun r t hr => ?_) fun _ _ e => e)
    obtain ⟨k, rfl, q1⟩ := hr
    exact wpAny_pure q1
/-! ### repr -/
theorem rp_none : CallR X (.builtin "repr") (fun xs H Q => xs = [.non] ∧ Q (.str "None") H) := by
  intro pins s σ H xs us Q I r hyp
  obtain ⟨rfl, q⟩ := hyp
  cases r with
  | cons r1 r2 =>
    cases r1
    cases r2
    exact PySem.P.repr_of_none ⟨.str "None", H, I.tok _, ⟨_, rfl⟩, q⟩
/-- repr of None or an int -/
def rRp : List V → Hp → VK → Prop := fun xs H Q => (xs = [.non] ∧ Q (.str "None") H) ∨ ∃ i, xs = [.int i] ∧ i.natAbs.log2 < 1920 ∧ Q (.str (toString i)) H
theorem call_rp : CallR X (.builtin "repr") rRp := by
  intro pins s σ H xs us Q I r hyp
  rcases hyp with q | q
  · exact rp_none pins s σ H xs us Q I r q
  · exact SkE.call_repr_int pins s σ H xs us Q I r q
end
/-- the text of None or an int -/
def rpr : Option Int → Str
  | none => "None"
  | some i => toString i
section
variable {C : Addr}
theorem c_rp {o : Option Int} (h : ∀ i, o = some i → i.natAbs.log2 < 1920) : RcP C rRp [oi o] (.str (rpr o)) := fun B H e vs r Q q => by
  obtain ⟨v, ws, rfl, h1, h2⟩ := r.cons_inv
  rw [h2.nil_inv]
  cases o with
  | none =>
    rw [h1.non_inv]
    exact .inl ⟨rfl, q _ B H (.refl e) (.str _)⟩
  | some i =>
    rw [h1.int_inv]
    exact .inr ⟨i, rfl, h i rfl, q _ B H (.refl e) (.str _)⟩
end
end K55

set_option maxHeartbeats 2000000
/-! K55, own rule 5: a def called where no text of a list is under way (repr of a list); the end of the law from such a promise. -/
namespace K55
open PySem PySem.Spec PyProof.Rows L2
section
variable (P : Program) (w : World) (K : PySem.W.Frag) (mg : Str → Option Value) (base : Heap)
/-- a def's promise, the stack free of texts under way -/
structure FnG (k : Nat) (f : Addr) (fd : FuncData) (ps : List Str) (sp : Sp) : Prop where
  few : ∀ vs H Q E, sp vs H Q E → vs.length = ps.length
  go : ∀ (A : Around) (outer : List PySem.Env) (s : Shared) (H : Hp) (args : Args) (us : List Value) (vs : List V) (Q : VK) (E : XK), A.guards = some [] → Room k A → Env0 P w K mg base A outer s H → BindsTo s fd args (ps.zip us) → Vals vs us →
    sp vs H Q E → codeAny (model P w) A (.call (.ref f) args) (CR CX0 outer P w H s Q E) s
end
section
variable {P : Program} {w : World} {K : PySem.W.Frag} {mg : Str → Option Value} {base : Heap}
theorem FnG.of {x qual : Str} {st : Stmt} {f : Addr} {fd : FuncData} {N ps : List Str} {k : Nat} {sp : Sp} (Fn : Fun K x qual st f fd) (S : FnScope N ps (defScope st)) (few : ∀ vs H Q E, sp vs H Q E → vs.length = ps.length)
    (inner : ∀ (cdv : Value) (A : Around) (outer : List PySem.Env) (s : Shared) (H : Hp) (vs : List V) (Q : VK) (E : XK), (A.deeper (envOfC qual (defScope st) s.heap.objs.size f cdv)).guards = some [] → Room k (A.deeper (envOfC qual (defScope st) s.heap.objs.size f cdv)) → sp vs H Q E →
      ∃ t, PSs (cxOf CX0 P w K mg base N qual (defScope st) f cdv A outer s H E).nox (defBody st) t ∧ t { nx := fun _ H' => Q .non H', rt := Q } (L2.start N vs) H) : FnG P w K mg base (k + 1) f fd ps sp := by
  obtain ⟨oc, od, kV, doc, pm, an, cdv, ct, osl, rfl, held, code⟩ := Fn.ex
  refine ⟨few, fun A outer s H args us vs Q E free room e0 bd rel hyp => ?_⟩
  have cnt := few _ _ _ _ hyp
  have inK : K.In s.heap := e0.mod.kin.keeps fun b o e => (e0.bs b o e).1
  have noLim : s.heap.NoLimit := e0.mod.nolimit.keeps fun b o e => (e0.bs b o e).1
  have kinds : ∀ y ∈ ps.zip us, (defScope st).names.lookup y.1 = some .local ∨ ((defScope st).names.lookup y.1 = some .cell ∧ ((cellsFrom (s.heap.objs.size + 1) (defScope st).names []).lookup y.1).isSome = true) := fun ⟨nm, v⟩ hy =>
    (S.par nm (List.of_mem_zip hy).1).elim .inl fun q => .inr ⟨q, PySem.W.cellsFrom_some _ _ _ (.inl q)⟩
  refine codeAny_call_function room.depth (inK _ _ held) rfl S.co S.gen rfl (PySem.W.codeRec_of inK code) (bd _ _ _ _ ?_)
  refine wpAny_newFunctionEnv_cells S.kind kinds fun env same s1 ent => ?_
  subst same
  refine ⟨noLim.keeps ent.toInCall.keep, codeAny_func ?_⟩
  obtain ⟨t, ht, hq⟩ := inner cdv A outer s H vs Q E (by first | exact free | (simpa [Around.deeper] using free)) (room.deeper _) hyp
  have J : Inv (cxOf CX0 P w K mg base N qual (defScope st) f cdv A outer s H E) [] (L2.start N vs) H s1 := inv_start S room.hd e0 cnt rel ent
  refine wpAny_mono (ht.nox.run [] s1 (L2.start N vs) H _ J hq) (fun fl t1 ends => ?_) fun e t1 bad => bad
  cases fl with
  | ret u =>
    obtain ⟨v, σ1, H1, J1, rv, q⟩ := ends
    exact ⟨v, H1, J1.os, J1.bare, J1.base, J1.hok, rv, q⟩
  | next =>
    obtain ⟨σ1, H1, J1, q⟩ := ends
    exact ⟨V.non, H1, J1.os, J1.bare, J1.base, J1.hok, rfl, q⟩
  | brk => obtain ⟨_, _, _, q⟩ := ends; exact False.elim q
  | cont => obtain ⟨_, _, _, q⟩ := ends; exact False.elim q
end
section
variable {X : Cx} {k : Nat} {f : Addr} {fd : FuncData} {ps : List Str} {sp : Sp} {x : Str} {p pos : Pos} {e : Expr} {es : List Expr} {t : TA}
/-- such a def, called -/
theorem pe_callG (F : FnG X.prog X.w X.K X.mg X.base k f fd ps sp) (free : X.A.guards = some []) (room : Room k X.A) (glob : Gl X x) (held : X.mg x = some (.ref f)) (kept : PySem.W.keepIn X.K (.ref f) = true) (bd : Binds X.K fd ps []) (ha : PA X (e :: es) t)
    (nodebug : (x == ("__debug__" : Str)) = false := by decide) (star : starEach (e :: es) X.env = (false, eval e X.env) :: starEach es X.env := by rfl) (plain : (backTo pos (starEach es X.env)).any (·.1) = false := by rfl) :
    PE X (.Call (.Name x p) (e :: es) [] pos) (tCall sp [] E0 t) := by
  refine ⟨fun pins s σ H Q I h => wpAny_Call_Name_kw (ld_glob I glob held ?_ nodebug)⟩
  refine PySem.W.callWith_K (h₀ := X.base) I.ok.mod.kin kept ?_ star plain
  refine thn (ha.run pos pins s σ H _ I h) fun us s1 ⟨vs, H1, I1, r, q⟩ => ⟨I1.kIn, ?_⟩
  have q : sp (vs ++ []) H1 Q E0 := q
  rw [List.append_nil] at q
  show wpAny _ _ (call (.ref f) us) _ _ _
  have cnt : us.length = ps.length := by rw [← r.length]; exact F.few _ _ _ _ q
  refine wpAny_call (codeAny_mono (F.go X.A X.stack s1 H1 ⟨us, []⟩ us vs Q E0 free room I1.env0 (by
    have z := bd s1 us I1.kIn (by simpa using cnt)
    simpa using z) r q) fun r2 s2 hq => ?_)
  cases r2 with
  | error er => exact (pass0 (X := X) pins σ H1 s1 er s2 I1 hq)
  | ok fl =>
    cases fl with
    | ret u => exact I1.after hq
    | next => exact False.elim hq
    | brk => exact False.elim hq
    | cont => exact False.elim hq
/-- repr of a list or tuple of data -/
def rRpD (K : PySem.W.Frag) : List V → Hp → VK → Prop := fun xs H Q => ∃ v d, xs = [v] ∧ Dp K H v d ∧ (∃ a, v = V.ref a) ∧ d.showable = true ∧ d.hasDict = false ∧ d.depth ≤ 8 ∧ d.shown.length ≤ sizeLine ∧ Q (.str d.shown) H
theorem call_rpD (free : X.A.guards = some []) (units : X.A.units + 64 < cLine) : CallR X (.builtin "repr") (rRpD X.K) := by
  intro pins s σ H xs us Q I r hyp
  obtain ⟨v, d, rfl, hd, ⟨a, rfl⟩, sh, nd, dp, len, q⟩ := hyp
  cases r with
  | cons r1 r2 =>
    cases r1
    cases r2
    obtain ⟨as, rds⟩ := Dp.reads I d (.ref a) (.ref a) hd rfl
    exact repr_of_reads' rds sh (fun z => by rw [nd] at z; cases z) free (by omega) (fun _ _ e => e) (fun h1 u1 tk1 keep => ⟨.str d.shown, H, I.kept (t' := tk1) keep, ⟨_, rfl⟩, q⟩) len
end
end K55

set_option maxHeartbeats 2000000
namespace K55
open PySem PySem.Spec PyProof.Rows L2
local macro_rules | `(tactic| walk_at "ev1") => `(tactic| first
  | exact v_var rfl | exact v_int | exact v_bl | exact v_non | exact v_str | exact a_nil | exact v_raw
  | apply a_cons
  | apply v_add | apply v_sub | apply v_mul | apply v_mod | apply v_fdiv | apply v_neg
  | apply v_lt | apply v_le | apply v_gt | apply v_ge | apply v_eqI | apply v_neI
  | apply v_isN | apply v_notN
  | apply b_B | apply b_test | apply b_not | apply b_and0 | apply b_or0
  | apply v_and0 | apply v_or0 | apply v_not
  | apply v_tup | apply v_lst
  | refine' v_cb ?_ c_int
  | exact Nat.le_of_ble_eq_true rfl)
local macro_rules | `(tactic| walk_at "ev") => `(tactic| repeat' walk_at "ev1")
local macro_rules | `(tactic| walk_at "weak") => `(tactic| repeat' (first | exact Weak.nil | apply Weak.same | apply Weak.less))
section
variable {C : Addr} {P : Program} {w : World} {K : PySem.W.Frag} {mg : Str → Option Value} {base : Heap}
/-! ### Rule.__eq__ -/
abbrev s_Rule_eq : Stmt := inClass (topS 26) 1
abbrev N_Rule_eq : List Str := ["self", "other"]
theorem sc_Rule_eq : FnScope N_Rule_eq ["self", "other"] (defScope s_Rule_eq) := ⟨rfl, rfl, rfl, by decide +kernel, rfl, by decide +kernel, by decide +kernel⟩
def F_eq (ds : List D) (d : D) : Prop := ∃ qs : List Row, ds = [.rule (rowsD qs), .rule (rowsD qs)] ∧ d = .bl true
theorem ok_eq {f : Addr} {fd : FuncData} (Fn : Fun K "__eq__" "Rule.__eq__" s_Rule_eq f fd) (T : Bt K mg C) : FnOk P w K mg base CX0 1 f fd ["self", "other"] (spD C F_eq) := by
  refine def_ok Fn sc_Rule_eq (by decide) (fun ds d h => by obtain ⟨_, rfl, _⟩ := h; rfl) fun cdv A outer s H E hr ds d hF => ?_
  obtain ⟨qs, rfl, rfl⟩ := hF
  have nd := sc_Rule_eq.nd
  refine ⟨_, (pss_one (ps_ret (pe_and (pe_callB (C8.call_isC T.ic) (by rfl) T.n_isinstance bo_isinstance (pa_cons (pv 1) (pa_cons (pe_glob (v := .ref C) (by rfl) T.mgC rfl) pa_nil))) (pe_one (pe_cmpR (op_eqD hr.units) (pe_fld (pv 0) rfl) (pe_fld (pv 1) rfl) (nomark _)))))), ?_⟩
  refine run_back (v_and0 (v_cb (a_cons (v_var rfl) (a_cons v_raw a_nil)) c_isC) (v_eqP (b := true) (v_rows (v_var rfl) T.cl T.nR) (v_rows (v_var rfl) T.cl T.nR) (pure_rowsD qs) (pure_rowsD qs) (Nat.le_trans (dep_rowsD qs) (by decide)) (Nat.le_trans (dep_rowsD qs) (by decide)) (eqv_refl _ (pure_rowsD qs)))) rfl
/-! ### _law_valley -/
theorem lcL_at {ρ : Env} {σ : L2.St} {B1 H1 : Hp} {a : Addr} {us : List V} {α : Type} {ts : List α} {enc : α → D} {f : α → Bool} {o : α → D} {g : TG} {tt : TT} {te : TE} {vs : List Nat} {Q : VK} (hS : Sat C σ B1 ρ) (e : Sub B1 H1) (hB : B1 a = some (.lst us)) (r : Reps C B1 us (ts.map enc)) (hn : ts.length ≤ 50000)
    (T : Turns C g tt te ρ vs ts enc f o) (q : ∀ v B' H', Step B1 H1 B' H' → Rep C B' v (.lst ((ts.filter f).map o)) → Q v H') : tLc (iList K (fun _ H Q => Q (.ref a) H)) g tt te vs σ H1 Q := by
  have hul : us.length = ts.length := by rw [r.length, List.length_map]
  refine ⟨a, rfl, ⟨us, SqL.of (e a _ hB)⟩, fun L hL => ?_⟩
  refine lc_list (xs := us) (fun i H' => Lw C B1 H1 L (((ts.take i).filter f).map o) H') (by simpa using Lw.start e hL) ?_ ?_ ?_
  · rintro i H' _ ⟨B', acc, s', _⟩
    exact SqL.of (s'.h a _ (e a _ hB))
  · intro i z H' hi w
    obtain ⟨dz, hdz, rz⟩ := r.getV hi
    rw [List.getElem?_map] at hdz
    cases ht : ts[i]? with
    | none => rw [ht] at hdz; cases hdz
    | some t =>
      rw [ht] at hdz
      cases hdz
      simp only [filter_step f o ht]
      exact T.go (List.mem_of_getElem? ht) hS hL (out_len hn) w fun B' e1 _ => rz.up e1
  · intro H' w
    rw [hul, List.take_length] at w
    obtain ⟨B', s', r'⟩ := w.fin hL
    exact q _ B' H' s' r'
abbrev s__law_valley : Stmt := topS 35
abbrev N__law_valley : List Str := ["_law_script", "_law_cell"]
theorem sc__law_valley : FnScope N__law_valley ["_law_script"] (defScope s__law_valley) := ⟨rfl, rfl, rfl, by decide +kernel, rfl, by decide +kernel, by decide +kernel⟩
/-- the script is only read -/
def spValley (C : Addr) (K : PySem.W.Frag) : Sp := fun vs H Q _ => ∃ (a : Addr) (ns : List Int), vs = [.ref a] ∧ SqL K H a (ns.map V.int) ∧ ns.length ≤ 63 ∧ ∀ vv B' H', Sub H H' → VOk C vv 0 B' H' → Q (.ref vv) H'
theorem ok_valley {f : Addr} {fd : FuncData} (Fn : Fun K "_law_valley" "_law_valley" s__law_valley f fd) (T : Bt K mg C) : FnOk P w K mg base CX0 1 f fd ["_law_script"] (spValley C K) := by
  refine Fn.ok sc__law_valley (fun vs H Q E h => ?_) fun cdv A outer s H vs Q E hr h => ?_
  · obtain ⟨_, _, rfl, _⟩ := h; rfl
  obtain ⟨a, ns, rfl, hq, hn, k⟩ := h
  have nd := sc__law_valley.nd
  refine ⟨_, (pss_one (ps_ret (pe_lst (pa_cons (pe_lc (own := [("_law_cell", 1)]) (by rfl) nd (pi_list (pe_slice sl_list (pv 0) po_none (po_some pe_int))) (blkOk_by (own := [("_law_cell", 1)]) (N := N__law_valley) (sc := defScope s__law_valley) (by decide +kernel)) (fun _ _ _ _ _ => (pg_name (i := 1) nd rfl (.inl rfl))) (fun _ _ _ _ _ => pts_nil) (fun _ _ _ _ _ => (pe_callTy call_int1 (by rfl) T.n_int bo_int (pa_cons (pv 1) pa_nil)))) (pa_cons pe_int (pa_cons pe_int pa_nil)))))), ?_⟩
  refine ⟨_, rfl, 60, rfl, a, ns.map V.int, rfl, hq, fun p hp => ?_⟩
  have ecut : cutV (ns.map V.int) none (some 60) = (ns.take 60).map V.int := by
    have h1 : HT.sIx (ns.map V.int).length 0 none = 0 := HT.sIx_none _ _
    have h2 : HT.sIx (ns.map V.int).length (ns.map V.int).length (some 60) = min 60 (ns.map V.int).length := HT.sIx_nat _ _ 60
    unfold cutV
    rw [h1, h2, List.drop_zero, Nat.sub_zero, List.length_map, List.map_take]
    rw [List.take_eq_take_iff, List.length_map]
    omega
  let B1 : Hp := upd (fun _ => none) p (.lst (cutV (ns.map V.int) none (some 60)))
  have hS : Sat C (L2.start N__law_valley [V.ref a]) B1 [some (.raw (.ref a)), none] := sat_start (ds := [.raw (.ref a)]) (.cons (.raw _) .nil) (by simp)
  have hsub : Sub B1 (upd H p (.lst (cutV (ns.map V.int) none (some 60)))) := fun b o q => by
    have q : upd (fun _ => none) p (.lst (cutV (ns.map V.int) none (some 60))) b = some o := q
    by_cases hb : b = p
    · subst hb; rw [upd_same] at q ⊢; exact q
    · rw [upd_ne hb] at q; cases q
  have hr1 : Reps C B1 (cutV (ns.map V.int) none (some 60)) ((ns.take 60).map D.int) := by rw [ecut]; exact reps_ints _
  refine lcL_at (Q := fun x H1 => tCons (tC (.int 0)) (tCons (tC (.int 0)) tNil) (L2.start N__law_valley [V.ref a]) H1 fun xs H2 => (x :: xs).length ≤ sizeLine ∧ ∀ L, H2 L = none → Q (.ref L) (upd H2 L (.lst (x :: xs)))) (K := K) (vs := [1]) (g := gName 1) (tt := tYes) (ts := ns.take 60) (enc := D.int) (f := fun _ => true) (o := D.int) hS hsub upd_same hr1 (by rw [List.length_take]; omega) (fun x hx => ⟨_, _, g_name, by simp, b_yes, fun _ => v_cb (a_cons (v_var (i := 1) rfl) a_nil) c_int⟩) fun v B2 H2 s2 r2 => ?_
  rw [List.filter_eq_self.mpr (fun _ _ => rfl)] at r2
  obtain ⟨c, us, rfl, hc, r3⟩ := r2.lst_inv
  rw [r3.ints] at hc
  refine ⟨by show 3 ≤ sizeLine; exact fits (by omega), fun vv hvv => k vv B2 _ (fun b o q => ?_) ⟨s2.s.side (s2.s.free hvv), s2.s.free hvv, c, ns.take 60, 0, 0, upd_same, hc, Int.le_refl 0, Int.le_refl 0⟩⟩
  have q2 := s2.h b o (by rw [upd_ne (ne_of_none q hp)]; exact q)
  rw [upd_ne (ne_of_none q2 hvv)]
  exact q2
end
end K55

set_option maxHeartbeats 2000000
namespace K55
open PySem PySem.Spec PyProof.Rows L2
local macro_rules | `(tactic| walk_at "ev1") => `(tactic| first
  | exact v_var rfl | exact v_int | exact v_bl | exact v_non | exact v_str | exact a_nil | exact v_raw
  | apply a_cons
  | apply v_add | apply v_sub | apply v_mul | apply v_mod | apply v_fdiv | apply v_neg
  | apply v_lt | apply v_le | apply v_gt | apply v_ge | apply v_eqI | apply v_neI
  | apply v_isN | apply v_notN
  | apply b_B | apply b_test | apply b_not | apply b_and0 | apply b_or0
  | apply v_and0 | apply v_or0 | apply v_not
  | apply v_tup | apply v_lst
  | refine' v_cb ?_ c_int
  | exact Nat.le_of_ble_eq_true rfl)
local macro_rules | `(tactic| walk_at "ev") => `(tactic| repeat' walk_at "ev1")
local macro_rules | `(tactic| walk_at "weak") => `(tactic| repeat' (first | exact Weak.nil | apply Weak.same | apply Weak.less))
section
variable {C : Addr} {P : Program} {w : World} {K : PySem.W.Frag} {mg : Str → Option Value} {base : Heap}
theorem x_climb {J : As} {ρ : Env} {m : Int} {n' : Nat} {vv : Addr} {te : TE} (hJ : OkV vv J) (h0 : ρ[0]? = some (some (.raw (.ref vv)))) (ht : EvP C te ρ (.int m)) (h1 : 0 < m) (h2 : m ≤ 1000) (h3 : n' + 1 ≤ 1000) : Ex C (tCall (spV C 1 F0_climb F_climb) [] E0 (tCons (tVar 0) (tCons te tNil))) ρ (VI C vv J n') (fun d => ∃ r, 0 ≤ r ∧ r < m ∧ d = .int r) (VI C vv J (n' + 1)) :=
  (x_callV hJ (a_cons (v_var h0) (a_cons ht a_nil)) ⟨m, h1, h2, rfl⟩ h3).imp (fun d hd => by
    obtain ⟨m', r, e, r0, r1, rfl⟩ := hd
    have : m = m' := by injection e with e; injection e
    exact ⟨r, r0, by omega, rfl⟩) fun _ _ z => z
theorem rng_get {n i a : Nat} (h : (List.range n)[i]? = some a) : D.int (a : Int) = .int (i : Int) := by
  obtain ⟨h1, h2⟩ := List.getElem?_eq_some_iff.mp h
  rw [List.getElem_range] at h2
  rw [h2]
/-! ### _law_near -/
abbrev s__law_near : Stmt := topS 43
abbrev N__law_near : List Str := ["_law_valley_here", "_law_rows_here", "_law_others", "_law_found", "_law_row", "_law_turn"]
theorem sc__law_near : FnScope N__law_near ["_law_valley_here", "_law_rows_here", "_law_others"] (defScope s__law_near) := ⟨rfl, rfl, rfl, by decide +kernel, rfl, by decide +kernel, by decide +kernel⟩
def aroundOf (q : Row) : List Int := match q.first with
  | none => []
  | some f => [f - 1, f, f + 1]
def farNums : List Int := (List.range 12).map (fun i : Nat => (10 : Int) ^ 30 + i) ++ (List.range 12).map fun i : Nat => -(10 : Int) ^ 30 - i
def F0_near (ds : List D) : Prop := ∃ r1 r2 : List Row, r1.length ≤ 20 ∧ r2.length ≤ 20 ∧ (∀ q, q ∈ r1 ++ r2 → RowB q) ∧ ds = [.lst (rowsD r1), .lst (rowsD r2)]
def NearOk (ns : List Int) : Prop := ns.length ≤ 300 ∧ ∀ n, n ∈ ns → -(10 : Int) ^ 30 - 1000 ≤ n ∧ n ≤ (10 : Int) ^ 30 + 1000
def F_near (ds : List D) (d : D) : Prop := ∃ ns, NearOk ns ∧ d = .lst (ns.map D.int)
theorem ok_near {f : Addr} {fd : FuncData} (Fn : Fun K "_law_near" "_law_near" s__law_near f fd) (T : Bt K mg C) (G__law_climb : Df P w K mg base 1 "_law_climb" ["_law_valley_here", "_law_many"] (spV C 1 F0_climb F_climb)) : FnOk P w K mg base CX0 2 f fd ["_law_valley_here", "_law_rows_here", "_law_others"] (spV C 4 F0_near F_near) := by
  refine def_okX Fn sc__law_near (by decide) (fun ds h => by obtain ⟨_, _, _, _, _, rfl⟩ := h; rfl) fun cdv A outer s H E hr ds h0 => ?_
  obtain ⟨r1, r2, hl1, hl2, hB, rfl⟩ := h0
  have nd := sc__law_near.nd
  refine ⟨_, (pss_cons (ps_setLc (i := 3) (own := [("_law_turn", 5)]) (by rfl) nd rfl rfl (sw_true rfl rfl rfl (by decide +kernel)) (pi_range1 (by rfl) T.n_range (pa_cons pe_int pa_nil)) (blkOk_by (own := [("_law_turn", 5)]) (N := N__law_near) (sc := defScope s__law_near) (by decide +kernel)) (fun _ _ _ _ _ => (pg_name (i := 5) nd rfl (.inl rfl))) (fun _ _ _ _ _ => pts_nil) (fun _ _ _ _ _ => (pe_op op_sub (pcall G__law_climb (hr.mono (by first | decide | omega)) (by rfl) (pa_cons (pv 0) (pa_cons pe_int pa_nil))) pe_int)))
      (pss_cons (ps_for PassesOwn.never rfl (pi_list (pe_op op_cat (pv 1) (pv 2))) (pg_name (i := 4) nd rfl (.inr rfl)) (pss_one (ps_set (i := 3) nd rfl (.inl rfl) (pe_op op_cat (pv 3) (pe_lc (own := [("_law_turn", 5)]) (by rfl) nd (pi_tup (pe_tup (pa_cons (pe_un un_neg pe_int) (pa_cons pe_int (pa_cons pe_int pa_nil))))) (blkOk_by (own := [("_law_turn", 5)]) (N := N__law_near) (sc := defScope s__law_near) (by decide +kernel)) (fun _ _ _ _ _ => (pg_name (i := 5) nd rfl (.inl rfl))) (fun _ _ _ _ _ => (pts_one (pt_cmp (pc_notN (pe_ix (ixT (K := K) rfl) (pv 4) pe_int (fun _ _ => rfl)))))) (fun _ _ _ _ _ => (pe_op op_add (pe_ix (ixT (K := K) rfl) (pv 4) pe_int (fun _ _ => rfl)) (pv 5))))))))
      (pss_one (ps_ret (pe_op op_cat (pe_op op_cat (pv 3) (pe_lc (own := [("_law_turn", 5)]) (by rfl) nd (pi_range1 (by rfl) T.n_range (pa_cons pe_int pa_nil)) (blkOk_by (own := [("_law_turn", 5)]) (N := N__law_near) (sc := defScope s__law_near) (by decide +kernel)) (fun _ _ _ _ _ => (pg_name (i := 5) nd rfl (.inl rfl))) (fun _ _ _ _ _ => pts_nil) (fun _ _ _ _ _ => (pe_op op_add (pe_op op_pow pe_int pe_int) (pv 5))))) (pe_lc (own := [("_law_turn", 5)]) (by rfl) nd (pi_range1 (by rfl) T.n_range (pa_cons pe_int pa_nil)) (blkOk_by (own := [("_law_turn", 5)]) (N := N__law_near) (sc := defScope s__law_near) (by decide +kernel)) (fun _ _ _ _ _ => (pg_name (i := 5) nd rfl (.inl rfl))) (fun _ _ _ _ _ => pts_nil) (fun _ _ _ _ _ => (pe_op op_sub (pe_un un_neg (pe_op op_pow pe_int pe_int)) (pv 5))))))))), fun vv B0 H0 n hn => ?_⟩
  have hV := okV0 (vv := vv) B0 H0
  refine tr_letX (okVI hV (n + 4 * 1)) (F := fun d => ∃ ns : List Int, ns.length = 4 ∧ (∀ x, x ∈ ns → -40 ≤ x ∧ x ≤ 40) ∧ d = .lst (ns.map D.int)) ((x_lcR (m := 4) (k := 1) (F := fun _ d => ∃ x : Int, (-40 ≤ x ∧ x ≤ 40) ∧ d = .int x) hV (a_cons v_int a_nil) (by omega) fun i hi => ⟨_, _, g_name, by simp, fun J' n' hJ' hn' =>
    x_op (okVI hJ' _) (x_climb (m := 81) (n' := n') hJ' rfl v_int (by omega) (by omega) (by omega)) (x_pure (okVI hJ' _) v_int (F := fun d => d = .int 40) rfl) fun d1 d2 h1 h2 => by
      obtain ⟨r, r0, r1, rfl⟩ := h1
      subst h2
      exact ⟨.int (r - 40), ⟨r - 40, ⟨by omega, by omega⟩, rfl⟩, r_I0 fun _ => .int _⟩⟩).imp (fun d hd => by
    obtain ⟨ds, h1, h2, rfl⟩ := hd
    obtain ⟨ns, rfl, h3⟩ := ints_of (p := fun x => -40 ≤ x ∧ x ≤ 40) fun x hx => by
      obtain ⟨j, hj⟩ := List.getElem?_of_mem hx
      exact h2 j x hj
    exact ⟨ns, by rw [List.length_map] at h1; exact h1, h3, rfl⟩) fun _ _ z => z) ?_
  rintro d ⟨ns, hns1, hns2, rfl⟩
  refine ⟨_, _, g_name, ?_⟩
  let rows := r1 ++ r2
  let acc : Nat → List Int := fun i => ns ++ (rows.take i).flatMap aroundOf
  let ρs : Nat → Env := fun i => [some (.raw (.ref vv)), some (.lst (rowsD r1)), some (.lst (rowsD r2)), some (.lst ((acc i).map D.int)), none, none]
  have hrl : rows.length ≤ 40 := by show (r1 ++ r2).length ≤ 40; rw [List.length_append]; omega
  have hal : ∀ q : Row, (aroundOf q).length ≤ 3 := fun q => by unfold aroundOf; split <;> simp
  have hlen : ∀ i, (acc i).length ≤ 124 := fun i => by
    show (ns ++ (rows.take i).flatMap aroundOf).length ≤ 124
    rw [List.length_append, hns1]
    have h1 := flat_len (n := 3) aroundOf (xs := rows.take i) fun q _ => hal q
    have h2 : (rows.take i).length ≤ 40 := by rw [List.length_take]; omega
    omega
  have erows : (D.lst (rowsD r1 ++ rowsD r2)) = .lst (rowsD rows) := by unfold rowsD; rw [← List.map_append]
  have hfin : NearOk (acc rows.length ++ farNums) := by
    refine ⟨by rw [List.length_append]; have := hlen rows.length; unfold farNums; simp; omega, fun x hx => ?_⟩
    rcases List.mem_append.mp hx with hx | hx
    · rcases List.mem_append.mp (show x ∈ ns ++ (rows.take rows.length).flatMap aroundOf from hx) with hx | hx
      · have := hns2 x hx; omega
      · obtain ⟨q, hq, hx⟩ := List.mem_flatMap.mp hx
        have hq2 := (hB q (List.mem_of_mem_take hq)).1
        unfold aroundOf at hx
        cases hf : q.first with
        | none => rw [hf] at hx; cases hx
        | some f =>
          rw [hf] at hx
          have := hq2 f hf
          simp at hx
          omega
    · unfold farNums at hx
      rcases List.mem_append.mp hx with hx | hx <;> obtain ⟨i, hi, rfl⟩ := List.mem_map.mp hx <;> have := List.mem_range.mp hi <;> omega
  refine ((tr_run (ρ := ρs 0) (N := fun _ _ => False) (R := Ret C (.lst ((acc rows.length ++ farNums).map D.int))) (okVI hV _) ?_).imp (fun _ _ _ z => z.1) fun v B H z => ⟨_, ⟨_, hfin, rfl⟩, z.1, z.2⟩).pre (fun σ B H a b => ⟨?_, b⟩)
  · refine run_seq (ρ1 := ρs rows.length) (run_forL (items := rowsD rows) ((v_cat (v_var rfl) (v_var rfl) (by unfold rowsD; rw [List.length_map, List.length_map]; omega)).is erows) ρs (fun _ => True) trivial (fun _ _ h => h) (fun i x hi _ => ?_) fun _ σ B h => by
      have : (rowsD rows).length = rows.length := by unfold rowsD; rw [List.length_map]
      rw [this] at h; exact h) ?_
    · unfold rowsD at hi
      rw [List.getElem?_map] at hi
      cases hz : rows[i]? with
      | none => rw [hz] at hi; cases hi
      | some q =>
        rw [hz] at hi
        cases hi
        refine ⟨_, _, g_name, ?_⟩
        have eacc : (acc (i + 1)).map D.int = (acc i).map D.int ++ (aroundOf q).map D.int := by
          show (ns ++ (rows.take (i + 1)).flatMap aroundOf).map D.int = _
          have e5 : (some q).toList.flatMap aroundOf = aroundOf q := by simp [Option.toList]
          rw [List.take_add_one, hz, List.flatMap_append, e5, ← List.append_assoc, List.map_append]
        have hlc : EvP C (tLc (iTup K (tTup (tCons (tUn (rU fun i => V.int (-i)) (tC (.int 1))) (tCons (tC (.int 0)) (tCons (tC (.int 1)) tNil))))) (gName 5) (tB (tNotN (tOp (rIxT K) (tVar 4) (tC (.int 0))))) (tOp (rI0 fun i j => .int (i + j)) (tOp (rIxT K) (tVar 4) (tC (.int 0))) (tVar 5)) [5]) ((ρs i).set 4 (some (rowD q))) (.lst ((aroundOf q).map D.int)) := by
          have h3 : EvP C (tTup (tCons (tUn (rU fun i => V.int (-i)) (tC (.int 1))) (tCons (tC (.int 0)) (tCons (tC (.int 1)) tNil)))) ((ρs i).set 4 (some (rowD q))) (.tup (([-1, 0, 1] : List Int).map D.int)) := v_tup (a_cons (v_neg v_int) (a_cons v_int (a_cons v_int a_nil))) (Nat.le_of_ble_eq_true rfl)
          obtain ⟨fi, la, es⟩ := q
          cases fi with
          | none =>
            exact v_lcT (ts := [-1, 0, 1]) (enc := D.int) (f := fun _ => false) (o := fun t => .int t) h3 (by simp) fun t ht => ⟨_, _, g_name, by simp, b_B (v_notN (x := .non) (v_ixT (v_var rfl) v_int rfl)), fun z => nomatch z⟩
          | some f =>
            refine (v_lcT (ts := [-1, 0, 1]) (enc := D.int) (f := fun _ => true) (o := fun t => .int (f + t)) h3 (by simp) fun t ht => ⟨_, _, g_name, by simp, b_B (v_notN (x := .int f) (v_ixT (v_var rfl) v_int rfl)), fun _ => v_add (v_ixT (z := .int f) (v_var rfl) v_int rfl) (v_var rfl)⟩).is ?_
            show D.lst [.int (f + -1), .int (f + 0), .int (f + 1)] = D.lst [.int (f - 1), .int f, .int (f + 1)]
            rw [Int.add_zero]; rfl
        refine (run_set (v_cat (v_var rfl) hlc (by rw [List.length_map, List.length_map]; have := hlen i; have := hal q; omega))).imp (fun σ B z => ⟨trivial, ?_⟩) fun _ _ z => z
        rw [← eacc] at z
        exact Sat.weak z (by walk_at "weak")
    · have hpow : ∀ {ρ : Env}, EvP C (tOp (rI CPow fun i j => .int (i ^ j.toNat)) (tC (.int 10)) (tC (.int 30))) ρ (.int ((10 : Int) ^ 30)) := v_pow v_int v_int ⟨by omega, by omega, by decide⟩
      have hup : EvP C (tLc (iRng1 (tCons (tC (.int 12)) tNil)) (gName 5) tYes (tOp (rI0 fun i j => .int (i + j)) (tOp (rI CPow fun i j => .int (i ^ j.toNat)) (tC (.int 10)) (tC (.int 30))) (tVar 5)) [5]) (ρs rows.length) (.lst (((List.range 12).map (fun i : Nat => (10 : Int) ^ 30 + i)).map D.int)) := by
        have h1 := v_lcR1 (C := C) (ρ := ρs rows.length) (vs := [5]) (g := gName 5) (tt := tYes) (te := tOp (rI0 fun i j => .int (i + j)) (tOp (rI CPow fun i j => .int (i ^ j.toNat)) (tC (.int 10)) (tC (.int 30))) (tVar 5)) (n := 12) (ts := List.range 12) (enc := fun i : Nat => .int i) (f := fun _ => true) (o := fun i : Nat => .int ((10 : Int) ^ 30 + i)) (a_cons v_int a_nil) ⟨by omega, by omega⟩ (by simp) (fun i a ha => rng_get ha) (by simp) fun t ht => ⟨_, _, g_name, by simp, b_yes, fun _ => v_add hpow (v_var rfl)⟩
        rw [List.filter_eq_self.mpr (fun _ _ => rfl)] at h1
        rw [List.map_map]; exact h1
      have hdn : EvP C (tLc (iRng1 (tCons (tC (.int 12)) tNil)) (gName 5) tYes (tOp (rI0 fun i j => .int (i - j)) (tUn (rU fun i => V.int (-i)) (tOp (rI CPow fun i j => .int (i ^ j.toNat)) (tC (.int 10)) (tC (.int 30)))) (tVar 5)) [5]) (ρs rows.length) (.lst (((List.range 12).map (fun i : Nat => -(10 : Int) ^ 30 - i)).map D.int)) := by
        have h1 := v_lcR1 (C := C) (ρ := ρs rows.length) (vs := [5]) (g := gName 5) (tt := tYes) (te := tOp (rI0 fun i j => .int (i - j)) (tUn (rU fun i => V.int (-i)) (tOp (rI CPow fun i j => .int (i ^ j.toNat)) (tC (.int 10)) (tC (.int 30)))) (tVar 5)) (n := 12) (ts := List.range 12) (enc := fun i : Nat => .int i) (f := fun _ => true) (o := fun i : Nat => .int (-(10 : Int) ^ 30 - i)) (a_cons v_int a_nil) ⟨by omega, by omega⟩ (by simp) (fun i a ha => rng_get ha) (by simp) fun t ht => ⟨_, _, g_name, by simp, b_yes, fun _ => v_sub (v_neg hpow) (v_var rfl)⟩
        rw [List.filter_eq_self.mpr (fun _ _ => rfl)] at h1
        rw [List.map_map]; exact h1
      refine run_back (v_cat (v_cat (v_var rfl) hup (by have := hlen rows.length; simp; omega)) hdn (by have := hlen rows.length; simp; omega)) ?_
      generalize acc rows.length = A
      unfold farNums
      rw [List.map_append, List.map_append, List.append_assoc]
  · have e0 : acc 0 = ns := List.append_nil ns
    show Sat C σ B [some (.raw (.ref vv)), some (.lst (rowsD r1)), some (.lst (rowsD r2)), some (.lst ((acc 0).map D.int)), none, none]
    rw [e0]; exact a
end
end K55

set_option maxHeartbeats 2000000
namespace K55
open PySem PySem.Spec PyProof.Rows L2
local macro_rules | `(tactic| walk_at "ev1") => `(tactic| first
  | exact v_var rfl | exact v_int | exact v_bl | exact v_non | exact v_str | exact a_nil | exact v_raw
  | apply a_cons
  | apply v_add | apply v_sub | apply v_mul | apply v_mod | apply v_fdiv | apply v_neg
  | apply v_lt | apply v_le | apply v_gt | apply v_ge | apply v_eqI | apply v_neI
  | apply v_isN | apply v_notN
  | apply b_B | apply b_test | apply b_not | apply b_and0 | apply b_or0
  | apply v_and0 | apply v_or0 | apply v_not
  | apply v_tup | apply v_lst
  | refine' v_cb ?_ c_int
  | exact Nat.le_of_ble_eq_true rfl)
local macro_rules | `(tactic| walk_at "ev") => `(tactic| repeat' walk_at "ev1")
local macro_rules | `(tactic| walk_at "weak") => `(tactic| repeat' (first | exact Weak.nil | apply Weak.same | apply Weak.less))
def tri : Ent → Ent
  | none => none
  | some (a, b, c) => some (3 * a, 3 * b, 3 * c)
def insG : Option Int → Option Int → Int
  | none, none => 4
  | none, some l => l - 3
  | some f, _ => f + 5
def ents2 (q : Row) : List Ent := (q.ents ++ q.ents).map tri
/-- is the row too short to be cut -/
def shortR (q : Row) : Bool := match q.last with
  | none => false
  | some l => decide (l ≤ insG q.first q.last)
def cutRow (q : Row) : List Row := bif shortR q then [⟨q.first, q.last, ents2 q⟩] else [⟨q.first, some (insG q.first q.last), ents2 q⟩, ⟨some (insG q.first q.last + 1), q.last, (ents2 q).take ((ents2 q).length / 2)⟩]
def splitRows (rows : List Row) (i : Nat) (q : Row) : List Row := rows.take i ++ cutRow q ++ rows.drop (i + 1)
theorem cutD_from (ds : List D) (n : Nat) (h : n ≤ ds.length) : cutD ds (some (n : Int)) none = ds.drop n := by
  unfold cutD
  have e1 : HT.sIx ds.length 0 (some (n : Int)) = min n ds.length := HT.sIx_nat _ _ n
  have e2 : HT.sIx ds.length ds.length none = ds.length := HT.sIx_none _ _
  rw [e1, e2, Nat.min_eq_left h]
  exact List.take_of_length_le (by rw [List.length_drop]; omega)
section
variable {C : Addr} {P : Program} {w : World} {K : PySem.W.Frag} {mg : Str → Option Value} {base : Heap} {ρ : Env} {ta tb : TE}
theorem v_catT {xs ys : List D} (ha : EvP C ta ρ (.tup xs)) (hb : EvP C tb ρ (.tup ys)) (hx : xs ≠ []) (hy : ys ≠ []) (hl : xs.length + ys.length ≤ 100000) : EvP C (tOp (rCatA K) ta tb) ρ (.tup (xs ++ ys)) :=
  v_op ha hb fun B H e v u rv ru Q q => by
    obtain ⟨a, vs, rfl, hA, ra⟩ := rv.tup_inv
    obtain ⟨b, us, rfl, hB, rb⟩ := ru.tup_inv
    refine ⟨a, b, vs, us, rfl, rfl, SqT.of (e _ _ hA), SqT.of (e _ _ hB), by rw [ra.length, rb.length]; exact fits hl, ?_⟩
    refine ⟨fun z => ?_, fun _ z => ?_, fun _ _ p hp => ?_⟩
    · have := ra.length
      rw [z] at this
      exact absurd (List.length_eq_zero_iff.mp this.symm) hx
    · have := rb.length
      rw [z] at this
      exact absurd (List.length_eq_zero_iff.mp this.symm) hy
    · have sN : Step B H (upd B p (.tup (vs ++ us))) (upd H p (.tup (vs ++ us))) := .new e hp
      exact q _ _ _ sN (.tup upd_same ((ra.append rb).up sN.b))
/-! ### _law_split -/
abbrev s__law_split : Stmt := topS 44
abbrev N__law_split : List Str := ["_law_valley_here", "_law_rows_here", "_law_found", "_law_at_here", "_law_first", "_law_last", "_law_entries", "_law_inside", "_law_entry_here"]
theorem sc__law_split : FnScope N__law_split ["_law_valley_here", "_law_rows_here"] (defScope s__law_split) := ⟨rfl, rfl, rfl, by decide +kernel, rfl, by decide +kernel, by decide +kernel⟩
def RowF (q : Row) : Prop := 0 < q.ents.length ∧ q.ents.length ≤ 1000
def F0_split (ds : List D) : Prop := ∃ rows : List Row, 0 < rows.length ∧ rows.length ≤ 100 ∧ (∀ q, q ∈ rows → RowF q) ∧ ds = [.lst (rowsD rows)]
def F_split (ds : List D) (d : D) : Prop := ∃ (rows : List Row) (i : Nat) (q : Row), rows[i]? = some q ∧ ds = [.lst (rowsD rows)] ∧ d = .lst (rowsD (splitRows rows i q))
theorem ok_split {f : Addr} {fd : FuncData} (Fn : Fun K "_law_split" "_law_split" s__law_split f fd) (T : Bt K mg C) (G__law_climb : Df P w K mg base 1 "_law_climb" ["_law_valley_here", "_law_many"] (spV C 1 F0_climb F_climb)) : FnOk P w K mg base CX0 2 f fd ["_law_valley_here", "_law_rows_here"] (spV C 1 F0_split F_split) := by
  refine def_okX Fn sc__law_split (by decide) (fun ds h => by obtain ⟨_, _, _, _, rfl⟩ := h; rfl) fun cdv A outer s H E hr ds h0 => ?_
  obtain ⟨rows, hl0, hl1, hrow, rfl⟩ := h0
  have nd := sc__law_split.nd
  refine ⟨_, (pss_cons (ps_par (i := 2) (j := 3) (by rfl) nd rfl rfl (by decide) rfl rfl (pa_cons (pe_callTy call_list_of (by rfl) T.n_list bo_list (pa_cons (pv 1) pa_nil)) (pa_cons (pcall G__law_climb (hr.mono (by first | decide | omega)) (by rfl) (pa_cons (pv 0) (pa_cons (pe_callB call_len_seq (by rfl) T.n_len bo_len (pa_cons (pv 1) pa_nil)) pa_nil))) pa_nil)) (by rfl))
      (pss_cons (ps_asg (pe_ix ix_list (pv 2) (pv 3) (fun _ _ => rfl)) (pg_tup (by rfl) (pgs_cons (pg_name (i := 4) nd rfl (.inl rfl)) (pgs_cons (pg_name (i := 5) nd rfl (.inl rfl)) (pgs_cons (pg_name (i := 6) nd rfl (.inl rfl)) pgs_nil)))))
      (pss_cons (ps_set (i := 6) nd rfl (.inl rfl) (pe_callTy call_tuple_of (by rfl) T.n_tuple bo_tuple (pa_cons (pe_lc (own := [("_law_entry_here", 8)]) (by rfl) nd (pi_tup (pe_op op_catA (pv 6) (pv 6))) (blkOk_by (own := [("_law_entry_here", 8)]) (N := N__law_split) (sc := defScope s__law_split) (by decide +kernel)) (fun _ _ _ _ _ => (pg_name (i := 8) nd rfl (.inl rfl))) (fun _ _ _ _ _ => pts_nil) (fun _ _ _ _ _ => (pe_ifExp (pt_cmp (pc_isN (pv 8))) pe_non (pe_tup (pa_cons (pe_op op_mul pe_int (pe_ix (ixT (K := K) rfl) (pv 8) pe_int (fun _ _ => rfl))) (pa_cons (pe_op op_mul pe_int (pe_ix (ixT (K := K) rfl) (pv 8) pe_int (fun _ _ => rfl))) (pa_cons (pe_op op_mul pe_int (pe_ix (ixT (K := K) rfl) (pv 8) pe_int (fun _ _ => rfl))) pa_nil))))))) pa_nil)))
      (pss_cons (ps_set (i := 7) nd rfl (.inl rfl) (pe_ifExp (PW.pt (pw_and (pt_cmp (pc_isN (pv 4))) (pw_and1 (pt_cmp (pc_isN (pv 5)))))) pe_int (pe_ifExp (pt_cmp (pc_isN (pv 4))) (pe_op op_sub (pv 5) pe_int) (pe_op op_add (pv 4) pe_int))))
      (pss_cons (ps_if (PW.pt (pw_and (pt_cmp (pc_notN (pv 5))) (pw_and1 (pt_cmpR op_ge (pv 7) (pv 5) (nomark _))))) (pss_one (ps_ret (pe_op op_cat (pe_op op_cat (pe_slice sl_list (pv 2) po_none (po_some (pv 3))) (pe_lst (pa_cons (pe_tup (pa_cons (pv 4) (pa_cons (pv 5) (pa_cons (pv 6) pa_nil)))) pa_nil))) (pe_slice sl_list (pv 2) (po_some (pe_op op_add (pv 3) pe_int)) po_none)))) pss_nil)
      (pss_one (ps_ret (pe_op op_cat (pe_op op_cat (pe_slice sl_list (pv 2) po_none (po_some (pv 3))) (pe_lst (pa_cons (pe_tup (pa_cons (pv 4) (pa_cons (pv 7) (pa_cons (pv 6) pa_nil)))) (pa_cons (pe_tup (pa_cons (pe_op op_add (pv 7) pe_int) (pa_cons (pv 5) (pa_cons (pe_slice sl_tupA (pv 6) po_none (po_some (pe_op op_fdiv (pe_callB call_len_seq (by rfl) T.n_len bo_len (pa_cons (pv 6) pa_nil)) pe_int))) pa_nil)))) pa_nil)))) (pe_slice sl_list (pv 2) (po_some (pe_op op_add (pv 3) pe_int)) po_none))))))))), fun vv B0 H0 n hn => ?_⟩
  have hV := okV0 (vv := vv) B0 H0
  have e3 : (rowsD rows).length = rows.length := by unfold rowsD; rw [List.length_map]
  refine tr_par2X (xa_cons (x_pure (okVI hV n) (v_cb (a_cons (v_var rfl) a_nil) (c_list (.inl rfl))) (F := fun d => d = .lst (rowsD rows)) rfl) (xa_cons (x_climb (m := rows.length) hV rfl ((v_cb (a_cons (v_var rfl) a_nil) (c_len (.inl rfl))).is (by rw [e3])) (by omega) (by omega) hn) xa_nil)) (fun ds hd => by obtain ⟨_, _, _, ⟨_, _, _, rfl, rfl⟩, rfl⟩ := hd; rfl) ?_
  intro x y hxy
  obtain ⟨_, _, rfl, ⟨_, _, ⟨r, r0, r1, rfl⟩, rfl, rfl⟩, he⟩ := hxy
  injection he with he1 he
  injection he with he2 he
  subst he1 he2
  obtain ⟨q, hq⟩ : ∃ q, rows[r.toNat]? = some q := ⟨_, List.getElem?_eq_getElem (show r.toNat < rows.length by omega)⟩
  have hmem := List.mem_of_getElem? hq
  have hF := hrow q hmem
  have hqD : atI (rowsD rows) r = some (rowD q) := atI_of r0 (by unfold rowsD; rw [List.getElem?_map, hq]; rfl)
  refine ((tr_run (N := fun _ _ => False) (R := Ret C (.lst (rowsD (splitRows rows r.toNat q)))) (okVI hV _) ?_).imp (fun _ _ _ z => z.1) fun v B H z => ⟨_, ⟨rows, r.toNat, q, hq, rfl, rfl⟩, z.1, z.2⟩)
  refine run_lets (d := rowD q) (v_ixL (v_var rfl) (v_var rfl) hqD) (g_tup (gs_cons g_name (gs_cons g_name (gs_cons g_name gs_nil))) rfl) ?_
  have hne : (q.ents.map eD) ≠ [] := fun z => by
    have := congrArg List.length z
    rw [List.length_map] at this
    have z0 : q.ents.length = 0 := this
    have := hF.1
    omega
  have eapp : D.tup (q.ents.map eD ++ q.ents.map eD) = .tup ((q.ents ++ q.ents).map eD) := by rw [List.map_append]
  refine run_let (d := .tup ((ents2 q).map eD)) ?_ ?_
  · have h1 := fun te (h : ∀ e : Ent, EvP C te ((wipeE [some (.raw (.ref vv)), some (.lst (rowsD rows)), some (.lst (rowsD rows)), some (.int r), some (oi q.first), some (oi q.last), some (.tup (q.ents.map eD)), none, none] [8]).set 8 (some (eD e))) (eD (tri e))) => v_lcT (C := C) (K := K) (ρ := [some (.raw (.ref vv)), some (.lst (rowsD rows)), some (.lst (rowsD rows)), some (.int r), some (oi q.first), some (oi q.last), some (.tup (q.ents.map eD)), none, none]) (vs := [8]) (g := gName 8) (tt := tYes) (tl := tOp (rCatA K) (tVar 6) (tVar 6)) (te := te) (ts := q.ents ++ q.ents) (enc := eD) (f := fun _ => true) (o := fun e => eD (tri e)) ((v_catT (v_var rfl) (v_var rfl) hne hne (by rw [List.length_map]; have := hF.2; omega)).is eapp) (by rw [List.length_append]; have := hF.2; omega) fun e he => ⟨_, _, g_name, by simp, b_yes, fun _ => h e⟩
    refine v_cb (a_cons (ds := []) ((h1 _ ?_).is (y := .lst ((ents2 q).map eD)) ?_) a_nil) c_tuple
    · intro e
      rcases e with _ | ⟨a, b, c⟩
      · exact v_ifT (b_B (v_isN (x := .non) (v_var rfl))) v_non
      · exact v_ifF (b_B (v_isN (x := eD (some (a, b, c))) (v_var rfl))) (v_tup (a_cons (v_mul v_int (v_ixT (z := .int a) (v_var rfl) v_int rfl) (.inl ⟨by omega, by omega⟩)) (a_cons (v_mul v_int (v_ixT (z := .int b) (v_var rfl) v_int rfl) (.inl ⟨by omega, by omega⟩)) (a_cons (v_mul v_int (v_ixT (z := .int c) (v_var rfl) v_int rfl) (.inl ⟨by omega, by omega⟩)) a_nil))) (Nat.le_of_ble_eq_true rfl))
    · rw [List.filter_eq_self.mpr (fun _ _ => rfl)]
      unfold ents2
      rw [List.map_map]; rfl
  let ρ1 : Env := [some (.raw (.ref vv)), some (.lst (rowsD rows)), some (.lst (rowsD rows)), some (.int r), some (oi q.first), some (oi q.last), some (.tup ((ents2 q).map eD)), none, none]
  let ρ2 : Env := [some (.raw (.ref vv)), some (.lst (rowsD rows)), some (.lst (rowsD rows)), some (.int r), some (oi q.first), some (oi q.last), some (.tup ((ents2 q).map eD)), some (.int (insG q.first q.last)), none]
  refine run_let (d := .int (insG q.first q.last)) ?_ ?_
  · show EvP C _ ρ1 _
    have h4 : ρ1[4]? = some (some (oi q.first)) := rfl
    have h5 : ρ1[5]? = some (some (oi q.last)) := rfl
    revert h4 h5
    generalize ρ1 = ρ1'
    intro h4 h5
    cases hf : q.first with
    | none =>
      rw [hf] at h4
      cases hl : q.last with
      | none => rw [hl] at h5; exact v_ifT (b_andT (b_B (v_isN (x := .non) (v_var h4))) rfl (b_B (v_isN (x := .non) (v_var h5)))) v_int
      | some l => rw [hl] at h5; exact v_ifF (b_andT (b_B (v_isN (x := .non) (v_var h4))) rfl (b_B (v_isN (x := .int l) (v_var h5)))) (v_ifT (b_B (v_isN (x := .non) (v_var h4))) (v_sub (v_var h5) v_int))
    | some f =>
      rw [hf] at h4
      exact v_ifF (b_andF (b_B (v_isN (x := .int f) (v_var h4))) rfl) (v_ifF (b_B (v_isN (x := .int f) (v_var h4))) (v_add (v_var h4) v_int))
  have hlo : EvP C (tSl (rSlL K) (tVar 2) tNoPart (tPart (tVar 3))) ρ2 (.lst (rowsD (rows.take r.toNat))) := (v_sliceL (v_var rfl) o_none (o_some (v_var rfl))).is (by
    rw [show r = ((r.toNat : Nat) : Int) by omega, cutD_head, Int.toNat_natCast]
    unfold rowsD; rw [List.map_take])
  have hhi : EvP C (tSl (rSlL K) (tVar 2) (tPart (tOp (rI0 fun i j => .int (i + j)) (tVar 3) (tC (.int 1)))) tNoPart) ρ2 (.lst (rowsD (rows.drop (r.toNat + 1)))) := (v_sliceL (v_var rfl) (o_some (v_add (v_var rfl) v_int)) o_none).is (by
    rw [show r + 1 = (((r.toNat + 1 : Nat)) : Int) by omega, cutD_from _ _ (by rw [e3]; omega)]
    unfold rowsD; rw [List.map_drop])
  have htk : (rowsD (rows.take r.toNat)).length ≤ 100 := by unfold rowsD; rw [List.length_map, List.length_take]; omega
  have hdr : (rowsD (rows.drop (r.toNat + 1))).length ≤ 100 := by unfold rowsD; rw [List.length_map, List.length_drop]; omega
  have htest : EvB C (tAnd (tB (tNotN (tVar 5))) (tTest (tOp (rI0 fun i j => .bl (decide (j ≤ i))) (tVar 7) (tVar 5)))) ρ2 (shortR q) := by
    have h5 : ρ2[5]? = some (some (oi q.last)) := rfl
    have h7 : ρ2[7]? = some (some (.int (insG q.first q.last))) := rfl
    revert h5 h7
    generalize ρ2 = ρ2'
    intro h5 h7
    unfold shortR
    cases hl : q.last with
    | none => rw [hl] at h5; exact b_andF (b_B (v_notN (x := .non) (v_var h5))) rfl
    | some l => rw [hl] at h5 h7; exact b_andT (b_B (v_notN (x := .int l) (v_var h5))) rfl (b_test (v_ge (v_var h7) (v_var h5)))
  unfold splitRows cutRow
  cases hs : shortR q with
  | true =>
    rw [hs] at htest
    refine run_out htest rfl (run_back (v_cat (v_cat hlo (v_lst (ds := [.tup [oi q.first, oi q.last, .tup ((ents2 q).map eD)]]) (a_cons (v_tup (a_cons (v_var rfl) (a_cons (v_var rfl) (a_cons (v_var rfl) a_nil))) (Nat.le_of_ble_eq_true rfl)) a_nil) (by simp)) (by simp; omega)) hhi (by rw [List.length_append]; simp; omega)) ?_)
    unfold rowsD
    rw [List.map_append, List.map_append]; rfl
  | false =>
    rw [hs] at htest
    have hlen2 : (ents2 q).length ≤ 2000 := by unfold ents2; rw [List.length_map, List.length_append]; have := hF.2; omega
    have hhalf : EvP C (tSl (rSlA K) (tVar 6) tNoPart (tPart (tOp (rI CDiv fun i j => .int (i / j)) (tCB (fun xs H Q => ∃ p ys, xs = [V.ref p] ∧ (SqL K H p ys ∨ SqT K H p ys) ∧ Q (.int ys.length) H) (tCons (tVar 6) tNil)) (tC (.int 2))))) ρ2 (.tup (((ents2 q).take ((ents2 q).length / 2)).map eD)) :=
      (v_sliceT (v_var rfl) o_none (o_some (v_fdiv (v_cb (a_cons (v_var rfl) a_nil) (c_len (.inr rfl))) v_int ⟨by omega, by omega⟩))).is (by
        rw [List.length_map, show ((ents2 q).length : Int) / 2 = (((ents2 q).length / 2 : Nat) : Int) by omega, cutD_head, List.map_take])
    refine run_by htest rfl (run_back (v_cat (v_cat hlo (v_lst (ds := [.tup [oi q.first, .int (insG q.first q.last), .tup ((ents2 q).map eD)], .tup [.int (insG q.first q.last + 1), oi q.last, .tup (((ents2 q).take ((ents2 q).length / 2)).map eD)]]) (a_cons (v_tup (a_cons (v_var rfl) (a_cons (v_var rfl) (a_cons (v_var rfl) a_nil))) (Nat.le_of_ble_eq_true rfl)) (a_cons (v_tup (a_cons (v_add (v_var rfl) v_int) (a_cons (v_var rfl) (a_cons hhalf a_nil))) (Nat.le_of_ble_eq_true rfl)) a_nil)) (by simp)) (by simp; omega)) hhi (by rw [List.length_append]; simp; omega)) ?_)
    unfold rowsD
    rw [List.map_append, List.map_append]; rfl
end
end K55

set_option maxHeartbeats 2000000
/-! K55: which row counts; stretches; lots cover all integers. -/
namespace K55
theorem joined_lt {qs : List Row} (j : Joined qs) : ∀ (d i : Nat) (q r : Row), qs[i]? = some q → qs[i + d + 1]? = some r → ∃ l f, q.last = some l ∧ r.first = some f ∧ l < f
  | 0, i, q, r, hq, hr => by
    obtain ⟨l, e1, e2, _⟩ := j.2.2.2 i q r hq hr
    exact ⟨l, l + 1, e1, e2, by omega⟩
  | d + 1, i, q, r, hq, hr => by
    have hlt := (List.getElem?_eq_some_iff.mp hr).1
    have hq1 : qs[i + 1]? = some qs[i + 1] := List.getElem?_eq_getElem (by omega)
    obtain ⟨l, e1, e2, e3⟩ := j.2.2.2 i q _ hq hq1
    obtain ⟨l2, f2, e4, e5, e6⟩ := joined_lt j d (i + 1) _ r hq1 (by rw [show i + 1 + d + 1 = i + (d + 1) + 1 by omega]; exact hr)
    have := e3 l2 e4
    exact ⟨l, f2, e1, e5, by omega⟩
theorem rowAt_le (qs : List Row) (n : Int) : rowAt qs n = qs.find? fun q => leO q.last n := by
  unfold rowAt
  congr 1
  funext q
  cases q.last <;> rfl
/-- the row that holds n is the one that counts at n -/
theorem rowAt_of {qs : List Row} (j : Joined qs) {i : Nat} {q : Row} {n : Int} (hq : qs[i]? = some q) (hs : InS q.first q.last n) : rowAt qs n = some q := by
  have hlt := (List.getElem?_eq_some_iff.mp hq).1
  have e1 : qs = qs.take i ++ q :: qs.drop (i + 1) := by
    have h1 := (List.take_append_drop i qs).symm
    rw [List.drop_eq_getElem_cons hlt, (List.getElem?_eq_some_iff.mp hq).2] at h1
    exact h1
  rw [rowAt_le, e1, List.find?_append]
  have hno : (qs.take i).find? (fun q : Row => leO q.last n) = none := List.find?_eq_none.mpr fun p hp => by
    obtain ⟨k, hk⟩ := List.getElem?_of_mem hp
    have hki : k < i := by
      have := (List.getElem?_eq_some_iff.mp hk).1
      rw [List.length_take] at this
      omega
    rw [List.getElem?_take_of_lt hki] at hk
    obtain ⟨l, f, a1, a2, a3⟩ := joined_lt j (i - k - 1) k p q hk (by rw [show k + (i - k - 1) + 1 = i by omega]; exact hq)
    have := hs.1 f a2
    rw [a1]
    simp [leO]
    omega
  rw [hno]
  have hyes : leO q.last n = true := by
    cases hl : q.last with
    | none => rfl
    | some l => exact decide_eq_true (hs.2 l hl)
  rw [Option.none_or]
  exact List.find?_cons_of_pos (p := fun q : Row => leO q.last n) hyes
theorem rowAt_in {qs : List Row} (j : Joined qs) {q : Row} {n : Int} (h : rowAt qs n = some q) : ∃ i : Nat, qs[i]? = some q ∧ InS q.first q.last n := by
  rw [rowAt_le] at h
  obtain ⟨h2, i, hlt, h1, h3⟩ := List.find?_eq_some_iff_getElem.mp h
  have hq : qs[i]? = some q := by rw [List.getElem?_eq_getElem hlt, h1]
  refine ⟨i, hq, fun f hf => ?_, fun l hl => ?_⟩
  · cases i with
    | zero =>
      have := j.2.1 q hq
      rw [this] at hf; cases hf
    | succ k =>
      have hk : qs[k]? = some qs[k] := List.getElem?_eq_getElem (by omega)
      obtain ⟨l, e1, e2, _⟩ := j.2.2.2 k _ q hk hq
      have h4 := h3 k (by omega)
      rw [e1] at h4
      simp [leO] at h4
      rw [e2] at hf
      cases hf
      omega
  · rw [hl] at h2
    simpa [leO] using h2
theorem good_row {qs : List Row} (g : Good qs) (n : Int) : ∃ q, q ∈ qs ∧ RowOk q ∧ InS q.first q.last n ∧ rowAt qs n = some q := by
  obtain ⟨q, h1, h2, h3⟩ := rowAt_some g n
  obtain ⟨i, hi, hs⟩ := rowAt_in g.1 h1
  exact ⟨q, h2, h3, hs, h1⟩
/-- what an entry that counts tells: a whole number from 0 on -/
theorem ent_law {qs : List Row} (g : Good qs) (n : Int) {a b c : Int} (h : ent qs n = some (a, b, c)) : 0 < c ∧ 0 ≤ worth a b c n ∧ a * n + b = worth a b c n * c := by
  obtain ⟨q, h1, h2, h3, h4⟩ := good_row g n
  have he := ent_of h4 h2.1
  rw [h] at he
  have hl : (0 : Int) < q.ents.length := by have := h2.1; omega
  have hmod : n % (q.ents.length : Int) = ((n % q.ents.length).toNat : Int) := by rw [Int.toNat_of_nonneg (mod_lo n hl)]
  have hlaw := (h2.2.2 _ _ he).2
  have := law_at hlaw h3 hmod
  exact ⟨(hlaw n h3 hmod a b c rfl).1, this.2.1, this.2.2⟩
theorem lawAt_tell {qs : List Row} (g : Good qs) (n : Int) : lawAt qs n = tell qs n := by
  obtain ⟨q, h1, h2, h3, h4⟩ := good_row g n
  unfold lawAt tell
  cases hf : qs.find? (rowIn' n) with
  | none => exact absurd (isIn_iff.mpr h3) (List.find?_eq_none.mp hf q h1)
  | some p =>
    have hp := isIn_iff.mp (show isIn p.first p.last n = true from (show rowIn' n p = true from List.find?_some hf))
    obtain ⟨i, hi⟩ := List.getElem?_of_mem (List.mem_of_find?_eq_some hf)
    have e := rowAt_of g.1 hi hp
    rw [h4] at e
    cases e
    show entTell (entIn q n) n = entTell (ent qs n) n
    unfold ent entIn
    rw [h4]

/-! ### stretches -/
theorem srt_lt {ks : List Int} (h : ks.Nodup) : (srt ks).Pairwise (· < ·) := by
  have h1 := srt_up ks
  have h2 : (srt ks).Nodup := (srt_perm ks).nodup_iff.mpr h
  exact (h1.and h2).imp fun {a b} h => by
    have := h.1
    have := h.2
    omega
theorem str_mem {ks : List Int} {i : Nat} {p : NK} (h : (stretches ks)[i]? = some p) : i < (stretches ks).length ∧ p.1 = (((none :: (srt ks).map some) : List (Option Int))[i]?).getD none ∧ p.2 = ((srt ks)[i]?).map fun b => b - 1 := by
  have hlt := (List.getElem?_eq_some_iff.mp h).1
  rw [str_get hlt] at h
  cases h
  exact ⟨hlt, rfl, rfl⟩
/-- no start lies between two integers of a stretch -/
theorem str_none {ks : List Int} (hn : ks.Nodup) {p : NK} (hp : p ∈ stretches ks) {s n m : Int} (hs : s ∈ ks) (h1 : InS p.1 p.2 n) (h2 : InS p.1 p.2 m) : ¬ (n < s ∧ s ≤ m) := by
  obtain ⟨i, hi⟩ := List.getElem?_of_mem hp
  obtain ⟨hlt, e1, e2⟩ := str_mem hi
  have hs' : s ∈ srt ks := (srt_perm ks).mem_iff.mpr hs
  obtain ⟨j, hj⟩ := List.getElem?_of_mem hs'
  have hjl := (List.getElem?_eq_some_iff.mp hj).1
  have hpw := List.pairwise_iff_getElem.mp (srt_lt hn)
  intro hh
  by_cases hji : j < i
  · cases i with
    | zero => omega
    | succ k =>
      have hk : k < (srt ks).length := by
        rw [stretches_len, ← (srt_perm ks).length_eq] at hlt; omega
      have e3 : p.1 = some (srt ks)[k] := by
        rw [e1, List.getElem?_cons_succ, List.getElem?_map, List.getElem?_eq_getElem hk]; rfl
      have hle : s ≤ (srt ks)[k] := by
        have ej := (List.getElem?_eq_some_iff.mp hj).2
        by_cases hjk : j = k
        · subst hjk; omega
        · have := hpw j k hjl hk (by omega); omega
      have := h1.1 _ e3
      omega
  · have hil : i < (srt ks).length := by omega
    have e4 : p.2 = some ((srt ks)[i] - 1) := by rw [e2, List.getElem?_eq_getElem hil]; rfl
    have hle : (srt ks)[i] ≤ s := by
      have ej := (List.getElem?_eq_some_iff.mp hj).2
      by_cases hjk : j = i
      · subst hjk; omega
      · have := hpw i j hil hjl (by omega); omega
    have := h2.2 _ e4
    omega
/-- they are joined -/
theorem str_joined {ks : List Int} (hn : ks.Nodup) (f : NK → List Ent) : Joined ((stretches ks).map fun p => ⟨p.1, p.2, f p⟩) := by
  have hl := stretches_len ks
  have h2 : (srt ks).length = ks.length := (srt_perm ks).length_eq
  have hpw := List.pairwise_iff_getElem.mp (srt_lt hn)
  have get : ∀ {i : Nat} {q : Row}, ((stretches ks).map fun p => (⟨p.1, p.2, f p⟩ : Row))[i]? = some q → ∃ p, (stretches ks)[i]? = some p ∧ q.first = p.1 ∧ q.last = p.2 := fun {i q} h => by
    rw [List.getElem?_map] at h
    cases hp : (stretches ks)[i]? with
    | none => rw [hp] at h; cases h
    | some p => rw [hp] at h; cases h; exact ⟨p, rfl, rfl, rfl⟩
  refine ⟨fun z => ?_, fun q hq => ?_, fun q hq => ?_, fun i q r hq hr => ?_⟩
  · have := congrArg List.length z
    rw [List.length_map, hl] at this
    cases this
  · obtain ⟨p, hp, e1, _⟩ := get hq
    rw [e1, (str_mem hp).2.1]; rfl
  · obtain ⟨p, hp, _, e2⟩ := get hq
    rw [e2, (str_mem hp).2.2, List.length_map, hl, List.getElem?_eq_none (by omega)]; rfl
  · obtain ⟨p, hp, _, e2⟩ := get hq
    obtain ⟨p', hp', e3, e4⟩ := get hr
    obtain ⟨hlt, a1, a2⟩ := str_mem hp
    obtain ⟨hlt', b1, b2⟩ := str_mem hp'
    have hi : i < (srt ks).length := by omega
    refine ⟨(srt ks)[i] - 1, by rw [e2, a2, List.getElem?_eq_getElem hi]; rfl, ?_, fun m hm => ?_⟩
    · rw [e3, b1, List.getElem?_cons_succ, List.getElem?_map, List.getElem?_eq_getElem hi]
      show some (srt ks)[i] = _
      congr 1; omega
    · rw [e4, b2] at hm
      cases hx : (srt ks)[i + 1]? with
      | none => rw [hx] at hm; cases hm
      | some b =>
        rw [hx] at hm
        cases hm
        have hi1 := (List.getElem?_eq_some_iff.mp hx).1
        have := hpw i (i + 1) hi hi1 (by omega)
        have e5 := (List.getElem?_eq_some_iff.mp hx).2
        show (srt ks)[i] - 1 + 1 ≤ b - 1
        omega
end K55

set_option maxHeartbeats 2000000
/-! K55: every integer lies in a lot; a lot's two entries are those that count. -/
namespace K55
theorem joined_cover {qs : List Row} (j : Joined qs) (n : Int) : ∃ (i : Nat) (q : Row), qs[i]? = some q ∧ InS q.first q.last n := by
  have hl : 0 < qs.length := List.length_pos_iff.mpr j.1
  have e2 : qs[qs.length - 1]? = some qs[qs.length - 1] := List.getElem?_eq_getElem (by omega)
  have h := j.2.2.1 _ e2
  cases q1 : rowAt qs n with
  | some q =>
    obtain ⟨i, h1, h2⟩ := rowAt_in j q1
    exact ⟨i, q, h1, h2⟩
  | none =>
    rw [rowAt_le] at q1
    have := List.find?_eq_none.mp q1 _ (List.mem_of_getElem? e2)
    rw [h] at this
    exact absurd rfl this
theorem str_cover {ks : List Int} (hn : ks.Nodup) (n : Int) : ∃ p, p ∈ stretches ks ∧ InS p.1 p.2 n := by
  obtain ⟨i, q, h1, h2⟩ := joined_cover (str_joined hn fun _ => []) n
  rw [List.getElem?_map] at h1
  cases hp : (stretches ks)[i]? with
  | none => rw [hp] at h1; cases h1
  | some p => rw [hp] at h1; cases h1; exact ⟨p, List.mem_of_getElem? hp, h2⟩
theorem str_inside {ks : List Int} (hn : ks.Nodup) {p : NK} (hp : p ∈ stretches ks) : InS p.1 p.2 (inside p) := by
  obtain ⟨i, hi⟩ := List.getElem?_of_mem hp
  obtain ⟨hlt, e1, e2⟩ := str_mem hi
  have hpw := List.pairwise_iff_getElem.mp (srt_lt hn)
  obtain ⟨f, l⟩ := p
  unfold inside
  cases f with
  | none =>
    cases l with
    | none => exact ⟨(fun _ z => nomatch z), (fun _ z => nomatch z)⟩
    | some l => exact ⟨(fun _ z => nomatch z), fun y z => by cases z; exact Int.le_refl l⟩
  | some f =>
    refine ⟨fun x z => by cases z; exact Int.le_refl f, fun y z => ?_⟩
    cases i with
    | zero => cases e1
    | succ k =>
      dsimp only at e1 e2 z
      rw [List.getElem?_cons_succ, List.getElem?_map] at e1
      cases hk : (srt ks)[k]? with
      | none => rw [hk] at e1; cases e1
      | some a =>
        cases hk2 : (srt ks)[k + 1]? with
        | none => rw [hk2] at e2; rw [e2] at z; cases z
        | some b =>
          rw [hk] at e1
          rw [hk2] at e2
          have e3 : f = a := by simpa using e1
          have e4 : y = b - 1 := by rw [e2] at z; simpa using z.symm
          obtain ⟨h1, h2⟩ := List.getElem?_eq_some_iff.mp hk
          obtain ⟨h3, h4⟩ := List.getElem?_eq_some_iff.mp hk2
          have := hpw k (k + 1) h1 h3 (by omega)
          show f ≤ y
          omega
theorem start_mem {qs rs : List Row} {j : Nat} {q : Row} {f : Int} (h : qs[j + 1]? = some q) (hf : q.first = some f) : f ∈ starts qs rs := by
  unfold starts
  rw [mem_ddup]
  refine List.mem_map.mpr ⟨q, List.mem_append_left _ (List.mem_of_getElem? (i := j) (by rw [List.getElem?_drop, Nat.add_comm]; exact h)), by rw [hf]; rfl⟩
theorem start_mem2 {qs rs : List Row} {j : Nat} {q : Row} {f : Int} (h : rs[j + 1]? = some q) (hf : q.first = some f) : f ∈ starts qs rs := by
  unfold starts
  rw [mem_ddup]
  refine List.mem_map.mpr ⟨q, List.mem_append_right _ (List.mem_of_getElem? (i := j) (by rw [List.getElem?_drop, Nat.add_comm]; exact h)), by rw [hf]; rfl⟩
/-- within a stretch one row counts -/
theorem row_same {qs : List Row} {ks : List Int} (g : Good qs) (hn : ks.Nodup) (hk : ∀ (j : Nat) q f, qs[j + 1]? = some q → q.first = some f → f ∈ ks) {p : NK} (hp : p ∈ stretches ks) {n m : Int} (h1 : InS p.1 p.2 n) (h2 : InS p.1 p.2 m) : rowAt qs n = rowAt qs m := by
  have half : ∀ {n m : Int}, InS p.1 p.2 n → InS p.1 p.2 m → ∀ {i j : Nat} {q r : Row}, qs[i]? = some q → qs[j]? = some r → InS q.first q.last n → InS r.first r.last m → ¬ i < j := by
    intro n m h1 h2 i j q r hq hr hn' hm' hij
    obtain ⟨l, f, e1, e2, e3⟩ := joined_lt g.1 (j - i - 1) i q r hq (by rw [show i + (j - i - 1) + 1 = j by omega]; exact hr)
    have hf : f ∈ ks := hk (j - 1) r f (by rw [show j - 1 + 1 = j by omega]; exact hr) e2
    have b1 := hn'.2 l e1
    have b2 := hm'.1 f e2
    exact str_none hn hp hf h1 h2 ⟨by omega, b2⟩
  obtain ⟨i, q, hq, hqn⟩ := joined_cover g.1 n
  obtain ⟨j, r, hr, hrm⟩ := joined_cover g.1 m
  have e : i = j := by
    have a1 := half h1 h2 hq hr hqn hrm
    have a2 := half h2 h1 hr hq hrm hqn
    omega
  subst e
  rw [hq] at hr
  cases hr
  rw [rowAt_of g.1 hq hqn, rowAt_of g.1 hq hrm]
theorem ents_same {qs : List Row} {ks : List Int} (g : Good qs) (hn : ks.Nodup) (hk : ∀ (j : Nat) q f, qs[j + 1]? = some q → q.first = some f → f ∈ ks) {p : NK} (hp : p ∈ stretches ks) {n : Int} (h1 : InS p.1 p.2 n) : entsAt qs n = entsAt qs (inside p) := by
  unfold entsAt
  rw [row_same g hn hk hp h1 (str_inside hn hp)]
theorem ent_entsAt (qs : List Row) (n : Int) : ent qs n = ((entsAt qs n)[(n % ((entsAt qs n).length : Int)).toNat]?).getD none := by
  unfold ent entsAt
  cases rowAt qs n with
  | none => rfl
  | some q => rfl
theorem mod_len {n : Int} {m r len : Nat} (hl : 0 < len) (hd : (len : Int) ∣ (m : Int)) (h : n % (m : Int) = r) : (n % (len : Int)).toNat = r % len := by
  have e : n % (len : Int) = (n % (m : Int)) % (len : Int) := (Int.emod_emod_of_dvd n hd).symm
  rw [e, h]
  rfl
variable {qs rs : List Row}
/-- which entries a lot holds -/
theorem lot_ents (g : Good qs) (h : Good rs) {t : Lot} (ht : t ∈ lots qs rs) {n : Int} (hs : InS t.first t.last n) (hm : n % t.many = t.rest) : ent qs n = t.mine ∧ ent rs n = t.its := by
  obtain ⟨p, r, hp, hr, rfl, hnr⟩ := lots_mem ht
  have nod := ddup_nodup ((qs.drop 1 ++ rs.drop 1).map fun q => q.first.getD 0)
  have e1 : entsAt qs n = entsAt qs (inside p) := ents_same g nod (fun j q f a b => start_mem a b) hp hs
  have e2 : entsAt rs n = entsAt rs (inside p) := ents_same h nod (fun j q f a b => start_mem2 a b) hp hs
  have l1 := entsAt_len g (inside p)
  have l2 := entsAt_len h (inside p)
  have spec := lcm2_spec (a := ((entsAt qs (inside p)).length : Int)) (b := ((entsAt rs (inside p)).length : Int)) (by omega) (by omega)
  have hm' : n % (lcm2 ((entsAt qs (inside p)).length : Int) ((entsAt rs (inside p)).length : Int)) = (r : Int) := hm
  have hpos := spec.1
  rw [← Int.toNat_of_nonneg (Int.le_of_lt hpos)] at hm' spec
  have d1 := spec.2.1
  have d2 := spec.2.2.1
  refine ⟨?_, ?_⟩
  · rw [ent_entsAt, e1, mod_len l1.1 d1 hm']; rfl
  · rw [ent_entsAt, e2, mod_len l2.1 d2 hm']; rfl
theorem lot_at (g : Good qs) (h : Good rs) (n : Int) : ∃ t, t ∈ lots qs rs ∧ InS t.first t.last n ∧ n % t.many = t.rest := by
  have nod := ddup_nodup ((qs.drop 1 ++ rs.drop 1).map fun q => q.first.getD 0)
  obtain ⟨p, hp, hs⟩ := str_cover (ks := starts qs rs) nod n
  have l1 := entsAt_len g (inside p)
  have l2 := entsAt_len h (inside p)
  have hpos := (many_le l1.1 l2.1 l1.2 l2.2).1
  have b1 := mod_lo n hpos
  have b2 := mod_hi n hpos
  let r : Nat := (n % lcm2 ((entsAt qs (inside p)).length : Int) ((entsAt rs (inside p)).length : Int)).toNat
  have hr : (r : Int) = n % lcm2 ((entsAt qs (inside p)).length : Int) ((entsAt rs (inside p)).length : Int) := Int.toNat_of_nonneg b1
  have hmem : lotAt (entsAt qs (inside p)) (entsAt rs (inside p)) p r ∈ allLots qs rs := List.mem_flatMap.mpr ⟨p, hp, List.mem_map.mpr ⟨r, List.mem_range.mpr (by omega), rfl⟩⟩
  refine ⟨_, List.mem_filter.mpr ⟨hmem, ?_⟩, hs, hr.symm⟩
  show (near p.1 p.2 (lcm2 ((entsAt qs (inside p)).length : Int) ((entsAt rs (inside p)).length : Int)) (r : Int)).isSome = true
  cases hnr : near p.1 p.2 (lcm2 ((entsAt qs (inside p)).length : Int) ((entsAt rs (inside p)).length : Int)) (r : Int) with
  | some _ => rfl
  | none => exact absurd hr.symm (near_none (by omega) (by omega) hnr hs)
/-- its entries keep the law there -/
theorem lot_law (g : Good qs) (h : Good rs) {t : Lot} (ht : t ∈ lots qs rs) : EntLaw t.first t.last t.many t.rest t.mine ∧ EntLaw t.first t.last t.many t.rest t.its := by
  refine ⟨fun n hs hm a b c e => ?_, fun n hs hm a b c e => ?_⟩
  · have h1 := (lot_ents g h ht hs hm).1
    rw [e] at h1
    have := ent_law g n h1
    exact ⟨this.1, _, this.2.1, this.2.2⟩
  · have h1 := (lot_ents g h ht hs hm).2
    rw [e] at h1
    have := ent_law h n h1
    exact ⟨this.1, _, this.2.1, this.2.2⟩
end K55

set_option maxHeartbeats 2000000
/-! K55: where two rules part. -/
namespace K55
variable {f l : Option Int} {m r : Int}
theorem lot_next (h0 : 0 ≤ r) (h1 : r < m) {p : Int × Int} (h : near f l m r = some p) {n : Int} (hs : InS f l n) (hn : n % m = r) (hne : n ≠ p.1) : InS f l (p.1 + p.2) ∧ (p.1 + p.2) % m = r := by
  obtain ⟨at', s⟩ := p
  by_cases he : f = none ∨ l = none
  · have := near_steps h0 h1 he h (k := 1) (by omega)
    rw [Int.mul_one] at this
    exact this
  · cases f with
    | none => exact absurd (.inl rfl) he
    | some f =>
      cases l with
      | none => exact absurd (.inr rfl) he
      | some l =>
        have hsp := near_some h0 h1 h
        simp only [near] at h
        split at h
        · cases h
        · simp only [Option.some.injEq, Prod.mk.injEq] at h
          obtain ⟨rfl, rfl⟩ := h
          have b1 := hs.1 f rfl
          have b2 := mod_hi (r - f) (show 0 < m by omega)
          have hlt : f + (r - f) % m < n := by
            by_cases q : f + (r - f) % m < n
            · exact q
            · have := mod_step (show 0 < m by omega) (hn.trans hsp.2.1.symm) (by dsimp only at hne; omega)
              omega
          have := mod_step (show 0 < m by omega) (hsp.2.1.trans hn.symm) hlt
          have b3 := hs.2 l rfl
          refine ⟨⟨fun x z => ?_, fun y z => ?_⟩, add_mod hsp.2.1⟩
          · cases z
            have := hsp.1.1 f rfl
            show f ≤ f + (r - f) % m + m
            omega
          · cases z
            show f + (r - f) % m + m ≤ l
            omega
theorem entTell_some {x : Int × Int × Int} {n : Int} : entTell (some x) n = some (worth x.1 x.2.1 x.2.2 n) := by
  obtain ⟨a, b, c⟩ := x; rfl
/-- two straight entries that agree at two numbers agree at all of the lot -/
theorem two_points {a b c a' b' c' at' s n : Int} (hc : 0 < c) (hc' : 0 < c') (hs : s ≠ 0) (e1 : a * at' + b = worth a b c at' * c) (e1' : a' * at' + b' = worth a' b' c' at' * c') (e2 : a * (at' + s) + b = worth a b c (at' + s) * c) (e2' : a' * (at' + s) + b' = worth a' b' c' (at' + s) * c')
    (w1 : worth a b c at' = worth a' b' c' at') (w2 : worth a b c (at' + s) = worth a' b' c' (at' + s)) (e3 : a * n + b = worth a b c n * c) (e3' : a' * n + b' = worth a' b' c' n * c') : worth a b c n = worth a' b' c' n := by
  rw [← w1] at e1'
  rw [← w2] at e2'
  generalize worth a b c at' = v1 at *
  generalize worth a b c (at' + s) = v2 at *
  generalize worth a b c n = v at *
  generalize worth a' b' c' n = v' at *
  have k1 : (c' * a - c * a') * s = 0 := by grind
  have k2 : c' * a - c * a' = 0 := by
    rcases Int.mul_eq_zero.mp k1 with z | z
    · exact z
    · exact absurd z hs
  have k3 : c * c' * (v - v') = 0 := by grind
  have k4 : c * c' ≠ 0 := Int.mul_ne_zero (by omega) (by omega)
  rcases Int.mul_eq_zero.mp k3 with z | z
  · exact absurd z k4
  · omega
theorem unl_none {qs rs : List Row} (g : Good qs) (h : Good rs) {t : Lot} (ht : t ∈ lots qs rs) (hu : unl t = none) {n : Int} (hs : InS t.first t.last n) (hn : n % t.many = t.rest) : entTell t.mine n = entTell t.its n := by
  obtain ⟨⟨p, hp⟩, hm, hm2, h0, h1, _, _⟩ := lots_ok g h ht
  obtain ⟨L1, L2⟩ := lot_law g h ht
  obtain ⟨fi, la, m, r, mi, it⟩ := t
  dsimp only at *
  unfold unl at hu
  dsimp only at hu
  rw [hp] at hu
  rcases mi with _ | x
  · rcases it with _ | y
    · rfl
    · cases hu
  · rcases it with _ | y
    · cases hu
    · rw [entTell_some, entTell_some]
      congr 1
      have hno := List.find?_eq_none.mp hu
      have hsp := near_some h0 h1 hp
      have at1 := hno p.1 (by simp)
      have eqAt : ∀ k : Int, InS fi la k → hits fi la x y k ≠ true → worth x.1 x.2.1 x.2.2 k = worth y.1 y.2.1 y.2.2 k := fun k hk hh => by
        unfold hits at hh
        rw [isIn_iff.mpr hk] at hh
        simpa using hh
      have w1 := eqAt p.1 hsp.1 at1
      by_cases hne : n = p.1
      · rw [hne]; exact w1
      · have hnx := lot_next h0 h1 hp hs hn hne
        have w2 := eqAt _ hnx.1 (hno (p.1 + p.2) (by simp))
        obtain ⟨a, b, c⟩ := x
        obtain ⟨a', b', c'⟩ := y
        have hc := (L1 n hs hn a b c rfl).1
        have hc' := (L2 n hs hn a' b' c' rfl).1
        exact two_points hc hc' (by rcases hsp.2.2 with z | z <;> omega) (law_at L1 hsp.1 hsp.2.1).2.2 (law_at L2 hsp.1 hsp.2.1).2.2 (law_at L1 hnx.1 hnx.2).2.2 (law_at L2 hnx.1 hnx.2).2.2 w1 w2 (law_at L1 hs hn).2.2 (law_at L2 hs hn).2.2
theorem unl_some {qs rs : List Row} (g : Good qs) (h : Good rs) {t : Lot} (ht : t ∈ lots qs rs) {n : Int} (hu : unl t = some n) : InS t.first t.last n ∧ n % t.many = t.rest ∧ entTell t.mine n ≠ entTell t.its n := by
  obtain ⟨⟨p, hp⟩, hm, hm2, h0, h1, _, _⟩ := lots_ok g h ht
  obtain ⟨fi, la, m, r, mi, it⟩ := t
  dsimp only at *
  have hsp := near_some h0 h1 hp
  unfold unl at hu
  dsimp only at hu
  rw [hp] at hu
  rcases mi with _ | x
  · rcases it with _ | y
    · cases hu
    · cases hu
      exact ⟨hsp.1, hsp.2.1, by rw [entTell_some]; exact fun z => nomatch z⟩
  · rcases it with _ | y
    · cases hu
      exact ⟨hsp.1, hsp.2.1, by rw [entTell_some]; exact fun z => nomatch z⟩
    · have hu : [p.1, p.1 + p.2].find? (hits fi la x y) = some n := hu
      have h2 := List.find?_some hu
      have h3 := List.mem_of_find?_eq_some hu
      unfold hits at h2
      rw [Bool.and_eq_true] at h2
      have hin := isIn_iff.mp h2.1
      refine ⟨hin, ?_, ?_⟩
      · simp at h3
        rcases h3 with rfl | rfl
        · exact hsp.2.1
        · rcases hsp.2.2 with z | z
          · rw [z]; exact add_mod hsp.2.1
          · rw [z]; exact sub_mod hsp.2.1
      · rw [entTell_some, entTell_some]
        intro z
        have := Option.some.inj z
        simp [this] at h2
theorem parted_none {qs rs : List Row} (g : Good qs) (h : Good rs) (hu : partedAt qs rs = none) (n : Int) : tell qs n = tell rs n := by
  obtain ⟨t, ht, hs, hm⟩ := lot_at g h n
  obtain ⟨e1, e2⟩ := lot_ents g h ht hs hm
  unfold tell
  rw [e1, e2]
  have hn : unl t = none := by
    have := List.findSome?_eq_none_iff.mp hu (unl t) (List.mem_map.mpr ⟨t, ht, rfl⟩)
    exact this
  exact unl_none g h ht hn hs hm
theorem parted_some {qs rs : List Row} (g : Good qs) (h : Good rs) {n : Int} (hu : partedAt qs rs = some n) : tell qs n ≠ tell rs n := by
  obtain ⟨o, ho, e⟩ := List.exists_of_findSome?_eq_some hu
  obtain ⟨t, ht, rfl⟩ := List.mem_map.mp ho
  obtain ⟨hs, hm, hne⟩ := unl_some g h ht (show unl t = some n from e)
  obtain ⟨e1, e2⟩ := lot_ents g h ht hs hm
  unfold tell
  rw [e1, e2]
  exact hne
theorem parted_same {qs rs : List Row} (g : Good qs) (h : Good rs) (hall : ∀ n, tell qs n = tell rs n) : partedAt qs rs = none := by
  cases hp : partedAt qs rs with
  | none => rfl
  | some n => exact absurd (hall n) (parted_some g h hp)
end K55

set_option maxHeartbeats 2000000
/-! K55: what two rules added tell. -/
namespace K55
/-! ### the stretches that the sum has -/
def kadd (ks : List NK) (p : NK) : List NK := if p ∈ ks then ks else ks ++ [p]
theorem accFind_some {acc : Acc} {p : NK} : (accFind acc p).isSome = true ↔ p ∈ acc.map (·.1) := by
  unfold accFind
  rw [List.find?_isSome, List.mem_map]
  constructor
  · rintro ⟨q, h1, h2⟩; exact ⟨q, h1, of_decide_eq_true h2⟩
  · rintro ⟨q, h1, h2⟩; exact ⟨q, h1, decide_eq_true h2⟩
theorem accPut_keys (acc : Acc) (p : NK) (es : List Ent) : (accPut acc p es).map (·.1) = kadd (acc.map (·.1)) p := by
  unfold accPut kadd
  by_cases h : (accFind acc p).isSome = true
  · rw [if_pos h, if_pos (accFind_some.mp h), List.map_map]
    refine List.map_congr_left fun q _ => ?_
    show (if q.1 = p then (q.1, es) else q).1 = q.1
    split <;> rfl
  · rw [if_neg h, if_neg (fun z => h (accFind_some.mpr z)), List.map_append]; rfl
theorem fold_keys : ∀ (ts : List Lot) (acc : Acc), (ts.foldl addStep acc).map (·.1) = (ts.map fun t => ((t.first, t.last) : NK)).foldl kadd (acc.map (·.1))
  | [], _ => rfl
  | t :: ts, acc => by
    rw [List.foldl_cons, fold_keys ts, List.map_cons, List.foldl_cons]
    unfold addStep
    rw [accPut_keys]
theorem kadd_same : ∀ (l : List NK) (ks : List NK) (p : NK), p ∈ ks → (∀ x, x ∈ l → x = p) → l.foldl kadd ks = ks
  | [], _, _, _, _ => rfl
  | x :: l, ks, p, h, hl => by
    have e := hl x List.mem_cons_self
    subst e
    rw [List.foldl_cons, show kadd ks x = ks from if_pos h]
    exact kadd_same l ks x h fun y hy => hl y (List.mem_cons_of_mem _ hy)
theorem kadd_blocks (F : NK → List NK) : ∀ (ps ks : List NK), (ps.flatMap F).foldl kadd ks = (ps.flatMap F).foldl kadd ks → (∀ p, p ∈ ps → F p ≠ [] ∧ ∀ x, x ∈ F p → x = p) → ps.Nodup → (∀ p, p ∈ ps → p ∉ ks) → (ps.flatMap F).foldl kadd ks = ks ++ ps
  | [], ks, _, _, _, _ => by simp
  | p :: ps, ks, _, h, nd, hk => by
    obtain ⟨h1, h2⟩ := h p List.mem_cons_self
    have nd' := List.nodup_cons.mp nd
    rw [List.flatMap_cons, List.foldl_append]
    have e1 : (F p).foldl kadd ks = ks ++ [p] := by
      cases hF : F p with
      | nil => exact absurd hF h1
      | cons x l =>
        rw [hF] at h2
        have e := h2 x List.mem_cons_self
        subst e
        rw [List.foldl_cons, show kadd ks x = ks ++ [x] from if_neg (hk x List.mem_cons_self)]
        exact kadd_same l _ x (by simp) fun y hy => h2 y (List.mem_cons_of_mem _ hy)
    rw [e1, kadd_blocks F ps (ks ++ [p]) rfl (fun q hq => h q (List.mem_cons_of_mem _ hq)) nd'.2 fun q hq => ?_]
    · simp
    · rw [List.mem_append, List.mem_singleton]
      rintro (z | z)
      · exact hk q (List.mem_cons_of_mem _ hq) z
      · subst z; exact nd'.1 hq
variable {qs rs : List Row}
theorem str_nodup {ks : List Int} (hn : ks.Nodup) : (stretches ks).Nodup := by
  refine List.pairwise_iff_getElem.mpr fun i j hi hj hij e => ?_
  have jd := str_joined hn fun _ => []
  have g1 : ((stretches ks).map fun p => (⟨p.1, p.2, []⟩ : Row))[i]? = some ⟨(stretches ks)[i].1, (stretches ks)[i].2, []⟩ := by rw [List.getElem?_map, List.getElem?_eq_getElem hi]; rfl
  have g2 : ((stretches ks).map fun p => (⟨p.1, p.2, []⟩ : Row))[j]? = some ⟨(stretches ks)[j].1, (stretches ks)[j].2, []⟩ := by rw [List.getElem?_map, List.getElem?_eq_getElem hj]; rfl
  obtain ⟨l, f, a1, a2, a3⟩ := joined_lt jd (j - i - 1) i _ _ g1 (by rw [show i + (j - i - 1) + 1 = j by omega]; exact g2)
  have hin := str_inside hn (List.getElem_mem hi)
  dsimp only at a1 a2
  have b1 := hin.2 l a1
  rw [← e] at a2
  have b2 := hin.1 f a2
  omega
theorem lot_in (g : Good qs) (h : Good rs) {p : NK} (hp : p ∈ stretches (starts qs rs)) {n : Int} (hs : InS p.1 p.2 n) : ∃ t, t ∈ (lotsIn qs rs p).filter (fun t => (near t.first t.last t.many t.rest).isSome) ∧ (t.first, t.last) = p ∧ n % t.many = t.rest := by
  have l1 := entsAt_len g (inside p)
  have l2 := entsAt_len h (inside p)
  have hpos := (many_le l1.1 l2.1 l1.2 l2.2).1
  have b1 := mod_lo n hpos
  have b2 := mod_hi n hpos
  let r : Nat := (n % lcm2 ((entsAt qs (inside p)).length : Int) ((entsAt rs (inside p)).length : Int)).toNat
  have hr : (r : Int) = n % lcm2 ((entsAt qs (inside p)).length : Int) ((entsAt rs (inside p)).length : Int) := Int.toNat_of_nonneg b1
  have hmem : lotAt (entsAt qs (inside p)) (entsAt rs (inside p)) p r ∈ lotsIn qs rs p := List.mem_map.mpr ⟨r, List.mem_range.mpr (by omega), rfl⟩
  refine ⟨_, List.mem_filter.mpr ⟨hmem, ?_⟩, rfl, hr.symm⟩
  show (near p.1 p.2 (lcm2 ((entsAt qs (inside p)).length : Int) ((entsAt rs (inside p)).length : Int)) (r : Int)).isSome = true
  cases hnr : near p.1 p.2 (lcm2 ((entsAt qs (inside p)).length : Int) ((entsAt rs (inside p)).length : Int)) (r : Int) with
  | some _ => rfl
  | none => exact absurd hr.symm (near_none (by omega) (by omega) hnr hs)
theorem acc_keys (g : Good qs) (h : Good rs) : (accOf qs rs).map (·.1) = stretches (starts qs rs) := by
  have nod := ddup_nodup ((qs.drop 1 ++ rs.drop 1).map fun q => q.first.getD 0)
  unfold accOf
  rw [fold_keys]
  have e : ((lots qs rs).map fun t => ((t.first, t.last) : NK)) = (stretches (starts qs rs)).flatMap fun p => ((lotsIn qs rs p).filter fun t => (near t.first t.last t.many t.rest).isSome).map fun t => ((t.first, t.last) : NK) := by
    unfold lots allLots
    rw [List.filter_flatMap, List.map_flatMap]
  rw [e]
  have := kadd_blocks (fun p => ((lotsIn qs rs p).filter fun t => (near t.first t.last t.many t.rest).isSome).map fun t => ((t.first, t.last) : NK)) (stretches (starts qs rs)) [] rfl (fun p hp => ⟨fun z => ?_, fun x hx => ?_⟩) (str_nodup nod) (fun p _ z => nomatch z)
  · rw [List.nil_append] at this; exact this
  · obtain ⟨t, ht, _⟩ := lot_in g h hp (str_inside nod hp)
    rw [List.map_eq_nil_iff] at z
    rw [z] at ht
    cases ht
  · obtain ⟨t, ht, rfl⟩ := List.mem_map.mp hx
    obtain ⟨r, hr, rfl⟩ := List.mem_map.mp (List.mem_filter.mp ht).1
    rfl
/-! ### the entries that the sum has -/
def EntsOk (done : List Lot) (acc : Acc) : Prop := ∀ q, q ∈ acc → ∀ (r : Nat) e, q.2[r]? = some e → (∃ t, t ∈ done ∧ (t.first, t.last) = q.1 ∧ t.rest.toNat = r ∧ e = sumE t.mine t.its) ∨ (e = some (0, 0, 1) ∧ ∀ t, t ∈ done → (t.first, t.last) = q.1 → t.rest.toNat ≠ r)
def KeysOk (done : List Lot) (acc : Acc) : Prop := ∀ t, t ∈ done → ((t.first, t.last) : NK) ∈ acc.map (·.1)
theorem step_ents {done : List Lot} {acc : Acc} {t : Lot} (h : EntsOk done acc) (hk : KeysOk done acc) : EntsOk (done ++ [t]) (addStep acc t) ∧ KeysOk (done ++ [t]) (addStep acc t) := by
  have hk' : ∀ p, p ∈ (addStep acc t).map (·.1) ↔ p ∈ acc.map (·.1) ∨ p = (t.first, t.last) := fun p => by
    unfold addStep
    rw [accPut_keys]
    unfold kadd
    split
    · rename_i z
      exact ⟨fun y => .inl y, fun y => by rcases y with y | rfl; exact y; exact z⟩
    · rw [List.mem_append, List.mem_singleton]
  refine ⟨fun q hq r e he => ?_, fun u hu => ?_⟩
  · by_cases hp : q.1 = (t.first, t.last)
    · -- the block of this lot
      have hq2 : q.2 = (curOf acc t).set t.rest.toNat (sumE t.mine t.its) := by
        unfold addStep accPut at hq
        split at hq
        · obtain ⟨x, hx, rfl⟩ := List.mem_map.mp hq
          split
          · rfl
          · rename_i z1 z2
            rw [if_neg z2] at hp
            exact absurd hp z2
        · rename_i z
          rcases List.mem_append.mp hq with y | y
          · exact absurd (accFind_some.mpr (by rw [← hp]; exact List.mem_map.mpr ⟨q, y, rfl⟩)) z
          · rw [List.mem_singleton.mp y]
      rw [hq2, List.getElem?_set] at he
      by_cases hr : t.rest.toNat = r
      · rw [if_pos hr] at he
        split at he
        · cases he
          exact .inl ⟨t, by simp, hp.symm, hr, rfl⟩
        · cases he
      · rw [if_neg hr] at he
        have old : (∃ u, u ∈ done ∧ (u.first, u.last) = q.1 ∧ u.rest.toNat = r ∧ e = sumE u.mine u.its) ∨ (e = some (0, 0, 1) ∧ ∀ u, u ∈ done → (u.first, u.last) = q.1 → u.rest.toNat ≠ r) := by
          unfold curOf at he
          cases hf : accFind acc (t.first, t.last) with
          | none =>
            rw [hf] at he
            refine .inr ⟨?_, fun u hu hku _ => ?_⟩
            · have : e ∈ List.replicate t.many.toNat (some ((0 : Int), (0 : Int), (1 : Int))) := List.mem_of_getElem? he
              exact (List.mem_replicate.mp this).2
            · have h1 := hk u hu
              rw [hku, hp] at h1
              have := accFind_some.mpr h1
              rw [hf] at this
              cases this
          | some q0 =>
            rw [hf] at he
            have h0 : q0.1 = (t.first, t.last) := by simpa using List.find?_some hf
            have := h q0 (List.mem_of_find?_eq_some hf) r e he
            rw [h0, ← hp] at this
            exact this
        rcases old with ⟨u, h1, h2⟩ | ⟨h1, h2⟩
        · exact .inl ⟨u, List.mem_append_left _ h1, h2⟩
        · refine .inr ⟨h1, fun u hu hku => ?_⟩
          rcases List.mem_append.mp hu with hu | hu
          · exact h2 u hu hku
          · rw [List.mem_singleton.mp hu]; exact hr
    · have hq' : q ∈ acc := by
        unfold addStep at hq
        rcases accPut_mem hq with z | rfl
        · exact z
        · exact absurd rfl hp
      rcases h q hq' r e he with ⟨u, h1, h2⟩ | ⟨h1, h2⟩
      · exact .inl ⟨u, List.mem_append_left _ h1, h2⟩
      · refine .inr ⟨h1, fun u hu hku => ?_⟩
        rcases List.mem_append.mp hu with hu | hu
        · exact h2 u hu hku
        · rw [List.mem_singleton.mp hu] at hku; exact absurd hku.symm hp
  · rw [hk']
    rcases List.mem_append.mp hu with hu | hu
    · exact .inl (hk u hu)
    · rw [List.mem_singleton.mp hu]; exact .inr rfl
theorem fold_ents : ∀ (ts done : List Lot) (acc : Acc), EntsOk done acc → KeysOk done acc → EntsOk (done ++ ts) (ts.foldl addStep acc)
  | [], done, acc, h, _ => by simpa using h
  | t :: ts, done, acc, h, hk => by
    have := step_ents (t := t) h hk
    rw [List.foldl_cons, show done ++ t :: ts = (done ++ [t]) ++ ts by simp]
    exact fold_ents ts _ _ this.1 this.2
theorem acc_ents (qs rs : List Row) : EntsOk (lots qs rs) (accOf qs rs) := fold_ents (lots qs rs) [] [] (fun _ z => nomatch z) (fun _ z => nomatch z)
theorem fold_len : ∀ (ts : List Lot) (acc : Acc), (∀ t, t ∈ ts → t ∈ lots qs rs) → AccOk qs rs acc → AccOk qs rs (ts.foldl addStep acc)
  | [], _, _, h => h
  | t :: ts, acc, ht, h => by
    rw [List.foldl_cons]
    exact fold_len ts _ (fun u hu => ht u (List.mem_cons_of_mem _ hu)) (acc_step h (ht t List.mem_cons_self))
theorem acc_len (qs rs : List Row) : AccOk qs rs (accOf qs rs) := fold_len (lots qs rs) [] (fun _ h => h) (fun _ z => nomatch z)
/-- the entry of the sum that counts at n -/
theorem acc_at (g : Good qs) (h : Good rs) {q : NK × List Ent} (hq : q ∈ accOf qs rs) {n : Int} (hs : InS q.1.1 q.1.2 n) : 0 < manyOf qs rs q.1 ∧ (q.2.length : Int) = manyOf qs rs q.1 ∧ q.2[(n % manyOf qs rs q.1).toNat]? = some (sumE (ent qs n) (ent rs n)) := by
  have hp : q.1 ∈ stretches (starts qs rs) := by rw [← acc_keys g h]; exact List.mem_map.mpr ⟨q, hq, rfl⟩
  obtain ⟨t, ht, hk, hm⟩ := lot_in g h hp hs
  have htl : t ∈ lots qs rs := by
    have := List.mem_filter.mp ht
    exact List.mem_filter.mpr ⟨List.mem_flatMap.mpr ⟨q.1, hp, this.1⟩, this.2⟩
  have hmany := lots_many htl
  rw [hk] at hmany
  have ok := lots_ok g h htl
  have hlen := acc_len qs rs q hq
  have hpos : 0 < manyOf qs rs q.1 := by rw [← hmany]; exact ok.pos
  have e1 : (q.2.length : Int) = manyOf qs rs q.1 := by rw [hlen]; exact Int.toNat_of_nonneg (Int.le_of_lt hpos)
  refine ⟨hpos, e1, ?_⟩
  rw [← hmany, hm]
  have b := mod_hi n ok.pos
  have b0 := ok.r0
  have hlt : t.rest.toNat < q.2.length := by rw [hmany] at b hm; omega
  rw [List.getElem?_eq_getElem hlt]
  have inT : InS t.first t.last n := by
    have e2 : t.first = q.1.1 := congrArg Prod.fst hk
    have e3 : t.last = q.1.2 := congrArg Prod.snd hk
    rw [e2, e3]; exact hs
  rcases acc_ents qs rs q hq _ _ (List.getElem?_eq_getElem hlt) with ⟨u, h1, h2, h3, h4⟩ | ⟨_, h2⟩
  · rw [h4]
    have inU : InS u.first u.last n := by
      have e2 : u.first = q.1.1 := congrArg Prod.fst h2
      have e3 : u.last = q.1.2 := congrArg Prod.snd h2
      rw [e2, e3]; exact hs
    have oku := lots_ok g h h1
    have hu0 := oku.r0
    have e4 : u.many = t.many := by rw [lots_many h1, h2, hmany]
    obtain ⟨a1, a2⟩ := lot_ents g h h1 inU (by rw [e4, hm]; omega)
    rw [a1, a2]
  · exact absurd rfl (h2 t htl hk)
end K55

set_option maxHeartbeats 2000000
/-! K55: the sum of two rules is a rule that tells the sums. -/
namespace K55
def Bnd : Ent → Prop
  | none => True
  | some (a, _, c) => -1000 ≤ a ∧ a ≤ 1000 ∧ c ≤ 1000
def SmallR (qs : List Row) : Prop := qs.length ≤ 8 ∧ ∀ q, q ∈ qs → q.ents.length ≤ 5 ∧ ∀ e, e ∈ q.ents → Bnd e
theorem thin_val {a b c n v : Int} (hc : 0 < c) (e : a * n + b = v * c) : 0 < (thin a b c).2.2 ∧ (thin a b c).1 * n + (thin a b c).2.1 = v * (thin a b c).2.2 := by
  obtain ⟨h0, ⟨a', ha⟩, ⟨b', hb⟩, ⟨c', hc'⟩⟩ := thinG_spec (a := a) (b := b) hc
  unfold thin
  dsimp only
  generalize thinG a b c = g at *
  have hg : g ≠ 0 := by omega
  subst ha hb hc'
  rw [Int.mul_ediv_cancel_left _ hg, Int.mul_ediv_cancel_left _ hg, Int.mul_ediv_cancel_left _ hg]
  have e2 : g * (a' * n + b') = g * (v * c') := by grind
  exact ⟨Int.pos_of_mul_pos_right hc h0 , Int.eq_of_mul_eq_mul_left hg e2⟩
theorem thin_small {a b c N : Int} (hc : 0 < c) (hcN : c ≤ N) {M : Int} (ha : -M ≤ a) (ha' : a ≤ M) : (thin a b c).2.2 ≤ N ∧ -M ≤ (thin a b c).1 ∧ (thin a b c).1 ≤ M := by
  obtain ⟨h0, ⟨a', ha1⟩, _, ⟨c', hc'⟩⟩ := thinG_spec (a := a) (b := b) hc
  unfold thin
  dsimp only
  generalize thinG a b c = g at *
  have hg : g ≠ 0 := by omega
  subst ha1 hc'
  rw [Int.mul_ediv_cancel_left _ hg, Int.mul_ediv_cancel_left _ hg]
  have key : ∀ x : Int, 0 ≤ x → x ≤ g * x := fun x hx => by
    have := Int.mul_le_mul_of_nonneg_right (show (1 : Int) ≤ g by omega) hx
    omega
  have c0 : 0 < c' := Int.pos_of_mul_pos_right hc h0
  have k1 := key c' (Int.le_of_lt c0)
  by_cases q : 0 ≤ a'
  · have := key a' q
    omega
  · have := key (-a') (by omega)
    rw [Int.mul_neg] at this
    omega
theorem sum_val {a b c a' b' c' n v v' : Int} (e : a * n + b = v * c) (e' : a' * n + b' = v' * c') : (a * c' + a' * c) * n + (b * c' + b' * c) = (v + v') * (c * c') := by grind
variable {qs rs : List Row}
theorem sum_ent (g : Good qs) (h : Good rs) {n a b c : Int} (e : sumE (ent qs n) (ent rs n) = some (a, b, c)) : ∃ v v', tell qs n = some v ∧ tell rs n = some v' ∧ 0 ≤ v ∧ 0 ≤ v' ∧ 0 < c ∧ a * n + b = (v + v') * c := by
  unfold tell
  cases h1 : ent qs n with
  | none => rw [h1] at e; cases e
  | some x =>
    cases h2 : ent rs n with
    | none => rw [h1, h2] at e; cases e
    | some y =>
      obtain ⟨a1, b1, c1⟩ := x
      obtain ⟨a2, b2, c2⟩ := y
      obtain ⟨p1, p2, p3⟩ := ent_law g n h1
      obtain ⟨r1, r2, r3⟩ := ent_law h n h2
      rw [h1, h2] at e
      have := thin_val (Int.mul_pos p1 r1) (sum_val p3 r3)
      have e' : thin (a1 * c2 + a2 * c1) (b1 * c2 + b2 * c1) (c1 * c2) = (a, b, c) := Option.some.inj e
      rw [e'] at this
      exact ⟨_, _, entTell_some, entTell_some, p2, r2, this.1, this.2⟩
theorem sum_none {n : Int} (e : sumE (ent qs n) (ent rs n) = none) : plus (tell qs n) (tell rs n) = none := by
  unfold tell
  cases h1 : ent qs n with
  | none => rfl
  | some x =>
    cases h2 : ent rs n with
    | none => rw [entTell_some]; rfl
    | some y => rw [h1, h2] at e; cases e
theorem add_row (g : Good qs) (h : Good rs) : addRows qs rs = (accOf qs rs).map accRow := rfl
theorem joined_keys {xs ys : List Row} (e : ys.map (fun q => (q.first, q.last)) = xs.map fun q => (q.first, q.last)) (j : Joined xs) : Joined ys := by
  have hl : ys.length = xs.length := by have := congrArg List.length e; rwa [List.length_map, List.length_map] at this
  have get : ∀ {i : Nat} {q : Row}, ys[i]? = some q → ∃ p, xs[i]? = some p ∧ p.first = q.first ∧ p.last = q.last := fun {i q} hq => by
    have h1 : (ys.map fun q => (q.first, q.last))[i]? = some (q.first, q.last) := by rw [List.getElem?_map, hq]; rfl
    rw [e, List.getElem?_map] at h1
    cases hp : xs[i]? with
    | none => rw [hp] at h1; cases h1
    | some p =>
      rw [hp] at h1
      have h2 : (p.first, p.last) = (q.first, q.last) := Option.some.inj h1
      exact ⟨p, rfl, congrArg Prod.fst h2, congrArg Prod.snd h2⟩
  obtain ⟨j1, j2, j3, j4⟩ := j
  refine ⟨fun z => j1 (List.length_eq_zero_iff.mp (by rw [← hl, z]; rfl)), fun q hq => ?_, fun q hq => ?_, fun i q r hq hr => ?_⟩
  · obtain ⟨p, hp, e1, _⟩ := get hq
    rw [← e1]; exact j2 p hp
  · obtain ⟨p, hp, _, e1⟩ := get hq
    rw [hl] at hp
    rw [← e1]; exact j3 p hp
  · obtain ⟨p, hp, e1, e2⟩ := get hq
    obtain ⟨p', hp', e3, e4⟩ := get hr
    rw [← e2, ← e3, ← e4]
    exact j4 i p p' hp hp'
theorem add_joined (g : Good qs) (h : Good rs) : Joined (addRows qs rs) := by
  refine joined_keys ?_ (str_joined (ks := starts qs rs) (ddup_nodup _) fun _ => [])
  unfold addRows
  rw [List.map_map, List.map_map, ← acc_keys g h, List.map_map]
  rfl
theorem add_at (g : Good qs) (h : Good rs) (n : Int) : ent (addRows qs rs) n = sumE (ent qs n) (ent rs n) := by
  have j := add_joined g h
  obtain ⟨i, q, hq, hs⟩ := joined_cover j n
  have hr := rowAt_of j hq hs
  obtain ⟨q0, hq0, rfl⟩ := List.mem_map.mp (List.mem_of_getElem? hq)
  obtain ⟨h1, h2, h3⟩ := acc_at g h hq0 (n := n) hs
  unfold ent
  rw [hr]
  show (q0.2[(n % (q0.2.length : Int)).toNat]?).getD none = _
  rw [h2, h3]
  rfl
theorem add_tell (g : Good qs) (h : Good rs) (n : Int) : tell (addRows qs rs) n = plus (tell qs n) (tell rs n) := by
  show entTell (ent (addRows qs rs) n) n = _
  rw [add_at g h n]
  cases e : sumE (ent qs n) (ent rs n) with
  | none => rw [sum_none e]; rfl
  | some x =>
    obtain ⟨a, b, c⟩ := x
    obtain ⟨v, v', e1, e2, _, _, hc, e3⟩ := sum_ent g h e
    rw [e1, e2, entTell_some]
    show some (worth a b c n) = some (v + v')
    rw [(worth_of hc e3).2]
theorem entsAt_small {B : Nat} (s : ∀ q, q ∈ qs → q.ents.length ≤ B) (n : Int) : (entsAt qs n).length ≤ B := by
  unfold entsAt
  cases hr : rowAt qs n with
  | none => simp
  | some q => exact s q (List.mem_of_find?_eq_some hr)
theorem ent_bnd (s : SmallR qs) (n : Int) (i : Nat) : Bnd (((entsAt qs n)[i]?).getD none) := by
  unfold entsAt
  cases hr : rowAt qs n with
  | none => trivial
  | some q =>
    show Bnd ((q.ents[i]?).getD none)
    cases he : q.ents[i]? with
    | none => trivial
    | some e => exact (s.2 q (List.mem_of_find?_eq_some hr)).2 e (List.mem_of_getElem? he)
theorem lot_bnd (sq : SmallR qs) (sr : SmallR rs) {t : Lot} (ht : t ∈ lots qs rs) : Bnd t.mine ∧ Bnd t.its := by
  obtain ⟨p, r, hp, hr, rfl, hnr⟩ := lots_mem ht
  exact ⟨ent_bnd sq _ _, ent_bnd sr _ _⟩
theorem lot_small (sq : SmallR qs) (sr : SmallR rs) {t : Lot} (ht : t ∈ lots qs rs) : SmallE t.mine ∧ SmallE t.its := by
  obtain ⟨h1, h2⟩ := lot_bnd sq sr ht
  refine ⟨?_, ?_⟩
  · cases hm : t.mine with
    | none => trivial
    | some x => rw [hm] at h1; exact h1.2.2
  · cases hm : t.its with
    | none => trivial
    | some x => rw [hm] at h2; exact h2.2.2
theorem many_small (g : Good qs) (h : Good rs) (sq : SmallR qs) (sr : SmallR rs) (p : NK) : manyOf qs rs p ≤ 25 := by
  have a1 := entsAt_small (fun q hq => (sq.2 q hq).1) (inside p)
  have a2 := entsAt_small (fun q hq => (sr.2 q hq).1) (inside p)
  have l1 := entsAt_len g (inside p)
  have l2 := entsAt_len h (inside p)
  have sp := lcm2_spec (a := ((entsAt qs (inside p)).length : Int)) (b := ((entsAt rs (inside p)).length : Int)) (by omega) (by omega)
  refine Int.le_trans sp.2.2.2 ?_
  have := Int.mul_le_mul_of_nonneg_right (show ((entsAt qs (inside p)).length : Int) ≤ 5 by omega) (show (0 : Int) ≤ ((entsAt rs (inside p)).length : Int) by omega)
  omega
theorem sum_ok (g : Good qs) (h : Good rs) (sq : SmallR qs) (sr : SmallR rs) {t : Lot} (ht : t ∈ lots qs rs) : EntOk (sumE t.mine t.its) := by
  obtain ⟨h1, h2⟩ := lot_bnd sq sr ht
  have ok := lots_ok g h ht
  obtain ⟨⟨p, hp⟩, hm, _, r0, r1, _, _⟩ := ok
  have hin := near_some r0 r1 (a := p.1) (s := p.2) hp
  obtain ⟨L1, L2⟩ := lot_law g h ht
  cases hx : t.mine with
  | none => trivial
  | some x =>
    cases hy : t.its with
    | none => trivial
    | some y =>
      obtain ⟨a, b, c⟩ := x
      obtain ⟨a', b', c'⟩ := y
      have hc := (L1 _ hin.1 hin.2.1 a b c hx).1
      have hc' := (L2 _ hin.1 hin.2.1 a' b' c' hy).1
      rw [hx] at h1
      rw [hy] at h2
      obtain ⟨u1, u2, u3⟩ := h1
      obtain ⟨w1, w2, w3⟩ := h2
      have ccpos : 0 < c * c' := Int.mul_pos hc hc'
      have cc : c * c' ≤ 1000000 := by
        have e1 := Int.mul_le_mul_of_nonneg_right u3 (show 0 ≤ c' by omega)
        omega
      have bnd : ∀ x k : Int, -1000 ≤ x → x ≤ 1000 → 0 < k → k ≤ 1000 → -1000000 ≤ x * k ∧ x * k ≤ 1000000 := fun x k p1 p2 p3 p4 => by
        have e1 := Int.mul_le_mul_of_nonneg_right p1 (show 0 ≤ k by omega)
        have e2 := Int.mul_le_mul_of_nonneg_right p2 (show 0 ≤ k by omega)
        omega
      have q1 := bnd a c' u1 u2 hc' w3
      have q2 := bnd a' c w1 w2 hc u3
      have th := thin_val (a := a * c' + a' * c) (b := b * c' + b' * c) (n := 0) (v := 0) ccpos
      have th2 := thin_small (a := a * c' + a' * c) (b := b * c' + b' * c) ccpos cc (M := 2000000) (by omega) (by omega)
      have th3 : 0 < (thin (a * c' + a' * c) (b * c' + b' * c) (c * c')).2.2 := by
        obtain ⟨h0, _, _, ⟨d, hd⟩⟩ := thinG_spec (a := a * c' + a' * c) (b := b * c' + b' * c) ccpos
        unfold thin
        dsimp only
        generalize thinG (a * c' + a' * c) (b * c' + b' * c) (c * c') = gg at *
        rw [hd, Int.mul_ediv_cancel_left _ (show gg ≠ 0 by omega)]
        exact Int.pos_of_mul_pos_right (hd ▸ ccpos) h0
      show EntOk (some (thin (a * c' + a' * c) (b * c' + b' * c) (c * c')))
      generalize thin (a * c' + a' * c) (b * c' + b' * c) (c * c') = T at *
      obtain ⟨ta, tb, tc⟩ := T
      dsimp only at th2 th3
      exact ⟨⟨by omega, by omega⟩, th3, by omega⟩
theorem add_good (g : Good qs) (h : Good rs) (sq : SmallR qs) (sr : SmallR rs) : Good (addRows qs rs) := by
  refine ⟨add_joined g h, ?_, fun q hq => ?_⟩
  · have e1 : (addRows qs rs).length = (starts qs rs).length + 1 := by
      have := congrArg List.length (acc_keys g h)
      rw [List.length_map, stretches_len] at this
      unfold addRows
      rw [List.length_map, this]
    have e2 : (starts qs rs).length ≤ 16 := by
      refine Nat.le_trans (ddup_len _) ?_
      rw [List.length_map, List.length_append, List.length_drop, List.length_drop]
      have := sq.1
      have := sr.1
      omega
    omega
  · obtain ⟨q0, hq0, rfl⟩ := List.mem_map.mp hq
    have hp : q0.1 ∈ stretches (starts qs rs) := by rw [← acc_keys g h]; exact List.mem_map.mpr ⟨q0, hq0, rfl⟩
    obtain ⟨k1, k2, _⟩ := acc_at g h hq0 (str_inside (ddup_nodup _) hp)
    have k3 := many_small g h sq sr q0.1
    refine ⟨show 0 < q0.2.length by omega, show q0.2.length ≤ 30 by omega, fun r e he => ⟨?_, fun n hs hm a b c hc => ?_⟩⟩
    · have he : q0.2[r]? = some e := he
      rcases acc_ents qs rs q0 hq0 r e he with ⟨t, h1, h2, h3, h4⟩ | ⟨h1, _⟩
      · rw [h4]; exact sum_ok g h sq sr h1
      · rw [h1]; exact ⟨by decide, by decide, by decide⟩
    · obtain ⟨m1, m2, m3⟩ := acc_at g h hq0 (n := n) hs
      have hm : n % (q0.2.length : Int) = (r : Int) := hm
      rw [m2] at hm
      rw [hm] at m3
      have m4 : q0.2[r]? = some (sumE (ent qs n) (ent rs n)) := by simpa using m3
      have he : q0.2[r]? = some e := he
      rw [he] at m4
      cases m4
      obtain ⟨v, v', _, _, p1, p2, p3, p4⟩ := sum_ent g h hc
      exact ⟨p3, v + v', by omega, p4⟩
end K55

set_option maxHeartbeats 2000000
/-! K55: the most that a rule tells. -/
namespace K55
def IsMost (T : Int → Option Int) : Option Int → Prop
  | none => (∃ n, T n = none) ∨ ∀ B : Int, ∃ n v, T n = some v ∧ B < v
  | some m => 0 ≤ m ∧ (∀ n, ∃ v, T n = some v ∧ v ≤ m) ∧ (m = 0 ∨ ∃ n, T n = some m)
theorem most_not {T : Int → Option Int} {m : Int} (h1 : IsMost T none) (h2 : IsMost T (some m)) : False := by
  rcases h1 with ⟨n, e⟩ | h
  · obtain ⟨v, h3, _⟩ := h2.2.1 n
    rw [e] at h3; cases h3
  · obtain ⟨n, v, h3, h4⟩ := h m
    obtain ⟨v', h5, h6⟩ := h2.2.1 n
    rw [h3] at h5; cases h5; omega
theorem most_one {T : Int → Option Int} {x y : Option Int} (h1 : IsMost T x) (h2 : IsMost T y) : x = y := by
  cases x with
  | none => cases y with
    | none => rfl
    | some k => exact (most_not h1 h2).elim
  | some m => cases y with
    | none => exact (most_not h2 h1).elim
    | some k =>
      congr 1
      have key : ∀ {m k : Int}, IsMost T (some m) → IsMost T (some k) → m ≤ k := fun {m k} h1 h2 => by
        rcases h1.2.2 with rfl | ⟨n, e⟩
        · exact h2.1
        · obtain ⟨v, h3, h4⟩ := h2.2.1 n
          rw [e] at h3; cases h3; exact h4
      exact Int.le_antisymm (key h1 h2) (key h2 h1)
variable {f l : Option Int} {m r a b c : Int}
theorem unb (L : EntLaw f l m r (some (a, b, c))) (h0 : 0 ≤ r) (h1 : r < m) (hn : f = none ∨ l = none) {p : Int × Int} (hp : near f l m r = some p) (ha : a ≠ 0) (B : Int) : ∃ n, InS f l n ∧ n % m = r ∧ B < worth a b c n := by
  obtain ⟨at', s⟩ := p
  have hs := near_some h0 h1 hp
  have hc := (L at' hs.1 hs.2.1 a b c rfl).1
  have hB : 0 ≤ max B 0 := Int.le_max_right _ _
  have hB2 : B ≤ max B 0 := Int.le_max_left _ _
  generalize max B 0 = M at *
  have hK : 0 ≤ (M + 1) * c := Int.mul_nonneg (by omega) (by omega)
  have st := near_steps h0 h1 hn hp hK
  refine ⟨_, st.1, st.2, ?_⟩
  have e1 := (law_at L st.1 st.2).2.2
  have e2 := law_pos L hs.1 hs.2.1
  have e3 := law_bent L h0 h1 hn hp
  have e4 : a * s ≠ 0 := Int.mul_ne_zero ha (by rcases hs.2.2 with z | z <;> omega)
  have e5 : a * (at' + s * ((M + 1) * c)) + b = a * at' + b + a * s * ((M + 1) * c) := by grind
  have e6 := Int.mul_le_mul_of_nonneg_right (show (1 : Int) ≤ a * s by omega) hK
  have e7 : (M + 1) * c ≤ worth a b c (at' + s * ((M + 1) * c)) * c := by omega
  have := Int.le_of_mul_le_mul_right e7 hc
  omega
theorem near_ends (hn : f = none ∨ l = none) : ∃ p, near f l m r = some p := by
  cases f with
  | none => cases l <;> exact ⟨_, rfl⟩
  | some f =>
    cases l with
    | none => exact ⟨_, rfl⟩
    | some l => rcases hn with z | z <;> cases z
/-- between two numbers a straight entry tells no more than at one of them -/
theorem between {x y n : Int} (hc : 0 < c) (ex : a * x + b = worth a b c x * c) (ey : a * y + b = worth a b c y * c) (en : a * n + b = worth a b c n * c) (h1 : x ≤ n) (h2 : n ≤ y) : worth a b c n ≤ worth a b c x ∨ worth a b c n ≤ worth a b c y := by
  by_cases q : 0 ≤ a
  · refine .inr ?_
    have := Int.mul_le_mul_of_nonneg_left h2 q
    exact Int.le_of_mul_le_mul_right (show _ * c ≤ _ * c by omega) hc
  · refine .inl ?_
    have := Int.mul_le_mul_of_nonpos_left (show a ≤ 0 by omega) h1
    exact Int.le_of_mul_le_mul_right (show _ * c ≤ _ * c by omega) hc
theorem mostF_none : ∀ (ts : List Lot) (m : Int), mostF ts m = none → ∃ t, t ∈ ts ∧ bad t = true
  | [], m, h => by cases h
  | t :: ts, m, h => by
    unfold mostF at h
    cases hb : bad t with
    | true => exact ⟨t, List.mem_cons_self, hb⟩
    | false =>
      rw [hb] at h
      obtain ⟨u, h1, h2⟩ := mostF_none ts _ h
      exact ⟨u, List.mem_cons_of_mem _ h1, h2⟩
theorem mostF_some : ∀ (ts : List Lot) (m k : Int), mostF ts m = some k → m ≤ k ∧ (∀ t, t ∈ ts → bad t = false ∧ ∀ v, v ∈ worths t → v ≤ k) ∧ (k = m ∨ ∃ t, t ∈ ts ∧ k ∈ worths t)
  | [], m, k, h => by
    have : m = k := Option.some.inj h
    subst this
    exact ⟨Int.le_refl _, (fun _ z => nomatch z), .inl rfl⟩
  | t :: ts, m, k, h => by
    unfold mostF at h
    cases hb : bad t with
    | true => rw [hb] at h; cases h
    | false =>
      rw [hb] at h
      obtain ⟨h1, h2, h3⟩ := mostF_some ts _ k h
      obtain ⟨x1, x2⟩ := mx_spec (worths t) m
      refine ⟨Int.le_trans (x2 m List.mem_cons_self) h1, fun u hu => ?_, ?_⟩
      · rcases List.mem_cons.mp hu with rfl | hu
        · exact ⟨hb, fun v hv => Int.le_trans (x2 v (List.mem_cons_of_mem _ hv)) h1⟩
        · exact h2 u hu
      · rcases h3 with rfl | ⟨u, h4, h5⟩
        · rcases List.mem_cons.mp x1 with z | z
          · exact .inl z
          · exact .inr ⟨t, List.mem_cons_self, z⟩
        · exact .inr ⟨u, List.mem_cons_of_mem _ h4, h5⟩
theorem tell_lot {qs : List Row} (g : Good qs) {t : Lot} (ht : t ∈ lots qs qs) {n : Int} (hs : InS t.first t.last n) (hm : n % t.many = t.rest) : tell qs n = entTell t.mine n := by
  unfold tell
  rw [(lot_ents g g ht hs hm).1]
/-- the two ends of a lot lie in it -/
theorem ends_in {t : Lot} (ok : LotOk t) {n : Int} (h : n ∈ endsOf t) : InS t.first t.last n ∧ n % t.many = t.rest := by
  obtain ⟨⟨p, hp⟩, hm, _, r0, r1, _, _⟩ := ok
  obtain ⟨fi, la, m, r, mi, it⟩ := t
  dsimp only at *
  have hs := near_some r0 r1 (a := p.1) (s := p.2) hp
  have en : nearN ⟨fi, la, m, r, mi, it⟩ = p.1 := by unfold nearN; dsimp only; rw [hp]
  unfold endsOf at h
  dsimp only at h
  rw [en] at h
  cases fi with
  | none => rw [List.mem_singleton.mp h]; exact ⟨hs.1, hs.2.1⟩
  | some f =>
    cases la with
    | none => rw [List.mem_singleton.mp h]; exact ⟨hs.1, hs.2.1⟩
    | some l =>
      simp only [List.mem_cons, List.not_mem_nil, or_false] at h
      rcases h with rfl | rfl
      · exact ⟨hs.1, hs.2.1⟩
      · have h1 := hs.1.1 f rfl
        have h2 := hs.1.2 l rfl
        have := far_spec r0 r1 hs.2.1 h2
        exact ⟨⟨fun x z => by cases z; omega, fun y z => by cases z; exact this.2.1⟩, this.1⟩
/-- at a number of a lot that is not bad, no more than at an end -/
theorem lot_top {qs : List Row} (g : Good qs) {t : Lot} (ht : t ∈ lots qs qs) (hb : bad t = false) {n : Int} (hs : InS t.first t.last n) (hm : n % t.many = t.rest) : ∃ v w, entTell t.mine n = some v ∧ w ∈ worths t ∧ v ≤ w := by
  have ok := lots_ok g g ht
  have L := (lot_law g g ht).1
  cases hx : t.mine with
  | none => unfold bad at hb; rw [hx] at hb; cases hb
  | some x =>
    obtain ⟨a, b, c⟩ := x
    have key : ∀ {k : Int}, k ∈ endsOf t → worth a b c k ∈ worths t := fun {k} hk => by
      unfold worths
      rw [hx]
      exact List.mem_map.mpr ⟨k, hk, rfl⟩
    refine ⟨worth a b c n, ?_⟩
    have hnE : nearN t ∈ endsOf t := by
      unfold endsOf
      cases t.first with
      | none => exact List.mem_singleton.mpr rfl
      | some _ => cases t.last with
        | none => exact List.mem_singleton.mpr rfl
        | some _ => exact List.mem_cons_self
    have inN := ends_in ok hnE
    rw [hx] at L
    have hc := (L n hs hm a b c rfl).1
    unfold bad at hb
    rw [hx] at hb
    by_cases ha : a = 0
    · refine ⟨_, rfl, key hnE, ?_⟩
      unfold worth
      rw [ha]; simp
    · have hb : (!decide (a = 0) && (t.first.isNone || t.last.isNone)) = false := hb
      rw [decide_eq_false ha] at hb
      have hb : (t.first.isNone || t.last.isNone) = false := hb
      rw [Bool.or_eq_false_iff] at hb
      cases hf : t.first with
      | none => rw [hf] at hb; cases hb.1
      | some f =>
        cases hl : t.last with
        | none => rw [hl] at hb; cases hb.2
        | some l =>
          have eE : endsOf t = [nearN t, far l t.many t.rest] := by unfold endsOf; rw [hf, hl]
          have inF := ends_in ok (show far l t.many t.rest ∈ endsOf t by rw [eE]; simp)
          have h2 := far_spec ok.r0 ok.r1 hm (hs.2 l hl)
          have h1 : nearN t ≤ n := by
            obtain ⟨p, hp⟩ := ok.near
            have en : nearN t = f + (t.rest - f) % t.many := by
              unfold nearN
              have hp' := hp
              rw [hf, hl] at hp'
              simp only [near] at hp'
              rw [hp]
              split at hp'
              · cases hp'
              · cases hp'; rfl
            by_cases q : nearN t ≤ n
            · exact q
            · have := mod_step ok.pos (hm.trans inN.2.symm) (by omega)
              have b1 := mod_hi (t.rest - f) ok.pos
              have b2 := hs.1 f hf
              omega
          rcases between hc (law_at L inN.1 inN.2).2.2 (law_at L inF.1 inF.2).2.2 (law_at L hs hm).2.2 h1 h2.2.2 with z | z
          · exact ⟨_, rfl, key hnE, z⟩
          · exact ⟨_, rfl, key (by rw [eE]; simp), z⟩
theorem most_is {qs : List Row} (g : Good qs) : IsMost (tell qs) (mostOf qs) := by
  unfold mostOf
  cases hm : mostF (lots qs qs) 0 with
  | none =>
    obtain ⟨t, ht, hb⟩ := mostF_none _ _ hm
    have ok := lots_ok g g ht
    obtain ⟨p, hp⟩ := ok.near
    have hs := near_some ok.r0 ok.r1 (a := p.1) (s := p.2) hp
    unfold bad at hb
    cases hx : t.mine with
    | none => exact .inl ⟨p.1, by rw [tell_lot g ht hs.1 hs.2.1, hx]; rfl⟩
    | some x =>
      obtain ⟨a, b, c⟩ := x
      rw [hx] at hb
      have hb : (!decide (a = 0) && (t.first.isNone || t.last.isNone)) = true := hb
      rw [Bool.and_eq_true, Bool.or_eq_true] at hb
      have ha : a ≠ 0 := by simpa using hb.1
      have L := (lot_law g g ht).1
      rw [hx] at L
      refine .inr fun B => ?_
      obtain ⟨n, h1, h2, h3⟩ := unb L ok.r0 ok.r1 (by rcases hb.2 with z | z; exact .inl (Option.isNone_iff_eq_none.mp z); exact .inr (Option.isNone_iff_eq_none.mp z)) hp ha B
      exact ⟨n, _, by rw [tell_lot g ht h1 h2, hx]; rfl, h3⟩
  | some k =>
    obtain ⟨h1, h2, h3⟩ := mostF_some _ _ _ hm
    refine ⟨h1, fun n => ?_, ?_⟩
    · obtain ⟨t, ht, hs, hmm⟩ := lot_at g g n
      obtain ⟨v, w, e1, e2, e3⟩ := lot_top g ht (h2 t ht).1 hs hmm
      exact ⟨v, by rw [tell_lot g ht hs hmm]; exact e1, Int.le_trans e3 ((h2 t ht).2 w e2)⟩
    · rcases h3 with z | ⟨t, ht, hk⟩
      · exact .inl z
      · refine .inr ?_
        unfold worths at hk
        cases hx : t.mine with
        | none => rw [hx] at hk; cases hk
        | some x =>
          rw [hx] at hk
          obtain ⟨n, hn, rfl⟩ := List.mem_map.mp hk
          have := ends_in (lots_ok g g ht) hn
          exact ⟨n, by rw [tell_lot g ht this.1 this.2, hx, entTell_some]⟩
end K55

set_option maxHeartbeats 2000000
/-! K55: the most that the law reckons. -/
namespace K55
def Near60 (q : Row) : Prop := (∀ f, q.first = some f → -40 ≤ f ∧ f ≤ 40) ∧ (∀ l, q.last = some l → -40 ≤ l ∧ l ≤ 40) ∧ q.ents.length ≤ 10
def valsW (rows : List Row) (q : Row) : List Int := (List.range (cnt q)).map fun k : Nat => (lawAt rows (lowO q.first + (k : Int))).getD 0
theorem mval_mx (rows : List Row) (q : Row) (m : Int) : mval rows q m = mx m (valsW rows q) := by
  unfold mval mvals mx valsW
  rw [List.foldl_map]
theorem mx_app (m : Int) (xs ys : List Int) : mx m (xs ++ ys) = mx (mx m xs) ys := by unfold mx; rw [List.foldl_append]
theorem mval_fold (rows : List Row) : ∀ (qs : List Row) (m : Int), qs.foldl (fun m q => mval rows q m) m = mx m (qs.flatMap (valsW rows))
  | [], m => rfl
  | q :: qs, m => by rw [List.foldl_cons, List.flatMap_cons, mx_app, mval_fold rows qs, mval_mx]
variable {rows : List Row}
theorem tell_row (g : Good rows) {q : Row} (hq : q ∈ rows) {n : Int} (hs : InS q.first q.last n) : tell rows n = entTell (entIn q n) n := by
  obtain ⟨i, hi⟩ := List.getElem?_of_mem hq
  have := rowAt_of g.1 hi hs
  unfold tell ent entIn
  rw [this]
theorem win_in {q : Row} (hn : Near60 q) {k : Nat} (hk : k < cnt q) (hw : ∀ f l, q.first = some f → q.last = some l → f ≤ l) : InS q.first q.last (lowO q.first + (k : Int)) := by
  unfold cnt at hk
  refine ⟨fun x e => ?_, fun y e => ?_⟩
  · rw [e]; show x ≤ x + (k : Int); omega
  · rw [e] at hk
    have e2 : highO (some y) = y := rfl
    rw [e2] at hk
    omega
theorem win_of {q : Row} {n : Int} (h1 : lowO q.first ≤ n) (h2 : n ≤ highO q.last) : ∃ k : Nat, k < cnt q ∧ n = lowO q.first + (k : Int) := ⟨(n - lowO q.first).toNat, by unfold cnt; omega, by omega⟩
/-- a number of the window with the same entry, in a row that is flat where it is endless -/
theorem win_same {q : Row} (hn : Near60 q) (hl : 0 < q.ents.length) {n : Int} (hs : InS q.first q.last n) (hend : q.first = none ∨ q.last = none) : ∃ n', InS q.first q.last n' ∧ n' % (q.ents.length : Int) = n % (q.ents.length : Int) ∧ lowO q.first ≤ n' ∧ n' ≤ highO q.last := by
  obtain ⟨h1, h2, h3⟩ := hn
  have b1 := mod_lo n (show (0 : Int) < q.ents.length by omega)
  have b2 := mod_hi n (show (0 : Int) < q.ents.length by omega)
  generalize hr : n % (q.ents.length : Int) = r at *
  have hm3 : (q.ents.length : Int) ≤ 10 := by omega
  generalize (q.ents.length : Int) = m at *
  cases hf : q.first with
  | none =>
    cases hla : q.last with
    | none => exact ⟨r, ⟨(fun _ z => nomatch z), (fun _ z => nomatch z)⟩, Int.emod_eq_of_lt b1 b2, by show -60 ≤ r; omega, by show r ≤ 60; omega⟩
    | some l =>
      have c1 := h2 l hla
      have d1 := mod_lo (l - r) (show 0 < m by omega)
      have d2 := mod_hi (l - r) (show 0 < m by omega)
      exact ⟨l - (l - r) % m, ⟨(fun _ z => nomatch z), fun y z => by cases z; omega⟩, down_mod b1 b2, by show -60 ≤ l - (l - r) % m; omega, by show l - (l - r) % m ≤ l; omega⟩
  | some f =>
    cases hla : q.last with
    | some l => rw [hf, hla] at hend; rcases hend with z | z <;> cases z
    | none =>
      have c1 := h1 f hf
      have d1 := mod_lo (r - f) (show 0 < m by omega)
      have d2 := mod_hi (r - f) (show 0 < m by omega)
      exact ⟨f + (r - f) % m, ⟨fun y z => by cases z; omega, (fun _ z => nomatch z)⟩, up_mod b1 b2, by show f ≤ f + (r - f) % m; omega, by show f + (r - f) % m ≤ 60; omega⟩
theorem law_most_is (g : Good rows) (hn : ∀ q, q ∈ rows → Near60 q) : IsMost (tell rows) (lawMost rows) := by
  have wind : ∀ q, q ∈ rows → ∀ k : Nat, k < cnt q → lawAt rows (lowO q.first + (k : Int)) = tell rows (lowO q.first + (k : Int)) := fun q hq k hk => lawAt_tell g _
  unfold lawMost
  cases hb : rows.any (badR rows) with
  | true =>
    show IsMost (tell rows) none
    obtain ⟨q, hq, h1⟩ := List.any_eq_true.mp hb
    have ok := g.2.2 q hq
    unfold badR at h1
    rw [Bool.or_eq_true] at h1
    rcases h1 with h1 | h1
    · obtain ⟨k, hk, h2⟩ := List.any_eq_true.mp h1
      refine .inl ⟨lowO q.first + (k : Int), ?_⟩
      rw [← lawAt_tell g]
      exact Option.isNone_iff_eq_none.mp h2
    · rw [Bool.and_eq_true, Bool.or_eq_true] at h1
      obtain ⟨h1, h2⟩ := h1
      have hend : q.first = none ∨ q.last = none := by
        rcases h1 with z | z
        · exact .inl (Option.isNone_iff_eq_none.mp z)
        · exact .inr (Option.isNone_iff_eq_none.mp z)
      obtain ⟨e, he, h3⟩ := List.any_eq_true.mp h2
      obtain ⟨r, hr⟩ := List.getElem?_of_mem he
      have hrl := (List.getElem?_eq_some_iff.mp hr).1
      obtain ⟨p, hp⟩ := near_ends (m := (q.ents.length : Int)) (r := (r : Int)) hend
      have r0 : (0 : Int) ≤ r := by omega
      have r1 : (r : Int) < q.ents.length := by omega
      have hs := near_some r0 r1 (a := p.1) (s := p.2) hp
      have at_r : ∀ {n : Int}, InS q.first q.last n → n % (q.ents.length : Int) = r → tell rows n = entTell e n := fun {n} k1 k2 => by
        rw [tell_row g hq k1]
        unfold entIn
        rw [k2, show ((r : Int)).toNat = r from by omega, hr]; rfl
      cases e with
      | none => exact .inl ⟨p.1, by rw [at_r hs.1 hs.2.1]; rfl⟩
      | some x =>
        obtain ⟨a, b, c⟩ := x
        have ha : a ≠ 0 := by
          have h3 : (!decide (a = 0)) = true := h3
          simpa using h3
        refine .inr fun B => ?_
        obtain ⟨n, k1, k2, k3⟩ := unb (ok.2.2 r _ hr).2 r0 r1 hend hp ha B
        exact ⟨n, _, by rw [at_r k1 k2]; rfl, k3⟩
  | false =>
    show IsMost (tell rows) (some _)
    rw [mval_fold]
    obtain ⟨x1, x2⟩ := mx_spec (rows.flatMap (valsW rows)) 0
    have nb : ∀ q, q ∈ rows → badR rows q = false := fun q hq => by
      cases hbr : badR rows q with
      | false => rfl
      | true =>
        have := List.any_eq_true.mpr ⟨q, hq, hbr⟩
        rw [hb] at this; cases this
    have inw : ∀ q, q ∈ rows → ∀ n, lowO q.first ≤ n → n ≤ highO q.last → ∃ v, tell rows n = some v ∧ v ≤ mx 0 (rows.flatMap (valsW rows)) := fun q hq n h1 h2 => by
      obtain ⟨k, hk, rfl⟩ := win_of h1 h2
      have h3 := nb q hq
      unfold badR badN at h3
      rw [Bool.or_eq_false_iff] at h3
      have h4 := List.any_eq_false.mp h3.1 k (List.mem_range.mpr hk)
      rw [← lawAt_tell g]
      cases hv : lawAt rows (lowO q.first + (k : Int)) with
      | none => rw [hv] at h4; exact absurd rfl h4
      | some v =>
        refine ⟨v, rfl, x2 v (List.mem_cons_of_mem _ (List.mem_flatMap.mpr ⟨q, hq, List.mem_map.mpr ⟨k, List.mem_range.mpr hk, by rw [hv]; rfl⟩⟩))⟩
    refine ⟨x2 0 List.mem_cons_self, fun n => ?_, ?_⟩
    · obtain ⟨q, hq, ok, hs, hr⟩ := good_row g n
      by_cases hend : q.first = none ∨ q.last = none
      · obtain ⟨n', k1, k2, k3, k4⟩ := win_same (hn q hq) ok.1 hs hend
        obtain ⟨v, e1, e2⟩ := inw q hq n' k3 k4
        refine ⟨v, ?_, e2⟩
        rw [tell_row g hq k1] at e1
        rw [tell_row g hq hs]
        have e3 : entIn q n' = entIn q n := by unfold entIn; rw [k2]
        rw [e3] at e1
        cases he : entIn q n with
        | none => rw [he] at e1; cases e1
        | some x =>
          obtain ⟨a, b, c⟩ := x
          have h3 := nb q hq
          unfold badR at h3
          rw [Bool.or_eq_false_iff] at h3
          have hend' : (q.first.isNone || q.last.isNone) = true := by
            rw [Bool.or_eq_true]
            rcases hend with z | z
            · exact .inl (by rw [z]; rfl)
            · exact .inr (by rw [z]; rfl)
          have h4 := h3.2
          rw [hend', Bool.true_and] at h4
          have hmem : entIn q n ∈ q.ents := List.mem_of_getElem? (entIn_get ok.1 n)
          have h5 := List.any_eq_false.mp h4 _ hmem
          rw [he] at h5
          have ha : a = 0 := by
            have h5 : ¬ (!decide (a = 0)) = true := h5
            simpa using h5
          rw [he] at e1
          rw [← e1, ha]
          show some (worth 0 b c n) = some (worth 0 b c n')
          unfold worth
          simp
      · cases hf : q.first with
        | none => exact absurd (.inl hf) hend
        | some f =>
          cases hl : q.last with
          | none => exact absurd (.inr hl) hend
          | some l => exact inw q hq n (by rw [hf]; exact hs.1 f hf) (by rw [hl]; exact hs.2 l hl)
    · rcases List.mem_cons.mp x1 with z | z
      · exact .inl z
      · refine .inr ?_
        obtain ⟨q, hq, hw⟩ := List.mem_flatMap.mp z
        obtain ⟨k, hk, e⟩ := List.mem_map.mp hw
        have hk := List.mem_range.mp hk
        refine ⟨lowO q.first + (k : Int), ?_⟩
        obtain ⟨v, e1, _⟩ := inw q hq (lowO q.first + (k : Int)) (by omega) (by unfold cnt at hk; omega)
        rw [lawAt_tell g, e1] at e
        rw [e1, ← e]; rfl
theorem most_law {qs : List Row} (g : Good rows) (hn : ∀ q, q ∈ rows → Near60 q) (gq : Good qs) (h : ∀ n, tell qs n = tell rows n) : mostOf qs = lawMost rows := by
  have h1 := most_is gq
  rw [show tell qs = tell rows from funext h] at h1
  exact most_one h1 (law_most_is g hn)
end K55

set_option maxHeartbeats 2000000
/-! K55: a row cut in two and written another way. -/
namespace K55
def Chain (f : Option Int) : List Row → Prop
  | [] => False
  | q :: qs => q.first = f ∧ (∀ x y, f = some x → q.last = some y → x ≤ y) ∧ ((qs = [] ∧ q.last = none) ∨ ∃ l, q.last = some l ∧ Chain (some (l + 1)) qs)
def JoinedF (f : Option Int) (qs : List Row) : Prop := qs ≠ [] ∧ (∀ q, qs[0]? = some q → q.first = f) ∧ (∀ q, qs[qs.length - 1]? = some q → q.last = none) ∧
  ∀ (i : Nat) q r, qs[i]? = some q → qs[i + 1]? = some r → ∃ l, q.last = some l ∧ r.first = some (l + 1) ∧ ∀ m, r.last = some m → l + 1 ≤ m
theorem chain_of : ∀ (qs : List Row) (f : Option Int), JoinedF f qs → (∀ q x y, qs[0]? = some q → f = some x → q.last = some y → x ≤ y) → Chain f qs
  | [], f, h, _ => absurd rfl h.1
  | q :: qs, f, h, h0 => by
    obtain ⟨h1, h2, h3, h4⟩ := h
    refine ⟨h2 q rfl, fun x y e1 e2 => h0 q x y rfl e1 e2, ?_⟩
    cases qs with
    | nil => exact .inl ⟨rfl, h3 q rfl⟩
    | cons r qs =>
      obtain ⟨l, e1, e2, e3⟩ := h4 0 q r rfl rfl
      refine .inr ⟨l, e1, chain_of (r :: qs) _ ⟨(fun z => nomatch z), fun p hp => by cases hp; exact e2, fun p hp => h3 p hp, fun i p p' hp hp' => h4 (i + 1) p p' hp hp'⟩ fun p x y hp hx hy => ?_⟩
      cases hp
      cases hx
      exact e3 y hy
theorem of_chain : ∀ (qs : List Row) (f : Option Int), Chain f qs → JoinedF f qs ∧ ∀ q x y, qs[0]? = some q → f = some x → q.last = some y → x ≤ y
  | [], f, h => h.elim
  | q :: qs, f, h => by
    obtain ⟨h1, h2, h3⟩ := h
    refine ⟨⟨(fun z => nomatch z), fun p hp => by cases hp; exact h1, ?_⟩, fun p x y hp hx hy => by cases hp; exact h2 x y hx hy⟩
    rcases h3 with ⟨rfl, h4⟩ | ⟨l, h4, h5⟩
    · exact ⟨fun p hp => by cases hp; exact h4, fun i p p' hp hp' => by cases hp'⟩
    · obtain ⟨⟨k1, k2, k3, k4⟩, k5⟩ := of_chain qs _ h5
      refine ⟨fun p hp => ?_, fun i p p' hp hp' => ?_⟩
      · cases qs with
        | nil => exact absurd rfl k1
        | cons r qs => exact k3 p hp
      · cases i with
        | succ i => exact k4 i p p' hp hp'
        | zero =>
          cases hp
          exact ⟨l, h4, k2 p' hp', fun m hm => k5 p' (l + 1) m hp' rfl hm⟩
theorem joined_chain {qs : List Row} : Joined qs ↔ Chain none qs :=
  ⟨fun h => chain_of qs none h fun _ _ _ _ z => (nomatch z), fun h => (of_chain qs none h).1⟩
theorem chain_app {c : Row} {cs ds : List Row} (h : ∀ f, Chain f (c :: cs) → Chain f ds) : ∀ (pre : List Row) (f : Option Int), Chain f (pre ++ c :: cs) → Chain f (pre ++ ds)
  | [], f, k => h f k
  | q :: pre, f, k => by
    obtain ⟨h1, h2, h3⟩ := k
    refine ⟨h1, h2, ?_⟩
    rcases h3 with ⟨e, h4⟩ | ⟨l, h4, h5⟩
    · exact absurd (List.append_eq_nil_iff.mp e).2 fun z => nomatch z
    · exact .inr ⟨l, h4, chain_app h pre _ h5⟩
theorem cut_chain {q : Row} {post : List Row} (f : Option Int) (k : Chain f (q :: post)) : Chain f (cutRow q ++ post) := by
  obtain ⟨h1, h2, h3⟩ := k
  unfold cutRow
  cases hs : shortR q with
  | true => exact ⟨h1, h2, h3⟩
  | false =>
    refine ⟨h1, fun x y e1 e2 => ?_, .inr ⟨insG q.first q.last, rfl, rfl, fun x y e1 e2 => ?_, h3⟩⟩
    · cases e2
      rw [h1, e1]
      show x ≤ x + 5
      omega
    · cases e1
      have e2 : q.last = some y := e2
      unfold shortR at hs
      rw [e2] at hs
      have := of_decide_eq_false hs
      rw [← e2] at this
      omega
variable {rows : List Row} {i : Nat} {q : Row}
theorem split_at (hq : rows[i]? = some q) : rows = rows.take i ++ q :: rows.drop (i + 1) := by
  have hlt := (List.getElem?_eq_some_iff.mp hq).1
  have h1 := (List.take_append_drop i rows).symm
  rw [List.drop_eq_getElem_cons hlt, (List.getElem?_eq_some_iff.mp hq).2] at h1
  exact h1
theorem split_joined (j : Joined rows) (hq : rows[i]? = some q) : Joined (splitRows rows i q) := by
  have h := joined_chain.mp j
  rw [split_at hq] at h
  have := chain_app (fun f => cut_chain (q := q) (post := rows.drop (i + 1)) f) (rows.take i) none h
  unfold splitRows
  rw [List.append_assoc]
  exact joined_chain.mpr this
/-! ### the rows it is cut into -/
theorem tri_tell (e : Ent) (n : Int) : entTell (tri e) n = entTell e n := by
  cases e with
  | none => rfl
  | some x =>
    obtain ⟨a, b, c⟩ := x
    show some ((3 * a * n + 3 * b) / (3 * c)) = some ((a * n + b) / c)
    rw [show 3 * a * n + 3 * b = 3 * (a * n + b) by grind, Int.mul_ediv_mul_of_pos _ _ (by decide)]
theorem ents2_len (q : Row) : (ents2 q).length = q.ents.length + q.ents.length := by unfold ents2; rw [List.length_map, List.length_append]
theorem half_len (q : Row) : (ents2 q).take ((ents2 q).length / 2) = q.ents.map tri := by
  rw [ents2_len, show (q.ents.length + q.ents.length) / 2 = q.ents.length by omega]
  unfold ents2
  rw [List.map_append]
  exact List.take_left' (by rw [List.length_map])
theorem ents2_get {k : Nat} (h : 0 < q.ents.length) (hk : k < q.ents.length + q.ents.length) : (ents2 q)[k]? = (q.ents[k % q.ents.length]?).map tri := by
  unfold ents2
  rw [List.getElem?_map]
  congr 1
  by_cases z : k < q.ents.length
  · rw [List.getElem?_append_left z, Nat.mod_eq_of_lt z]
  · rw [List.getElem?_append_right (by omega), Nat.mod_eq_sub_mod (by omega), Nat.mod_eq_of_lt (by omega)]
/-- a row with the same numbers or fewer of them, and the same entries written another way -/
def Like (q p : Row) : Prop := (∀ n, InS p.first p.last n → InS q.first q.last n) ∧ 0 < p.ents.length ∧ q.ents.length ∣ p.ents.length ∧ p.ents.length ≤ 2 * q.ents.length ∧ ∀ k : Nat, k < p.ents.length → p.ents[k]? = (q.ents[k % q.ents.length]?).map tri
theorem like_tell {p : Row} (k : Like q p) (h : 0 < q.ents.length) (n : Int) : entTell (entIn p n) n = entTell (entIn q n) n := by
  obtain ⟨_, h2, h3, _, h5⟩ := k
  have b1 := mod_lo n (show (0 : Int) < p.ents.length by omega)
  have b2 := mod_hi n (show (0 : Int) < p.ents.length by omega)
  have e := mod_len (n := n) (r := (n % (p.ents.length : Int)).toNat) h (Int.ofNat_dvd.mpr h3) (by omega)
  unfold entIn
  rw [h5 _ (by omega), ← e]
  cases q.ents[(n % (q.ents.length : Int)).toNat]? with
  | none => rfl
  | some x => exact tri_tell x n
def Bnd3 : Ent → Prop
  | none => True
  | some (a, _, c) => -1000 ≤ a ∧ a ≤ 1000 ∧ c ≤ 1000
theorem like_ok {p : Row} (k : Like q p) (ok : RowOk q) (hl : q.ents.length ≤ 15) (hb : ∀ e, e ∈ q.ents → Bnd e) : RowOk p := by
  obtain ⟨h1, h2, h3, h4, h5⟩ := k
  refine ⟨h2, by omega, fun r e he => ?_⟩
  have hr := (List.getElem?_eq_some_iff.mp he).1
  rw [h5 r hr] at he
  cases hx : q.ents[r % q.ents.length]? with
  | none => rw [hx] at he; cases he
  | some x =>
    rw [hx] at he
    have he : tri x = e := Option.some.inj he
    subst he
    obtain ⟨o1, o2⟩ := ok.2.2 _ _ hx
    have b := hb x (List.mem_of_getElem? hx)
    refine ⟨?_, fun n hs hm a b c hc => ?_⟩
    · cases x with
      | none => trivial
      | some x =>
        obtain ⟨a, b', c⟩ := x
        obtain ⟨u1, u2, u3⟩ := b
        obtain ⟨_, v2, _⟩ := o1
        exact ⟨⟨by omega, by omega⟩, by omega, by omega⟩
    · cases x with
      | none => cases hc
      | some x =>
        obtain ⟨a0, b0, c0⟩ := x
        have hc := Option.some.inj hc
        simp only [Prod.mk.injEq] at hc
        obtain ⟨rfl, rfl, rfl⟩ := hc
        have e1 : n % (q.ents.length : Int) = ((r % q.ents.length : Nat) : Int) := by
          have := mod_len (n := n) (r := r) ok.1 (Int.ofNat_dvd.mpr h3) hm
          have := mod_lo n (show (0 : Int) < q.ents.length by have := ok.1; omega)
          omega
        obtain ⟨w1, v, w2, w3⟩ := o2 n (h1 n hs) e1 a0 b0 c0 rfl
        exact ⟨by omega, v, w2, by grind⟩
theorem cut_like (h : 0 < q.ents.length) {p : Row} (hp : p ∈ cutRow q) : Like q p := by
  have l2 := ents2_len q
  have full : ∀ f l, (∀ n, InS f l n → InS q.first q.last n) → Like q ⟨f, l, ents2 q⟩ := fun f l hin => by
    refine ⟨hin, by show 0 < (ents2 q).length; omega, ?_, by show (ents2 q).length ≤ _; omega, fun k hk => ?_⟩
    · show q.ents.length ∣ (ents2 q).length
      rw [l2]; exact ⟨2, by omega⟩
    · have hk : k < (ents2 q).length := hk
      exact ents2_get h (by omega)
  unfold cutRow at hp
  cases hs : shortR q with
  | true =>
    rw [hs] at hp
    rw [List.mem_singleton.mp hp]
    exact full _ _ fun n hn => hn
  | false =>
    rw [hs] at hp
    have hin : ∀ y, q.last = some y → insG q.first q.last < y := fun y e => by
      unfold shortR at hs
      rw [e] at hs
      have := of_decide_eq_false hs
      rw [← e] at this
      omega
    have hp : p ∈ [(⟨q.first, some (insG q.first q.last), ents2 q⟩ : Row), ⟨some (insG q.first q.last + 1), q.last, (ents2 q).take ((ents2 q).length / 2)⟩] := hp
    simp only [List.mem_cons, List.not_mem_nil, or_false] at hp
    rcases hp with rfl | rfl
    · refine full _ _ fun n hn => ⟨hn.1, fun y e => ?_⟩
      have := hin y e
      have := hn.2 _ rfl
      omega
    · rw [half_len]
      refine ⟨fun n hn => ⟨fun x e => ?_, hn.2⟩, by show 0 < (q.ents.map tri).length; rw [List.length_map]; exact h, ?_, ?_, fun k hk => ?_⟩
      · have := hn.1 _ rfl
        rw [e] at this
        have e2 : insG (some x) q.last = x + 5 := rfl
        omega
      · show _ ∣ (q.ents.map tri).length
        rw [List.length_map]; exact Nat.dvd_refl _
      · show (q.ents.map tri).length ≤ _
        rw [List.length_map]; omega
      · have hk : k < (q.ents.map tri).length := hk
        rw [List.length_map] at hk
        show (q.ents.map tri)[k]? = _
        rw [List.getElem?_map, Nat.mod_eq_of_lt hk]
theorem cut_cover {n : Int} (hs : InS q.first q.last n) : ∃ p, p ∈ cutRow q ∧ InS p.first p.last n := by
  unfold cutRow
  cases hsh : shortR q with
  | true => exact ⟨_, List.mem_singleton.mpr rfl, hs⟩
  | false =>
    by_cases z : n ≤ insG q.first q.last
    · exact ⟨⟨q.first, some (insG q.first q.last), ents2 q⟩, List.mem_cons_self, hs.1, fun y e => by cases e; exact z⟩
    · exact ⟨⟨some (insG q.first q.last + 1), q.last, (ents2 q).take ((ents2 q).length / 2)⟩, List.mem_cons_of_mem _ (List.mem_singleton.mpr rfl), fun x e => by cases e; omega, hs.2⟩
/-- sizes with which a rule can be cut -/
def SmallC (rows : List Row) : Prop := rows.length ≤ 10 ∧ ∀ q, q ∈ rows → q.ents.length ≤ 15 ∧ ∀ e, e ∈ q.ents → Bnd e
theorem cut_len (q : Row) : (cutRow q).length ≤ 2 := by unfold cutRow; cases shortR q <;> exact Nat.le_of_ble_eq_true rfl
theorem split_good (g : Good rows) (s : SmallC rows) (hq : rows[i]? = some q) : Good (splitRows rows i q) := by
  have hm := List.mem_of_getElem? hq
  refine ⟨split_joined g.1 hq, ?_, fun p hp => ?_⟩
  · unfold splitRows
    rw [List.length_append, List.length_append, List.length_take, List.length_drop]
    have := cut_len q
    have := s.1
    omega
  · unfold splitRows at hp
    rcases List.mem_append.mp hp with hp | hp
    · rcases List.mem_append.mp hp with hp | hp
      · exact g.2.2 p (List.mem_of_mem_take hp)
      · have ok := g.2.2 q hm
        exact like_ok (cut_like ok.1 hp) ok (s.2 q hm).1 (s.2 q hm).2
    · exact g.2.2 p (List.mem_of_mem_drop hp)
theorem split_tell (g : Good rows) (s : SmallC rows) (hq : rows[i]? = some q) (n : Int) : tell (splitRows rows i q) n = tell rows n := by
  have g2 := split_good g s hq
  obtain ⟨r, hr, ok, hs, _⟩ := good_row g n
  rw [tell_row g hr hs]
  rw [split_at hq] at hr
  rcases List.mem_append.mp hr with h | h
  · exact tell_row g2 (List.mem_append_left _ (List.mem_append_left _ h)) hs
  · rcases List.mem_cons.mp h with rfl | h
    · obtain ⟨p, hp, hsp⟩ := cut_cover hs
      rw [tell_row g2 (List.mem_append_left _ (List.mem_append_right _ hp)) hsp]
      exact like_tell (cut_like ok.1 hp) ok.1 n
    · exact tell_row g2 (List.mem_append_right _ h) hs
theorem tri_none (e : Ent) : (tri e).isNone = e.isNone := by cases e <;> rfl
theorem tri_flat (e : Ent) : flat (tri e) = flat e := by
  cases e with
  | none => rfl
  | some x =>
    obtain ⟨a, b, c⟩ := x
    show decide (3 * a = 0) = decide (a = 0)
    rw [decide_eq_decide]; omega
theorem grow_tri (es : List Ent) : grow (es.map tri) = grow es := by
  unfold grow
  rw [List.any_map, List.all_map]
  have e1 : ((fun e : Ent => e.isNone) ∘ tri) = fun e : Ent => e.isNone := funext tri_none
  have e2 : (flat ∘ tri) = flat := funext tri_flat
  rw [e1, e2]
theorem grow_two (es : List Ent) : grow (es ++ es) = grow es := by
  unfold grow
  rw [List.any_append, List.all_append, Bool.or_self, Bool.and_self]
theorem cut_last (q : Row) : ∃ p, (cutRow q).getLast? = some p ∧ grow p.ents = grow q.ents := by
  unfold cutRow
  cases shortR q with
  | true => exact ⟨_, rfl, by show grow (ents2 q) = _; unfold ents2; rw [grow_tri, grow_two]⟩
  | false => exact ⟨_, rfl, by show grow ((ents2 q).take _) = _; rw [half_len, grow_tri]⟩
theorem split_last (hq : rows[i]? = some q) {z : Row} (hz : rows[rows.length - 1]? = some z) : ∃ p, (splitRows rows i q)[(splitRows rows i q).length - 1]? = some p ∧ grow p.ents = grow z.ents := by
  rw [← List.getLast?_eq_getElem?] at hz ⊢
  rw [split_at hq] at hz
  unfold splitRows
  cases hd : rows.drop (i + 1) with
  | nil =>
    rw [hd] at hz
    have : z = q := by simpa using hz.symm
    subst this
    obtain ⟨p, h1, h2⟩ := cut_last z
    refine ⟨p, ?_, h2⟩
    rw [List.append_nil, List.getLast?_append, h1]; rfl
  | cons d ds =>
    rw [hd, List.getLast?_append, List.getLast?_cons_cons] at hz
    refine ⟨z, ?_, rfl⟩
    rw [List.getLast?_append]
    exact hz
end K55

set_option maxHeartbeats 2000000
/-! K55: drawn rows are rules of small numbers. -/
namespace K55
structure GenOk (rows : List Row) : Prop where
  good : Good rows
  sr : SmallR rows
  sc : SmallC rows
  near : ∀ q, q ∈ rows → Near60 q
  re : ∀ q, q ∈ rows → RowE q
  rb : ∀ q, q ∈ rows → RowB q
  rf : ∀ q, q ∈ rows → RowF q
  l0 : 0 < rows.length
  l4 : rows.length ≤ 4
  ends : ∀ q, q ∈ rows → (∀ f, q.first = some f → -20 ≤ f ∧ f ≤ 20) ∧ ∀ l, q.last = some l → -20 ≤ l ∧ l ≤ 20
  ents : ∀ q, q ∈ rows → q.ents.length ≤ 4
  bb : ∀ q, q ∈ rows → ∀ a b c, (some (a, b, c) : Ent) ∈ q.ents → -2000 ≤ b ∧ b ≤ 2000
theorem gen_b {f l : Option Int} {m r : Int} {e : Ent} (h0 : 0 ≤ r) (h1 : r < m) (hm : m ≤ 4) (hf : ∀ x, f = some x → -11 ≤ x ∧ x ≤ 11) (hl : ∀ x, l = some x → -11 ≤ x ∧ x ≤ 11) (g : GenE f l m r e) : ∀ a b c, e = some (a, b, c) → -2000 ≤ b ∧ b ≤ 2000 := fun a b c he => by
  rcases g with rfl | ⟨more, s, v, hmore, hc, rfl⟩
  · cases he
  · have he' := Option.some.inj he
    simp only [Prod.mk.injEq] at he'
    obtain ⟨_, rfl, _⟩ := he'
    have hN : -15 ≤ nearG f l m r ∧ nearG f l m r ≤ 15 := by
      unfold nearG
      cases f with
      | some f =>
        have := hf f rfl
        have := mod_lo (r - f) (show 0 < m by omega)
        have := mod_hi (r - f) (show 0 < m by omega)
        dsimp only
        omega
      | none =>
        cases l with
        | none => dsimp only; omega
        | some l =>
          have := hl l rfl
          have := mod_lo (l - r) (show 0 < m by omega)
          have := mod_hi (l - r) (show 0 < m by omega)
          dsimp only
          omega
    have hsv : -2 ≤ s ∧ s ≤ 2 ∧ -100 ≤ v ∧ v ≤ 100 := by
      rcases hc with ⟨_, _, _, _, _⟩ | ⟨f', l', s0, v0, rfl, rfl, p1, p2, p3, p4, rfl, rfl⟩
      · omega
      · have a1 := hf f' rfl
        have a2 := hl l' rfl
        have d1 : (l' - f') / m ≤ 22 := by
          by_cases z : (l' - f') / m ≤ 22
          · exact z
          · have h2 : 23 * m ≤ (l' - f') / m * m := Int.mul_le_mul_of_nonneg_right (by omega) (by omega)
            have h3 := Int.ediv_mul_le (l' - f') (show m ≠ 0 by omega)
            omega
        have d2 : -22 ≤ (l' - f') / m := by
          rw [Int.le_ediv_iff_mul_le (by omega)]
          omega
        have c1 := Int.mul_le_mul_of_nonneg_left d1 p1
        have c2 := Int.mul_le_mul_of_nonneg_left d2 p1
        omega
    have hw : wayG f = -1 ∨ wayG f = 1 := by cases f <;> simp [wayG]
    have hvm : -400 ≤ v * m ∧ v * m ≤ 400 := by
      have e1 := Int.mul_le_mul_of_nonneg_right hsv.2.2.1 (show 0 ≤ m by omega)
      have e2 := Int.mul_le_mul_of_nonneg_right hsv.2.2.2 (show 0 ≤ m by omega)
      omega
    have hsn : -30 ≤ s * nearG f l m r ∧ s * nearG f l m r ≤ 30 := by
      generalize nearG f l m r = N at *
      have : s = -2 ∨ s = -1 ∨ s = 0 ∨ s = 1 ∨ s = 2 := by omega
      rcases this with rfl | rfl | rfl | rfl | rfl <;> omega
    have e3 : wayG f * s * nearG f l m r = wayG f * (s * nearG f l m r) := Int.mul_assoc _ _ _
    rw [e3]
    generalize s * nearG f l m r = X at *
    generalize v * m = Y at *
    rcases hw with hw | hw <;> rw [hw] <;> rcases hmore with rfl | rfl <;> constructor <;> omega
theorem mem_str {ks : List Int} {p : NK} (hp : p ∈ stretches ks) : (∀ f, p.1 = some f → f ∈ ks) ∧ ∀ l, p.2 = some l → l + 1 ∈ ks := by
  obtain ⟨i, hi⟩ := List.getElem?_of_mem hp
  obtain ⟨hlt, e1, e2⟩ := str_mem hi
  refine ⟨fun f hf => ?_, fun l hl => ?_⟩
  · cases i with
    | zero => rw [hf] at e1; cases e1
    | succ k =>
      rw [List.getElem?_cons_succ, List.getElem?_map] at e1
      cases hk : (srt ks)[k]? with
      | none => rw [hk, hf] at e1; cases e1
      | some a =>
        rw [hk, hf] at e1
        have : f = a := by simpa using e1
        rw [this]
        exact (srt_perm ks).mem_iff.mp (List.mem_of_getElem? hk)
  · cases hk : (srt ks)[i]? with
    | none => rw [hk, hl] at e2; cases e2
    | some b =>
      rw [hk, hl] at e2
      have : l = b - 1 := by simpa using e2
      rw [this, show b - 1 + 1 = b by omega]
      exact (srt_perm ks).mem_iff.mp (List.mem_of_getElem? hk)
theorem gen_ok {rows : List Row} (h : GenRows rows) : GenOk rows := by
  obtain ⟨ns, hl, hb, hlen, hrow⟩ := h
  have nod := ddup_nodup ns
  have dl : (ddup ns).length ≤ 3 := Nat.le_trans (ddup_len ns) hl
  have sl := stretches_len (ddup ns)
  have keys : rows.map (fun q => (q.first, q.last)) = ((stretches (ddup ns)).map fun p => (⟨p.1, p.2, []⟩ : Row)).map fun q => (q.first, q.last) := by
    apply List.ext_getElem?
    intro j
    rw [List.getElem?_map, List.getElem?_map, List.getElem?_map]
    by_cases hj : j < rows.length
    · have h1 := List.getElem?_eq_getElem hj
      have h2 := List.getElem?_eq_getElem (show j < (stretches (ddup ns)).length by omega)
      have := hrow j _ _ h1 h2
      rw [h1, h2]
      show some ((rows[j]).first, (rows[j]).last) = some ((stretches (ddup ns))[j].1, (stretches (ddup ns))[j].2)
      rw [this.1, this.2.1]
    · rw [List.getElem?_eq_none (by omega), List.getElem?_eq_none (by omega)]; rfl
  have jd : Joined rows := joined_keys keys (str_joined nod fun _ => [])
  have gr : ∀ q, q ∈ rows → ∃ p, p ∈ stretches (ddup ns) ∧ GenRow p q := fun q hq => by
    obtain ⟨j, hj⟩ := List.getElem?_of_mem hq
    have hjl := (List.getElem?_eq_some_iff.mp hj).1
    have h2 := List.getElem?_eq_getElem (show j < (stretches (ddup ns)).length by omega)
    exact ⟨_, List.mem_of_getElem? h2, hrow j _ _ hj h2⟩
  have eb : ∀ q, q ∈ rows → (∀ f, q.first = some f → -11 ≤ f ∧ f ≤ 11) ∧ ∀ l, q.last = some l → -11 ≤ l ∧ l ≤ 11 := fun q hq => by
    obtain ⟨p, hp, g1, g2, _⟩ := gr q hq
    obtain ⟨m1, m2⟩ := mem_str hp
    refine ⟨fun f hf => ?_, fun l hl => ?_⟩
    · rw [g1] at hf
      have := hb f (mem_ddup.mp (m1 f hf)); omega
    · rw [g2] at hl
      have := hb _ (mem_ddup.mp (m2 l hl)); omega
  have l4 : ∀ q, q ∈ rows → 1 ≤ q.ents.length ∧ q.ents.length ≤ 4 := fun q hq => by
    obtain ⟨p, hp, g1, g2, g3, g4, _⟩ := gr q hq
    exact ⟨g3, g4⟩
  have en : ∀ q, q ∈ rows → ∀ (r : Nat) e, q.ents[r]? = some e → GenE q.first q.last q.ents.length r e := fun q hq r e he => by
    obtain ⟨p, hp, g1, g2, g3, g4, g5⟩ := gr q hq
    rw [g1, g2]; exact g5 r e he
  have small : ∀ q, q ∈ rows → ∀ (r : Nat) e, q.ents[r]? = some e → ∀ a b c, e = some (a, b, c) → -6 ≤ a ∧ a ≤ 6 ∧ 0 < c ∧ c ≤ 12 := fun q hq r e he a b c hx => by
    have := l4 q hq
    have := gen_small (by omega) (by omega) (en q hq r e he) a b c hx
    exact ⟨this.1, this.2.1, this.2.2.1, this.2.2.2.1⟩
  have ok : ∀ q, q ∈ rows → RowOk q := fun q hq => by
    have l := l4 q hq
    refine ⟨by omega, by omega, fun r e he => ⟨?_, gen_law (by omega) (by have := (List.getElem?_eq_some_iff.mp he).1; omega) (en q hq r e he)⟩⟩
    cases e with
    | none => trivial
    | some x =>
      obtain ⟨a, b, c⟩ := x
      have := small q hq r _ he a b c rfl
      exact ⟨⟨by omega, by omega⟩, by omega, by omega⟩
  have bn : ∀ q, q ∈ rows → ∀ e, e ∈ q.ents → Bnd e := fun q hq e he => by
    obtain ⟨r, hr⟩ := List.getElem?_of_mem he
    cases e with
    | none => trivial
    | some x =>
      obtain ⟨a, b, c⟩ := x
      have := small q hq r _ hr a b c rfl
      exact ⟨by omega, by omega, by omega⟩
  refine ⟨⟨jd, by omega, ok⟩, ⟨by omega, fun q hq => ⟨by have := l4 q hq; omega, bn q hq⟩⟩, ⟨by omega, fun q hq => ⟨by have := l4 q hq; omega, bn q hq⟩⟩, fun q hq => ⟨fun f hf => ?_, fun l hl => ?_, ?_⟩, fun q hq => ⟨by have := l4 q hq; omega, by have := l4 q hq; omega, fun e he => ?_⟩, fun q hq => ⟨fun f hf => ?_, fun l hl => ?_⟩, fun q hq => ⟨by have := l4 q hq; omega, by have := l4 q hq; omega⟩, by omega, by omega, fun q hq => ⟨fun f hf => ?_, fun l hl => ?_⟩, fun q hq => (l4 q hq).2, fun q hq a b c he => ?_⟩
  · have := (eb q hq).1 f hf; omega
  · have := (eb q hq).2 l hl; omega
  · have := l4 q hq; omega
  · obtain ⟨r, hr⟩ := List.getElem?_of_mem he
    exact ((ok q hq).2.2 r e hr).1
  · have := (eb q hq).1 f hf; omega
  · have := (eb q hq).2 l hl; omega
  · have := (eb q hq).1 f hf; omega
  · have := (eb q hq).2 l hl; omega
  · obtain ⟨r, hr⟩ := List.getElem?_of_mem he
    have := l4 q hq
    exact gen_b (by omega) (by have := (List.getElem?_eq_some_iff.mp hr).1; omega) (by omega) (eb q hq).1 (eb q hq).2 (en q hq r _ hr) a b c rfl
/-! ### how large the told numbers are -/
theorem tell_big {rows : List Row} (k : GenOk rows) {n v : Int} (h1 : -(10 : Int) ^ 31 ≤ n) (h2 : n ≤ (10 : Int) ^ 31) (e : tell rows n = some v) : 0 ≤ v ∧ v ≤ (10 : Int) ^ 35 := by
  obtain ⟨q, hq, ok, hs, hr⟩ := good_row k.good n
  cases hx : ent rows n with
  | none => unfold tell at e; rw [hx] at e; cases e
  | some x =>
    obtain ⟨a, b, c⟩ := x
    obtain ⟨p1, p2, p3⟩ := ent_law k.good n hx
    have e2 : v = worth a b c n := by unfold tell at e; rw [hx, entTell_some] at e; exact (Option.some.inj e).symm
    rw [← e2] at p2 p3
    have hm : (some (a, b, c) : Ent) ∈ q.ents := by
      have := ent_of hr ok.1
      rw [hx] at this
      exact List.mem_of_getElem? this
    obtain ⟨b1, b2, _⟩ := (k.sc.2 q hq).2 _ hm
    have b3 := k.bb q hq a b c hm
    have e3 : v * 1 ≤ v * c := Int.mul_le_mul_of_nonneg_left (by omega) p2
    have e4 : a * n ≤ 1000 * (10 : Int) ^ 31 := by
      by_cases z : 0 ≤ n
      · have := Int.mul_le_mul_of_nonneg_right b2 z
        omega
      · have := Int.mul_le_mul_of_nonneg_right b1 (show 0 ≤ -n by omega)
        simp only [Int.mul_neg] at this
        omega
    exact ⟨p2, by omega⟩
theorem log_big {i : Int} (h1 : -(10 : Int) ^ 36 ≤ i) (h2 : i ≤ (10 : Int) ^ 36) : i.natAbs.log2 < 1920 := by
  by_cases z : i.natAbs = 0
  · rw [z]; decide
  · have : i.natAbs ≤ 10 ^ 36 := by omega
    rw [Nat.log2_lt z]
    exact Nat.lt_of_le_of_lt this (Nat.lt_of_lt_of_le (show 10 ^ 36 < 2 ^ 128 by decide) (Nat.pow_le_pow_right (by decide) (by decide)))
theorem parted_big {qs rs : List Row} (k : GenOk qs) (h : GenOk rs) {n : Int} (e : partedAt qs rs = some n) : -1000 ≤ n ∧ n ≤ 1000 := by
  obtain ⟨o, ho, e⟩ := List.exists_of_findSome?_eq_some e
  obtain ⟨t, ht, rfl⟩ := List.mem_map.mp ho
  have e : unl t = some n := e
  have ok := lots_ok k.good h.good ht
  have hm : t.many ≤ 25 := by
    rw [lots_many ht]; exact many_small k.good h.good k.sr h.sr _
  obtain ⟨p, r, hp, hr, hte, hnr⟩ := lots_mem ht
  obtain ⟨s1, s2⟩ := mem_str hp
  have st : ∀ x, x ∈ starts qs rs → -20 ≤ x ∧ x ≤ 20 := fun x hx => by
    unfold starts at hx
    rw [mem_ddup] at hx
    obtain ⟨q, hq, rfl⟩ := List.mem_map.mp hx
    have : ∀ q, (q ∈ qs ∨ q ∈ rs) → ∀ f, q.first = some f → -20 ≤ f ∧ f ≤ 20 := fun q hq f hf => by
      rcases hq with hq | hq
      · exact (k.ends q hq).1 f hf
      · exact (h.ends q hq).1 f hf
    have hq : q ∈ qs ∨ q ∈ rs := by
      rcases List.mem_append.mp hq with z | z
      · exact .inl (List.mem_of_mem_drop z)
      · exact .inr (List.mem_of_mem_drop z)
    cases hf : q.first with
    | none => exact ⟨by decide, by decide⟩
    | some f => exact this q hq f hf
  have hf : ∀ f, t.first = some f → -21 ≤ f ∧ f ≤ 21 := fun f z => by
    rw [hte] at z
    have := st f (s1 f z); omega
  have hl : ∀ l, t.last = some l → -21 ≤ l ∧ l ≤ 21 := fun l z => by
    rw [hte] at z
    have := st _ (s2 l z); omega
  obtain ⟨⟨p2, hp2⟩, hm0, _, r0, r1, _, _⟩ := ok
  have hsp := near_some r0 r1 (a := p2.1) (s := p2.2) hp2
  have np : -50 ≤ p2.1 ∧ p2.1 ≤ 50 := by
    cases hfi : t.first with
    | none =>
      cases hla : t.last with
      | none =>
        rw [hfi, hla] at hp2
        have : p2 = (t.rest, t.many) := (Option.some.inj hp2).symm
        rw [this]
        dsimp only
        omega
      | some l =>
        have := hl l hla
        rw [hfi, hla] at hp2
        have e3 : p2 = (l - (l - t.rest) % t.many, -t.many) := (Option.some.inj hp2).symm
        have := mod_lo (l - t.rest) hm0
        have := mod_hi (l - t.rest) hm0
        rw [e3]
        dsimp only
        omega
    | some f =>
      have c1 := hf f hfi
      have c2 := mod_lo (t.rest - f) hm0
      have c3 := mod_hi (t.rest - f) hm0
      have e3 : p2.1 = f + (t.rest - f) % t.many := by
        rw [hfi] at hp2
        cases hla : t.last with
        | none =>
          rw [hla] at hp2
          have : p2 = (f + (t.rest - f) % t.many, t.many) := (Option.some.inj hp2).symm
          rw [this]
        | some l =>
          rw [hla] at hp2
          simp only [near] at hp2
          split at hp2
          · cases hp2
          · have : p2 = (f + (t.rest - f) % t.many, t.many) := (Option.some.inj hp2).symm
            rw [this]
      omega
  have hn : n = p2.1 ∨ n = p2.1 + p2.2 := by
    unfold unl at e
    rw [hp2] at e
    cases hx : t.mine with
    | none =>
      cases hy : t.its with
      | none => rw [hx, hy] at e; cases e
      | some y => rw [hx, hy] at e; exact .inl (Option.some.inj e).symm
    | some x =>
      cases hy : t.its with
      | none => rw [hx, hy] at e; exact .inl (Option.some.inj e).symm
      | some y =>
        rw [hx, hy] at e
        have h3 := List.mem_of_find?_eq_some (show [p2.1, p2.1 + p2.2].find? (hits t.first t.last x y) = some n from e)
        simpa using h3
  rcases hsp.2.2 with z | z <;> rcases hn with z2 | z2 <;> omega
end K55

set_option maxHeartbeats 2000000
/-! K55, own rule 6: a range of any two integers. -/
namespace K55
open PySem PySem.Spec PyProof.Rows L2
theorem turn_long {P : Program} {w : World} {K : PySem.W.Frag} {tg : Expr} (it : Addr) (lo : Int) (n : Nat) : Turn P w K tg (Itr lo n) [it] it (fun i h => IsLongIter h it (lo + (i : Nat) * 1) ((n : Int) - (i : Nat)) 1) where
  mem := by simp
  obj := fun i h st b hb => by
    have e : b = it := by simpa using hb
    subst e
    exact ⟨_, st, fun v z => by
      have z' : Data.fields _ = Data.cell v := z
      cases z'⟩
  keep := fun i h h' st k => k it (by simp) _ st
  item := by
    intro X hP hw hK hc i pins s σ H E I hf st hg
    subst hP hw hK
    obtain ⟨f0, f1, f2, f3, f4, f5⟩ := hf it (by simp)
    have W := Walks.longrange (prog := X.prog) (w := X.w) (I.ok.hd hc) it lo 1 n
    refine W.item i s _ _ hg st fun v h' tk hv st' kk => ?_
    obtain ⟨t, rfl⟩ := hv
    have I1 : Inv X pins σ H { s with heap := h', toks := tk } := I.turned (fun b o hb e => kk b o (by simpa using hb) e) f0 f1 f3 f4 f5
    refine ⟨_, rfl, go_of (s := { s with heap := h', toks := tk }) (n := "longrange_iterator") st' rfl rfl (by decide) ⟨.int (lo + i), H, I1, ⟨t, ?_⟩, ⟨rfl, rfl⟩, st', fun b hb => (hf b hb).1⟩⟩
    rw [Int.mul_one]
  done := by
    intro X hP hw hK hc i pins s σ H E I hf st hg
    subst hP hw hK
    obtain ⟨f0, f1, f2, f3, f4, f5⟩ := hf it (by simp)
    exact wpAny_pyNext_long_end (I.ok.hd hc) st (by have : n ≤ i := hg; omega) fun h' eb => ⟨rfl, I.turned (t' := s.toks) (fun b o hb e => eb b o hb e) f0 f1 f3 f4 f5⟩
  self := fun _ _ _ _ _ st h => wpAny_pyIter_longiter st h
section
variable {X : Cx} {tg : Expr}
theorem range_itB {pins : List (Addr × Obj)} {σ : L2.St} {H : Hp} {s : Shared} {R : It → Hp → Prop} {E : Value → Shared → Prop} {lo hi : Int} {t u v : Tok} {tk : Nat} (I : Inv X pins σ H s)
    (q : R (Itr lo (hi - lo).toNat) H) : wpAny (model X.prog X.w) X.A (pyIter (.ref s.heap.objs.size)) (PIE X pins σ tg R) E { s with heap := s.heap.push { cls := .type "range", data := .fields #[.int lo t, .int hi u, .int 1 v] }, toks := tk } := by
  have I1 : Inv X pins σ H { s with heap := s.heap.push { cls := .type "range", data := .fields #[.int lo t, .int hi u, .int 1 v] }, toks := tk } := I.kept fun b o e => Heap.get?_push_of_some _ e
  have e1 : lo + ((0 : Nat) : Int) * 1 = lo := by simp
  have e2 : (((hi - lo).toNat : Nat) : Int) - ((0 : Nat) : Int) = Builtin.Range.rangeSize lo hi 1 := by rw [rangeSize_one]; split <;> omega
  have fp : ∀ b, b ∈ [(s.heap.push { cls := .type "range", data := .fields #[.int lo t, .int hi u, .int 1 v] }).objs.size] → b = (s.heap.push { cls := .type "range", data := .fields #[.int lo t, .int hi u, .int 1 v] }).objs.size := fun b hb => by simpa using hb
  cases hs : Builtin.Range.small lo hi 1 with
  | true =>
    refine wpAny_pyIter_range (IsRange.new ..) hs ?_
    refine ⟨(s.heap.push { cls := .type "range", data := .fields #[.int lo t, .int hi u, .int 1 v] }).objs.size, [(s.heap.push { cls := .type "range", data := .fields #[.int lo t, .int hi u, .int 1 v] }).objs.size], _, _, H, rfl,
      I1.kept (t' := tk) fun b o e => Heap.get?_push_of_some _ e, turn_range _ lo (hi - lo).toNat, ?_, fun b hb => ?_, q⟩
    · show IsRangeIter _ _ (lo + ((0 : Nat) : Int) * 1) ((((hi - lo).toNat : Nat) : Int) - ((0 : Nat) : Int)) 1
      rw [e1, e2]
      exact Heap.get?_push_size _ rfl
    · rw [fp b hb]
      exact I1.fpOk (Nat.le_refl _) (I1.hok.fresh (Nat.le_refl _))
  | false =>
    refine wpAny_pyIter_longrange (IsRange.new ..) hs ?_
    refine ⟨(s.heap.push { cls := .type "range", data := .fields #[.int lo t, .int hi u, .int 1 v] }).objs.size, [(s.heap.push { cls := .type "range", data := .fields #[.int lo t, .int hi u, .int 1 v] }).objs.size], _, _, H, rfl,
      I1.kept (t' := tk) fun b o e => Heap.get?_push_of_some _ e, turn_long _ lo (hi - lo).toNat, ?_, fun b hb => ?_, q⟩
    · show IsLongIter _ _ (lo + ((0 : Nat) : Int) * 1) ((((hi - lo).toNat : Nat) : Int) - ((0 : Nat) : Int)) 1
      rw [e1, e2]
      exact Heap.get?_push_size _ rfl
    · rw [fp b hb]
      exact I1.fpOk (Nat.le_refl _) (I1.hok.fresh (Nat.le_refl _))
def iRngB (ta : TA) : TI := fun σ H R => ta σ H fun vs H1 => ∃ i j : Int, vs = [.int i, .int j] ∧ R (Itr i (j - i).toNat) H1
theorem pi_rangeB {a b : Expr} {ta : TA} {p pos : Pos} (hg : Gl X "range") (hm : X.mg "range" = none) (ha : PA X [a, b] ta) (hs : starEach [a, b] X.env = [(false, eval a X.env), (false, eval b X.env)] := by rfl) (hs2 : starEach [b] X.env = [(false, eval b X.env)] := by rfl) :
    PI X tg (.Call (.Name "range" p) [a, b] [] pos) (iRngB ta) := by
  refine ⟨fun pins s σ H R I h => ?_⟩
  refine Call_ (ld_blt I hg hm boot_range (PyProof.Rows.callWith_type1 (thn (ha.run pos pins s σ H _ I h) fun us s1 ⟨vs, H1, I1, r1, q1⟩ => ?_) (by rw [hs, hs2]) (by rw [hs2]; rfl)))
  obtain ⟨i, j, e, q⟩ := q1
  subst e
  cases r1 with
  | cons r rr =>
    cases rr with
    | cons r' rr =>
      cases rr
      obtain ⟨t, rfl⟩ := r
      obtain ⟨t', rfl⟩ := r'
      exact call_range_2 (range_itB I1 q)
end
end K55

set_option maxHeartbeats 2000000
/-! K55: rules far right, told apart, summed up. -/
namespace K55
def two : Ent := some (0, 2, 1)
def oddE (m r : Int) (i : Nat) : Ent := some (0, 2 + (if decide ((i : Int) = r) then 1 else 0), 1)
def odds (m r : Int) : List Ent := (List.range m.toNat).map (oddE m r)
def level : List Row := [⟨none, none, [two]⟩]
def farA (far m r : Int) : List Row := [⟨none, some (far - 1), [two]⟩, ⟨some far, none, odds m r⟩]
def farB (far m r at' : Int) : List Row := [⟨none, some (far - 1), [two]⟩, ⟨some far, some at', odds m r⟩, ⟨some (at' + 1), none, [two]⟩]
def hill (L : Int) : List Row := [⟨none, some (-1), [some (0, 0, 1)]⟩, ⟨some 0, some L, [some (1, 0, 1)]⟩, ⟨some (L + 1), some (3 * L), [some (-1, 3 * L, 1)]⟩, ⟨some (3 * L + 1), none, [some (0, 0, 1)]⟩]
theorem flat_ok {q : Row} (h0 : 0 < q.ents.length) (h1 : q.ents.length ≤ 30) (h : ∀ e, e ∈ q.ents → ∃ v : Int, 0 ≤ v ∧ e = some (0, v, 1)) : RowOk q := by
  refine ⟨h0, h1, fun r e he => ?_⟩
  obtain ⟨v, hv, rfl⟩ := h e (List.mem_of_getElem? he)
  refine ⟨⟨by decide, by decide, by decide⟩, fun n hs hm a b c hc => ?_⟩
  cases hc
  exact ⟨by decide, v, hv, by omega⟩
theorem two_ok (f l : Option Int) : RowOk ⟨f, l, [two]⟩ := flat_ok (by simp) (by simp) fun e he => by
  rw [List.mem_singleton.mp he]; exact ⟨2, by decide, rfl⟩
theorem odds_len {m r : Int} : (odds m r).length = m.toNat := by unfold odds; rw [List.length_map, List.length_range]
theorem odds_mem {m r : Int} {e : Ent} (h : e ∈ odds m r) : ∃ v : Int, 0 ≤ v ∧ v ≤ 3 ∧ e = some (0, v, 1) := by
  obtain ⟨i, _, rfl⟩ := List.mem_map.mp h
  exact ⟨_, by split <;> omega, by split <;> omega, rfl⟩
theorem odds_ok {m r : Int} (h0 : 0 < m) (h1 : m ≤ 3) (f l : Option Int) : RowOk ⟨f, l, odds m r⟩ :=
  flat_ok (by show 0 < (odds m r).length; rw [odds_len]; omega) (by show (odds m r).length ≤ 30; rw [odds_len]; omega) fun e he => by
    obtain ⟨v, h1, _, h2⟩ := odds_mem he
    exact ⟨v, h1, h2⟩
theorem level_good : Good level := ⟨joined_chain.mpr ⟨rfl, fun _ _ z => (nomatch z), .inl ⟨rfl, rfl⟩⟩, by decide, fun q hq => by rw [List.mem_singleton.mp hq]; exact two_ok _ _⟩
section
variable {far m r at' : Int}
theorem farA_good (h0 : 0 < m) (h1 : m ≤ 3) : Good (farA far m r) := by
  refine ⟨joined_chain.mpr ⟨rfl, fun _ _ z => (nomatch z), .inr ⟨far - 1, rfl, ?_, fun _ _ _ z => (nomatch z), .inl ⟨rfl, rfl⟩⟩⟩, Nat.le_of_ble_eq_true rfl, fun q hq => ?_⟩
  · show some far = some (far - 1 + 1)
    congr 1; omega
  · have hq : q ∈ [(⟨none, some (far - 1), [two]⟩ : Row), ⟨some far, none, odds m r⟩] := hq
    simp only [List.mem_cons, List.not_mem_nil, or_false] at hq
    rcases hq with rfl | rfl
    · exact two_ok _ _
    · exact odds_ok h0 h1 _ _
theorem farB_good (h0 : 0 < m) (h1 : m ≤ 3) (ha : far ≤ at') : Good (farB far m r at') := by
  refine ⟨joined_chain.mpr ⟨rfl, fun _ _ z => (nomatch z), .inr ⟨far - 1, rfl, ?_, fun x y e1 e2 => ?_, .inr ⟨at', rfl, rfl, fun _ _ _ z => (nomatch z), .inl ⟨rfl, rfl⟩⟩⟩⟩, Nat.le_of_ble_eq_true rfl, fun q hq => ?_⟩
  · show some far = some (far - 1 + 1)
    congr 1; omega
  · cases e1; cases e2; omega
  · have hq : q ∈ [(⟨none, some (far - 1), [two]⟩ : Row), ⟨some far, some at', odds m r⟩, ⟨some (at' + 1), none, [two]⟩] := hq
    simp only [List.mem_cons, List.not_mem_nil, or_false] at hq
    rcases hq with rfl | rfl | rfl
    · exact two_ok _ _
    · exact odds_ok h0 h1 _ _
    · exact two_ok _ _
theorem two_tell {rows : List Row} (g : Good rows) {f l : Option Int} (hq : (⟨f, l, [two]⟩ : Row) ∈ rows) {n : Int} (hs : InS f l n) : tell rows n = some 2 := by
  rw [tell_row g hq hs]
  unfold entIn
  have e : n % (([two] : List Ent).length : Int) = 0 := by show n % 1 = 0; omega
  show entTell ((([two] : List Ent)[(n % (([two] : List Ent).length : Int)).toNat]?).getD none) n = _
  rw [e]
  show some ((0 * n + 2) / 1) = some 2
  rw [Int.zero_mul, Int.ediv_one]; rfl
theorem odds_tell {rows : List Row} (g : Good rows) (h0 : 0 < m) {f l : Option Int} (hq : (⟨f, l, odds m r⟩ : Row) ∈ rows) {n : Int} (hs : InS f l n) : tell rows n = some (2 + (if n % m = r then 1 else 0)) := by
  rw [tell_row g hq hs]
  unfold entIn
  show entTell (((odds m r)[(n % ((odds m r).length : Int)).toNat]?).getD none) n = _
  have b1 := mod_lo n h0
  have b2 := mod_hi n h0
  rw [odds_len, Int.toNat_of_nonneg (Int.le_of_lt h0)]
  have hlt : (n % m).toNat < m.toNat := by omega
  unfold odds
  rw [List.getElem?_map, List.getElem?_range hlt]
  show some ((0 * n + (2 + (if decide (((n % m).toNat : Int) = r) then 1 else 0))) / 1) = _
  rw [Int.zero_mul, Int.ediv_one, Int.zero_add, Int.toNat_of_nonneg b1]
  by_cases z : n % m = r
  · rw [if_pos z, decide_eq_true z]; rfl
  · rw [if_neg z, decide_eq_false z]; rfl
theorem level_tell (n : Int) : tell level n = some 2 := two_tell level_good (List.mem_singleton.mpr rfl) ⟨(fun _ z => nomatch z), (fun _ z => nomatch z)⟩
/-- what such rows tell -/
def FarTell (far m r at' : Int) (rows : List Row) : Prop := Good rows ∧ SmallR rows ∧ tell rows at' = some 3 ∧ ∀ n, tell rows n = some 2 ∨ (tell rows n = some 3 ∧ far ≤ n ∧ n % m = r)
theorem two_bnd : ∀ e, e ∈ ([two] : List Ent) → Bnd e := fun e he => by rw [List.mem_singleton.mp he]; exact ⟨by decide, by decide, by decide⟩
theorem odds_bnd : ∀ e, e ∈ odds m r → Bnd e := fun e he => by
  obtain ⟨v, _, _, rfl⟩ := odds_mem he
  exact ⟨by decide, by decide, by decide⟩
theorem farA_tell (h0 : 0 < m) (h1 : m ≤ 3) (ha : far ≤ at') (hr : at' % m = r) : FarTell far m r at' (farA far m r) := by
  have g := farA_good (far := far) (r := r) h0 h1
  have o : ∀ {n : Int}, far ≤ n → tell (farA far m r) n = some (2 + (if n % m = r then 1 else 0)) := fun {n} hn => odds_tell g h0 (f := some far) (l := none) (List.mem_cons_of_mem _ (List.mem_singleton.mpr rfl)) ⟨fun x z => by cases z; exact hn, (fun _ z => nomatch z)⟩
  refine ⟨g, ⟨Nat.le_of_ble_eq_true rfl, fun q hq => ?_⟩, by rw [o ha, if_pos hr]; rfl, fun n => ?_⟩
  · have hq : q ∈ [(⟨none, some (far - 1), [two]⟩ : Row), ⟨some far, none, odds m r⟩] := hq
    simp only [List.mem_cons, List.not_mem_nil, or_false] at hq
    rcases hq with rfl | rfl
    · exact ⟨by simp, two_bnd⟩
    · exact ⟨by show (odds m r).length ≤ 5; rw [odds_len]; omega, odds_bnd⟩
  · by_cases z : far ≤ n
    · rw [o z]
      by_cases y : n % m = r
      · rw [if_pos y]; exact .inr ⟨rfl, z, y⟩
      · rw [if_neg y]; exact .inl rfl
    · exact .inl (two_tell g (f := none) (l := some (far - 1)) List.mem_cons_self ⟨(fun _ z => nomatch z), fun y e => by cases e; omega⟩)
theorem farB_tell (h0 : 0 < m) (h1 : m ≤ 3) (ha : far ≤ at') (hr : at' % m = r) : FarTell far m r at' (farB far m r at') := by
  have g := farB_good (far := far) (r := r) h0 h1 ha
  have o : ∀ {n : Int}, far ≤ n → n ≤ at' → tell (farB far m r at') n = some (2 + (if n % m = r then 1 else 0)) := fun {n} hn hn2 => odds_tell g h0 (f := some far) (l := some at') (List.mem_cons_of_mem _ List.mem_cons_self) ⟨fun x z => by cases z; exact hn, fun x z => by cases z; exact hn2⟩
  refine ⟨g, ⟨Nat.le_of_ble_eq_true rfl, fun q hq => ?_⟩, by rw [o ha (Int.le_refl _), if_pos hr]; rfl, fun n => ?_⟩
  · have hq : q ∈ [(⟨none, some (far - 1), [two]⟩ : Row), ⟨some far, some at', odds m r⟩, ⟨some (at' + 1), none, [two]⟩] := hq
    simp only [List.mem_cons, List.not_mem_nil, or_false] at hq
    rcases hq with rfl | rfl | rfl
    · exact ⟨by simp, two_bnd⟩
    · exact ⟨by show (odds m r).length ≤ 5; rw [odds_len]; omega, odds_bnd⟩
    · exact ⟨by simp, two_bnd⟩
  · by_cases z : far ≤ n
    · by_cases z2 : n ≤ at'
      · rw [o z z2]
        by_cases y : n % m = r
        · rw [if_pos y]; exact .inr ⟨rfl, z, y⟩
        · rw [if_neg y]; exact .inl rfl
      · exact .inl (two_tell g (f := some (at' + 1)) (l := none) (List.mem_cons_of_mem _ (List.mem_cons_of_mem _ (List.mem_singleton.mpr rfl))) ⟨fun x e => by cases e; omega, (fun _ z => nomatch z)⟩)
    · exact .inl (two_tell g (f := none) (l := some (far - 1)) List.mem_cons_self ⟨(fun _ z => nomatch z), fun y e => by cases e; omega⟩)
theorem level_small : SmallR level := ⟨by decide, fun q hq => by rw [List.mem_singleton.mp hq]; exact ⟨by simp, two_bnd⟩⟩
variable {rows : List Row}
theorem far_parted (h : FarTell far m r at' rows) : ∃ n, partedAt rows level = some n ∧ far ≤ n ∧ n % m = r := by
  obtain ⟨g, s, h3, h4⟩ := h
  cases e : partedAt rows level with
  | none =>
    have := parted_none g level_good e at'
    rw [h3, level_tell] at this
    cases this
  | some n =>
    have := parted_some g level_good e
    rw [level_tell] at this
    rcases h4 n with z | ⟨_, z1, z2⟩
    · exact absurd z this
    · exact ⟨n, rfl, z1, z2⟩
theorem far_most (h : FarTell far m r at' rows) : mostOf rows = some 3 := by
  obtain ⟨g, s, h3, h4⟩ := h
  refine most_one (most_is g) ⟨by decide, fun n => ?_, .inr ⟨at', h3⟩⟩
  rcases h4 n with z | ⟨z, _⟩
  · exact ⟨2, z, by decide⟩
  · exact ⟨3, z, by decide⟩
theorem far_sum (h : FarTell far m r at' rows) : (∀ t, t ∈ lots rows level → SmallE t.mine ∧ SmallE t.its) ∧ Good (addRows rows level) ∧ tell (addRows rows level) at' = some 5 := by
  obtain ⟨g, s, h3, h4⟩ := h
  refine ⟨fun t ht => lot_small s level_small ht, add_good g level_good s level_small, ?_⟩
  rw [add_tell g level_good, h3, level_tell]; rfl
end
/-! ### the hill -/
theorem one_ent {f l : Option Int} {a b : Int} (ha : -(2 ^ 64) < a ∧ a < 2 ^ 64) (h : ∀ n, InS f l n → 0 ≤ a * n + b) : RowOk ⟨f, l, [some (a, b, 1)]⟩ := by
  refine ⟨by show 0 < [(some (a, b, 1) : Ent)].length; simp, by show [(some (a, b, 1) : Ent)].length ≤ 30; simp, fun r e he => ?_⟩
  have hm : e ∈ [(some (a, b, 1) : Ent)] := List.mem_of_getElem? he
  rw [List.mem_singleton.mp hm]
  refine ⟨⟨ha, by decide, by decide⟩, fun n hs _ a' b' c' hc => ?_⟩
  cases hc
  exact ⟨by decide, _, h n hs, by omega⟩
theorem one_tell {rows : List Row} (g : Good rows) {f l : Option Int} {a b : Int} (hq : (⟨f, l, [some (a, b, 1)]⟩ : Row) ∈ rows) {n : Int} (hs : InS f l n) : tell rows n = some (a * n + b) := by
  rw [tell_row g hq hs]
  unfold entIn
  have e : n % (([some (a, b, 1)] : List Ent).length : Int) = 0 := by show n % 1 = 0; omega
  show entTell ((([some (a, b, 1)] : List Ent)[(n % (([some (a, b, 1)] : List Ent).length : Int)).toNat]?).getD none) n = _
  rw [e]
  show some ((a * n + b) / 1) = _
  rw [Int.ediv_one]
theorem hill_good {L : Int} (h : 1 ≤ L) : Good (hill L) := by
  refine ⟨joined_chain.mpr ⟨rfl, fun _ _ z => (nomatch z), .inr ⟨-1, rfl, rfl, fun x y e1 e2 => ?_, .inr ⟨L, rfl, rfl, fun x y e1 e2 => ?_, .inr ⟨3 * L, rfl, rfl, fun _ _ _ z => (nomatch z), .inl ⟨rfl, rfl⟩⟩⟩⟩⟩, Nat.le_of_ble_eq_true rfl, fun q hq => ?_⟩
  · cases e1; cases e2; omega
  · cases e1; cases e2; omega
  · have hq : q ∈ [(⟨none, some (-1), [some (0, 0, 1)]⟩ : Row), ⟨some 0, some L, [some (1, 0, 1)]⟩, ⟨some (L + 1), some (3 * L), [some (-1, 3 * L, 1)]⟩, ⟨some (3 * L + 1), none, [some (0, 0, 1)]⟩] := hq
    simp only [List.mem_cons, List.not_mem_nil, or_false] at hq
    rcases hq with rfl | rfl | rfl | rfl
    · exact one_ent ⟨by decide, by decide⟩ fun n _ => by omega
    · exact one_ent ⟨by decide, by decide⟩ fun n hn => by have := hn.1 0 rfl; omega
    · exact one_ent ⟨by decide, by decide⟩ fun n hn => by have := hn.2 _ rfl; omega
    · exact one_ent ⟨by decide, by decide⟩ fun n _ => by omega
theorem hill_most {L : Int} (h : 1 ≤ L) : mostOf (hill L) = some (2 * L - 1) := by
  have g := hill_good h
  have r1 : ∀ {n : Int}, n ≤ -1 → tell (hill L) n = some (0 * n + 0) := fun {n} hn => one_tell g (f := none) (l := some (-1)) List.mem_cons_self ⟨(fun _ z => nomatch z), fun y e => by cases e; exact hn⟩
  have r2 : ∀ {n : Int}, 0 ≤ n → n ≤ L → tell (hill L) n = some (1 * n + 0) := fun {n} hn hn2 => one_tell g (f := some 0) (l := some L) (List.mem_cons_of_mem _ List.mem_cons_self) ⟨fun y e => by cases e; exact hn, fun y e => by cases e; exact hn2⟩
  have r3 : ∀ {n : Int}, L + 1 ≤ n → n ≤ 3 * L → tell (hill L) n = some (-1 * n + 3 * L) := fun {n} hn hn2 => one_tell g (f := some (L + 1)) (l := some (3 * L)) (List.mem_cons_of_mem _ (List.mem_cons_of_mem _ List.mem_cons_self)) ⟨fun y e => by cases e; exact hn, fun y e => by cases e; exact hn2⟩
  have r4 : ∀ {n : Int}, 3 * L + 1 ≤ n → tell (hill L) n = some (0 * n + 0) := fun {n} hn => one_tell g (f := some (3 * L + 1)) (l := none) (List.mem_cons_of_mem _ (List.mem_cons_of_mem _ (List.mem_cons_of_mem _ (List.mem_singleton.mpr rfl)))) ⟨fun y e => by cases e; exact hn, (fun _ z => nomatch z)⟩
  refine most_one (most_is g) ⟨by omega, fun n => ?_, .inr ⟨L + 1, ?_⟩⟩
  · by_cases z1 : n ≤ -1
    · exact ⟨_, r1 z1, by omega⟩
    · by_cases z2 : n ≤ L
      · exact ⟨_, r2 (by omega) z2, by omega⟩
      · by_cases z3 : n ≤ 3 * L
        · exact ⟨_, r3 (by omega) z3, by omega⟩
        · exact ⟨_, r4 (by omega), by omega⟩
  · rw [r3 (Int.le_refl _) (by omega)]
    congr 1; omega
end K55

set_option maxHeartbeats 2000000
/-! K55: repr of a short list; a range of any integers; a def that draws, no text under way. -/
namespace K55
open PySem PySem.Spec PyProof.Rows L2
section
variable {C : Addr} {K : PySem.W.Frag} {ρ : Env} {ta tl te : TE} {targ : TA} {tt : TT} {g : TG} {vs : List Nat}
theorem pair_text {i : Int} (h : i.natAbs.log2 < 1920) (s : Str) (hs : s.cps.size ≤ 100) (hs2 : (s.cps.toList.all fun c => decide (c < 16 ^ 8)) = true) : (PyData.shown (.list [.int i, .str s])).length ≤ sizeLine := by
  have h2 : (PyData.shown (.int i)).length ≤ 2000 := by
    show (Str.ofString (toString i)).length ≤ 2000
    rw [PySem.ofString_length]
    have := int_text_length_le (k := 1920) (by decide) h
    omega
  have h3 : PyData.leavesShort 2000 (.list [.int i, .str s]) = true := by
    simp only [PyData.leavesShort, PyData.leavesShortAll, Bool.and_true, Bool.and_eq_true, decide_eq_true_eq]
    exact ⟨h2, by simpa only [List.all_eq_true, decide_eq_true_eq] using hs2⟩
  have h4 := PyData.shown_le 2000 (by decide) _ h3
  have h5 : PyData.weight (.list [.int i, .str s]) ≤ 3000 := by
    simp only [PyData.weight, PyData.weightAll]
    split <;> omega
  have : sizeLine = 16777216 := by decide
  omega
theorem c_rpD {i : Int} {s : Str} (h : i.natAbs.log2 < 1920) (hs : s.cps.size ≤ 100) (hs2 : (s.cps.toList.all fun c => decide (c < 16 ^ 8)) = true) : RcP C (rRpD K) [.lst [.int i, .str s]] (.str (PyData.shown (.list [.int i, .str s]))) := fun B H e vs r Q q => by
  obtain ⟨v, ws, rfl, h1, h2⟩ := r.cons_inv
  rw [h2.nil_inv]
  have hd := Rep.dp (K := K) v (.lst [.int i, .str s]) (h1.up e) rfl
  have e2 : D.py (.lst [.int i, .str s]) = .list [.int i, .str s] := by simp [D.py, pys]
  rw [e2] at hd
  obtain ⟨a, us, rfl, _, _⟩ := h1.lst_inv
  refine ⟨_, _, rfl, hd, ⟨a, rfl⟩, ?_, ?_, ?_, pair_text h s hs hs2, q _ B H (.refl e) (.str _)⟩
  · simp [PyData.showable, PyData.showableAll, h]
  · simp [PyData.hasDict, PyData.hasDictAll]
  · simp [PyData.depth, PyData.depthAll]
theorem v_lcRB {α : Type} {lo hi' : Int} {ts : List α} {enc : α → D} {f : α → Bool} {o : α → D} (h : EvA C targ ρ [.int lo, .int hi']) (hts : ts.length = (hi' - lo).toNat) (hi : ∀ (i : Nat) a, ts[i]? = some a → enc a = .int (lo + i)) (hn : ts.length ≤ 50000)
    (T : Turns C g tt te ρ vs ts enc f o) : EvP C (tLc (iRngB targ) g tt te vs) ρ (.lst ((ts.filter f).map o)) := fun σ B H hS e Q q =>
  h σ B H hS e _ fun us B1 H1 s1 r1 => by
    obtain ⟨v, ws, rfl, h1, h2⟩ := r1.cons_inv
    obtain ⟨v', ws', rfl, h3, h4⟩ := h2.cons_inv
    rw [h4.nil_inv, h1.int_inv, h3.int_inv]
    exact ⟨lo, hi', rfl, lc_rng hts hi hn T hS s1 q⟩
end
section
variable {C : Addr} {P : Program} {w : World} {K : PySem.W.Frag} {mg : Str → Option Value} {base : Heap}
/-- a def that draws, no text under way -/
theorem def_okG {x qual : Str} {st : Stmt} {f : Addr} {fd : FuncData} {N ps : List Str} {k lv : Nat} {F0 : List D → Prop} {F : List D → D → Prop} (Fn : Fun K x qual st f fd) (S : FnScope N ps (defScope st)) (hN : ps.length ≤ N.length) (hlen : ∀ ds, F0 ds → ds.length + 1 = ps.length)
    (body : ∀ (cdv : Value) (A : Around) (outer : List PySem.Env) (s : Shared) (H : Hp) (E : XK), (A.deeper (envOfC qual (defScope st) s.heap.objs.size f cdv)).guards = some [] → Room lv (A.deeper (envOfC qual (defScope st) s.heap.objs.size f cdv)) → ∀ ds, F0 ds →
      ∃ t, PSs (cxOf CX0 P w K mg base N qual (defScope st) f cdv A outer s H E).nox (defBody st) t ∧ ∀ (vv : Addr) (B0 H0 : Hp) (n : Nat), n + k ≤ 1000 →
        Tr C t ((D.raw (.ref vv) :: ds).map some ++ List.replicate (N.length - (ds.length + 1)) none) (VI C vv (StepV vv B0 H0) n) (fun _ _ _ => False) (fun v B H => ∃ d, F ds d ∧ Rep C B v d ∧ VI C vv (StepV vv B0 H0) (n + k) B H)) :
    FnG P w K mg base (lv + 1) f fd ps (spV C k F0 F) := by
  refine FnG.of Fn S (fun vs H Q E h => ?_) (fun cdv A outer s H vs Q E free hr h => ?_)
  · obtain ⟨B, vv, n, ds, _, _, r, h0, _⟩ := h
    rw [r.length, List.length_cons]; exact hlen ds h0
  · obtain ⟨B, vv, n, ds, vo, hn, r, h0, q⟩ := h
    obtain ⟨t, ht, hrun⟩ := body cdv A outer s H E free hr ds h0
    refine ⟨t, ht, hrun vv B H n hn _ _ B H (sat_start r (by rw [List.length_cons, hlen ds h0]; exact hN)) ⟨⟨Sub.rfl', fun a o _ z => z, vo.1, fun a o _ h n => by rw [h] at n; cases n⟩, vo⟩ (fun _ _ _ _ z => z.elim) fun v B' H' _ z => ?_⟩
    obtain ⟨d, hF, rv, hv⟩ := z
    exact q v d B' H' hF hv.1 hv.2 rv
end
end K55

set_option maxHeartbeats 2000000
namespace K55
open PySem PySem.Spec PyProof.Rows L2
local macro_rules | `(tactic| walk_at "ev1") => `(tactic| first
  | exact v_var rfl | exact v_int | exact v_bl | exact v_non | exact v_str | exact a_nil | exact v_raw
  | apply a_cons
  | apply v_add | apply v_sub | apply v_mul | apply v_mod | apply v_fdiv | apply v_neg
  | apply v_lt | apply v_le | apply v_gt | apply v_ge | apply v_eqI | apply v_neI
  | apply v_isN | apply v_notN
  | apply b_B | apply b_test | apply b_not | apply b_and0 | apply b_or0
  | apply v_and0 | apply v_or0 | apply v_not
  | apply v_tup | apply v_lst
  | refine' v_cb ?_ c_int
  | exact Nat.le_of_ble_eq_true rfl)
local macro_rules | `(tactic| walk_at "ev") => `(tactic| repeat' walk_at "ev1")
local macro_rules | `(tactic| walk_at "weak") => `(tactic| repeat' (first | exact Weak.nil | apply Weak.same | apply Weak.less))
/-- rows as they are handed in, entries in lists -/
def rowsL (rows : List Row) : D := .lst ((rows.map fun q => (q, true)).map rowIn)
theorem init_L {rows : List Row} (g : Good rows) : F_init (rowsL rows) (rowsD rows) := ⟨rows.map fun q => (q, true), by rw [List.map_map]; show Good (rows.map fun q => q); rw [List.map_id']; exact g, rfl, by rw [List.map_map]; show _ = rowsD (rows.map fun q => q); rw [List.map_id']⟩
theorem log_far {i : Int} (h1 : -(10 : Int) ^ 50 ≤ i) (h2 : i ≤ (10 : Int) ^ 50) : i.natAbs.log2 < 1920 := by
  by_cases z : i.natAbs = 0
  · rw [z]; decide
  · have : i.natAbs ≤ 10 ^ 50 := by omega
    rw [Nat.log2_lt z]
    exact Nat.lt_of_le_of_lt this (Nat.lt_of_lt_of_le (show 10 ^ 50 < 2 ^ 200 by decide) (Nat.pow_le_pow_right (by decide) (by decide)))
/-- where the far number lies -/
def FarOk (far : Int) : Prop := -(10 : Int) ^ 41 ≤ far ∧ far ≤ (10 : Int) ^ 41 ∧ (1000 ≤ far ∨ far ≤ -1000)
theorem far_first {far m r : Int} (h0 : 0 < m) (r0 : 0 ≤ r) (r1 : r < m) : ∃ at' tl, (((List.range m.toNat).filter fun i : Nat => decide ((far + (i : Int)) % m = r)).map fun i : Nat => D.int (far + (i : Int))) = .int at' :: tl ∧ far ≤ at' ∧ at' ≤ far + m ∧ at' % m = r := by
  have hmem : ((r - far) % m).toNat ∈ (List.range m.toNat).filter fun i : Nat => decide ((far + (i : Int)) % m = r) := by
    have b1 := mod_lo (r - far) h0
    have b2 := mod_hi (r - far) h0
    refine List.mem_filter.mpr ⟨List.mem_range.mpr (by omega), decide_eq_true ?_⟩
    rw [Int.toNat_of_nonneg b1]
    exact up_mod r0 r1
  cases hl : (List.range m.toNat).filter fun i : Nat => decide ((far + (i : Int)) % m = r) with
  | nil => rw [hl] at hmem; cases hmem
  | cons i is =>
    have hi : i ∈ (List.range m.toNat).filter fun i : Nat => decide ((far + (i : Int)) % m = r) := by rw [hl]; exact List.mem_cons_self
    obtain ⟨h1, h2⟩ := List.mem_filter.mp hi
    have := List.mem_range.mp h1
    exact ⟨far + (i : Int), _, rfl, by omega, by omega, of_decide_eq_true h2⟩
section
variable {C : Addr} {P : Program} {w : World} {K : PySem.W.Frag} {mg : Str → Option Value} {base : Heap}
abbrev s__law_far_right : Stmt := topS 46
abbrev N__law_far_right : List Str := ["_law_valley_here", "_law_far", "_law_many", "_law_rest", "_law_level", "_law_odd", "_law_at_here", "_law_rows_here", "_law_told", "_law_long", "_law_hill", "_law_each", "_law_number"]
theorem sc__law_far_right : FnScope N__law_far_right ["_law_valley_here"] (defScope s__law_far_right) := ⟨rfl, rfl, rfl, by decide +kernel, rfl, by decide +kernel, by decide +kernel⟩
def F0_far (ds : List D) : Prop := ds = []
def F_far (ds : List D) (d : D) : Prop := d = .bl true
theorem ok_far {f : Addr} {fd : FuncData} (Fn : Fun K "_law_far_right" "_law_far_right" s__law_far_right f fd) (T : Bt K mg C) (G__law_climb : Df P w K mg base 1 "_law_climb" ["_law_valley_here", "_law_many"] (spV C 1 F0_climb F_climb))
    (G__law_pick : Df P w K mg base 2 "_law_pick" ["_law_valley_here", "_law_some"] (spV C 1 F0_pick F_pick)) (G_parted_at : Df P w K mg base 3 "parted_at" ["one", "other"] (spD C F_parted_at)) (G_most_of : Df P w K mg base 3 "most_of" ["rule"] (spD C F_most_of))
    (G_growth_of : Df P w K mg base 2 "growth_of" ["rule"] (spD C F_growth_of)) (G_added : Df P w K mg base 8 "added" ["one", "other"] (spD C F_added)) (G_Rule_at : Dm P w K mg base C 4 "at" ["self", "number"] (spD C F_at)) (G_Rule_init : Di P w K mg base C 6 ["self", "rows"] (spInit C F_init)) :
    FnG P w K mg base 10 f fd ["_law_valley_here"] (spV C 4 F0_far F_far) := by
  refine def_okG (lv := 9) Fn sc__law_far_right (by decide) (fun ds h => by cases h; rfl) fun cdv A outer s H E free hr ds h0 => ?_
  cases h0
  have nd := sc__law_far_right.nd
  refine ⟨_, (pss_cons (ps_asg (pe_tup (pa_cons (pe_op op_add (pcall G__law_pick (hr.mono (by first | decide | omega)) (by rfl) (pa_cons (pv 0) (pa_cons (pe_lst (pa_cons (pe_op op_pow pe_int pe_int) (pa_cons (pe_op op_pow pe_int pe_int) (pa_cons (pe_un un_neg (pe_op op_pow pe_int pe_int)) (pa_cons (pe_op op_pow pe_int pe_int) pa_nil))))) pa_nil))) (pcall G__law_climb (hr.mono (by first | decide | omega)) (by rfl) (pa_cons (pv 0) (pa_cons pe_int pa_nil)))) (pa_cons (pe_op op_add pe_int (pcall G__law_climb (hr.mono (by first | decide | omega)) (by rfl) (pa_cons (pv 0) (pa_cons pe_int pa_nil)))) pa_nil))) (pg_tup (by rfl) (pgs_cons (pg_name (i := 1) nd rfl (.inl rfl)) (pgs_cons (pg_name (i := 2) nd rfl (.inr rfl)) pgs_nil))))
      (pss_cons (ps_asg (pe_tup (pa_cons (pcall G__law_climb (hr.mono (by first | decide | omega)) (by rfl) (pa_cons (pv 0) (pa_cons (pv 2) pa_nil))) (pa_cons (pmake G_Rule_init (hr.mono (by first | decide | omega)) (by rfl) T.mgC (pa_cons (pe_lst (pa_cons (pe_tup (pa_cons pe_non (pa_cons pe_non (pa_cons (pe_lst (pa_cons (pe_tup (pa_cons pe_int (pa_cons pe_int (pa_cons pe_int pa_nil)))) pa_nil)) pa_nil)))) pa_nil)) pa_nil)) pa_nil))) (pg_tup (by rfl) (pgs_cons (pg_name (i := 3) nd rfl (.inr rfl)) (pgs_cons (pg_name (i := 4) nd rfl (.inl rfl)) pgs_nil))))
      (pss_cons (ps_setLc (i := 5) (own := [("_law_each", 11)]) (by rfl) nd rfl rfl (sw_true rfl rfl rfl (by decide +kernel)) (pi_range1 (by rfl) T.n_range (pa_cons (pv 2) pa_nil)) (blkOk_by (own := [("_law_each", 11)]) (N := N__law_far_right) (sc := defScope s__law_far_right) (by decide +kernel)) (fun _ _ _ _ _ => (pg_name (i := 11) nd rfl (.inl rfl))) (fun _ _ _ _ _ => pts_nil) (fun _ _ _ _ _ => (pe_tup (pa_cons pe_int (pa_cons (pe_op op_add pe_int (pe_callTy call_int1 (by rfl) T.n_int bo_int (pa_cons (pe_cmpR op_eq (pv 11) (pv 3) (nomark _)) pa_nil))) (pa_cons pe_int pa_nil))))))
      (pss_cons (ps_set (i := 6) nd rfl (.inl rfl) (pe_ix ix_list (pe_lc (own := [("_law_number", 12)]) (by rfl) nd (pi_rangeB (by rfl) T.n_range (pa_cons (pv 1) (pa_cons (pe_op op_add (pv 1) (pv 2)) pa_nil))) (blkOk_by (own := [("_law_number", 12)]) (N := N__law_far_right) (sc := defScope s__law_far_right) (by decide +kernel)) (fun _ _ _ _ _ => (pg_name (i := 12) nd rfl (.inl rfl))) (fun _ _ _ _ _ => (pts_one (pt_cmpR op_eq (pe_op op_mod (pe_callTy call_int1 (by rfl) T.n_int bo_int (pa_cons (pv 12) pa_nil)) (pv 2)) (pv 3) (nomark _)))) (fun _ _ _ _ _ => (pv 12))) pe_int (fun _ _ => rfl)))
      (pss_cons (ps_for PassesOwn.never rfl (pi_tup (pe_tup (pa_cons (pe_lst (pa_cons (pe_tup (pa_cons pe_non (pa_cons (pe_op op_sub (pv 1) pe_int) (pa_cons (pe_lst (pa_cons (pe_tup (pa_cons pe_int (pa_cons pe_int (pa_cons pe_int pa_nil)))) pa_nil)) pa_nil)))) (pa_cons (pe_tup (pa_cons (pv 1) (pa_cons pe_non (pa_cons (pv 5) pa_nil)))) pa_nil))) (pa_cons (pe_lst (pa_cons (pe_tup (pa_cons pe_non (pa_cons (pe_op op_sub (pv 1) pe_int) (pa_cons (pe_lst (pa_cons (pe_tup (pa_cons pe_int (pa_cons pe_int (pa_cons pe_int pa_nil)))) pa_nil)) pa_nil)))) (pa_cons (pe_tup (pa_cons (pv 1) (pa_cons (pv 6) (pa_cons (pv 5) pa_nil)))) (pa_cons (pe_tup (pa_cons (pe_op op_add (pv 6) pe_int) (pa_cons pe_non (pa_cons (pe_lst (pa_cons (pe_tup (pa_cons pe_int (pa_cons pe_int (pa_cons pe_int pa_nil)))) pa_nil)) pa_nil)))) pa_nil)))) pa_nil)))) (pg_name (i := 7) nd rfl (.inl rfl)) (pss_cons (ps_set (i := 8) nd rfl (.inl rfl) (pcall G_parted_at (hr.mono (by first | decide | omega)) (by rfl) (pa_cons (pmake G_Rule_init (hr.mono (by first | decide | omega)) (by rfl) T.mgC (pa_cons (pv 7) pa_nil)) (pa_cons (pv 4) pa_nil))))
      (pss_cons (ps_if (PW.pt (pw_or (pt_cmp (pc_isN (pv 8))) (pw_or (pt_cmpR op_lt (pv 8) (pv 1) (nomark _)) (pw_or (pt_cmpR op_ne (pe_op op_mod (pe_callTy call_int1 (by rfl) T.n_int bo_int (pa_cons (pv 8) pa_nil)) (pv 2)) (pv 3) (nomark _)) (pw_or1 (pt_cmpR op_ne (pe_callB call_rp (by rfl) T.n_repr bo_repr (pa_cons (pcall G_most_of (hr.mono (by first | decide | omega)) (by rfl) (pa_cons (pmake G_Rule_init (hr.mono (by first | decide | omega)) (by rfl) T.mgC (pa_cons (pv 7) pa_nil)) pa_nil)) pa_nil)) pe_str (nomark _))))))) (pss_one (ps_ret pe_bl)) pss_nil)
      (pss_one (ps_if (pt_cmpR op_ne (pe_callB call_rp (by rfl) T.n_repr bo_repr (pa_cons (pmeth T.cl G_Rule_at (hr.mono (by first | decide | omega)) (pcall G_added (hr.mono (by first | decide | omega)) (by rfl) (pa_cons (pmake G_Rule_init (hr.mono (by first | decide | omega)) (by rfl) T.mgC (pa_cons (pv 7) pa_nil)) (pa_cons (pv 4) pa_nil))) (pa_cons (pv 6) pa_nil)) pa_nil)) pe_str (nomark _)) (pss_one (ps_ret pe_bl)) pss_nil)))))
      (pss_cons (ps_set (i := 9) nd rfl (.inl rfl) (pe_callB call_abs (by rfl) T.n_abs bo_abs (pa_cons (pv 1) pa_nil)))
      (pss_cons (ps_set (i := 10) nd rfl (.inl rfl) (pmake G_Rule_init (hr.mono (by first | decide | omega)) (by rfl) T.mgC (pa_cons (pe_lst (pa_cons (pe_tup (pa_cons pe_non (pa_cons (pe_un un_neg pe_int) (pa_cons (pe_lst (pa_cons (pe_tup (pa_cons pe_int (pa_cons pe_int (pa_cons pe_int pa_nil)))) pa_nil)) pa_nil)))) (pa_cons (pe_tup (pa_cons pe_int (pa_cons (pv 9) (pa_cons (pe_lst (pa_cons (pe_tup (pa_cons pe_int (pa_cons pe_int (pa_cons pe_int pa_nil)))) pa_nil)) pa_nil)))) (pa_cons (pe_tup (pa_cons (pe_op op_add (pv 9) pe_int) (pa_cons (pe_op op_mul pe_int (pv 9)) (pa_cons (pe_lst (pa_cons (pe_tup (pa_cons (pe_un un_neg pe_int) (pa_cons (pe_op op_mul pe_int (pv 9)) (pa_cons pe_int pa_nil)))) pa_nil)) pa_nil)))) (pa_cons (pe_tup (pa_cons (pe_op op_add (pe_op op_mul pe_int (pv 9)) pe_int) (pa_cons pe_non (pa_cons (pe_lst (pa_cons (pe_tup (pa_cons pe_int (pa_cons pe_int (pa_cons pe_int pa_nil)))) pa_nil)) pa_nil)))) pa_nil))))) pa_nil)))
      (pss_one (ps_ret (pe_cmpR op_eq (pe_callB (call_rpD free hr.units) (by rfl) T.n_repr bo_repr (pa_cons (pe_lst (pa_cons (pcall G_most_of (hr.mono (by first | decide | omega)) (by rfl) (pa_cons (pv 10) pa_nil)) (pa_cons (pcall G_growth_of (hr.mono (by first | decide | omega)) (by rfl) (pa_cons (pv 10) pa_nil)) pa_nil))) pa_nil)) (pe_callB (call_rpD free hr.units) (by rfl) T.n_repr bo_repr (pa_cons (pe_lst (pa_cons (pe_op op_sub (pe_op op_mul pe_int (pv 9)) pe_int) (pa_cons pe_str pa_nil))) pa_nil)) (nomark _))))))))))), fun vv B0 H0 n hn => ?_⟩
  have hV := okV0 (vv := vv) B0 H0
  let big : List D := [.int (10 ^ (20 : Int).toNat), .int (10 ^ (6 : Int).toNat), .int (-(10 ^ (30 : Int).toNat)), .int (10 ^ (40 : Int).toNat)]
  have pow : ∀ {ρ : Env} (k : Int), 0 ≤ k → k ≤ 100 → EvP C (tOp (rI CPow fun i j => .int (i ^ j.toNat)) (tC (.int 10)) (tC (.int k))) ρ (.int ((10 : Int) ^ k.toNat)) := fun k h1 h2 => v_pow v_int v_int ⟨h1, by omega, by decide⟩
  refine tr_letX (okVI hV _) (x_tup (okVI hV (n + 1 + 1 + 1)) (xa_cons (F := fun d => ∃ far, FarOk far ∧ d = .int far) (x_op (okVI hV _)
    (x_callV hV (a_cons (v_var rfl) (a_cons (v_lst (ds := big) (a_cons (pow 20 (by omega) (by omega)) (a_cons (pow 6 (by omega) (by omega)) (a_cons (v_neg (pow 30 (by omega) (by omega))) (a_cons (pow 40 (by omega) (by omega)) a_nil)))) (by simp [big])) a_nil)) ⟨big, by simp [big], by simp [big], rfl⟩ (by omega))
    (x_climb (m := 9) hV rfl v_int (by omega) (by omega) (by omega)) fun d1 d2 h1 h2 => ?_)
    (xa_cons (F := fun d => ∃ m : Int, (1 ≤ m ∧ m ≤ 3) ∧ d = .int m) (x_op (okVI hV _) (x_pure (okVI hV _) v_int (F := fun d => d = .int 1) rfl) (x_climb (m := 3) hV rfl v_int (by omega) (by omega) (by omega)) fun d1 d2 h1 h2 => by
      obtain ⟨r, r0, r1, rfl⟩ := h2
      subst h1
      exact ⟨.int (1 + r), ⟨1 + r, ⟨by omega, by omega⟩, rfl⟩, r_I0 fun _ => .int _⟩) xa_nil)) fun ds hd => by
        obtain ⟨_, _, _, ⟨_, _, _, rfl, rfl⟩, rfl⟩ := hd
        simp) ?_
  · obtain ⟨xs, e1, hx⟩ := h1
    obtain ⟨r, r0, r1, rfl⟩ := h2
    injection e1 with e1
    injection e1 with e1
    rw [← e1] at hx
    have key : ∃ b : Int, d1 = .int b ∧ FarOk (b + r) := by
      simp only [big, List.mem_cons, List.not_mem_nil, or_false] at hx
      rcases hx with rfl | rfl | rfl | rfl <;> refine ⟨_, rfl, ?_⟩ <;> (unfold FarOk; simp only [show (20 : Int).toNat = 20 from rfl, show (6 : Int).toNat = 6 from rfl, show (30 : Int).toNat = 30 from rfl, show (40 : Int).toNat = 40 from rfl]; omega)
    obtain ⟨b, rfl, hb⟩ := key
    exact ⟨.int (b + r), ⟨b + r, hb, rfl⟩, r_I0 fun _ => .int _⟩
  rintro d ⟨ds, ⟨_, _, ⟨far, hfar, rfl⟩, ⟨_, _, ⟨m, hm, rfl⟩, rfl, rfl⟩, rfl⟩, rfl⟩
  refine ⟨_, _, g_tup (gs_cons g_name (gs_cons g_name gs_nil)) rfl, ?_⟩
  have hmk : ∀ {ρ : Env} {te : TE} {rows : List Row}, Good rows → EvP C te ρ (rowsL rows) → EvP C (tMake C (spInit C F_init) [] E0 (tCons te tNil)) ρ (.rule (rowsD rows)) := fun g h => v_make (a_cons h a_nil) (init_L g)
  refine tr_letX (okVI hV _) (x_tup (okVI hV (n + 4)) (xa_cons (x_climb (m := m) (n' := n + 3) hV rfl (v_var rfl) (by omega) (by omega) (by omega)) (xa_cons (x_pure (okVI hV _) (hmk level_good (v_lst (ds := [.tup [.non, .non, .lst [.tup [.int 0, .int 2, .int 1]]]]) (by walk_at "ev") (by simp))) (F := fun d => d = .rule (rowsD level)) rfl) xa_nil)) fun ds hd => by
        obtain ⟨_, _, _, ⟨_, _, _, rfl, rfl⟩, rfl⟩ := hd
        simp) ?_
  rintro d ⟨ds, ⟨_, _, ⟨r, r0, r1, rfl⟩, ⟨_, _, rfl, rfl, rfl⟩, rfl⟩, rfl⟩
  refine ⟨_, _, g_tup (gs_cons g_name (gs_cons g_name gs_nil)) rfl, ?_⟩
  refine ((tr_run (N := fun _ _ => False) (R := Ret C (.bl true)) (okVI hV _) ?_).imp (fun _ _ _ z => z.1) fun v B H z => ⟨.bl true, rfl, z.1, z.2⟩)
  have m0 : 0 < m := by omega
  obtain ⟨at', tl, hat, ha1, ha2, ha3⟩ := far_first (far := far) m0 r0 r1
  have hL : ∀ (q : Row), (rowIn (q, true)) = .tup [oi q.first, oi q.last, .lst (q.ents.map eD)] := fun q => rfl
  refine run_let (d := .lst ((odds m r).map eD)) ?_ ?_
  · have h1 := v_lcR1 (C := C) (ρ := [some (.raw (.ref vv)), some (.int far), some (.int m), some (.int r), some (.rule (rowsD level)), none, none, none, none, none, none, none, none]) (vs := [11]) (g := gName 11) (tt := tYes) (te := tTup (tCons (tC (.int 0)) (tCons (tOp (rI0 fun i j => .int (i + j)) (tC (.int 2)) (tCB (fun xs H Q => (∃ i, xs = [V.int i] ∧ Q (.int i) H) ∨ ∃ k, xs = [V.bl k] ∧ Q (.int (if k then 1 else 0)) H) (tCons (tOp rEq (tVar 11) (tVar 3)) tNil))) (tCons (tC (.int 1)) tNil)))) (n := m) (ts := List.range m.toNat) (enc := fun i : Nat => .int i) (f := fun _ => true) (o := fun i : Nat => eD (oddE m r i)) (ta := tCons (tVar 2) tNil)
      (a_cons (v_var rfl) a_nil) ⟨by omega, by omega⟩ (by simp) (fun i a ha => rng_get ha) (by simp; omega) fun t ht => ⟨_, _, g_name, by simp, b_yes, fun _ => v_tup (a_cons v_int (a_cons (v_add v_int (v_cb (a_cons (v_eqI (v_var rfl) (v_var rfl)) a_nil) c_intB)) (a_cons v_int a_nil))) (Nat.le_of_ble_eq_true rfl)⟩
    rw [List.filter_eq_self.mpr (fun _ _ => rfl)] at h1
    unfold odds
    rw [List.map_map]; exact h1
  refine run_let (d := .int at') (v_ixL (v_lcRB (ts := List.range m.toNat) (enc := fun i : Nat => .int (far + (i : Int))) (f := fun i : Nat => decide ((far + (i : Int)) % m = r)) (o := fun i : Nat => .int (far + (i : Int))) (a_cons (v_var rfl) (a_cons (v_add (v_var rfl) (v_var rfl)) a_nil)) (by simp; omega) (fun i a ha => by have := rng_get ha; injection this with this; rw [this]) (by simp; omega) fun t ht =>
    ⟨_, _, g_name, by simp, b_test (v_eqI (v_mod (v_cb (a_cons (v_var rfl) a_nil) c_int) (v_var rfl) m0) (v_var rfl)), fun _ => v_var rfl⟩) v_int (by rw [hat]; exact atI_of (Int.le_refl 0) rfl)) ?_
  let ρL : Env := [some (.raw (.ref vv)), some (.int far), some (.int m), some (.int r), some (.rule (rowsD level)), some (.lst ((odds m r).map eD)), some (.int at'), none, none, none, none, none, none]
  have hrows : ∀ (x : D), x ∈ [rowsL (farA far m r), rowsL (farB far m r at')] → ∃ rows, FarTell far m r at' rows ∧ x = rowsL rows := fun x hx => by
    simp only [List.mem_cons, List.not_mem_nil, or_false] at hx
    rcases hx with rfl | rfl
    · exact ⟨_, farA_tell m0 hm.2 ha1 ha3, rfl⟩
    · exact ⟨_, farB_tell m0 hm.2 ha1 ha3, rfl⟩
  refine run_seq (ρ1 := ρL) (run_forT (items := [rowsL (farA far m r), rowsL (farB far m r at')]) ?_ (fun _ => ρL) (fun _ => True) trivial (fun _ _ h => h) (fun i x hi _ => ?_) fun _ σ B h => h) ?_
  · have e2 : EvP C (tLst (tCons (tTup (tCons (tC (.int 0)) (tCons (tC (.int 2)) (tCons (tC (.int 1)) tNil)))) tNil)) ρL (.lst [.tup [.int 0, .int 2, .int 1]]) := by walk_at "ev"
    exact v_tup (a_cons (v_lst (ds := [.tup [.non, .int (far - 1), .lst [.tup [.int 0, .int 2, .int 1]]], .tup [.int far, .non, .lst ((odds m r).map eD)]]) (a_cons (v_tup (a_cons v_non (a_cons (v_sub (v_var rfl) v_int) (a_cons e2 a_nil))) (Nat.le_of_ble_eq_true rfl)) (a_cons (v_tup (a_cons (v_var rfl) (a_cons v_non (a_cons (v_var rfl) a_nil))) (Nat.le_of_ble_eq_true rfl)) a_nil)) (by simp))
      (a_cons (v_lst (ds := [.tup [.non, .int (far - 1), .lst [.tup [.int 0, .int 2, .int 1]]], .tup [.int far, .int at', .lst ((odds m r).map eD)], .tup [.int (at' + 1), .non, .lst [.tup [.int 0, .int 2, .int 1]]]]) (a_cons (v_tup (a_cons v_non (a_cons (v_sub (v_var rfl) v_int) (a_cons e2 a_nil))) (Nat.le_of_ble_eq_true rfl)) (a_cons (v_tup (a_cons (v_var rfl) (a_cons (v_var rfl) (a_cons (v_var rfl) a_nil))) (Nat.le_of_ble_eq_true rfl)) (a_cons (v_tup (a_cons (v_add (v_var rfl) v_int) (a_cons v_non (a_cons e2 a_nil))) (Nat.le_of_ble_eq_true rfl)) a_nil))) (by simp)) a_nil)) (Nat.le_of_ble_eq_true rfl)
  · obtain ⟨rows, ft, rfl⟩ := hrows x (List.mem_of_getElem? hi)
    obtain ⟨told, hp, hp1, hp2⟩ := far_parted ft
    obtain ⟨hs1, hs2, hs3⟩ := far_sum ft
    refine ⟨_, _, g_name, ?_⟩
    refine run_let (d := .int told) ((v_call0 (a_cons (hmk ft.1 (v_var rfl)) (a_cons (v_var rfl) a_nil)) ⟨rows, level, ft.1, level_good, rfl, rfl⟩).is (by rw [hp]; rfl)) ?_
    refine run_by (b_orF (b_B (v_isN (x := .int told) (v_var rfl))) rfl (b_orF (b_test (v_lt (v_var rfl) (v_var rfl))) (decide_eq_false (by omega)) (b_orF (b_test (v_neI (v_mod (v_cb (a_cons (v_var rfl) a_nil) c_int) (v_var rfl) m0) (v_var rfl))) (by rw [decide_eq_true hp2]; rfl) (b_test (v_ne (b := false) (x := .str (rpr (some 3))) (y := .str "3") (v_cb (a_cons ((v_call0 (a_cons (hmk ft.1 (v_var rfl)) a_nil) ⟨rows, ft.1, rfl, rfl⟩).is (y := oi (some 3)) (by rw [far_most ft])) a_nil) (c_rp fun i z => by cases z; decide)) v_str rfl rfl rfl (by decide)))))) rfl ?_
    refine run_ifN (b_test (v_ne (b := false) (x := .str (rpr (some 5))) (y := .str "5") (v_cb (a_cons ((v_meth (v_call0 (a_cons (hmk ft.1 (v_var rfl)) (a_cons (v_var rfl) a_nil)) ⟨rows, level, ft.1, level_good, hs1, hs2, rfl, rfl⟩) (a_cons (v_var rfl) a_nil) (by decide) ⟨addRows rows level, at', hs2, rfl, rfl⟩).is (y := oi (some 5)) (by rw [hs3])) a_nil) (c_rp fun i z => by cases z; decide)) v_str rfl rfl rfl (by decide))) rfl (run_next fun σ B h => ⟨trivial, h.weak (by walk_at "weak")⟩)
  let L : Int := if far < 0 then -far else far
  have hL1 : 1 ≤ L := by
    show 1 ≤ if far < 0 then -far else far
    have := hfar.2.2
    split <;> omega
  have hL2 : L ≤ (10 : Int) ^ 41 := by
    show (if far < 0 then -far else far) ≤ _
    have := hfar.1
    have := hfar.2.1
    split <;> omega
  refine run_let (d := .int L) (v_cb (a_cons (v_var rfl) a_nil) c_abs) ?_
  clear_value L
  have mul3 : ∀ {ρ : Env}, ρ[9]? = some (some (.int L)) → EvP C (tOp (rI CMul fun i j => .int (i * j)) (tC (.int 3)) (tVar 9)) ρ (.int (3 * L)) := fun h => v_mul v_int (v_var h) (.inl ⟨by omega, by omega⟩)
  refine run_let (d := .rule (rowsD (hill L))) (hmk (hill_good hL1) (v_lst (ds := [.tup [.non, .int (-1), .lst [.tup [.int 0, .int 0, .int 1]]], .tup [.int 0, .int L, .lst [.tup [.int 1, .int 0, .int 1]]], .tup [.int (L + 1), .int (3 * L), .lst [.tup [.int (-1), .int (3 * L), .int 1]]], .tup [.int (3 * L + 1), .non, .lst [.tup [.int 0, .int 0, .int 1]]]]) (a_cons ?_ (a_cons ?_ (a_cons ?_ (a_cons ?_ a_nil)))) (by simp))) ?_
  · exact v_tup (a_cons v_non (a_cons (v_neg v_int) (a_cons (v_lst (ds := [.tup [.int 0, .int 0, .int 1]]) (by walk_at "ev") (by simp)) a_nil))) (Nat.le_of_ble_eq_true rfl)
  · exact v_tup (a_cons v_int (a_cons (v_var rfl) (a_cons (v_lst (ds := [.tup [.int 1, .int 0, .int 1]]) (by walk_at "ev") (by simp)) a_nil))) (Nat.le_of_ble_eq_true rfl)
  · exact v_tup (a_cons (v_add (v_var rfl) v_int) (a_cons (mul3 rfl) (a_cons (v_lst (ds := [.tup [.int (-1), .int (3 * L), .int 1]]) (a_cons (v_tup (a_cons (v_neg v_int) (a_cons (mul3 rfl) (a_cons v_int a_nil))) (Nat.le_of_ble_eq_true rfl)) a_nil) (by simp)) a_nil))) (Nat.le_of_ble_eq_true rfl)
  · exact v_tup (a_cons (v_add (mul3 rfl) v_int) (a_cons v_non (a_cons (v_lst (ds := [.tup [.int 0, .int 0, .int 1]]) (by walk_at "ev") (by simp)) a_nil))) (Nat.le_of_ble_eq_true rfl)
  have hlog : (2 * L - 1).natAbs.log2 < 1920 := log_far (by omega) (by omega)
  refine run_back (v_eq (b := true) (v_cb (a_cons (v_lst (ds := [.int (2 * L - 1), .str "none"]) (a_cons ((v_call0 (a_cons (v_var rfl) a_nil) ⟨hill L, hill_good hL1, rfl, rfl⟩).is (by rw [hill_most hL1]; rfl)) (a_cons (v_call0 (a_cons (v_var rfl) a_nil) ⟨hill L, ⟨some (3 * L + 1), none, [some (0, 0, 1)]⟩, hill_good hL1, rfl, rfl, rfl⟩) a_nil)) (by simp)) a_nil) (c_rpD hlog (by decide) (by decide)))
    (v_cb (a_cons (v_lst (ds := [.int (2 * L - 1), .str "none"]) (a_cons (v_sub (v_mul v_int (v_var rfl) (.inl ⟨by omega, by omega⟩)) v_int) (a_cons v_str a_nil)) (by simp)) a_nil) (c_rpD hlog (by decide) (by decide))) rfl rfl rfl (decide_eq_true rfl)) rfl
end
end K55

set_option maxHeartbeats 2000000
/-! K55: what the law itself needs: keywords, != of rules, rules made while drawing. -/
namespace K55
open PySem PySem.Spec PyProof.Rows L2
section
variable (P : Program) (w : World) (K : PySem.W.Frag) (mg : Str → Option Value) (base : Heap)
/-- a def called by keywords alone -/
structure DfK (k : Nat) (x : Str) (ps ks : List Str) (gV : List V → List V → List V) (sp : Sp) : Prop where
  ex : ∃ f fd g, FnOk P w K mg base CX0 k f fd ps sp ∧ mg x = some (.ref f) ∧ PySem.W.keepIn K (.ref f) = true ∧ KBinds K fd ps ks g gV
structure DfG (k : Nat) (x : Str) (ps : List Str) (sp : Sp) : Prop where
  ex : ∃ f fd, FnG P w K mg base k f fd ps sp ∧ mg x = some (.ref f) ∧ PySem.W.keepIn K (.ref f) = true ∧ Binds K fd ps []
/-- rules are compared by their own == -/
structure NeC (C : Addr) (k : Nat) (sp : Sp) : Prop where
  ex : ∃ f fd ps, FnOk P w K mg base CX0 k f fd ps sp ∧ PySem.W.findIn K (.ref C) "__eq__" = some (some (.ref f)) ∧ PySem.W.isFn K (.ref f) = true ∧ Binds K fd ps []
  ne : PySem.W.findIn K (.ref C) "__ne__" = some (some (.builtin "object.__ne__"))
  under : PySem.W.mroIn K C (.type "object") = some true
end
section
variable {X : Cx} {k : Nat} {x : Str} {ps ks : List Str} {sp : Sp} {gV : List V → List V → List V} {kws : List Keyword} {tk t : TA} {p pos : Pos} {e : Expr} {es : List Expr} {C : Addr}
theorem pcallK0 (G : DfK X.prog X.w X.K X.mg X.base k x ps ks gV sp) (hr : Room k X.A) (hg : Gl X x) (kw : PK X kws tk) (named : (backToKw pos (keywordEach kws X.env)).all (·.1.isSome) = true := by rfl) (names : (backToKw pos (keywordEach kws X.env)).filterMap (·.1) = ks := by rfl) (nodebug : (x == ("__debug__" : Str)) = false := by decide)
    (plain : ((backTo pos (starEach [] X.env)).any (·.1) || (backToKw pos (keywordEach kws X.env)).any (·.1.isNone)) = false := by rfl) : PE X (.Call (.Name x p) [] kws pos) (tCallK0 sp gV E0 tk) := by
  obtain ⟨f, fd, g, F, hm, hk, hb⟩ := G.ex
  exact pe_callK0 F hr hg hm hk hb (fun _ _ _ _ _ _ _ h => h.elim) kw named names nodebug plain
theorem pcallG (free : X.A.guards = some []) (G : DfG X.prog X.w X.K X.mg X.base k x ps sp) (hr : Room k X.A) (hg : Gl X x) (ha : PA X (e :: es) t) (hdb : (x == ("__debug__" : Str)) = false := by decide)
    (he : starEach (e :: es) X.env = (false, eval e X.env) :: starEach es X.env := by rfl) (hpl : (backTo pos (starEach es X.env)).any (·.1) = false := by rfl) : PE X (.Call (.Name x p) (e :: es) [] pos) (tCall sp [] E0 t) := by
  obtain ⟨f, fd, F, hm, hk, hb⟩ := G.ex
  exact pe_callG F free hr hg hm hk hb ha hdb he hpl
theorem op_neG (G : NeC X.prog X.w X.K X.mg X.base C k sp) (hr : Room (k + 1) X.A) : OpR X (compareOp .NotEq) (rNeI C sp) := by
  obtain ⟨f, fd, ps, F, own, isF, hb⟩ := G.ex
  exact op_neI F own G.ne G.under isF hb hr
end
theorem units65 {k : Nat} {A : Around} (r : Room k A) : A.units + 65 < cLine := by have := r.un; omega
def swap2 : List V → List V → List V
  | [], [a, b] => [b, a]
  | _, _ => []
def one1 : List V → List V → List V
  | [], [a] => [a]
  | _, _ => []
section
variable {C : Addr} {ρ : Env} {tk ta tb te : TE} {t targ : TA} {x y d : D} {F : List D → D → Prop} {E : XK} {rows : List D} {I I1 : As} {N : L2.St → As} {R : V → As}
theorem v_callK2 {ta tb : TE} (ha : EvP C ta ρ x) (hb : EvP C tb ρ y) (hF : F [y, x] d) : EvP C (tCallK0 (spD C F) swap2 E (tCons ta (tCons tb tNil))) ρ d := fun σ B H hs e Q q =>
  a_cons ha (a_cons hb a_nil) σ B H hs e _ fun vs B1 H1 s1 r1 => by
    obtain ⟨v, ws, rfl, h1, h2⟩ := r1.cons_inv
    obtain ⟨v', ws', rfl, h3, h4⟩ := h2.cons_inv
    rw [h4.nil_inv]
    exact ⟨B1, [y, x], d, s1.s, .cons h3 (.cons h1 .nil), hF, fun v B2 H2 s2 r2 => q v B2 H2 (s1.trans s2) r2⟩
theorem v_callK1 {ta : TE} (ha : EvP C ta ρ x) (hF : F [x] d) : EvP C (tCallK0 (spD C F) one1 E (tCons ta tNil)) ρ d := fun σ B H hs e Q q =>
  a_cons ha a_nil σ B H hs e _ fun vs B1 H1 s1 r1 => by
    obtain ⟨v, ws, rfl, h1, h2⟩ := r1.cons_inv
    rw [h2.nil_inv]
    exact ⟨B1, [x], d, s1.s, .cons h1 .nil, hF, fun v B2 H2 s2 r2 => q v B2 H2 (s1.trans s2) r2⟩
/-- a rule is no other than itself -/
theorem v_neR {F : List D → D → Prop} (ha : EvP C ta ρ (.rule rows)) (hb : EvP C tb ρ (.rule rows)) (hF : F [.rule rows, .rule rows] (.bl true)) : EvP C (tOp (rNeI C (spD C F)) ta tb) ρ (.bl false) :=
  v_op ha hb fun B H e v u rv ru Q q => by
    obtain ⟨a, dx, w, rfl, h1, _⟩ := rv.rule_inv
    obtain ⟨b, dy, w', rfl, h2, _⟩ := ru.rule_inv
    refine ⟨a, b, dx, dy, _, _, rfl, rfl, e _ _ h1, e _ _ h2, B, _, .bl true, e, .cons rv (.cons ru .nil), hF, fun v B' H' s r => ⟨true, r.bl_inv, q _ B' H' s (.bl false)⟩⟩
/-- a rule made of what is drawn -/
theorem x_make {F : D → List D → Prop} {G G1 : D → Prop} (ok : OkI I1) (h : Ex C te ρ I G I1) (hF : ∀ d, G d → ∃ rows, F d rows ∧ G1 (.rule rows)) : Ex C (tMake C (spInit C F) [] E0 (tCons te tNil)) ρ I G1 I1 := fun σ B H hs hI Q q =>
  h σ B H hs hI _ fun v d B1 H1 s1 f1 i1 r1 => by
    obtain ⟨rows, h1, h2⟩ := hF d f1
    exact make_at (C := C) (t := fun _ H Q => Q [v] H) (σ := σ) (B := B1) (H := H1) (ok.sub i1) (fun Q' k => k [v] B1 H1 (.refl (ok.sub i1)) (.cons r1 .nil)) h1 fun v2 B2 H2 s2 r2 => q v2 _ B2 H2 (s1.trans s2.b) h2 (ok.up s2 i1) r2
/-- for i in range(..), the count drawn -/
theorem tr_forRX {K : PySem.W.Frag} {g : TG} {tb : TS} {M : Nat} (ok : OkI I1) (h : ExA C targ ρ I (fun ds => ∃ m : Nat, m ≤ M ∧ ds = [.int m]) I1) (hM : M < 50000) (ρs : Nat → Env) (Is : Nat → As) (h0 : ∀ σ B H, Sat C σ B ρ → I1 B H → Sat C σ B (ρs 0) ∧ Is 0 B H) (oks : ∀ i B H, Is i B H → Sub B H)
    (hs : ∀ (n : Nat), n < M → ∃ ρ1 vs, Asg C g (ρs n) (.int n) ρ1 vs ∧ Tr C tb ρ1 (Is n) (ToI C (ρs (n + 1)) (Is (n + 1))) R)
    (hd : ∀ m, m ≤ M → ∀ σ B H, Sat C σ B (ρs m) → Is m B H → N σ B H) : Tr C (tFor (iRng1 targ) g tb) ρ I N R := fun Z σ B H hS hI q1 q2 =>
  h σ B H hS hI _ fun us ds0 B1 H1 s1 f1 i1 r1 => by
    obtain ⟨m, hm, rfl⟩ := f1
    obtain ⟨v, ws, rfl, h1, h2⟩ := r1.cons_inv
    rw [h2.nil_inv, h1.int_inv]
    have hc : EvA C (fun _ H Q => Q [V.int m] H) ρ [.int m] := fun σ B H hs e Q q => q _ B H (.refl e) (.cons (.int _) .nil)
    exact tr_forR1 (C := C) (ta := fun _ H Q => Q [V.int m] H) (g := g) (tb := tb) (N := N) (R := R) (j := (m : Int)) ok hc ⟨by omega, by omega⟩ ρs Is h0 oks (fun n hn => hs n (by omega)) (fun σ B H a b => hd m hm σ B H a b) Z σ B1 H1 (hS.up s1) i1 (fun σ2 B2 H2 s2 z => q1 σ2 B2 H2 (s1.trans s2) z) fun v B2 H2 s2 z => q2 v B2 H2 (s1.trans s2) z
end
end K55

set_option maxHeartbeats 2000000
namespace K55
open PySem PySem.Spec PyProof.Rows L2
local macro_rules | `(tactic| walk_at "ev1") => `(tactic| first
  | exact v_var rfl | exact v_int | exact v_bl | exact v_non | exact v_str | exact a_nil | exact v_raw
  | apply a_cons
  | apply v_add | apply v_sub | apply v_mul | apply v_mod | apply v_fdiv | apply v_neg
  | apply v_lt | apply v_le | apply v_gt | apply v_ge | apply v_eqI | apply v_neI
  | apply v_isN | apply v_notN
  | apply b_B | apply b_test | apply b_not | apply b_and0 | apply b_or0
  | apply v_and0 | apply v_or0 | apply v_not
  | apply v_tup | apply v_lst
  | refine' v_cb ?_ c_int
  | exact Nat.le_of_ble_eq_true rfl)
local macro_rules | `(tactic| walk_at "ev") => `(tactic| repeat' walk_at "ev1")
local macro_rules | `(tactic| walk_at "weak") => `(tactic| repeat' (first | exact Weak.nil | apply Weak.same | apply Weak.less))
theorem oi_inj {a b : Option Int} (h : oi a = oi b) : a = b := by
  cases a <;> cases b <;> first | rfl | (cases h; done) | (cases h; rfl)
theorem eD_inj {a b : Ent} (h : eD a = eD b) : a = b := by
  rcases a with _ | ⟨a1, a2, a3⟩ <;> rcases b with _ | ⟨b1, b2, b3⟩
  · rfl
  · cases h
  · cases h
  · unfold eD at h
    simp only [D.tup.injEq, List.cons.injEq, D.int.injEq, and_true] at h
    obtain ⟨rfl, rfl, rfl⟩ := h
    rfl
theorem map_inj {α β : Type} {f : α → β} (hf : ∀ a b, f a = f b → a = b) : ∀ {xs ys : List α}, xs.map f = ys.map f → xs = ys
  | [], [], _ => rfl
  | [], _ :: _, h => by cases h
  | _ :: _, [], h => by cases h
  | x :: xs, y :: ys, h => by
    rw [List.map_cons, List.map_cons] at h
    injection h with h1 h2
    rw [hf x y h1, map_inj hf h2]
theorem rowsD_inj {xs ys : List Row} (h : rowsD xs = rowsD ys) : xs = ys := map_inj (fun a b h => by
  obtain ⟨f, l, es⟩ := a
  obtain ⟨f', l', es'⟩ := b
  unfold rowD at h
  simp only [D.tup.injEq, List.cons.injEq, and_true] at h
  rw [oi_inj h.1, oi_inj h.2.1, map_inj (fun _ _ => eD_inj) h.2.2]) h
theorem init_T {rows : List Row} (g : Good rows) : F_init (.lst (rowsD rows)) (rowsD rows) := ⟨rows.map fun q => (q, false), by rw [List.map_map]; show Good (rows.map fun q => q); rw [List.map_id']; exact g, by rw [List.map_map]; rfl, by rw [List.map_map]; show _ = rowsD (rows.map fun q => q); rw [List.map_id']⟩
theorem rpr_list (m : Nat) : (rpr (some (m : Int))).cps.toList = (Nat.toDigits 10 m).map Char.toNat := by
  show (Str.ofString (toString ((m : Nat) : Int))).cps.toList = _
  rw [Str.ofString_eq_toList]
  show ((Nat.repr m).toList.map Char.toNat) = _
  rw [Nat.toList_repr]
theorem rpr_none_list : (rpr none).cps.toList = ['N', 'o', 'n', 'e'].map Char.toNat := by decide
theorem char_inj {xs ys : List Char} (h : xs.map Char.toNat = ys.map Char.toNat) : xs = ys := map_inj (fun a b h => Char.toNat_inj.mp h) h
theorem rpr_not {m : Nat} (h : rpr none = rpr (some (m : Int))) : False := by
  have h2 := congrArg (fun s : Str => s.cps.toList) h
  try dsimp only at h2
  rw [rpr_list, rpr_none_list] at h2
  have h3 := char_inj h2
  have h4 : 'N' ∈ Nat.toDigits 10 m := by rw [← h3]; simp
  have := Nat.isDigit_of_mem_toDigits (b := 10) (by decide) (by decide) h4
  revert this
  decide
/-- no two of the numbers from 0 on and None have one text -/
theorem rpr_inj {a b : Option Int} (ha : ∀ i, a = some i → 0 ≤ i) (hb : ∀ i, b = some i → 0 ≤ i) (h : rpr a = rpr b) : a = b := by
  cases a with
  | none =>
    cases b with
    | none => rfl
    | some j =>
      have := hb j rfl
      rw [← Int.toNat_of_nonneg this] at h
      exact (rpr_not h).elim
  | some i =>
    have hi := ha i rfl
    rw [← Int.toNat_of_nonneg hi] at h
    cases b with
    | none => exact (rpr_not h.symm).elim
    | some j =>
      have hj := hb j rfl
      rw [← Int.toNat_of_nonneg hj] at h
      have h2 := congrArg (fun s : Str => s.cps.toList) h
      try dsimp only at h2
      rw [rpr_list, rpr_list] at h2
      have h3 := congrArg (fun l => Nat.ofDigitChars 10 l 0) (char_inj h2)
      try dsimp only at h3
      rw [Nat.ofDigitChars_ten_toDigits, Nat.ofDigitChars_ten_toDigits] at h3
      congr 1
      omega
section
variable {C : Addr} {ρ : Env} {ta tb : TE}
theorem oi_sv (o : Option Int) : (oi o).sv = some (oV o) := by cases o <;> rfl
theorem v_neO {a b : Option Int} (ha : EvP C ta ρ (oi a)) (hb : EvP C tb ρ (oi b)) : EvP C (tOp rNe ta tb) ρ (.bl (!decide (a = b))) :=
  v_ne ha hb (oi_sv a) (oi_sv b) (by cases a <;> cases b <;> rfl) (by
    congr 1
    rw [decide_eq_decide]
    cases a <;> cases b <;> simp [oV])
theorem v_eqS {a b : Str} (ha : EvP C ta ρ (.str a)) (hb : EvP C tb ρ (.str b)) : EvP C (tOp rEq ta tb) ρ (.bl (decide (a = b))) :=
  v_eq ha hb rfl rfl rfl (by rw [decide_eq_decide]; exact ⟨fun z => by injection z, fun z => by rw [z]⟩)
theorem v_neS {a b : Str} (ha : EvP C ta ρ (.str a)) (hb : EvP C tb ρ (.str b)) : EvP C (tOp rNe ta tb) ρ (.bl (!decide (a = b))) :=
  v_ne ha hb rfl rfl rfl (by congr 1; rw [decide_eq_decide]; exact ⟨fun z => by injection z, fun z => by rw [z]⟩)
end
end K55

set_option maxHeartbeats 2000000
namespace K55
open PySem PySem.Spec PyProof.Rows L2
local macro_rules | `(tactic| walk_at "ev1") => `(tactic| first
  | exact v_var rfl | exact v_int | exact v_bl | exact v_non | exact v_str | exact a_nil | exact v_raw
  | apply a_cons
  | apply v_add | apply v_sub | apply v_mul | apply v_mod | apply v_fdiv | apply v_neg
  | apply v_lt | apply v_le | apply v_gt | apply v_ge | apply v_eqI | apply v_neI
  | apply v_isN | apply v_notN
  | apply b_B | apply b_test | apply b_not | apply b_and0 | apply b_or0
  | apply v_and0 | apply v_or0 | apply v_not
  | apply v_tup | apply v_lst
  | refine' v_cb ?_ c_int
  | exact Nat.le_of_ble_eq_true rfl)
local macro_rules | `(tactic| walk_at "ev") => `(tactic| repeat' walk_at "ev1")
local macro_rules | `(tactic| walk_at "weak") => `(tactic| repeat' (first | exact Weak.nil | apply Weak.same | apply Weak.less))
/-! ### what the law reckons, in plain numbers -/
def slopeO (e : Ent) : Option Int := e.map (·.1)
theorem tell_pos {rows : List Row} (g : Good rows) {n v : Int} (h : tell rows n = some v) : 0 ≤ v := by
  cases hx : ent rows n with
  | none => unfold tell at h; rw [hx] at h; cases h
  | some x =>
    obtain ⟨a, b, c⟩ := x
    have := ent_law g n hx
    unfold tell at h
    rw [hx, entTell_some] at h
    cases h
    exact this.2.1
theorem law_pos2 {rows : List Row} (g : Good rows) {n v : Int} (h : lawAt rows n = some v) : 0 ≤ v := by
  rw [lawAt_tell g] at h; exact tell_pos g h
theorem most_big {rows : List Row} (k : GenOk rows) {v : Int} (h : lawMost rows = some v) : -(10 : Int) ^ 36 ≤ v ∧ v ≤ (10 : Int) ^ 36 := by
  unfold lawMost at h
  cases hb : rows.any (badR rows) with
  | true => rw [hb] at h; cases h
  | false =>
    rw [hb] at h
    have h : rows.foldl (fun m q => mval rows q m) 0 = v := Option.some.inj h
    rw [mval_fold] at h
    have h1 := (mx_spec (rows.flatMap (valsW rows)) 0).1
    rw [h] at h1
    rcases List.mem_cons.mp h1 with z | z
    · omega
    · obtain ⟨q, hq, hw⟩ := List.mem_flatMap.mp z
      obtain ⟨j, hj, e⟩ := List.mem_map.mp hw
      have hj := List.mem_range.mp hj
      have hn := k.near q hq
      have b1 : -60 ≤ lowO q.first ∧ lowO q.first ≤ 60 := by
        cases hf : q.first with
        | none => exact ⟨by decide, by decide⟩
        | some f => have := hn.1 f hf; exact ⟨by show -60 ≤ f; omega, by show f ≤ 60; omega⟩
      have b2 : highO q.last ≤ 60 := by
        cases hl : q.last with
        | none => exact Int.le_refl 60
        | some l => have := hn.2.1 l hl; show l ≤ 60; omega
      unfold cnt at hj
      rw [lawAt_tell k.good] at e
      cases ht : tell rows (lowO q.first + (j : Int)) with
      | none => rw [ht] at e; rw [← e]; exact ⟨by decide, by decide⟩
      | some u =>
        rw [ht] at e
        have e : u = v := e
        have := tell_big k (by omega) (by omega) ht
        omega
theorem ints_dep (ns : List Int) : dep (.lst (ns.map D.int)) ≤ 60 := by
  have h : deps (ns.map D.int) ≤ 0 := deps_of fun x hx => by
    obtain ⟨i, _, rfl⟩ := List.mem_map.mp hx
    unfold dep; omega
  unfold dep
  omega
theorem ints_pure (ns : List Int) : D.pure (.lst (ns.map D.int)) = true := by
  unfold D.pure
  exact pures_of fun x hx => by
    obtain ⟨i, _, rfl⟩ := List.mem_map.mp hx
    unfold D.pure; rfl
section
variable {C : Addr} {P : Program} {w : World} {K : PySem.W.Frag} {mg : Str → Option Value} {base : Heap}
abbrev s_law : Stmt := topS 47
abbrev N_law : List Str := ["_law_script", "_law_valley_here", "_law_turn", "_law_rows_here", "_law_others", "_law_one", "_law_other", "_law_total", "_law_numbers", "_law_number", "_law_told", "_law_differ", "_law_again", "_law_due", "_law_entry_here", "_law_slope"]
theorem sc_law : FnScope N_law ["_law_script"] (defScope s_law) := ⟨rfl, rfl, rfl, by decide +kernel, rfl, by decide +kernel, by decide +kernel⟩
def spLaw (K : PySem.W.Frag) : Sp := fun vs H Q _ => ∃ (a : Addr) (ns : List Int), vs = [.ref a] ∧ SqL K H a (ns.map V.int) ∧ ns.length ≤ 63 ∧ ∀ H', Q (.bl true) H'
theorem script_test {ρ : Env} {a vv : Addr} {ns : List Int} (h0 : ρ[0]? = some (some (.raw (.ref a)))) : ExB C (tTest (tOp (rNeD K) (tVar 0) (tLst tNil))) ρ (fun B H => SqL K H a (ns.map V.int) ∧ VOk C vv 0 B H) (fun _ => True) (VI C vv (fun _ _ => True) 0) := fun σ B H hs hI Q q => by
  obtain ⟨v, hv, rv⟩ := hs.get 0 _ h0
  cases rv.raw_inv
  refine ⟨_, hv, Nat.zero_le _, fun L hL => ?_⟩
  have hsub := hI.2.1
  have st : Step B H (upd B L (.lst [])) (upd H L (.lst [])) := .new hsub hL
  have hq : SqL K (upd H L (.lst [])) a (ns.map V.int) := sub_l (Sub.new hL) hI.1
  have d1 : DpAll K (upd H L (.lst [])) (ns.map V.int) (pys (ns.map D.int)) := Reps.dps (C := C) _ _ (reps_ints ns) (plains_of fun x hx => by obtain ⟨i, _, rfl⟩ := List.mem_map.mp hx; unfold D.plain; rfl)
  have d2 : Dp K (upd H L (.lst [])) (.ref a) (D.py (.lst (ns.map D.int))) := by unfold D.py; exact .lst hq d1
  have d3 : Dp K (upd H L (.lst [])) (.ref L) (D.py (.lst [])) := by unfold D.py pys; exact .lst (SqL.of upd_same) .nil
  exact ⟨_, _, d2, d3, pure_shaped (ints_pure ns) (ints_dep ns), pure_shaped rfl (by unfold dep deps; omega), _, rfl, q _ _ _ st.b trivial ⟨trivial, hI.2.up st⟩⟩
end
end K55

set_option maxHeartbeats 4000000
namespace K55
open PySem PySem.Spec PyProof.Rows L2
local macro_rules | `(tactic| walk_at "ev1") => `(tactic| first
  | exact v_var rfl | exact v_int | exact v_bl | exact v_non | exact v_str | exact a_nil | exact v_raw
  | apply a_cons
  | apply v_add | apply v_sub | apply v_mul | apply v_mod | apply v_fdiv | apply v_neg
  | apply v_lt | apply v_le | apply v_gt | apply v_ge | apply v_eqI | apply v_neI
  | apply v_isN | apply v_notN
  | apply b_B | apply b_test | apply b_not | apply b_and0 | apply b_or0
  | apply v_and0 | apply v_or0 | apply v_not
  | apply v_tup | apply v_lst
  | refine' v_cb ?_ c_int
  | exact Nat.le_of_ble_eq_true rfl)
local macro_rules | `(tactic| walk_at "ev") => `(tactic| repeat' walk_at "ev1")
section
variable {C : Addr} {K : PySem.W.Frag}
theorem due_grow {x0 x1 x2 x3 x4 x5 x6 x7 x8 x9 x10 x11 x12 x14 x15 : Option D} (es : List Ent) (hl : es.length ≤ 4) :
    EvP C (tIf (tTest (tOp (rInD K) (tC .non) (tVar 13))) (tC (.str "endless")) (tIf (tTest (tOp (rEqD K) (tLc (iList K (tVar 13)) (gName 15) (tTest (tOp rNe (tVar 15) (tC (.int 0)))) (tVar 15) [15]) (tLst tNil))) (tC (.str "none")) (tC (.str "straight")))) [x0, x1, x2, x3, x4, x5, x6, x7, x8, x9, x10, x11, x12, some (.lst (es.map fun e => oi (slopeO e))), x14, x15] (.str (grow es)) := by
  have hpure : pures (es.map fun e => oi (slopeO e)) = true := pures_of fun x hx => by
    obtain ⟨e, _, rfl⟩ := List.mem_map.mp hx
    cases slopeO e <;> rfl
  have hdep : deps (es.map fun e => oi (slopeO e)) ≤ 0 := deps_of fun x hx => by
    obtain ⟨e, _, rfl⟩ := List.mem_map.mp hx
    rw [dep_oi]; omega
  have hdep2 : dep (.lst (es.map fun e => oi (slopeO e))) ≤ 60 := by unfold dep; omega
  have e1 : (es.map fun e => oi (slopeO e)).any D.isN = es.any fun e => e.isNone := by
    rw [List.any_map]
    congr 1
    funext e
    cases e <;> rfl
  unfold grow
  cases hb : es.any (fun e => e.isNone) with
  | true => exact v_ifT ((b_test (v_nonInL (v_var rfl) hpure hdep2)).is (by rw [e1, hb])) v_str
  | false =>
    refine v_ifF ((b_test (v_nonInL (v_var rfl) hpure hdep2)).is (by rw [e1, hb])) ?_
    have hfil : EvP C (tLc (iList K (tVar 13)) (gName 15) (tTest (tOp rNe (tVar 15) (tC (.int 0)))) (tVar 15) [15]) [x0, x1, x2, x3, x4, x5, x6, x7, x8, x9, x10, x11, x12, some (.lst (es.map fun e => oi (slopeO e))), x14, x15] (.lst ((es.filter fun e => !decide (slopeO e = some 0)).map fun e => oi (slopeO e))) :=
      v_lcL (ts := es) (enc := fun e => oi (slopeO e)) (f := fun e => !decide (slopeO e = some 0)) (o := fun e => oi (slopeO e)) (v_var rfl) (by omega) fun e he => ⟨_, _, g_name, by simp, b_test (v_neO (b := some 0) (v_var rfl) v_int), fun _ => v_var rfl⟩
    have hno : ∀ e, e ∈ es → e.isNone = false := fun e he => by
      have := List.any_eq_false.mp hb e he
      exact Bool.eq_false_iff.mpr this
    have hpf : ∀ l : List Ent, pures (l.map fun e => oi (slopeO e)) = true := fun l => pures_of fun x hx => by
      obtain ⟨e, _, rfl⟩ := List.mem_map.mp hx
      cases slopeO e <;> rfl
    have hdf : ∀ l : List Ent, dep (.lst (l.map fun e => oi (slopeO e))) ≤ 60 := fun l => by
      have : deps (l.map fun e => oi (slopeO e)) ≤ 0 := deps_of fun x hx => by
        obtain ⟨e, _, rfl⟩ := List.mem_map.mp hx
        rw [dep_oi]; omega
      unfold dep; omega
    have hflat : ∀ e, e ∈ es → flat e = decide (slopeO e = some 0) := fun e he => by
      rcases e with _ | ⟨a, b, c⟩
      · have := hno _ he; cases this
      · show decide (a = 0) = decide (some a = some 0)
        simp
    cases ha : es.all flat with
    | true =>
      have hnil : (es.filter fun e => !decide (slopeO e = some 0)) = [] := List.filter_eq_nil_iff.mpr fun e he => by
        have := List.all_eq_true.mp ha e he
        rw [hflat e he] at this
        simp [this]
      rw [hnil] at hfil
      exact v_ifT (b_test (v_eqP (x := .lst []) (b := true) hfil (v_lst a_nil (by simp)) rfl rfl (by unfold dep deps; omega) (by unfold dep deps; omega) (eqv_refl _ rfl))) v_str
    | false =>
      cases hc : (es.filter fun e => !decide (slopeO e = some 0)) with
      | nil =>
        have : es.all flat = true := List.all_eq_true.mpr fun e he => by
          have h1 := List.filter_eq_nil_iff.mp hc e he
          rw [hflat e he]
          simpa using h1
        rw [ha] at this; cases this
      | cons e0 l =>
        rw [hc] at hfil
        exact v_ifF (b_test (v_eqP (b := false) hfil (v_lst a_nil (by simp)) (by unfold D.pure; exact hpf (e0 :: l)) rfl (hdf (e0 :: l)) (by unfold dep deps; omega) (by simp [D.py, pys, PyData.eqv, PyData.eqvAll]))) v_str
end
end K55

set_option maxHeartbeats 4000000
namespace K55
open PySem PySem.Spec PyProof.Rows L2
local macro_rules | `(tactic| walk_at "ev1") => `(tactic| first
  | exact v_var rfl | exact v_int | exact v_bl | exact v_non | exact v_str | exact a_nil | exact v_raw
  | apply a_cons
  | apply v_add | apply v_sub | apply v_mul | apply v_mod | apply v_fdiv | apply v_neg
  | apply v_lt | apply v_le | apply v_gt | apply v_ge | apply v_eqI | apply v_neI
  | apply v_isN | apply v_notN
  | apply b_B | apply b_test | apply b_not | apply b_and0 | apply b_or0
  | apply v_and0 | apply v_or0 | apply v_not
  | apply v_tup | apply v_lst
  | refine' v_cb ?_ c_int
  | exact Nat.le_of_ble_eq_true rfl)
local macro_rules | `(tactic| walk_at "ev") => `(tactic| repeat' walk_at "ev1")
local macro_rules | `(tactic| walk_at "weak") => `(tactic| repeat' (first | exact Weak.nil | apply Weak.same | apply Weak.less))
section
variable {C : Addr} {P : Program} {w : World} {K : PySem.W.Frag} {mg : Str → Option Value} {base : Heap}
theorem go_valley {u : TS} {Z : Ends} {σ : L2.St} {H : Hp} {a : Addr} {ns : List Int} (h0 : σ[0]? = some (some (.ref a))) (hq : SqL K H a (ns.map V.int)) (hn : ns.length ≤ 63) (h : ∀ vv B' H', Sub H H' → VOk C vv 0 B' H' → u Z (σ.set 1 (some (.ref vv))) H') :
    tSeq (tAsg (tCall (spValley C K) [] E0 (tCons (tVar 0) tNil)) (gName 1)) u Z σ H := ⟨_, h0, a, ns, rfl, hq, hn, fun vv B' H' s v => h vv B' H' s v⟩
theorem ok_law {f : Addr} {fd : FuncData} (Fn : Fun K "law" "law" s_law f fd) (T : Bt K mg C) (G__law_valley : Df P w K mg base 1 "_law_valley" ["_law_script"] (spValley C K)) (G__law_rows : Df P w K mg base 4 "_law_rows" ["_law_valley_here"] (spV C 88 F0_rows F_rows))
    (G__law_near : Df P w K mg base 2 "_law_near" ["_law_valley_here", "_law_rows_here", "_law_others"] (spV C 4 F0_near F_near)) (G__law_split : Df P w K mg base 2 "_law_split" ["_law_valley_here", "_law_rows_here"] (spV C 1 F0_split F_split))
    (G__law_at : Df P w K mg base 1 "_law_at" ["_law_rows_here", "_law_number"] (spD C F_law_at)) (G__law_plus : Df P w K mg base 1 "_law_plus" ["_law_one", "_law_other"] (spD C F_law_plus)) (G__law_most : Df P w K mg base 2 "_law_most" ["_law_rows_here"] (spD C F_law_most))
    (G_parted_at : Df P w K mg base 3 "parted_at" ["one", "other"] (spD C F_parted_at)) (G_most_of : Df P w K mg base 3 "most_of" ["rule"] (spD C F_most_of)) (G_growth_of : Df P w K mg base 2 "growth_of" ["rule"] (spD C F_growth_of)) (G_added : Df P w K mg base 8 "added" ["one", "other"] (spD C F_added))
    (G_added_k : DfK P w K mg base 8 "added" ["one", "other"] ["other", "one"] swap2 (spD C F_added)) (G_parted_k : DfK P w K mg base 3 "parted_at" ["one", "other"] ["other", "one"] swap2 (spD C F_parted_at)) (G_most_k : DfK P w K mg base 3 "most_of" ["rule"] ["rule"] one1 (spD C F_most_of)) (G_growth_k : DfK P w K mg base 2 "growth_of" ["rule"] ["rule"] one1 (spD C F_growth_of))
    (G_ne : NeC P w K mg base C 1 (spD C F_eq)) (G_Rule_at : Dm P w K mg base C 4 "at" ["self", "number"] (spD C F_at)) (G_Rule_init : Di P w K mg base C 6 ["self", "rows"] (spInit C F_init)) (G__law_far_right : DfG P w K mg base 10 "_law_far_right" ["_law_valley_here"] (spV C 4 F0_far F_far)) :
    FnG P w K mg base 12 f fd ["_law_script"] (spLaw K) := by
  refine FnG.of Fn sc_law (fun vs H Q E h => ?_) (k := 11) fun cdv A outer s H vs Q E free hr h => ?_
  · obtain ⟨_, _, rfl, _⟩ := h; rfl
  obtain ⟨a, ns, rfl, hq, hn, k⟩ := h
  have nd := sc_law.nd
  refine ⟨_, (pss_cons (ps_set (i := 1) nd rfl (.inl rfl) (pcall G__law_valley (hr.mono (by first | decide | omega)) (by rfl) (pa_cons (pv 0) pa_nil)))
      (pss_cons (ps_for PassesOwn.never rfl (pi_range1 (by rfl) T.n_range (pa_cons (pe_ifExp (pt_cmpR (op_neD hr.units) (pv 0) (pe_lst pa_nil) (nomark _)) pe_int pe_int) pa_nil)) (pg_name (i := 2) nd rfl (.inl rfl)) (pss_cons (ps_asg (pe_tup (pa_cons (pcall G__law_rows (hr.mono (by first | decide | omega)) (by rfl) (pa_cons (pv 1) pa_nil)) (pa_cons (pcall G__law_rows (hr.mono (by first | decide | omega)) (by rfl) (pa_cons (pv 1) pa_nil)) pa_nil))) (pg_tup (by rfl) (pgs_cons (pg_name (i := 3) nd rfl (.inr rfl)) (pgs_cons (pg_name (i := 4) nd rfl (.inr rfl)) pgs_nil))))
      (pss_cons (ps_par (i := 5) (j := 6) (by rfl) nd rfl rfl (by decide) rfl rfl (pa_cons (pmake G_Rule_init (hr.mono (by first | decide | omega)) (by rfl) T.mgC (pa_cons (pv 3) pa_nil)) (pa_cons (pmake G_Rule_init (hr.mono (by first | decide | omega)) (by rfl) T.mgC (pa_cons (pv 4) pa_nil)) pa_nil)) (by rfl))
      (pss_cons (ps_par (i := 7) (j := 8) (by rfl) nd rfl rfl (by decide) rfl rfl (pa_cons (pcall G_added (hr.mono (by first | decide | omega)) (by rfl) (pa_cons (pv 5) (pa_cons (pv 6) pa_nil))) (pa_cons (pcall G__law_near (hr.mono (by first | decide | omega)) (by rfl) (pa_cons (pv 1) (pa_cons (pv 3) (pa_cons (pv 4) pa_nil)))) pa_nil)) (by rfl))
      (pss_cons (ps_if (PW.pt (pw_or (pt_not (pt_val (pe_callB (C8.call_isC T.ic) (by rfl) T.n_isinstance bo_isinstance (pa_cons (pv 7) (pa_cons (pe_glob (v := .ref C) (by rfl) T.mgC rfl) pa_nil))))) (pw_or1 (pt_cmpR (op_neG G_ne (hr.mono (by first | decide | omega))) (pcallK0 G_added_k (hr.mono (by first | decide | omega)) (by rfl) (pk_cons (pv 6) (pk_cons (pv 5) pk_nil))) (pv 7) (nomark _))))) (pss_one (ps_ret pe_bl)) pss_nil)
      (pss_cons (ps_for PassesOwn.never rfl (pi_list (pv 8)) (pg_name (i := 9) nd rfl (.inl rfl)) (pss_one (ps_if (pt_cmpR op_ne (pe_callB call_rp (by rfl) T.n_repr bo_repr (pa_cons (pmeth T.cl G_Rule_at (hr.mono (by first | decide | omega)) (pv 7) (pa_cons (pv 9) pa_nil)) pa_nil)) (pe_callB call_rp (by rfl) T.n_repr bo_repr (pa_cons (pcall G__law_plus (hr.mono (by first | decide | omega)) (by rfl) (pa_cons (pcall G__law_at (hr.mono (by first | decide | omega)) (by rfl) (pa_cons (pv 3) (pa_cons (pv 9) pa_nil))) (pa_cons (pcall G__law_at (hr.mono (by first | decide | omega)) (by rfl) (pa_cons (pv 4) (pa_cons (pv 9) pa_nil))) pa_nil))) pa_nil)) (nomark _)) (pss_one (ps_ret pe_bl)) pss_nil)))
      (pss_cons (ps_par (i := 10) (j := 11) (by rfl) nd rfl rfl (by decide) rfl rfl (pa_cons (pcall G_parted_at (hr.mono (by first | decide | omega)) (by rfl) (pa_cons (pv 5) (pa_cons (pv 6) pa_nil))) (pa_cons (pe_lc (own := [("_law_number", 9)]) (by rfl) nd (pi_list (pe_op op_cat (pv 8) (pe_listRg (by rfl) (by rfl) T.n_list (prg_2 (by rfl) T.n_range (pe_un un_neg pe_int) pe_int)))) (blkOk_by (own := [("_law_number", 9)]) (N := N_law) (sc := defScope s_law) (by decide +kernel)) (fun _ _ _ _ _ => (pg_name (i := 9) nd rfl (.inl rfl))) (fun _ _ _ _ _ => (pts_one (pt_cmpR op_ne (pcall G__law_at (hr.mono (by first | decide | omega)) (by rfl) (pa_cons (pv 3) (pa_cons (pv 9) pa_nil))) (pcall G__law_at (hr.mono (by first | decide | omega)) (by rfl) (pa_cons (pv 4) (pa_cons (pv 9) pa_nil))) (nomark _)))) (fun _ _ _ _ _ => (pv 9))) pa_nil)) (by rfl))
      (pss_cons (ps_if (PW.pt (pw_or (PW.pt (pw_and (pt_cmp (pc_isN (pv 10))) (pw_and1 (pt_cmpR (op_neD hr.units) (pv 11) (pe_lst pa_nil) (nomark _))))) (pw_or1 (PW.pt (pw_and (pt_cmp (pc_notN (pv 10))) (pw_and1 (pt_cmpR op_eq (pe_callB call_rp (by rfl) T.n_repr bo_repr (pa_cons (pcall G__law_at (hr.mono (by first | decide | omega)) (by rfl) (pa_cons (pv 3) (pa_cons (pv 10) pa_nil))) pa_nil)) (pe_callB call_rp (by rfl) T.n_repr bo_repr (pa_cons (pcall G__law_at (hr.mono (by first | decide | omega)) (by rfl) (pa_cons (pv 4) (pa_cons (pv 10) pa_nil))) pa_nil)) (nomark _)))))))) (pss_one (ps_ret pe_bl)) pss_nil)
      (pss_cons (ps_set (i := 12) nd rfl (.inl rfl) (pmake G_Rule_init (hr.mono (by first | decide | omega)) (by rfl) T.mgC (pa_cons (pcall G__law_split (hr.mono (by first | decide | omega)) (by rfl) (pa_cons (pv 1) (pa_cons (pv 3) pa_nil))) pa_nil)))
      (pss_cons (ps_if (PW.pt (pw_or (pt_cmp (pc_notN (pcall G_parted_at (hr.mono (by first | decide | omega)) (by rfl) (pa_cons (pv 5) (pa_cons (pv 12) pa_nil))))) (pw_or (pt_cmp (pc_notN (pcallK0 G_parted_k (hr.mono (by first | decide | omega)) (by rfl) (pk_cons (pv 5) (pk_cons (pv 12) pk_nil))))) (pw_or1 (pt_cmpR op_ne (pe_callB call_rp (by rfl) T.n_repr bo_repr (pa_cons (pcall G_most_of (hr.mono (by first | decide | omega)) (by rfl) (pa_cons (pv 12) pa_nil)) pa_nil)) (pe_callB call_rp (by rfl) T.n_repr bo_repr (pa_cons (pcall G__law_most (hr.mono (by first | decide | omega)) (by rfl) (pa_cons (pv 3) pa_nil)) pa_nil)) (nomark _)))))) (pss_one (ps_ret pe_bl)) pss_nil)
      (pss_cons (ps_setLc (i := 13) (own := [("_law_entry_here", 14)]) (by rfl) nd rfl rfl (sw_true rfl rfl rfl (by decide +kernel)) (pi_tup (pe_ix ix_tup (pe_ix ix_list (pv 3) (pe_un un_neg pe_int) (fun _ _ => rfl)) pe_int (fun _ _ => rfl))) (blkOk_by (own := [("_law_entry_here", 14)]) (N := N_law) (sc := defScope s_law) (by decide +kernel)) (fun _ _ _ _ _ => (pg_name (i := 14) nd rfl (.inl rfl))) (fun _ _ _ _ _ => pts_nil) (fun _ _ _ _ _ => (pe_ifExp (pt_cmp (pc_notN (pv 14))) (pe_ix (ixT (K := K) rfl) (pv 14) pe_int (fun _ _ => rfl)) pe_non)))
      (pss_cons (ps_set (i := 13) nd rfl (.inl rfl) (pe_ifExp (pt_cmpR (op_inD (units65 hr)) pe_non (pv 13) (by rfl)) pe_str (pe_ifExp (pt_cmpR (op_eqD hr.units) (pe_lc (own := [("_law_slope", 15)]) (by rfl) nd (pi_list (pv 13)) (blkOk_by (own := [("_law_slope", 15)]) (N := N_law) (sc := defScope s_law) (by decide +kernel)) (fun _ _ _ _ _ => (pg_name (i := 15) nd rfl (.inl rfl))) (fun _ _ _ _ _ => (pts_one (pt_cmpR op_ne (pv 15) pe_int (nomark _)))) (fun _ _ _ _ _ => (pv 15))) (pe_lst pa_nil) (nomark _)) pe_str pe_str)))
      (pss_one (ps_if (PW.pt (pw_or (pt_cmpR op_ne (pe_callB call_rp (by rfl) T.n_repr bo_repr (pa_cons (pcallK0 G_most_k (hr.mono (by first | decide | omega)) (by rfl) (pk_cons (pv 5) pk_nil)) pa_nil)) (pe_callB call_rp (by rfl) T.n_repr bo_repr (pa_cons (pcall G__law_most (hr.mono (by first | decide | omega)) (by rfl) (pa_cons (pv 3) pa_nil)) pa_nil)) (nomark _)) (pw_or (pt_cmpR op_ne (pcallK0 G_growth_k (hr.mono (by first | decide | omega)) (by rfl) (pk_cons (pv 5) pk_nil)) (pv 13) (nomark _)) (pw_or1 (pt_cmpR op_ne (pcall G_growth_of (hr.mono (by first | decide | omega)) (by rfl) (pa_cons (pv 12) pa_nil)) (pv 13) (nomark _)))))) (pss_one (ps_ret pe_bl)) pss_nil))))))))))))))
      (pss_one (ps_ret (pcallG free G__law_far_right (hr.mono (by first | decide | omega)) (by rfl) (pa_cons (pv 1) pa_nil)))))), ?_⟩
  refine go_valley rfl hq hn fun vv B0 H0 sub vo => ?_
  let ρ0 : Env := [some (.raw (.ref a)), some (.raw (.ref vv)), none, none, none, none, none, none, none, none, none, none, none, none, none, none]
  have hS : Sat C ((L2.start N_law [V.ref a]).set 1 (some (.ref vv))) B0 ρ0 := (sat_start (ds := [.raw (.ref a)]) (.cons (.raw _) .nil) (by simp)).put (i := 1) (.raw _)
  have hV : OkV vv (fun _ _ => True) := okVT
  refine (?_ : Tr C _ ρ0 (fun B H => SqL K H a (ns.map V.int) ∧ VOk C vv 0 B H) (fun _ _ _ => False) (fun v _ _ => v = .bl true)) _ _ B0 _ hS ⟨sub_l sub hq, vo⟩ (fun _ _ _ _ z => z.elim) fun v B' H' _ z => by rw [z]; exact k H'
  refine tr_seq (ρ1 := ρ0) (I1 := VI C vv (fun _ _ => True) 400) (tr_forRX (K := K) (I1 := VI C vv (fun _ _ => True) 0) (M := 2) (okVI hV 0) ?_ (by omega) (fun _ => ρ0) (fun i => VI C vv (fun _ _ => True) (200 * i)) (fun σ B H a b => ⟨a, b⟩) (fun i B H z => z.2.1) (fun n hn => ⟨_, _, g_name, ?_⟩) fun m hm σ B H a b => ⟨a, b.mono (by omega)⟩) ?_
  · refine ExA.imp (xa_cons (x_if (script_test rfl) (fun _ => x_pure (okVI hV 0) v_int (F := fun d => ∃ m : Nat, m ≤ 2 ∧ d = .int m) ⟨2, by omega, rfl⟩) fun _ => x_pure (okVI hV 0) v_int ⟨1, by omega, rfl⟩) xa_nil) (fun ds hd => ?_) fun _ _ z => z
    obtain ⟨_, _, ⟨m, hm, rfl⟩, rfl, rfl⟩ := hd
    exact ⟨m, hm, rfl⟩
  · refine tr_letX (okVI hV _) (x_tup (okVI hV (200 * n + 88 + 88)) (xa_cons (x_callV hV (a_cons (v_var rfl) a_nil) rfl (by omega)) (xa_cons (x_callV hV (a_cons (v_var rfl) a_nil) rfl (by omega)) xa_nil)) fun ds hd => by
        obtain ⟨_, _, _, ⟨_, _, _, rfl, rfl⟩, rfl⟩ := hd
        simp) ?_
    rintro d ⟨ds, ⟨_, _, ⟨rows, g1, rfl⟩, ⟨_, _, ⟨others, g2, rfl⟩, rfl, rfl⟩, rfl⟩, rfl⟩
    refine ⟨_, _, g_tup (gs_cons g_name (gs_cons g_name gs_nil)) rfl, ?_⟩
    have k1 := gen_ok g1
    have k2 := gen_ok g2
    refine tr_let2 (x := .rule (rowsD rows)) (y := .rule (rowsD others)) (okVI hV _) (a_cons (v_make (a_cons (v_var rfl) a_nil) (init_T k1.good)) (a_cons (v_make (a_cons (v_var rfl) a_nil) (init_T k2.good)) a_nil)) ?_
    have gs := add_good k1.good k2.good k1.sr k2.sr
    have hadd : F_added [.rule (rowsD rows), .rule (rowsD others)] (.rule (rowsD (addRows rows others))) := ⟨rows, others, k1.good, k2.good, fun t ht => lot_small k1.sr k2.sr ht, gs, rfl, rfl⟩
    refine tr_par2X (xa_cons (x_pure (okVI hV _) (v_call0 (a_cons (v_var rfl) (a_cons (v_var rfl) a_nil)) hadd) (F := fun d => d = .rule (rowsD (addRows rows others))) rfl) (xa_cons (x_callV hV (a_cons (v_var rfl) (a_cons (v_var rfl) (a_cons (v_var rfl) a_nil))) ⟨rows, others, by have := k1.l4; omega, by have := k2.l4; omega, fun q hq => by rcases List.mem_append.mp hq with z | z; exact k1.rb q z; exact k2.rb q z, rfl⟩ (by omega)) xa_nil)) (fun ds hd => by obtain ⟨_, _, _, ⟨_, _, _, rfl, rfl⟩, rfl⟩ := hd; rfl) ?_
    rintro x y ⟨_, _, rfl, ⟨_, _, ⟨nums, hnums, rfl⟩, rfl, rfl⟩, he⟩
    injection he with he1 he
    injection he with he2 he
    subst he1 he2
    refine tr_by (okVI hV _) (b_orF (b_not (b_test (v_cb (a_cons (v_var rfl) (a_cons v_raw a_nil)) c_isC))) rfl (b_test (v_neR (v_callK2 (v_var rfl) (v_var rfl) hadd) (v_var rfl) ⟨addRows rows others, rfl, rfl⟩))) rfl ?_
    let tot := addRows rows others
    have lgAt : ∀ {rs : List Row} {n : Int}, GenOk rs → F_law_at [.lst (rowsD rs), .int n] (oi (lawAt rs n)) := fun {rs n} k => ⟨rs, n, k.re, rfl, rfl⟩
    have big : ∀ {rs : List Row} {n : Int}, GenOk rs → -(10 : Int) ^ 30 - 1000 ≤ n → n ≤ (10 : Int) ^ 30 + 1000 → ∀ i, lawAt rs n = some i → 0 ≤ i ∧ i ≤ (10 : Int) ^ 35 := fun {rs n} k h1 h2 i e => tell_big (n := n) k (by omega) (by omega) (by rw [← lawAt_tell k.good]; exact e)
    let ρ5 : Env := [some (.raw (.ref a)), some (.raw (.ref vv)), some (.int n), some (.lst (rowsD rows)), some (.lst (rowsD others)), some (.rule (rowsD rows)), some (.rule (rowsD others)), some (.rule (rowsD (addRows rows others))), some (.lst (nums.map D.int)), none, none, none, none, none, none, none]
    refine tr_fst (ρ1 := ρ5) (R' := fun _ _ => False) (okVI hV _) (run_forL (v_var rfl) (fun _ => ρ5) (fun _ => True) trivial (fun _ _ h => h) (fun i x hi _ => ?_) fun _ σ B h => h) (fun _ _ _ z _ => z.elim) ?_
    · rw [List.getElem?_map] at hi
      cases hz : nums[i]? with
      | none => rw [hz] at hi; cases hi
      | some nn =>
        rw [hz] at hi
        cases hi
        have hb := hnums.2 nn (List.mem_of_getElem? hz)
        have e1 : tell (addRows rows others) nn = plus (lawAt rows nn) (lawAt others nn) := by rw [add_tell k1.good k2.good, lawAt_tell k1.good, lawAt_tell k2.good]
        have hlog : ∀ i, plus (lawAt rows nn) (lawAt others nn) = some i → i.natAbs.log2 < 1920 := fun i e => by
          cases h1 : lawAt rows nn with
          | none => rw [h1] at e; cases e
          | some u =>
            cases h2 : lawAt others nn with
            | none => rw [h1, h2] at e; cases e
            | some v =>
              rw [h1, h2] at e
              have e : u + v = i := Option.some.inj e
              have b1 := big k1 hb.1 hb.2 u h1
              have b2 := big k2 hb.1 hb.2 v h2
              exact log_big (by omega) (by omega)
        refine ⟨_, _, g_name, run_ifN (b_test (v_neS (v_cb (a_cons ((v_meth (v_var rfl) (a_cons (v_var rfl) a_nil) (by decide) ⟨addRows rows others, nn, gs, rfl, rfl⟩).is (by rw [e1])) a_nil) (c_rp hlog)) (v_cb (a_cons (v_call0 (a_cons (v_call0 (a_cons (v_var rfl) (a_cons (v_var rfl) a_nil)) (lgAt k1)) (a_cons (v_call0 (a_cons (v_var rfl) (a_cons (v_var rfl) a_nil)) (lgAt k2)) a_nil)) ⟨_, _, rfl, rfl⟩) a_nil) (c_rp hlog)))) (by rw [decide_eq_true rfl]; rfl) (run_next fun σ B h => ⟨trivial, h.weak (by walk_at "weak")⟩)⟩
    let fD : Int → Bool := fun n => !decide (lawAt rows n = lawAt others n)
    have erg : rgV (-60) 61 = (((List.range 121).map fun i : Nat => (-60 : Int) + i)).map V.int := by unfold rgV; rw [List.map_map]; rfl
    have hrg : ∀ {ρ : Env}, EvP C (tLstRg (tRg2 (tUn (rU fun i => .int (-i)) (tC (.int 60))) (tC (.int 61)))) ρ (.lst (((List.range 121).map fun i : Nat => (-60 : Int) + i).map D.int)) := fun {ρ} σ B H hs e Q q => by
      refine ⟨60, rfl, -60, 61, rfl, rfl, ⟨by decide, by decide, by decide, by decide, by decide⟩, fun p hp => ?_⟩
      rw [erg]
      have sN : Step B H (upd B p (.lst ((((List.range 121).map fun i : Nat => (-60 : Int) + i)).map V.int))) (upd H p (.lst ((((List.range 121).map fun i : Nat => (-60 : Int) + i)).map V.int))) := .new e hp
      exact q _ _ _ sN (.lst upd_same (reps_ints _))
    let all : List Int := nums ++ (List.range 121).map fun i : Nat => (-60 : Int) + i
    have hall : all.length ≤ 500 := by
      show (nums ++ (List.range 121).map fun i : Nat => (-60 : Int) + i).length ≤ 500
      rw [List.length_append, List.length_map, List.length_range]
      have := hnums.1
      omega
    have hpart : F_parted_at [.rule (rowsD rows), .rule (rowsD others)] (oi (partedAt rows others)) := ⟨rows, others, k1.good, k2.good, rfl, rfl⟩
    refine tr_let2 (x := oi (partedAt rows others)) (y := .lst ((all.filter fD).map D.int)) (okVI hV _) (a_cons (v_call0 (a_cons (v_var rfl) (a_cons (v_var rfl) a_nil)) hpart) (a_cons (v_lcL (ts := all) (enc := D.int) (f := fD) (o := D.int) ((v_cat (v_var rfl) hrg (by rw [List.length_map, List.length_map, List.length_map, List.length_range]; have := hnums.1; omega)).is (by rw [← List.map_append])) (by omega) fun t ht => ⟨_, _, g_name, by simp, b_test (v_neO (v_call0 (a_cons (v_var rfl) (a_cons (v_var rfl) a_nil)) (lgAt k1)) (v_call0 (a_cons (v_var rfl) (a_cons (v_var rfl) a_nil)) (lgAt k2))), fun _ => v_var rfl⟩) a_nil)) ?_
    refine tr_by (b := false) (okVI hV _) ?_ rfl ?_
    · cases hp : partedAt rows others with
      | none =>
        have hfil : all.filter fD = [] := List.filter_eq_nil_iff.mpr fun n _ => by
          show ¬ (!decide (lawAt rows n = lawAt others n)) = true
          rw [lawAt_tell k1.good, lawAt_tell k2.good, parted_none k1.good k2.good hp n]
          simp
        rw [hfil]
        exact b_orF (b_andT (b_B (v_isN (x := .non) (v_var rfl))) rfl (b_test (v_neP (x := .lst []) (b := false) (v_var rfl) (v_lst a_nil (by simp)) rfl rfl (by unfold dep deps; omega) (by unfold dep deps; omega) (by rw [eqv_refl _ rfl]; rfl)))) rfl (b_andF (b_B (v_notN (x := .non) (v_var rfl))) rfl)
      | some nn =>
        have hb := parted_big k1 k2 hp
        have hne : ¬ rpr (lawAt rows nn) = rpr (lawAt others nn) := fun z => by
          have := rpr_inj (fun i e => law_pos2 k1.good e) (fun i e => law_pos2 k2.good e) z
          rw [lawAt_tell k1.good, lawAt_tell k2.good] at this
          exact parted_some k1.good k2.good hp this
        have hlog : ∀ {rs : List Row}, GenOk rs → ∀ i, lawAt rs nn = some i → i.natAbs.log2 < 1920 := fun {rs} k i e => by
          have := big k (by omega) (by omega) i e
          exact log_big (by omega) (by omega)
        exact b_orF (b_andF (b_B (v_isN (x := .int nn) (v_var rfl))) rfl) rfl (b_andT (b_B (v_notN (x := .int nn) (v_var rfl))) rfl ((b_test (v_eqS (v_cb (a_cons (v_call0 (a_cons (v_var rfl) (a_cons (v_var rfl) a_nil)) (lgAt k1)) a_nil) (c_rp (hlog k1))) (v_cb (a_cons (v_call0 (a_cons (v_var rfl) (a_cons (v_var rfl) a_nil)) (lgAt k2)) a_nil) (c_rp (hlog k2))))).is (decide_eq_false hne)))
    refine tr_letX (okVI hV _) (x_make (okVI hV _) (G1 := fun d => ∃ i q, rows[i]? = some q ∧ d = .rule (rowsD (splitRows rows i q))) (x_callV hV (a_cons (v_var rfl) (a_cons (v_var rfl) a_nil)) ⟨rows, k1.l0, by have := k1.l4; omega, k1.rf, rfl⟩ (by omega)) fun d hd => ?_) ?_
    · obtain ⟨rows', i, q, hq, he, rfl⟩ := hd
      injection he with he
      injection he with he
      have := rowsD_inj he
      subst this
      exact ⟨_, init_T (split_good k1.good k1.sc hq), i, q, hq, rfl⟩
    rintro d ⟨i, q, hq, rfl⟩
    refine ⟨_, _, g_name, ?_⟩
    have gd := split_good k1.good k1.sc hq
    have tl : ∀ n, tell (splitRows rows i q) n = tell rows n := split_tell k1.good k1.sc hq
    have hm : ∀ i, lawMost rows = some i → i.natAbs.log2 < 1920 := fun i e => by
      have := most_big k1 e
      exact log_big (by omega) (by omega)
    have hLM : F_law_most [.lst (rowsD rows)] (oi (lawMost rows)) := ⟨rows, fun q hq => ⟨k1.re q hq, k1.rb q hq⟩, rfl, rfl⟩
    have ml : mostOf rows = lawMost rows := most_law k1.good k1.near k1.good fun _ => rfl
    have ml2 : mostOf (splitRows rows i q) = lawMost rows := most_law k1.good k1.near gd tl
    refine tr_by (b := false) (okVI hV _) (b_orF (b_B (v_notN (x := .non) ((v_call0 (a_cons (v_var rfl) (a_cons (v_var rfl) a_nil)) ⟨rows, splitRows rows i q, k1.good, gd, rfl, rfl⟩).is (by rw [parted_same k1.good gd fun n => (tl n).symm]; rfl)))) rfl (b_orF (b_B (v_notN (x := .non) ((v_callK2 (v_var rfl) (v_var rfl) ⟨splitRows rows i q, rows, gd, k1.good, rfl, rfl⟩).is (by rw [parted_same gd k1.good tl]; rfl)))) rfl
      ((b_test (v_neS (v_cb (a_cons ((v_call0 (a_cons (v_var rfl) a_nil) ⟨splitRows rows i q, gd, rfl, rfl⟩).is (by rw [ml2])) a_nil) (c_rp hm)) (v_cb (a_cons (v_call0 (a_cons (v_var rfl) a_nil) hLM) a_nil) (c_rp hm)))).is (by rw [decide_eq_true rfl]; rfl)))) rfl ?_
    obtain ⟨z, hz⟩ : ∃ z, rows[rows.length - 1]? = some z := ⟨_, List.getElem?_eq_getElem (by have := k1.l0; omega)⟩
    have hzm := List.mem_of_getElem? hz
    have hzl := k1.ents z hzm
    have hat : atI (rowsD rows) (-1) = some (rowD z) := atI_back (by unfold rowsD; rw [List.length_map, List.getElem?_map, hz]; rfl)
    refine tr_let (d := .lst (z.ents.map fun e => oi (slopeO e))) (okVI hV _) ?_ ?_
    · refine (v_lcT (ts := z.ents) (enc := eD) (f := fun _ => true) (o := fun e => oi (slopeO e)) (v_ixT (v_ixL (v_var rfl) (v_neg v_int) hat) v_int rfl) (by omega) fun e _ => ⟨_, _, g_name, by simp, b_yes, fun _ => ?_⟩).is (by rw [List.filter_eq_self.mpr (fun _ _ => rfl)])
      rcases e with _ | ⟨ea, eb, ec⟩
      · exact v_ifF (b_B (v_notN (x := .non) (v_var rfl))) v_non
      · exact v_ifT (b_B (v_notN (x := eD (some (ea, eb, ec))) (v_var rfl))) (v_ixT (z := .int ea) (v_var rfl) v_int rfl)
    refine tr_let (d := .str (grow z.ents)) (okVI hV _) (due_grow z.ents hzl) ?_
    obtain ⟨zs, hzs, hzg⟩ := split_last hq hz
    refine tr_if (b := false) (okVI hV _) ?_ (fun z => nomatch z) fun _ => tr_next fun σ B H a b => ⟨a.weak (by walk_at "weak"), b.mono (by omega)⟩
    exact b_orF ((b_test (v_neS (v_cb (a_cons ((v_callK1 (v_var rfl) ⟨rows, k1.good, rfl, rfl⟩).is (by rw [ml])) a_nil) (c_rp hm)) (v_cb (a_cons (v_call0 (a_cons (v_var rfl) a_nil) hLM) a_nil) (c_rp hm)))).is (by rw [decide_eq_true rfl]; rfl)) rfl
      (b_orF ((b_test (v_neS (v_callK1 (v_var rfl) ⟨rows, z, k1.good, hz, rfl, rfl⟩) (v_var rfl))).is (by rw [decide_eq_true rfl]; rfl)) rfl ((b_test (v_neS ((v_call0 (a_cons (v_var rfl) a_nil) ⟨splitRows rows i q, zs, gd, hzs, rfl, rfl⟩).is (by rw [hzg])) (v_var rfl))).is (by rw [decide_eq_true rfl]; rfl)))
  · refine tr_retX (x_callV hV (a_cons (v_var rfl) a_nil) rfl (by omega)) fun v d B H hd _ r => by rw [hd] at r; exact r.bl_inv
end
end K55

set_option maxHeartbeats 4000000
/-! K55: the end of the law from a promise that asks that no text of a list is under way; defs by their names behind the top. -/
namespace K55
open PySem PySem.Spec PyProof.Rows L2
theorem law_go {P : Program} {w : World} {K : PySem.W.Frag} {mg mb : Str → Option Value} {k : Nat} {fa a : Addr} {fd : FuncData} {x : Str} {sp : Sp} {t : Shared} {us : List Value} {ns : List Int}
    (inK : K.In t.heap) (gl : t.heap.Ns mainGlobals mg) (bl : t.heap.Ns builtinsNs mb) (bs : ∀ y : Str, y ≠ "__name__" → mb y = bootBuiltins y) (nl : t.heap.NoLimit) (ng : t.gens = #[])
    (there : t.heap.get? a = some { cls := .type "list", data := .seq us.toArray }) (are : IntsAre us ns) (few : ns.length ≤ sizeLine) (room : Room k callerA)
    (F : ∀ b : Heap, K.In b → b.Ns mainGlobals mg → FnG P w K mg b k fa fd [x] sp) (bd : ∀ (s : Shared) (u : Value), BindsTo s fd ⟨[u], []⟩ [(x, u)])
    (hyp : ∀ H : Hp, SqL K H a (ns.map V.int) → sp [.ref a] H (fun v _ => v = .bl true) E0) :
    codeAny (model P w) callerA (.call (.ref fa) ⟨[.ref a], []⟩) (fun r s => r = .ok (.ret (.bool true)) ∧ OldK t.heap s.heap ∧ s.os = t.os ∧ AllBare s.gens) t := by
  have rel := vals_ints are
  have cnt := are.length
  obtain ⟨H, only, seq⟩ : ∃ H : Hp, (∀ b u, H b = some u → b = a ∧ K.lookup a = none ∧ u = .frz { cls := .type "list", data := .seq us.toArray } (.lst (ns.map V.int))) ∧ SqL K H a (ns.map V.int) := by
    cases lk : K.lookup a with
    | some o =>
      have e := inK a o lk
      rw [there] at e
      cases e
      exact ⟨fun _ => none, fun b u z => (by cases z), .inr ⟨_, us.toArray, _, lk, rfl, rfl, rfl, by rw [List.size_toArray, cnt]; exact few, by simpa using rel⟩⟩
    | none =>
      refine ⟨fun b => if b = a then some (.frz { cls := .type "list", data := .seq us.toArray } (.lst (ns.map V.int))) else none, fun b u z => ?_, .inl (.inr ⟨{ cls := .type "list", data := .seq us.toArray }, if_pos rfl⟩)⟩
      by_cases e : b = a
      · have z := (if_pos e).symm.trans z
        cases z
        exact ⟨e, rfl, rfl⟩
      · have z := (if_neg e).symm.trans z
        cases z
  have hok : HOk P w H t.heap := fun b u z => by
    obtain ⟨rfl, _, rfl⟩ := only b u z
    exact ⟨there, by rw [List.length_map]; exact few, us, _, rel, there⟩
  have off : ∀ {b : Addr} {o : Obj}, K.lookup b = some o → H b = none := fun {b o} e => by
    cases q : H b with
    | none => rfl
    | some u =>
      obtain ⟨rfl, z, _⟩ := only b u q
      rw [e] at z
      cases z
  have nss : ∀ {b : Addr} {m : Str → Option Value}, t.heap.Ns b m → (hidT t.heap H).Ns b m := fun {b m} ⟨o, es, ep, e, d, r⟩ => by
    refine ⟨o, es, ep, hidT_get e ?_, d, r⟩
    cases q : H b with
    | none => rfl
    | some u =>
      obtain ⟨rfl, _, _⟩ := only b u q
      rw [there] at e
      cases e
      have d2 : Data.seq us.toArray _ = Data.dict es ep := d
      cases d2
  have kb : K.In (hidT t.heap H) := fun b o e => hidT_get (inK b o e) (off e)
  have gb := nss gl
  have lim : (hidT t.heap H).NoLimit := by
    obtain ⟨mc, h1, h2⟩ := nl
    exact ⟨mc, nss h1, h2⟩
  have no : ∀ b : Addr, b ∈ ([] : List Addr) → False := fun b z => by cases z
  have ev : Env0 P w K mg (hidT t.heap H) callerA [] t H := ⟨rfl, ⟨kb, gb, ⟨mb, nss bl, bs⟩, lim⟩, fun b o e => of_hidT e, Nat.le_of_eq (hidT_size _ _), trivial, fun b z => (no b z).elim, hok, .of_eq ng⟩
  refine codeAny_mono ((F _ kb gb).go callerA [] t H ⟨[.ref a], []⟩ [.ref a] [.ref a] _ _ rfl room ev (bd t (.ref a)) (.cons rfl .nil) (hyp H seq)) fun r s h => ?_
  cases r with
  | error e => exact False.elim h
  | ok fl =>
    cases fl with
    | next => exact False.elim h
    | brk => exact False.elim h
    | cont => exact False.elim h
    | ret u =>
      obtain ⟨v, H2, os, bare, un, hok2, rv, q⟩ := h
      have q : v = .bl true := q
      subst q
      obtain rfl : u = Value.bool true := rv
      refine ⟨rfl, OldK.of_keep fun b o e => ?_, os, bare⟩
      cases z : H b with
      | none => exact un.keep b o e z (fun y => no b y) (by simp)
      | some u =>
        obtain ⟨rfl, _, rfl⟩ := only b u z
        obtain ⟨e1, _⟩ := hok b _ z
        obtain ⟨e2, _⟩ := hok2 b _ (un.frzs b _ _ z)
        rw [e] at e1
        cases e1
        exact e2
theorem walk_G {l : PySem.W.OpenLaw} {n k : Nat} {q : Program} {loose : List Str} {XP : (Str → Option Value) → Heap → Prop} {YP : World → Heap → Prop} {d : DefRec} {K : Params → PySem.W.Frag} {sp : PySem.W.Frag → Sp} {x : Str}
    (hn : l.most = some n) (small : n ≤ sizeLine) (plain : d.params.defaults = []) (room : Room k callerA) (inK : ∀ (w : World) (h : Heap), YP w h → (K w.params).In h)
    (F : ∀ (w : World) (mg : Str → Option Value) (fa : Addr) (h : Heap), (K w.params).In h → h.Ns mainGlobals mg → mg d.name = some (.ref fa) →
      ∃ fd : FuncData, (∀ (s : Shared) (u : Value), BindsTo s fd ⟨[u], []⟩ [(x, u)]) ∧ ∀ b : Heap, (K w.params).In b → b.Ns mainGlobals mg → FnG l.prog w (K w.params) mg b k fa fd [x] (sp (K w.params)))
    (hyp : ∀ (K : PySem.W.Frag) (H : Hp) (a : Addr) (ns : List Int), ns.length ≤ n → SqL K H a (ns.map V.int) → sp K [.ref a] H (fun v _ => v = .bl true) E0) :
    PySem.W.WalkO q loose XP YP l.row.toRowW d [] (fun f vs => PySem.call f vs) := by
  refine Att.attach_call hn plain fun w s0 s1 mg mb fa o pm cd doc a vs ns G Y ho hd hcd hmg there are few ng => ?_
  obtain ⟨fd, bd, FF⟩ := F w mg fa _ (inK w _ Y) G.T.g hmg
  exact law_go (inK w _ Y) G.T.g G.T.b G.T.builtins G.T.nolimit ng there are (Nat.le_trans few small) room FF bd fun H z => hyp _ H a ns few z
/-! ### defs by their names behind the top -/
section
variable {P : Program} {w : World} {K : PySem.W.Frag} {mg : Str → Option Value} {base h : Heap} {C f T : Addr} {x qual : Str} {st : Stmt} {k : Nat} {ps ks : List Str} {sp : Sp} {oc : Value} {od an : Option Addr} {osl : Array (Option Value)} {dvs : List V} {o : Obj} {its : List Value} {n : Nat} {kV doc pm cdv ct : Value}
/-- the module's name x holds the def st -/
def GFun (K : PySem.W.Frag) (x : Str) (st : Stmt) : Prop := ∃ f fd, PySem.W.nsIn K mainGlobals x = some (some (.ref f)) ∧ Fun K x x st f fd
def GFunD (K : PySem.W.Frag) (x : Str) (st : Stmt) (dvs : List V) : Prop := ∃ f fd, PySem.W.nsIn K mainGlobals x = some (some (.ref f)) ∧ FunD K x x (defArgs st) (defBody st) (defScope st) dvs [] f fd
/-- the class C has the method x -/
def GMeth (K : PySem.W.Frag) (C : Addr) (x qual : Str) (st : Stmt) : Prop := ∃ f fd, PySem.W.findIn K (.ref C) x = some (some (.ref f)) ∧ PySem.W.isFn K (.ref f) = true ∧ Fun K x qual st f fd
theorem gfun (a : PySem.W.nsIn K mainGlobals x = some (some (.ref f))) (l : K.lookup f = some ⟨oc, od, .func (PySem.W.fnOf x x (defArgs st) (defBody st) (defScope st) .none kV doc pm an cdv ct), osl⟩) (c : PySem.W.codeIn K cdv x = true) (p : PySem.W.keepIn K (.ref f) = true) : GFun K x st := ⟨f, _, a, fun_mk l c p⟩
theorem gmeth (a : PySem.W.findIn K (.ref C) x = some (some (.ref f))) (i : PySem.W.isFn K (.ref f) = true) (l : K.lookup f = some ⟨oc, od, .func (PySem.W.fnOf x qual (defArgs st) (defBody st) (defScope st) .none kV doc pm an cdv ct), osl⟩) (c : PySem.W.codeIn K cdv qual = true) (p : PySem.W.keepIn K (.ref f) = true) : GMeth K C x qual st := ⟨f, _, a, i, fun_mk l c p⟩
theorem gfunD (a : PySem.W.nsIn K mainGlobals x = some (some (.ref f))) (l : K.lookup f = some ⟨oc, od, .func (PySem.W.fnOf x x (defArgs st) (defBody st) (defScope st) (.ref T) kV doc pm an cdv ct), osl⟩) (c : PySem.W.codeIn K cdv x = true) (p : PySem.W.keepIn K (.ref f) = true)
    (lt : K.lookup T = some o) (ho : o.data = .seq its.toArray n) (v : Vals dvs its) (ne : dvs ≠ []) : GFunD K x st dvs :=
  ⟨f, _, a, ⟨oc, od, .ref T, kV, doc, pm, an, cdv, ct, osl, rfl, l, c, .inr ⟨ne, T, o, its, n, rfl, lt, ho, v⟩, .inl rfl⟩, p⟩
/-- how a def of the text binds what is given by place -/
def ByPlace (x qual : Str) (st : Stmt) (ps : List Str) : Prop := ∀ (kV doc pm : Value) (an : Option Addr) (cdv ct : Value) (us : List Value), us.length = ps.length → bindArgs (PySem.W.fnOf x qual (defArgs st) (defBody st) (defScope st) .none kV doc pm an cdv ct) ⟨us, []⟩ = pure (ps.zip us)
theorem df_of (X : K.In h) (G : h.Ns mainGlobals mg) (g : GFun K x st) (b : ByPlace x x st ps) (ok : ∀ f fd, Fun K x x st f fd → FnOk P w K mg base CX0 k f fd ps sp) : Df P w K mg base k x ps sp := by
  obtain ⟨f, fd, a, Fn⟩ := g
  exact ⟨f, fd, ok f fd Fn, PySem.W.mg_of X G a, Fn.kp, Fn.binds b⟩
theorem dg_of (X : K.In h) (G : h.Ns mainGlobals mg) (g : GFun K x st) (b : ByPlace x x st ps) (ok : ∀ f fd, Fun K x x st f fd → FnG P w K mg base k f fd ps sp) : DfG P w K mg base k x ps sp := by
  obtain ⟨f, fd, a, Fn⟩ := g
  exact ⟨f, fd, ok f fd Fn, PySem.W.mg_of X G a, Fn.kp, Fn.binds b⟩
theorem dm_of (g : GMeth K C x qual st) (b : ByPlace x qual st ps) (ok : ∀ f fd, Fun K x qual st f fd → FnOk P w K mg base CX0 k f fd ps sp) : Dm P w K mg base C k x ps sp := by
  obtain ⟨f, fd, a, i, Fn⟩ := g
  exact ⟨f, fd, ok f fd Fn, ⟨a, i, Fn.kp⟩, Fn.binds b⟩
theorem di_of (mk : PySem.W.makesIn K C = true) (kc : PySem.W.keepIn K (.ref C) = true) (g : GMeth K C "__init__" qual st) (b : ByPlace "__init__" qual st ps) (ok : ∀ f fd, Fun K "__init__" qual st f fd → FnOk P w K mg base CX0 k f fd ps sp) : Di P w K mg base C k ps sp := by
  obtain ⟨f, fd, a, i, Fn⟩ := g
  exact ⟨f, fd, ok f fd Fn, ⟨mk, a, i, kc⟩, Fn.binds b⟩
theorem ne_of_eq (g : GMeth K C "__eq__" qual st) (ne : PySem.W.findIn K (.ref C) "__ne__" = some (some (.builtin "object.__ne__"))) (un : PySem.W.mroIn K C (.type "object") = some true) (b : ByPlace "__eq__" qual st ps) (ok : ∀ f fd, Fun K "__eq__" qual st f fd → FnOk P w K mg base CX0 k f fd ps sp) : NeC P w K mg base C k sp := by
  obtain ⟨f, fd, a, i, Fn⟩ := g
  exact ⟨⟨f, fd, ps, ok f fd Fn, a, i, Fn.binds b⟩, ne, un⟩
/-- by keywords alone: two, the other way round -/
def swapU : List Value → List Value → List Value
  | [], [a, b] => [b, a]
  | _, _ => []
def oneU : List Value → List Value → List Value
  | [], [a] => [a]
  | _, _ => []
theorem dk2_of {p1 p2 : Str} (X : K.In h) (G : h.Ns mainGlobals mg) (g : GFun K x st)
    (b : ∀ (kV doc pm : Value) (an : Option Addr) (cdv ct u v : Value), bindArgs (PySem.W.fnOf x x (defArgs st) (defBody st) (defScope st) .none kV doc pm an cdv ct) ⟨[], [(p2, u), (p1, v)]⟩ = pure [(p1, v), (p2, u)]) (ok : ∀ f fd, Fun K x x st f fd → FnOk P w K mg base CX0 k f fd [p1, p2] sp) : DfK P w K mg base k x [p1, p2] [p2, p1] swap2 sp := by
  obtain ⟨f, fd, a, Fn⟩ := g
  refine ⟨f, fd, swapU, ok f fd Fn, PySem.W.mg_of X G a, Fn.kp, ⟨fun s us ws _ len => ?_, fun {vs us zs ws} r1 r2 => ?_⟩⟩
  · obtain ⟨oc, od, kV, doc, pm, an, cdv, ct, osl, rfl, _, _⟩ := Fn.ex
    match us, ws, len with
    | [], [u, v], _ => exact .of_eq (b kV doc pm an cdv ct u v)
    | [], [], len => exact absurd (show (0 : Nat) = 2 from len) (by decide)
    | [], [_], len => exact absurd (show (0 : Nat) = 2 from len) (by decide)
    | [], _ :: _ :: _ :: _, len => exact absurd (show (0 : Nat) = 2 from len) (by decide)
    | _ :: _, _, len => exact absurd (show (0 : Nat) = 2 from len) (by decide)
  · cases r1 with
    | cons _ _ => exact .nil
    | nil =>
      cases r2 with
      | nil => exact .nil
      | cons a r2 =>
        cases r2 with
        | nil => exact .nil
        | cons b r2 =>
          cases r2 with
          | nil => exact .cons b (.cons a .nil)
          | cons _ _ => exact .nil
theorem dk1_of {p1 : Str} (X : K.In h) (G : h.Ns mainGlobals mg) (g : GFun K x st)
    (b : ∀ (kV doc pm : Value) (an : Option Addr) (cdv ct u : Value), bindArgs (PySem.W.fnOf x x (defArgs st) (defBody st) (defScope st) .none kV doc pm an cdv ct) ⟨[], [(p1, u)]⟩ = pure [(p1, u)]) (ok : ∀ f fd, Fun K x x st f fd → FnOk P w K mg base CX0 k f fd [p1] sp) : DfK P w K mg base k x [p1] [p1] one1 sp := by
  obtain ⟨f, fd, a, Fn⟩ := g
  refine ⟨f, fd, oneU, ok f fd Fn, PySem.W.mg_of X G a, Fn.kp, ⟨fun s us ws _ len => ?_, fun {vs us zs ws} r1 r2 => ?_⟩⟩
  · obtain ⟨oc, od, kV, doc, pm, an, cdv, ct, osl, rfl, _, _⟩ := Fn.ex
    match us, ws, len with
    | [], [u], _ => exact .of_eq (b kV doc pm an cdv ct u)
    | [], [], len => exact absurd (show (0 : Nat) = 1 from len) (by decide)
    | [], _ :: _ :: _, len => exact absurd (show (0 : Nat) = 1 from len) (by decide)
    | _ :: _, _, len => exact absurd (show (0 : Nat) = 1 from len) (by decide)
  · cases r1 with
    | cons _ _ => exact .nil
    | nil =>
      cases r2 with
      | nil => exact .nil
      | cons a r2 =>
        cases r2 with
        | nil => exact .cons a .nil
        | cons _ _ => exact .nil
/-- a def with defaults, j of them written -/
theorem dd_of (X : K.In h) (G : h.Ns mainGlobals mg) (g : GFunD K x st dvs) (m j : Nat) (ne : dvs ≠ []) (hm : m + (dvs.length - j) = ps.length)
    (b : ∀ (T : Addr) (kV doc pm : Value) (an : Option Addr) (cdv ct : Value) (us its : List Value), us.length = m → its.length = dvs.length →
      ∃ q, bindArgs (PySem.W.fnOf x x (defArgs st) (defBody st) (defScope st) (.ref T) kV doc pm an cdv ct) ⟨us, []⟩ = seqItems? (.ref T) >>= q ∧ q (some its.toArray) = pure (ps.zip (us ++ its.drop j)))
    (ok : ∀ f fd, FunD K x x (defArgs st) (defBody st) (defScope st) dvs [] f fd → FnOk P w K mg base CX0 k f fd ps sp) : DfD P w K mg base k x ps (dvs.drop j) sp := by
  obtain ⟨f, fd, a, Fn⟩ := g
  obtain ⟨ds, v, bd⟩ := Fn.binds1 m j ne hm b
  exact ⟨f, fd, ds, ok f fd Fn, PySem.W.mg_of X G a, Fn.kp, v, bd⟩
theorem dd_all (g : DfD P w K mg base k x ps [] sp) : Df P w K mg base k x ps sp := by
  obtain ⟨f, fd, ds, ok, m, kp, v, bd⟩ := g
  cases v
  exact ⟨f, fd, ok, m, kp, bd⟩
end
end K55

set_option maxHeartbeats 4000000
/-! K55: every def behind the top keeps its promise, from the facts of the top alone. -/
namespace K55
open PySem PySem.Spec PyProof.Rows L2
theorem b_s_is_integer : ByPlace "is_integer" "is_integer" s_is_integer ["value"] := fun _ _ _ _ _ _ us hl => match us, hl with | [_], _ => rfl
theorem b_s_is_within : ByPlace "is_within" "is_within" s_is_within ["value", "least", "most"] := fun _ _ _ _ _ _ us hl => match us, hl with | [_, _, _], _ => rfl
theorem b_s_are_integers : ByPlace "are_integers" "are_integers" s_are_integers ["value"] := fun _ _ _ _ _ _ us hl => match us, hl with | [_], _ => rfl
theorem b_s_are_counted : ByPlace "are_counted" "are_counted" s_are_counted ["value"] := fun _ _ _ _ _ _ us hl => match us, hl with | [_], _ => rfl
theorem b_s_lcm_in : ByPlace "lcm_in" "lcm_in" s_lcm_in ["numbers"] := fun _ _ _ _ _ _ us hl => match us, hl with | [_], _ => rfl
theorem b_s_gcd_of : ByPlace "gcd_of" "gcd_of" s_gcd_of ["numbers"] := fun _ _ _ _ _ _ us hl => match us, hl with | [_], _ => rfl
theorem b_s_is_entry : ByPlace "is_entry" "is_entry" s_is_entry ["value"] := fun _ _ _ _ _ _ us hl => match us, hl with | [_], _ => rfl
theorem b_s_is_stretch : ByPlace "is_stretch" "is_stretch" s_is_stretch ["value"] := fun _ _ _ _ _ _ us hl => match us, hl with | [_], _ => rfl
theorem b_s_are_joined : ByPlace "are_joined" "are_joined" s_are_joined ["rows"] := fun _ _ _ _ _ _ us hl => match us, hl with | [_], _ => rfl
theorem b_s_nearest : ByPlace "nearest" "nearest" s_nearest ["first", "last", "many", "rest"] := fun _ _ _ _ _ _ us hl => match us, hl with | [_, _, _, _], _ => rfl
theorem b_s_farthest : ByPlace "farthest" "farthest" s_farthest ["first", "last", "many", "rest"] := fun _ _ _ _ _ _ us hl => match us, hl with | [_, _, _, _], _ => rfl
theorem b_s_worth_at : ByPlace "worth_at" "worth_at" s_worth_at ["entry", "number"] := fun _ _ _ _ _ _ us hl => match us, hl with | [_, _], _ => rfl
theorem b_s_is_lawful : ByPlace "is_lawful" "is_lawful" s_is_lawful ["stretch", "rest"] := fun _ _ _ _ _ _ us hl => match us, hl with | [_, _], _ => rfl
theorem b_s_thin_entry : ByPlace "thin_entry" "thin_entry" s_thin_entry ["slope", "constant", "d"] := fun _ _ _ _ _ _ us hl => match us, hl with | [_, _, _], _ => rfl
theorem b_s_stretches_from : ByPlace "stretches_from" "stretches_from" s_stretches_from ["starts"] := fun _ _ _ _ _ _ us hl => match us, hl with | [_], _ => rfl
theorem b_s_lots_of : ByPlace "lots_of" "lots_of" s_lots_of ["one", "other"] := fun _ _ _ _ _ _ us hl => match us, hl with | [_, _], _ => rfl
theorem b_s_tells_unlike : ByPlace "tells_unlike" "tells_unlike" s_tells_unlike ["lot"] := fun _ _ _ _ _ _ us hl => match us, hl with | [_], _ => rfl
theorem b_s_added : ByPlace "added" "added" s_added ["one", "other"] := fun _ _ _ _ _ _ us hl => match us, hl with | [_, _], _ => rfl
theorem b_s_most_of : ByPlace "most_of" "most_of" s_most_of ["rule"] := fun _ _ _ _ _ _ us hl => match us, hl with | [_], _ => rfl
theorem b_s_growth_of : ByPlace "growth_of" "growth_of" s_growth_of ["rule"] := fun _ _ _ _ _ _ us hl => match us, hl with | [_], _ => rfl
theorem b_s_parted_at : ByPlace "parted_at" "parted_at" s_parted_at ["one", "other"] := fun _ _ _ _ _ _ us hl => match us, hl with | [_, _], _ => rfl
theorem b_s__law_valley : ByPlace "_law_valley" "_law_valley" s__law_valley ["_law_script"] := fun _ _ _ _ _ _ us hl => match us, hl with | [_], _ => rfl
theorem b_s__law_climb : ByPlace "_law_climb" "_law_climb" s__law_climb ["_law_valley_here", "_law_many"] := fun _ _ _ _ _ _ us hl => match us, hl with | [_, _], _ => rfl
theorem b_s__law_pick : ByPlace "_law_pick" "_law_pick" s__law_pick ["_law_valley_here", "_law_some"] := fun _ _ _ _ _ _ us hl => match us, hl with | [_, _], _ => rfl
theorem b_s__law_at : ByPlace "_law_at" "_law_at" s__law_at ["_law_rows_here", "_law_number"] := fun _ _ _ _ _ _ us hl => match us, hl with | [_, _], _ => rfl
theorem b_s__law_entry : ByPlace "_law_entry" "_law_entry" s__law_entry ["_law_valley_here", "_law_first", "_law_last", "_law_many", "_law_rest"] := fun _ _ _ _ _ _ us hl => match us, hl with | [_, _, _, _, _], _ => rfl
theorem b_s__law_rows : ByPlace "_law_rows" "_law_rows" s__law_rows ["_law_valley_here"] := fun _ _ _ _ _ _ us hl => match us, hl with | [_], _ => rfl
theorem b_s__law_plus : ByPlace "_law_plus" "_law_plus" s__law_plus ["_law_one", "_law_other"] := fun _ _ _ _ _ _ us hl => match us, hl with | [_, _], _ => rfl
theorem b_s__law_near : ByPlace "_law_near" "_law_near" s__law_near ["_law_valley_here", "_law_rows_here", "_law_others"] := fun _ _ _ _ _ _ us hl => match us, hl with | [_, _, _], _ => rfl
theorem b_s__law_split : ByPlace "_law_split" "_law_split" s__law_split ["_law_valley_here", "_law_rows_here"] := fun _ _ _ _ _ _ us hl => match us, hl with | [_, _], _ => rfl
theorem b_s__law_most : ByPlace "_law_most" "_law_most" s__law_most ["_law_rows_here"] := fun _ _ _ _ _ _ us hl => match us, hl with | [_], _ => rfl
theorem b_s__law_far_right : ByPlace "_law_far_right" "_law_far_right" s__law_far_right ["_law_valley_here"] := fun _ _ _ _ _ _ us hl => match us, hl with | [_], _ => rfl
theorem b_s_fixed : ByPlace "fixed" "fixed" s_fixed ["value"] := fun _ _ _ _ _ _ us hl => match us, hl with | [_], _ => rfl
theorem b_s_law : ByPlace "law" "law" s_law ["_law_script"] := fun _ _ _ _ _ _ us hl => match us, hl with | [_], _ => rfl
theorem b_s_Rule_init : ByPlace "__init__" "Rule.__init__" s_Rule_init ["self", "rows"] := fun _ _ _ _ _ _ us hl => match us, hl with | [_, _], _ => rfl
theorem b_s_Rule_eq : ByPlace "__eq__" "Rule.__eq__" s_Rule_eq ["self", "other"] := fun _ _ _ _ _ _ us hl => match us, hl with | [_, _], _ => rfl
theorem b_s_Rule_entries_at : ByPlace "entries_at" "Rule.entries_at" s_Rule_entries_at ["self", "number"] := fun _ _ _ _ _ _ us hl => match us, hl with | [_, _], _ => rfl
theorem b_s_Rule_at : ByPlace "at" "Rule.at" s_Rule_at ["self", "number"] := fun _ _ _ _ _ _ us hl => match us, hl with | [_, _], _ => rfl
/-- what the top has left -/
structure Behind (K : PySem.W.Frag) (C : Addr) : Prop where
  z_isinstance : PySem.W.nsIn K mainGlobals "isinstance" = some none
  z_int : PySem.W.nsIn K mainGlobals "int" = some none
  z_bool : PySem.W.nsIn K mainGlobals "bool" = some none
  z_list : PySem.W.nsIn K mainGlobals "list" = some none
  z_tuple : PySem.W.nsIn K mainGlobals "tuple" = some none
  z_all : PySem.W.nsIn K mainGlobals "all" = some none
  z_len : PySem.W.nsIn K mainGlobals "len" = some none
  z_min : PySem.W.nsIn K mainGlobals "min" = some none
  z_max : PySem.W.nsIn K mainGlobals "max" = some none
  z_abs : PySem.W.nsIn K mainGlobals "abs" = some none
  z_sorted : PySem.W.nsIn K mainGlobals "sorted" = some none
  z_repr : PySem.W.nsIn K mainGlobals "repr" = some none
  z_set : PySem.W.nsIn K mainGlobals "set" = some none
  z_zip : PySem.W.nsIn K mainGlobals "zip" = some none
  z_enumerate : PySem.W.nsIn K mainGlobals "enumerate" = some none
  z_range : PySem.W.nsIn K mainGlobals "range" = some none
  gcd : PySem.W.nsIn K mainGlobals "gcd" = some (some (.builtin "math.gcd"))
  rule : PySem.W.nsIn K mainGlobals "Rule" = some (some (.ref C))
  ic : C8.InsC K C
  rows : PySem.W.findIn K (.ref C) "rows" = some none
  makes : PySem.W.makesIn K C = true
  kept : PySem.W.keepIn K (.ref C) = true
  ne : PySem.W.findIn K (.ref C) "__ne__" = some (some (.builtin "object.__ne__"))
  m_init : GMeth K C "__init__" "Rule.__init__" s_Rule_init
  m_eq : GMeth K C "__eq__" "Rule.__eq__" s_Rule_eq
  m_entries_at : GMeth K C "entries_at" "Rule.entries_at" s_Rule_entries_at
  m_at : GMeth K C "at" "Rule.at" s_Rule_at
  d_need_number : GFunD K "need_number" s_need_number [.non, .non]
  d_need_rule : GFunD K "need_rule" s_need_rule [.str "rule"]
  f_is_integer : GFun K "is_integer" s_is_integer
  f_is_within : GFun K "is_within" s_is_within
  f_are_integers : GFun K "are_integers" s_are_integers
  f_are_counted : GFun K "are_counted" s_are_counted
  f_lcm_in : GFun K "lcm_in" s_lcm_in
  f_gcd_of : GFun K "gcd_of" s_gcd_of
  f_is_entry : GFun K "is_entry" s_is_entry
  f_is_stretch : GFun K "is_stretch" s_is_stretch
  f_are_joined : GFun K "are_joined" s_are_joined
  f_nearest : GFun K "nearest" s_nearest
  f_farthest : GFun K "farthest" s_farthest
  f_worth_at : GFun K "worth_at" s_worth_at
  f_is_lawful : GFun K "is_lawful" s_is_lawful
  f_thin_entry : GFun K "thin_entry" s_thin_entry
  f_stretches_from : GFun K "stretches_from" s_stretches_from
  f_lots_of : GFun K "lots_of" s_lots_of
  f_tells_unlike : GFun K "tells_unlike" s_tells_unlike
  f_added : GFun K "added" s_added
  f_most_of : GFun K "most_of" s_most_of
  f_growth_of : GFun K "growth_of" s_growth_of
  f_parted_at : GFun K "parted_at" s_parted_at
  f__law_valley : GFun K "_law_valley" s__law_valley
  f__law_climb : GFun K "_law_climb" s__law_climb
  f__law_pick : GFun K "_law_pick" s__law_pick
  f__law_at : GFun K "_law_at" s__law_at
  f__law_entry : GFun K "_law_entry" s__law_entry
  f__law_rows : GFun K "_law_rows" s__law_rows
  f__law_plus : GFun K "_law_plus" s__law_plus
  f__law_near : GFun K "_law_near" s__law_near
  f__law_split : GFun K "_law_split" s__law_split
  f__law_most : GFun K "_law_most" s__law_most
  f__law_far_right : GFun K "_law_far_right" s__law_far_right
  f_fixed : GFun K "fixed" s_fixed
  f_law : GFun K "law" s_law
section
variable {P : Program} {w : World} {K : PySem.W.Frag} {mg : Str → Option Value} {base h : Heap} {C : Addr}
theorem bt_of (X : K.In h) (G : h.Ns mainGlobals mg) (T : Behind K C) : Bt K mg C where
  n_isinstance := PySem.W.mg_none_of X G T.z_isinstance
  n_int := PySem.W.mg_none_of X G T.z_int
  n_bool := PySem.W.mg_none_of X G T.z_bool
  n_list := PySem.W.mg_none_of X G T.z_list
  n_tuple := PySem.W.mg_none_of X G T.z_tuple
  n_all := PySem.W.mg_none_of X G T.z_all
  n_len := PySem.W.mg_none_of X G T.z_len
  n_min := PySem.W.mg_none_of X G T.z_min
  n_max := PySem.W.mg_none_of X G T.z_max
  n_abs := PySem.W.mg_none_of X G T.z_abs
  n_sorted := PySem.W.mg_none_of X G T.z_sorted
  n_repr := PySem.W.mg_none_of X G T.z_repr
  n_set := PySem.W.mg_none_of X G T.z_set
  n_zip := PySem.W.mg_none_of X G T.z_zip
  n_enumerate := PySem.W.mg_none_of X G T.z_enumerate
  n_range := PySem.W.mg_none_of X G T.z_range
  gcd := PySem.W.mg_of X G T.gcd
  mgC := PySem.W.mg_of X G T.rule
  ic := T.ic
  nR := T.rows
theorem fixed_of (X : K.In h) (G : h.Ns mainGlobals mg) (T : Behind K C) : ∀ n : Nat, Df P w K mg base (n + 1) "fixed" ["value"] (spD C (F_fixed n))
  | 0 => df_of X G T.f_fixed b_s_fixed fun f fd Fn => ok_fixed_step Fn (bt_of X G T) fun n e => by omega
  | n + 1 => df_of X G T.f_fixed b_s_fixed fun f fd Fn => ok_fixed_step Fn (bt_of X G T) fun m e => by
    obtain rfl : n = m := by omega
    exact fixed_of X G T n
theorem law_of (X : K.In h) (G : h.Ns mainGlobals mg) (T : Behind K C) {f : Addr} {fd : FuncData} (Fn : Fun K "law" "law" s_law f fd) : FnG P w K mg base 12 f fd ["_law_script"] (spLaw K) := by
  have B := bt_of X G T
  have G_is_integer : Df P w K mg base 1 "is_integer" ["value"] (spD C F_is_integer) := df_of X G T.f_is_integer b_s_is_integer fun f fd Fn => ok_is_integer Fn B
  have G_is_within : Df P w K mg base 2 "is_within" ["value", "least", "most"] (spD C F_is_within) := df_of X G T.f_is_within b_s_is_within fun f fd Fn => ok_is_within Fn B G_is_integer
  have G_are_integers : Df P w K mg base 2 "are_integers" ["value"] (spD C F_are_integers) := df_of X G T.f_are_integers b_s_are_integers fun f fd Fn => ok_are_integers Fn B G_is_integer
  have G_are_counted : Df P w K mg base 3 "are_counted" ["value"] (spD C F_are_counted) := df_of X G T.f_are_counted b_s_are_counted fun f fd Fn => ok_are_counted Fn B G_are_integers
  have G_lcm_in : Df P w K mg base 1 "lcm_in" ["numbers"] (spD C F_lcm_in) := df_of X G T.f_lcm_in b_s_lcm_in fun f fd Fn => ok_lcm_in Fn B
  have G_gcd_of : Df P w K mg base 4 "gcd_of" ["numbers"] (spD C F_gcd_of) := df_of X G T.f_gcd_of b_s_gcd_of fun f fd Fn => ok_gcd_of Fn B G_are_counted
  have G_is_entry : Df P w K mg base 3 "is_entry" ["value"] (spD C F_is_entry) := df_of X G T.f_is_entry b_s_is_entry fun f fd Fn => ok_is_entry Fn B G_is_integer G_is_within
  have G_is_stretch : Df P w K mg base 4 "is_stretch" ["value"] (spD C F_is_stretch) := df_of X G T.f_is_stretch b_s_is_stretch fun f fd Fn => ok_is_stretch Fn B G_is_integer G_is_entry
  have G_are_joined : Df P w K mg base 1 "are_joined" ["rows"] (spD C F_are_joined) := df_of X G T.f_are_joined b_s_are_joined fun f fd Fn => ok_are_joined Fn B
  have G_nearest : Df P w K mg base 1 "nearest" ["first", "last", "many", "rest"] (spD C F_nearest) := df_of X G T.f_nearest b_s_nearest fun f fd Fn => ok_nearest Fn B
  have G_farthest : Df P w K mg base 1 "farthest" ["first", "last", "many", "rest"] (spD C F_farthest) := df_of X G T.f_farthest b_s_farthest fun f fd Fn => ok_farthest Fn B
  have G_worth_at : Df P w K mg base 1 "worth_at" ["entry", "number"] (spD C F_worth_at) := df_of X G T.f_worth_at b_s_worth_at fun f fd Fn => ok_worth_at Fn B
  have G_is_lawful : Df P w K mg base 2 "is_lawful" ["stretch", "rest"] (spD C F_is_lawful) := df_of X G T.f_is_lawful b_s_is_lawful fun f fd Fn => ok_is_lawful Fn B G_nearest G_farthest G_worth_at
  have G_thin_entry : Df P w K mg base 5 "thin_entry" ["slope", "constant", "d"] (spD C F_thin_entry) := df_of X G T.f_thin_entry b_s_thin_entry fun f fd Fn => ok_thin_entry Fn B G_gcd_of
  have G_stretches_from : Df P w K mg base 1 "stretches_from" ["starts"] (spD C F_stretches_from) := df_of X G T.f_stretches_from b_s_stretches_from fun f fd Fn => ok_stretches_from Fn B
  have G_fixed : Df P w K mg base 5 "fixed" ["value"] (spD C (F_fixed 4)) := fixed_of X G T 4
  have G_need_number : DfD P w K mg base 3 "need_number" ["value", "part", "least", "most"] [.non, .non] (spD C F_need_number) := dd_of X G T.d_need_number 2 0 (by simp) rfl (fun _ _ _ _ _ _ _ us its h1 h2 => match us, its, h1, h2 with | [_, _], [_, _], _, _ => ⟨_, rfl, rfl⟩) fun f fd Fn => ok_need_number Fn B G_is_within
  have G_need_rule1 : DfD P w K mg base 1 "need_rule" ["value", "part"] [.str "rule"] (spD C F_need_rule) := dd_of X G T.d_need_rule 1 0 (by simp) rfl (fun _ _ _ _ _ _ _ us its h1 h2 => match us, its, h1, h2 with | [_], [_], _, _ => ⟨_, rfl, rfl⟩) fun f fd Fn => ok_need_rule Fn B
  have G_need_rule : Df P w K mg base 1 "need_rule" ["value", "part"] (spD C F_need_rule) := dd_all (dd_of X G T.d_need_rule 2 1 (by simp) rfl (fun _ _ _ _ _ _ _ us its h1 h2 => match us, its, h1, h2 with | [_, _], [_], _, _ => ⟨_, rfl, rfl⟩) fun f fd Fn => ok_need_rule Fn B)
  have G_Rule_init : Di P w K mg base C 6 ["self", "rows"] (spInit C F_init) := di_of T.makes T.kept T.m_init b_s_Rule_init fun f fd Fn => ok_init Fn B G_is_stretch G_fixed G_are_joined G_is_lawful
  have G_Rule_entries_at : Dm P w K mg base C 1 "entries_at" ["self", "number"] (spD C F_entries_at) := dm_of T.m_entries_at b_s_Rule_entries_at fun f fd Fn => ok_entries_at Fn B
  have G_Rule_at : Dm P w K mg base C 4 "at" ["self", "number"] (spD C F_at) := dm_of T.m_at b_s_Rule_at fun f fd Fn => ok_at Fn B G_Rule_entries_at (fun _ => .cons .non (.cons .non .nil)) G_need_number G_worth_at
  have G_lots_of : Df P w K mg base 2 "lots_of" ["one", "other"] (spD C F_lots_of) := df_of X G T.f_lots_of b_s_lots_of fun f fd Fn => ok_lots_of Fn B G_stretches_from G_Rule_entries_at G_lcm_in G_nearest
  have G_tells_unlike : Df P w K mg base 2 "tells_unlike" ["lot"] (spD C F_tells_unlike) := df_of X G T.f_tells_unlike b_s_tells_unlike fun f fd Fn => ok_tells_unlike Fn B G_nearest G_worth_at
  have G_added : Df P w K mg base 8 "added" ["one", "other"] (spD C F_added) := df_of X G T.f_added b_s_added fun f fd Fn => ok_added Fn B G_need_rule G_lots_of G_thin_entry G_Rule_init
  have G_most_of : Df P w K mg base 3 "most_of" ["rule"] (spD C F_most_of) := df_of X G T.f_most_of b_s_most_of fun f fd Fn => ok_most_of Fn B (fun _ => .cons (.str _) .nil) G_need_rule1 G_lots_of G_nearest G_farthest G_worth_at
  have G_growth_of : Df P w K mg base 2 "growth_of" ["rule"] (spD C F_growth_of) := df_of X G T.f_growth_of b_s_growth_of fun f fd Fn => ok_growth_of Fn B (fun _ => .cons (.str _) .nil) G_need_rule1
  have G_parted_at : Df P w K mg base 3 "parted_at" ["one", "other"] (spD C F_parted_at) := df_of X G T.f_parted_at b_s_parted_at fun f fd Fn => ok_parted_at Fn B G_need_rule G_lots_of G_tells_unlike
  have G_K_added : DfK P w K mg base 8 "added" ["one", "other"] ["other", "one"] swap2 (spD C F_added) := dk2_of X G T.f_added (fun _ _ _ _ _ _ _ _ => rfl) fun f fd Fn => ok_added Fn B G_need_rule G_lots_of G_thin_entry G_Rule_init
  have G_K_parted_at : DfK P w K mg base 3 "parted_at" ["one", "other"] ["other", "one"] swap2 (spD C F_parted_at) := dk2_of X G T.f_parted_at (fun _ _ _ _ _ _ _ _ => rfl) fun f fd Fn => ok_parted_at Fn B G_need_rule G_lots_of G_tells_unlike
  have G_K_most_of : DfK P w K mg base 3 "most_of" ["rule"] ["rule"] one1 (spD C F_most_of) := dk1_of X G T.f_most_of (fun _ _ _ _ _ _ _ => rfl) fun f fd Fn => ok_most_of Fn B (fun _ => .cons (.str _) .nil) G_need_rule1 G_lots_of G_nearest G_farthest G_worth_at
  have G_K_growth_of : DfK P w K mg base 2 "growth_of" ["rule"] ["rule"] one1 (spD C F_growth_of) := dk1_of X G T.f_growth_of (fun _ _ _ _ _ _ _ => rfl) fun f fd Fn => ok_growth_of Fn B (fun _ => .cons (.str _) .nil) G_need_rule1
  have G_NE : NeC P w K mg base C 1 (spD C F_eq) := ne_of_eq T.m_eq T.ne T.ic.hm b_s_Rule_eq fun f fd Fn => ok_eq Fn B
  have G__law_valley : Df P w K mg base 1 "_law_valley" ["_law_script"] (spValley C K) := df_of X G T.f__law_valley b_s__law_valley fun f fd Fn => ok_valley Fn B
  have G__law_climb : Df P w K mg base 1 "_law_climb" ["_law_valley_here", "_law_many"] (spV C 1 F0_climb F_climb) := df_of X G T.f__law_climb b_s__law_climb fun f fd Fn => ok_climb Fn B
  have G__law_pick : Df P w K mg base 2 "_law_pick" ["_law_valley_here", "_law_some"] (spV C 1 F0_pick F_pick) := df_of X G T.f__law_pick b_s__law_pick fun f fd Fn => ok_pick Fn B G__law_climb
  have G__law_at : Df P w K mg base 1 "_law_at" ["_law_rows_here", "_law_number"] (spD C F_law_at) := df_of X G T.f__law_at b_s__law_at fun f fd Fn => ok_law_at Fn B
  have G__law_entry : Df P w K mg base 3 "_law_entry" ["_law_valley_here", "_law_first", "_law_last", "_law_many", "_law_rest"] (spV C 5 F0_entry F_entry) := df_of X G T.f__law_entry b_s__law_entry fun f fd Fn => ok_entry Fn B G__law_climb G__law_pick
  have G__law_rows : Df P w K mg base 4 "_law_rows" ["_law_valley_here"] (spV C 88 F0_rows F_rows) := df_of X G T.f__law_rows b_s__law_rows fun f fd Fn => ok_rows Fn B G__law_climb G__law_pick G__law_entry
  have G__law_plus : Df P w K mg base 1 "_law_plus" ["_law_one", "_law_other"] (spD C F_law_plus) := df_of X G T.f__law_plus b_s__law_plus fun f fd Fn => ok_law_plus Fn B
  have G__law_near : Df P w K mg base 2 "_law_near" ["_law_valley_here", "_law_rows_here", "_law_others"] (spV C 4 F0_near F_near) := df_of X G T.f__law_near b_s__law_near fun f fd Fn => ok_near Fn B G__law_climb
  have G__law_split : Df P w K mg base 2 "_law_split" ["_law_valley_here", "_law_rows_here"] (spV C 1 F0_split F_split) := df_of X G T.f__law_split b_s__law_split fun f fd Fn => ok_split Fn B G__law_climb
  have G__law_most : Df P w K mg base 2 "_law_most" ["_law_rows_here"] (spD C F_law_most) := df_of X G T.f__law_most b_s__law_most fun f fd Fn => ok_law_most Fn B G__law_at
  have G__law_far_right : DfG P w K mg base 10 "_law_far_right" ["_law_valley_here"] (spV C 4 F0_far F_far) := dg_of X G T.f__law_far_right b_s__law_far_right fun f fd Fn => ok_far Fn B G__law_climb G__law_pick G_parted_at G_most_of G_growth_of G_added G_Rule_at G_Rule_init
  exact ok_law Fn B G__law_valley G__law_rows G__law_near G__law_split G__law_at G__law_plus G__law_most G_parted_at G_most_of G_growth_of G_added G_K_added G_K_parted_at G_K_most_of G_K_growth_of G_NE G_Rule_at G_Rule_init G__law_far_right
theorem all_of (X : K.In h) (G : h.Ns mainGlobals mg) {fa : Addr} (hfa : mg "law" = some (.ref fa)) (T : Behind K C) :
    ∃ fd : FuncData, (∀ (s : Shared) (u : Value), BindsTo s fd ⟨[u], []⟩ [("_law_script", u)]) ∧ ∀ b : Heap, K.In b → b.Ns mainGlobals mg → FnG P w K mg b 12 fa fd ["_law_script"] (spLaw K) := by
  obtain ⟨f, fd, a, Fn⟩ := T.f_law
  have e := hfa.symm.trans (PySem.W.mg_of X G a)
  cases e
  refine ⟨fd, fun s u => ?_, fun b Xb Gb => law_of Xb Gb T Fn⟩
  obtain ⟨oc, od, kV, doc, pm, an, cdv, ct, osl, rfl, _, _⟩ := Fn.ex
  exact .of_eq (b_s_law kV doc pm an cdv ct [u] rfl)
end
end K55

open PySem PySem.W PyProof.Rows
set_option maxRecDepth 100000 in
set_option maxHeartbeats 0 in
theorem PySem.Challenge.cw_claimduel_k55_whole_rules_added_and_part_holds : PySem.Challenge.rw_claimduel_k55_whole_rules_added_and_part.Holds := by
  w_on; o_law; k_head; (case hw => w_witness2)
  k_fill
  refine K55.walk_G (l := PySem.Challenge.rw_claimduel_k55_whole_rules_added_and_part) (n := 63) (k := 12) (x := "_law_script") (sp := K55.spLaw) rfl (by decide) rfl ⟨rfl, by decide, by decide⟩ (fun w h Y => PySem.W.kIn_of Y) ?F (fun K H a ns few z => ⟨a, ns, rfl, z, few, fun _ => rfl⟩)
  case F =>
    intro w mg fa h KX G hmg
    refine' K55.all_of KX G hmg ?T
    (case T =>
      refine' K55.Behind.mk ?z_isinstance ?z_int ?z_bool ?z_list ?z_tuple ?z_all ?z_len ?z_min ?z_max ?z_abs ?z_sorted ?z_repr ?z_set ?z_zip ?z_enumerate ?z_range ?gcd ?rule ?ic ?rows ?makes ?kept ?ne ?m_init ?m_eq ?m_entries_at ?m_at ?d_need_number ?d_need_rule ?f_is_integer ?f_is_within ?f_are_integers ?f_are_counted ?f_lcm_in ?f_gcd_of ?f_is_entry ?f_is_stretch ?f_are_joined ?f_nearest ?f_farthest ?f_worth_at ?f_is_lawful ?f_thin_entry ?f_stretches_from ?f_lots_of ?f_tells_unlike ?f_added ?f_most_of ?f_growth_of ?f_parted_at ?f__law_valley ?f__law_climb ?f__law_pick ?f__law_at ?f__law_entry ?f__law_rows ?f__law_plus ?f__law_near ?f__law_split ?f__law_most ?f__law_far_right ?f_fixed ?f_law
      (case rule => k_is)
      (case z_isinstance => k_is)
      (case z_int => k_is)
      (case z_bool => k_is)
      (case z_list => k_is)
      (case z_tuple => k_is)
      (case z_all => k_is)
      (case z_len => k_is)
      (case z_min => k_is)
      (case z_max => k_is)
      (case z_abs => k_is)
      (case z_sorted => k_is)
      (case z_repr => k_is)
      (case z_set => k_is)
      (case z_zip => k_is)
      (case z_enumerate => k_is)
      (case z_range => k_is)
      (case gcd => k_is)
      (case ic => (refine' C8.InsC.mk ⟨?k55pg_1, ?k55hd_1, ?k55po_1, ?k55sa_1⟩ ?k55ha_1 ?k55hn_1 ?k55htk_1 ?k55hm_1 ?k55me_1; (case k55pg_1 => k_is); (case k55hd_1 => k_is); (case k55po_1 => k_is); (case k55sa_1 => k_is); (case k55ha_1 => k_is); (case k55hn_1 => k_is); (case k55htk_1 => k_is); (case k55hm_1 => k_is); (case k55me_1 => exact if_pos (beq_self_eq_true _))))
      (case rows => k_is)
      (case makes => k_is)
      (case kept => k_is)
      (case ne => k_is)
      (case m_init => (refine' K55.gmeth ?k55a_2 ?k55i_2 ?k55l_2 ?k55c_2 ?k55p_2; (case k55a_2 => k_is); (case k55i_2 => k_is); (case k55l_2 => k_is); (case k55c_2 => k_is); (case k55p_2 => k_is)))
      (case m_eq => (refine' K55.gmeth ?k55a_3 ?k55i_3 ?k55l_3 ?k55c_3 ?k55p_3; (case k55a_3 => k_is); (case k55i_3 => k_is); (case k55l_3 => k_is); (case k55c_3 => k_is); (case k55p_3 => k_is)))
      (case m_entries_at => (refine' K55.gmeth ?k55a_4 ?k55i_4 ?k55l_4 ?k55c_4 ?k55p_4; (case k55a_4 => k_is); (case k55i_4 => k_is); (case k55l_4 => k_is); (case k55c_4 => k_is); (case k55p_4 => k_is)))
      (case m_at => (refine' K55.gmeth ?k55a_5 ?k55i_5 ?k55l_5 ?k55c_5 ?k55p_5; (case k55a_5 => k_is); (case k55i_5 => k_is); (case k55l_5 => k_is); (case k55c_5 => k_is); (case k55p_5 => k_is)))
      (case d_need_number => (refine' K55.gfunD ?k55a_6 ?k55l_6 ?k55c_6 ?k55p_6 ?k55t_6 ?k55o_6 ?k55v_6 ?k55n_6; (case k55a_6 => k_is); (case k55l_6 => k_is); (case k55c_6 => k_is); (case k55p_6 => k_is); (case k55t_6 => k_is); (case k55o_6 => rfl); (case k55v_6 => exact .cons rfl (.cons rfl .nil)); (case k55n_6 => simp)))
      (case d_need_rule => (refine' K55.gfunD ?k55a_7 ?k55l_7 ?k55c_7 ?k55p_7 ?k55t_7 ?k55o_7 ?k55v_7 ?k55n_7; (case k55a_7 => k_is); (case k55l_7 => k_is); (case k55c_7 => k_is); (case k55p_7 => k_is); (case k55t_7 => k_is); (case k55o_7 => rfl); (case k55v_7 => exact .cons ⟨_, rfl⟩ .nil); (case k55n_7 => simp)))
      (case f_is_integer => (refine' K55.gfun ?k55a_8 ?k55l_8 ?k55c_8 ?k55p_8; (case k55a_8 => k_is); (case k55l_8 => k_is); (case k55c_8 => k_is); (case k55p_8 => k_is)))
      (case f_is_within => (refine' K55.gfun ?k55a_9 ?k55l_9 ?k55c_9 ?k55p_9; (case k55a_9 => k_is); (case k55l_9 => k_is); (case k55c_9 => k_is); (case k55p_9 => k_is)))
      (case f_are_integers => (refine' K55.gfun ?k55a_10 ?k55l_10 ?k55c_10 ?k55p_10; (case k55a_10 => k_is); (case k55l_10 => k_is); (case k55c_10 => k_is); (case k55p_10 => k_is)))
      (case f_are_counted => (refine' K55.gfun ?k55a_11 ?k55l_11 ?k55c_11 ?k55p_11; (case k55a_11 => k_is); (case k55l_11 => k_is); (case k55c_11 => k_is); (case k55p_11 => k_is)))
      (case f_lcm_in => (refine' K55.gfun ?k55a_12 ?k55l_12 ?k55c_12 ?k55p_12; (case k55a_12 => k_is); (case k55l_12 => k_is); (case k55c_12 => k_is); (case k55p_12 => k_is)))
      (case f_gcd_of => (refine' K55.gfun ?k55a_13 ?k55l_13 ?k55c_13 ?k55p_13; (case k55a_13 => k_is); (case k55l_13 => k_is); (case k55c_13 => k_is); (case k55p_13 => k_is)))
      (case f_is_entry => (refine' K55.gfun ?k55a_14 ?k55l_14 ?k55c_14 ?k55p_14; (case k55a_14 => k_is); (case k55l_14 => k_is); (case k55c_14 => k_is); (case k55p_14 => k_is)))
      (case f_is_stretch => (refine' K55.gfun ?k55a_15 ?k55l_15 ?k55c_15 ?k55p_15; (case k55a_15 => k_is); (case k55l_15 => k_is); (case k55c_15 => k_is); (case k55p_15 => k_is)))
      (case f_are_joined => (refine' K55.gfun ?k55a_16 ?k55l_16 ?k55c_16 ?k55p_16; (case k55a_16 => k_is); (case k55l_16 => k_is); (case k55c_16 => k_is); (case k55p_16 => k_is)))
      (case f_nearest => (refine' K55.gfun ?k55a_17 ?k55l_17 ?k55c_17 ?k55p_17; (case k55a_17 => k_is); (case k55l_17 => k_is); (case k55c_17 => k_is); (case k55p_17 => k_is)))
      (case f_farthest => (refine' K55.gfun ?k55a_18 ?k55l_18 ?k55c_18 ?k55p_18; (case k55a_18 => k_is); (case k55l_18 => k_is); (case k55c_18 => k_is); (case k55p_18 => k_is)))
      (case f_worth_at => (refine' K55.gfun ?k55a_19 ?k55l_19 ?k55c_19 ?k55p_19; (case k55a_19 => k_is); (case k55l_19 => k_is); (case k55c_19 => k_is); (case k55p_19 => k_is)))
      (case f_is_lawful => (refine' K55.gfun ?k55a_20 ?k55l_20 ?k55c_20 ?k55p_20; (case k55a_20 => k_is); (case k55l_20 => k_is); (case k55c_20 => k_is); (case k55p_20 => k_is)))
      (case f_thin_entry => (refine' K55.gfun ?k55a_21 ?k55l_21 ?k55c_21 ?k55p_21; (case k55a_21 => k_is); (case k55l_21 => k_is); (case k55c_21 => k_is); (case k55p_21 => k_is)))
      (case f_stretches_from => (refine' K55.gfun ?k55a_22 ?k55l_22 ?k55c_22 ?k55p_22; (case k55a_22 => k_is); (case k55l_22 => k_is); (case k55c_22 => k_is); (case k55p_22 => k_is)))
      (case f_lots_of => (refine' K55.gfun ?k55a_23 ?k55l_23 ?k55c_23 ?k55p_23; (case k55a_23 => k_is); (case k55l_23 => k_is); (case k55c_23 => k_is); (case k55p_23 => k_is)))
      (case f_tells_unlike => (refine' K55.gfun ?k55a_24 ?k55l_24 ?k55c_24 ?k55p_24; (case k55a_24 => k_is); (case k55l_24 => k_is); (case k55c_24 => k_is); (case k55p_24 => k_is)))
      (case f_added => (refine' K55.gfun ?k55a_25 ?k55l_25 ?k55c_25 ?k55p_25; (case k55a_25 => k_is); (case k55l_25 => k_is); (case k55c_25 => k_is); (case k55p_25 => k_is)))
      (case f_most_of => (refine' K55.gfun ?k55a_26 ?k55l_26 ?k55c_26 ?k55p_26; (case k55a_26 => k_is); (case k55l_26 => k_is); (case k55c_26 => k_is); (case k55p_26 => k_is)))
      (case f_growth_of => (refine' K55.gfun ?k55a_27 ?k55l_27 ?k55c_27 ?k55p_27; (case k55a_27 => k_is); (case k55l_27 => k_is); (case k55c_27 => k_is); (case k55p_27 => k_is)))
      (case f_parted_at => (refine' K55.gfun ?k55a_28 ?k55l_28 ?k55c_28 ?k55p_28; (case k55a_28 => k_is); (case k55l_28 => k_is); (case k55c_28 => k_is); (case k55p_28 => k_is)))
      (case f__law_valley => (refine' K55.gfun ?k55a_29 ?k55l_29 ?k55c_29 ?k55p_29; (case k55a_29 => k_is); (case k55l_29 => k_is); (case k55c_29 => k_is); (case k55p_29 => k_is)))
      (case f__law_climb => (refine' K55.gfun ?k55a_30 ?k55l_30 ?k55c_30 ?k55p_30; (case k55a_30 => k_is); (case k55l_30 => k_is); (case k55c_30 => k_is); (case k55p_30 => k_is)))
      (case f__law_pick => (refine' K55.gfun ?k55a_31 ?k55l_31 ?k55c_31 ?k55p_31; (case k55a_31 => k_is); (case k55l_31 => k_is); (case k55c_31 => k_is); (case k55p_31 => k_is)))
      (case f__law_at => (refine' K55.gfun ?k55a_32 ?k55l_32 ?k55c_32 ?k55p_32; (case k55a_32 => k_is); (case k55l_32 => k_is); (case k55c_32 => k_is); (case k55p_32 => k_is)))
      (case f__law_entry => (refine' K55.gfun ?k55a_33 ?k55l_33 ?k55c_33 ?k55p_33; (case k55a_33 => k_is); (case k55l_33 => k_is); (case k55c_33 => k_is); (case k55p_33 => k_is)))
      (case f__law_rows => (refine' K55.gfun ?k55a_34 ?k55l_34 ?k55c_34 ?k55p_34; (case k55a_34 => k_is); (case k55l_34 => k_is); (case k55c_34 => k_is); (case k55p_34 => k_is)))
      (case f__law_plus => (refine' K55.gfun ?k55a_35 ?k55l_35 ?k55c_35 ?k55p_35; (case k55a_35 => k_is); (case k55l_35 => k_is); (case k55c_35 => k_is); (case k55p_35 => k_is)))
      (case f__law_near => (refine' K55.gfun ?k55a_36 ?k55l_36 ?k55c_36 ?k55p_36; (case k55a_36 => k_is); (case k55l_36 => k_is); (case k55c_36 => k_is); (case k55p_36 => k_is)))
      (case f__law_split => (refine' K55.gfun ?k55a_37 ?k55l_37 ?k55c_37 ?k55p_37; (case k55a_37 => k_is); (case k55l_37 => k_is); (case k55c_37 => k_is); (case k55p_37 => k_is)))
      (case f__law_most => (refine' K55.gfun ?k55a_38 ?k55l_38 ?k55c_38 ?k55p_38; (case k55a_38 => k_is); (case k55l_38 => k_is); (case k55c_38 => k_is); (case k55p_38 => k_is)))
      (case f__law_far_right => (refine' K55.gfun ?k55a_39 ?k55l_39 ?k55c_39 ?k55p_39; (case k55a_39 => k_is); (case k55l_39 => k_is); (case k55c_39 => k_is); (case k55p_39 => k_is)))
      (case f_fixed => (refine' K55.gfun ?k55a_40 ?k55l_40 ?k55c_40 ?k55p_40; (case k55a_40 => k_is); (case k55l_40 => k_is); (case k55c_40 => k_is); (case k55p_40 => k_is)))
      (case f_law => (refine' K55.gfun ?k55a_41 ?k55l_41 ?k55c_41 ?k55p_41; (case k55a_41 => k_is); (case k55l_41 => k_is); (case k55c_41 => k_is); (case k55p_41 => k_is))))
