import PyProof.Rows.All
import Wide.All
import OpenK.AllK
import Wide.FinOn
import HandS.ForExc
import HandS.Comp
import HandS.Iter
import HandS.Conv
import HandS.Zip
import HandS.IsInst
import HandS.Gcd
import HandS.Wide
import HandS.TupAny
import HandS.TupMul
import HandS.Deep
import HandS.Style
import HandS.SortInts
import HandS.Small
import HandS.TryMany
import HandS.ExcIs
import KE.GoesEnum
import PySem.Challenge.RW_sharespromised_k05_whole_first_marks
set_option Elab.async false
set_option linter.all false
set_option maxRecDepth 100000
set_option maxHeartbeats 4000000
namespace Md
open PySem L2
/-! ## plain data, a store of lists, results -/
inductive DV where
  | non | bl (b : Bool) | int (i : Int) | str (s : String) | tup (xs : List DV) | kl (xs : List DV) | ref (n : Nat)
  deriving Inhabited
mutual
def DV.same : DV → DV → Bool
  | .non, .non => true
  | .bl a, .bl b => a == b
  | .int a, .int b => a == b
  | .str a, .str b => a == b
  | .tup a, .tup b => DV.sameL a b
  | .kl a, .kl b => DV.sameL a b
  | .ref a, .ref b => a == b
  | _, _ => false
def DV.sameL : List DV → List DV → Bool
  | [], [] => true
  | x :: xs, y :: ys => DV.same x y && DV.sameL xs ys
  | _, _ => false
end
mutual
theorem DV.same_iff : ∀ a b : DV, DV.same a b = true ↔ a = b
  | .non, b => by cases b <;> simp [DV.same]
  | .bl _, b => by cases b <;> simp [DV.same]
  | .int _, b => by cases b <;> simp [DV.same]
  | .str _, b => by cases b <;> simp [DV.same]
  | .ref _, b => by cases b <;> simp [DV.same]
  | .tup xs, b => by
    cases b with
    | tup ys => simp only [DV.same, DV.tup.injEq]; exact DV.sameL_iff xs ys
    | _ => simp [DV.same]
  | .kl xs, b => by
    cases b with
    | kl ys => simp only [DV.same, DV.kl.injEq]; exact DV.sameL_iff xs ys
    | _ => simp [DV.same]
theorem DV.sameL_iff : ∀ a b : List DV, DV.sameL a b = true ↔ a = b
  | [], b => by cases b <;> simp [DV.sameL]
  | x :: xs, b => by
    cases b with
    | nil => simp [DV.sameL]
    | cons y ys => simp only [DV.sameL, Bool.and_eq_true, List.cons.injEq]; rw [DV.same_iff x y, DV.sameL_iff xs ys]
end
instance : DecidableEq DV := fun a b => decidable_of_iff _ (DV.same_iff a b)
/-- what stands in the store: a list -/
inductive DC where
  | lst (xs : List DV)
  deriving DecidableEq, Inhabited
abbrev DM := List DC
abbrev DE := List (Option DV)
/-- an exception: its class, its field -/
structure DX where
  cls : String
  fld : Option (String × DV) := none
inductive DR (α : Type) where
  | ok (a : α) (μ : DM) | ex (e : DX) (μ : DM) | bad
def DR.bind {α β : Type} (r : DR α) (f : α → DM → DR β) : DR β := match r with
  | .ok a μ => f a μ
  | .ex e μ => .ex e μ
  | .bad => .bad
@[simp] theorem DR.bind_ok {α β : Type} (a : α) (μ : DM) (f : α → DM → DR β) : (DR.ok a μ).bind f = f a μ := rfl
@[simp] theorem DR.bind_ex {α β : Type} (e : DX) (μ : DM) (f : α → DM → DR β) : (DR.ex e μ : DR α).bind f = .ex e μ := rfl
@[simp] theorem DR.bind_bad {α β : Type} (f : α → DM → DR β) : (DR.bad : DR α).bind f = .bad := rfl
def DR.noex {α : Type} (r : DR α) : DR α := match r with
  | .ok a μ => .ok a μ
  | _ => .bad
@[simp] theorem DR.noex_ok {α : Type} (a : α) (μ : DM) : (DR.ok a μ).noex = .ok a μ := rfl
inductive SR where
  | nx (ρ : DE) (μ : DM) | rt (v : DV) (μ : DM) | ex (e : DX) (ρ : DE) (μ : DM) | bk (ρ : DE) (μ : DM) | ct (ρ : DE) (μ : DM) | bad
abbrev EM := DE → DM → DR DV
abbrev LM := DE → DM → DR (List DV)
abbrev BM := DE → DM → DR Bool
abbrev SM := DE → DM → SR
abbrev Fn := List DV → DM → DR DV
/-- a length that the machine carries -/
abbrev LIM : Nat := 16777216
theorem lim_line : LIM = sizeLine := by rw [sizeLine_eq]
mutual
def DV.und (n : Nat) : DV → Bool
  | .ref m => decide (m < n)
  | .tup xs => DV.undL n xs
  | .kl xs => DV.undL n xs
  | _ => true
def DV.undL (n : Nat) : List DV → Bool
  | [] => true
  | x :: xs => DV.und n x && DV.undL n xs
end
def DC.und (n : Nat) : DC → Bool
  | .lst xs => DV.undL n xs
/-- what a call leaves: the new lists go where nothing leads to them -/
def tidyOk (μ0 : DM) (v : DV) (μ : DM) : Prop := v.und μ0.length = true ∧ μ0.length ≤ μ.length ∧ ∀ i, i < μ0.length → μ[i]? = μ0[i]? ∨ ((μ[i]?).all fun c => c.und μ0.length) = true
instance (μ0 : DM) (v : DV) (μ : DM) : Decidable (tidyOk μ0 v μ) := by unfold tidyOk; infer_instance
def tidy (μ0 : DM) (v : DV) (μ : DM) : DR DV := if tidyOk μ0 v μ then .ok v (μ.take μ0.length) else .ok v μ

/-! ## how data lie in the heap -/
/-- a list that nobody changes: the script, a list of the written part -/
def FrL (K : PySem.W.Frag) (H : Hp) (a : Addr) (xs : List V) : Prop :=
  (∃ o, H a = some (.frz o (.lst xs))) ∨
    ∃ (o : Obj) (its : Array Value) (n : Nat), K.lookup a = some o ∧ o.cls = .type "list" ∧ o.dict = none ∧ o.data = .seq its n ∧ its.size ≤ sizeLine ∧ Vals xs its.toList
theorem FrL.sq {K : PySem.W.Frag} {H : Hp} {a : Addr} {xs : List V} (h : FrL K H a xs) : SqL K H a xs := h.imp (fun z => .inr z) id
section
variable (K : PySem.W.Frag)
mutual
def Rp (θ : List Addr) (H : Hp) : DV → V → Prop
  | .non, v => v = .non
  | .bl b, v => v = .bl b
  | .int i, v => v = .int i
  | .str s, v => v = .str (Str.ofString s)
  | .tup xs, v => ∃ a vs, v = .ref a ∧ SqT K H a vs ∧ RpL θ H xs vs
  | .kl xs, v => ∃ a vs, v = .ref a ∧ FrL K H a vs ∧ RpL θ H xs vs
  | .ref n, v => ∃ a, θ[n]? = some a ∧ v = .ref a
def RpL (θ : List Addr) (H : Hp) : List DV → List V → Prop
  | [], vs => vs = []
  | x :: xs, vs => ∃ w ws, vs = w :: ws ∧ Rp θ H x w ∧ RpL θ H xs ws
end
def CellAt (θ : List Addr) (H : Hp) (a : Addr) : DC → Prop
  | .lst xs => ∃ vs, H a = some (.lst vs) ∧ RpL K θ H xs vs
structure Sto (θ : List Addr) (H : Hp) (μ : DM) : Prop where
  len : θ.length = μ.length
  nd : θ.Nodup
  cell : ∀ (n : Nat) (a : Addr) (c : DC), θ[n]? = some a → μ[n]? = some c → CellAt K θ H a c
structure RpE (θ : List Addr) (H : Hp) (ρ : DE) (σ : L2.St) : Prop where
  len : ρ.length = σ.length
  at' : ∀ (i : Nat) (v : DV), ρ[i]? = some (some v) → ∃ w, σ[i]? = some (some w) ∧ Rp K θ H v w
end
/-- what is never changed -/
def Fx : HO → Prop
  | .tup _ => True
  | .frz _ _ => True
  | _ => False
/-- later: more lists may be there, what is not in the store stands -/
structure Lt (θ θ' : List Addr) (H H' : Hp) : Prop where
  pre : ∃ t, θ' = θ ++ t
  new : ∀ a ∈ θ', a ∈ θ ∨ H a = none
  keep : ∀ a o, H a = some o → (a ∉ θ ∨ Fx o) → H' a = some o
theorem Lt.refl {θ : List Addr} {H : Hp} : Lt θ θ H H := ⟨⟨[], by simp⟩, fun a h => .inl h, fun a o h _ => h⟩
theorem Lt.trans {θ θ1 θ2 : List Addr} {H H1 H2 : Hp} (x : Lt θ θ1 H H1) (y : Lt θ1 θ2 H1 H2) : Lt θ θ2 H H2 := by
  obtain ⟨t1, e1⟩ := x.pre
  obtain ⟨t2, e2⟩ := y.pre
  refine ⟨⟨t1 ++ t2, by rw [e2, e1, List.append_assoc]⟩, fun a ha => ?_, fun a o h hf => ?_⟩
  · rcases y.new a ha with h | h
    · exact x.new a h
    · by_cases ht : a ∈ θ
      · exact .inl ht
      · cases q : H a with
        | none => exact .inr rfl
        | some o => rw [x.keep a o q (.inl ht)] at h; cases h
  · have h1 := x.keep a o h hf
    refine y.keep a o h1 (hf.imp (fun hn ht => ?_) id)
    rcases x.new a ht with z | z
    · exact hn z
    · rw [z] at h; cases h
section
variable {K : PySem.W.Frag} {θ θ' : List Addr} {H H' : Hp}
theorem Lt.sqT (x : Lt θ θ' H H') {a : Addr} {vs : List V} (h : SqT K H a vs) : SqT K H' a vs := by
  rcases h with (h | ⟨o, h⟩) | h
  · exact .inl (.inl (x.keep a _ h (.inr trivial)))
  · exact .inl (.inr ⟨o, x.keep a _ h (.inr trivial)⟩)
  · exact .inr h
theorem Lt.frL (x : Lt θ θ' H H') {a : Addr} {vs : List V} (h : FrL K H a vs) : FrL K H' a vs := h.imp (fun ⟨o, e⟩ => ⟨o, x.keep a _ e (.inr trivial)⟩) id
/-- what data lean on stands -/
structure Stay (K : PySem.W.Frag) (θ θ' : List Addr) (H H' : Hp) : Prop where
  t : ∀ a vs, SqT K H a vs → SqT K H' a vs
  f : ∀ a vs, FrL K H a vs → FrL K H' a vs
  g : ∀ (n : Nat) (a : Addr), θ[n]? = some a → θ'[n]? = some a
theorem Lt.get (x : Lt θ θ' H H') {n : Nat} {a : Addr} (h : θ[n]? = some a) : θ'[n]? = some a := by
  obtain ⟨t, e⟩ := x.pre
  rw [e, List.getElem?_append_left (List.getElem?_eq_some_iff.mp h).1]
  exact h
mutual
/-- data stand where tuples stand and the store grows -/
theorem Rp.of (hs : Stay K θ θ' H H') : ∀ (v : DV) (w : V), Rp K θ H v w → Rp K θ' H' v w
  | .non, _, h => h
  | .bl _, _, h => h
  | .int _, _, h => h
  | .str _, _, h => h
  | .tup xs, w, h => by
    obtain ⟨a, vs, e, s, r⟩ := h
    exact ⟨a, vs, e, hs.t a vs s, RpL.of hs xs vs r⟩
  | .kl xs, w, h => by
    obtain ⟨a, vs, e, s, r⟩ := h
    exact ⟨a, vs, e, hs.f a vs s, RpL.of hs xs vs r⟩
  | .ref n, w, h => by
    obtain ⟨a, e, r⟩ := h
    exact ⟨a, hs.g n a e, r⟩
theorem RpL.of (hs : Stay K θ θ' H H') : ∀ (xs : List DV) (ws : List V), RpL K θ H xs ws → RpL K θ' H' xs ws
  | [], _, h => h
  | x :: xs, w, h => by
    obtain ⟨v, vs, e, r, rs⟩ := h
    exact ⟨v, vs, e, Rp.of hs x v r, RpL.of hs xs vs rs⟩
end
theorem Lt.stay (x : Lt θ θ' H H') : Stay K θ θ' H H' := ⟨fun _ _ => x.sqT, fun _ _ => x.frL, fun _ _ => x.get⟩
theorem Lt.rp (x : Lt θ θ' H H') {v : DV} {w : V} (h : Rp K θ H v w) : Rp K θ' H' v w := Rp.of x.stay v w h
theorem Lt.rpL (x : Lt θ θ' H H') {v : List DV} {w : List V} (h : RpL K θ H v w) : RpL K θ' H' v w := RpL.of x.stay v w h
theorem Lt.rpE (x : Lt θ θ' H H') {ρ : DE} {σ : L2.St} (h : RpE K θ H ρ σ) : RpE K θ' H' ρ σ := ⟨h.len, fun i v e => let ⟨w, e1, r⟩ := h.at' i v e; ⟨w, e1, x.rp r⟩⟩
theorem RpL.len : ∀ {xs : List DV} {ws : List V}, RpL K θ H xs ws → xs.length = ws.length
  | [], _, h => by cases h; rfl
  | x :: xs, w, h => by
    obtain ⟨v, vs, e, r, rs⟩ := h
    subst e
    simp [RpL.len rs]
theorem RpL.get : ∀ {xs : List DV} {ws : List V} {i : Nat} {x : DV}, RpL K θ H xs ws → xs[i]? = some x → ∃ w, ws[i]? = some w ∧ Rp K θ H x w
  | [], _, i, x, _, e => by simp at e
  | y :: ys, w, i, x, h, e => by
    obtain ⟨v, vs, rfl, r, rs⟩ := h
    cases i with
    | zero => simp at e; subst e; exact ⟨v, rfl, r⟩
    | succ i => simp at e; obtain ⟨u, h1, h2⟩ := RpL.get rs e; exact ⟨u, by simpa using h1, h2⟩
theorem RpL.app : ∀ {xs ys : List DV} {vs ws : List V}, RpL K θ H xs vs → RpL K θ H ys ws → RpL K θ H (xs ++ ys) (vs ++ ws)
  | [], _, _, _, h, g => by cases h; exact g
  | x :: xs, _, _, _, h, g => by
    obtain ⟨v, vs, rfl, r, rs⟩ := h
    exact ⟨v, _, rfl, r, RpL.app rs g⟩
theorem RpL.one {x : DV} {w : V} (h : Rp K θ H x w) : RpL K θ H [x] [w] := ⟨w, [], rfl, h, rfl⟩
theorem RpL.drop : ∀ {xs : List DV} {ws : List V} (n : Nat), RpL K θ H xs ws → RpL K θ H (xs.drop n) (ws.drop n)
  | _, _, 0, h => h
  | [], _, n + 1, h => by cases h; exact rfl
  | x :: xs, _, n + 1, h => by
    obtain ⟨v, vs, rfl, r, rs⟩ := h
    exact RpL.drop n rs
theorem RpL.take : ∀ {xs : List DV} {ws : List V} (n : Nat), RpL K θ H xs ws → RpL K θ H (xs.take n) (ws.take n)
  | _, _, 0, h => by simp [RpL]
  | [], _, n + 1, h => by cases h; exact rfl
  | x :: xs, _, n + 1, h => by
    obtain ⟨v, vs, rfl, r, rs⟩ := h
    exact ⟨v, _, rfl, r, RpL.take n rs⟩
theorem RpL.set : ∀ {xs : List DV} {ws : List V} {x : DV} {w : V} (n : Nat), RpL K θ H xs ws → Rp K θ H x w → RpL K θ H (xs.set n x) (ws.set n w)
  | [], _, _, _, n, h, _ => by cases h; simp [RpL]
  | x :: xs, _, _, _, 0, h, g => by
    obtain ⟨v, vs, rfl, r, rs⟩ := h
    exact ⟨_, _, rfl, g, rs⟩
  | x :: xs, _, _, _, n + 1, h, g => by
    obtain ⟨v, vs, rfl, r, rs⟩ := h
    exact ⟨_, _, rfl, r, RpL.set n rs g⟩
theorem RpL.erase : ∀ {xs : List DV} {ws : List V} (n : Nat), RpL K θ H xs ws → RpL K θ H (xs.eraseIdx n) (ws.eraseIdx n)
  | [], _, n, h => by cases h; simp [RpL]
  | x :: xs, _, 0, h => by
    obtain ⟨v, vs, rfl, r, rs⟩ := h
    exact rs
  | x :: xs, _, n + 1, h => by
    obtain ⟨v, vs, rfl, r, rs⟩ := h
    exact ⟨_, _, rfl, r, RpL.erase n rs⟩
theorem RpL.ints : ∀ {ns : List Int} {ws : List V}, RpL K θ H (ns.map DV.int) ws → ws = ns.map V.int
  | [], _, h => by cases h; rfl
  | n :: ns, _, h => by
    obtain ⟨v, vs, rfl, r, rs⟩ := h
    cases r
    rw [RpL.ints rs]; rfl
theorem RpL.of_ints : ∀ {ns : List Int}, RpL K θ H (ns.map DV.int) (ns.map V.int)
  | [] => rfl
  | n :: ns => ⟨_, _, rfl, rfl, RpL.of_ints⟩
theorem RpL.bls : ∀ {ns : List Bool} {ws : List V}, RpL K θ H (ns.map DV.bl) ws → ws = ns.map V.bl
  | [], _, h => by cases h; rfl
  | n :: ns, _, h => by
    obtain ⟨v, vs, rfl, r, rs⟩ := h
    cases r
    rw [RpL.bls rs]; rfl
theorem RpL.rep {xs : List DV} {ws : List V} (h : RpL K θ H xs ws) : ∀ k : Nat, RpL K θ H (List.replicate k xs).flatten (List.replicate k ws).flatten
  | 0 => rfl
  | k + 1 => by
    rw [List.replicate_succ, List.replicate_succ, List.flatten_cons, List.flatten_cons]
    exact RpL.app h (RpL.rep h k)
/-! ### stores -/
theorem Sto.lt {μ : DM} (s : Sto K θ H μ) {n : Nat} {c : DC} (h : μ[n]? = some c) : ∃ a, θ[n]? = some a ∧ CellAt K θ H a c := by
  have hn := (List.getElem?_eq_some_iff.mp h).1
  obtain ⟨a, ha⟩ : ∃ a, θ[n]? = some a := ⟨θ[n]'(by rw [s.len]; exact hn), by simp [s.len, hn]⟩
  exact ⟨a, ha, s.cell n a c ha h⟩
theorem CellAt.of (hs : Stay K θ θ' H H') {a : Addr} {c : DC} (ha : H' a = H a) (h : CellAt K θ H a c) : CellAt K θ' H' a c := by
  cases c with
  | lst xs =>
    obtain ⟨vs, e, r⟩ := h
    exact ⟨vs, by rw [ha]; exact e, RpL.of hs xs vs r⟩
/-- a new tuple is laid -/
theorem Lt.laid {p : Addr} {o : HO} (hp : H p = none) : Lt θ θ H (upd H p o) := ⟨⟨[], by simp⟩, fun a h => .inl h, fun a u h _ => by rw [upd_ne (ne_of_none h hp)]; exact h⟩
theorem sqT_laid {p : Addr} {o : HO} (hp : H p = none) {a : Addr} {vs : List V} (h : SqT K H a vs) : SqT K (upd H p o) a vs := (Lt.laid (θ := []) hp).sqT h
theorem Sto.free {μ : DM} (s : Sto K θ H μ) {p : Addr} {o : HO} (hp : H p = none) (hθ : p ∉ θ) : Sto K θ (upd H p o) μ :=
  ⟨s.len, s.nd, fun n a c h1 h2 => (s.cell n a c h1 h2).of (Lt.laid hp).stay (upd_ne fun e => hθ (e ▸ List.mem_of_getElem? h1))⟩
end
end Md

namespace Md
open PySem L2
/-! ## what a computation over plain data promises -/
theorem Sto.out {K : PySem.W.Frag} {θ : List Addr} {H : Hp} {μ : DM} (s : Sto K θ H μ) {p : Addr} (hp : H p = none) : p ∉ θ := fun h => by
  obtain ⟨n, hn, e⟩ := List.getElem_of_mem h
  have h1 : θ[n]? = some p := by rw [List.getElem?_eq_getElem hn, e]
  have h2 : μ[n]? = some (μ[n]'(by rw [← s.len]; exact hn)) := List.getElem?_eq_getElem _
  have h3 := s.cell n p _ h1 h2
  revert h3
  cases μ[n]'(by rw [← s.len]; exact hn) with
  | lst xs =>
    rintro ⟨vs, e, _⟩
    rw [hp] at e; cases e
theorem Sto.fr {K : PySem.W.Frag} {θ : List Addr} {H : Hp} {μ : DM} (s : Sto K θ H μ) {p : Addr} {o : HO} (hp : H p = none) : Sto K θ (upd H p o) μ := s.free hp (s.out hp)
/-- a new list goes to the store -/
theorem Sto.push {K : PySem.W.Frag} {θ : List Addr} {H : Hp} {μ : DM} (s : Sto K θ H μ) {p : Addr} {xs : List DV} {vs : List V} (hp : p ∉ θ) (h : H p = some (.lst vs)) (r : RpL K θ H xs vs) : Sto K (θ ++ [p]) H (μ ++ [.lst xs]) := by
  have hs : Stay K θ (θ ++ [p]) H H := ⟨fun _ _ h => h, fun _ _ h => h, fun n a h => by rw [List.getElem?_append_left (List.getElem?_eq_some_iff.mp h).1]; exact h⟩
  refine ⟨by simp [s.len], List.nodup_append.mpr ⟨s.nd, by simp, fun a h1 b h2 => by simp at h2; subst h2; exact fun e => hp (e ▸ h1)⟩, fun n a c h1 h2 => ?_⟩
  by_cases hn : n < θ.length
  · rw [List.getElem?_append_left hn] at h1
    rw [List.getElem?_append_left (by rw [← s.len]; exact hn)] at h2
    exact (s.cell n a c h1 h2).of hs rfl
  · have hn' : n = θ.length := by
      have := (List.getElem?_eq_some_iff.mp h1).1
      simp at this; omega
    subst hn'
    rw [List.getElem?_append_right (Nat.le_refl _)] at h1
    rw [List.getElem?_append_right (by rw [← s.len]; exact Nat.le_refl _), s.len] at h2
    simp at h1 h2
    subst h1; subst h2
    exact ⟨vs, h, RpL.of hs xs vs r⟩
theorem Lt.push {θ : List Addr} {H : Hp} {p : Addr} {o : HO} (hp : H p = none) : Lt θ (θ ++ [p]) H (upd H p o) :=
  ⟨⟨[p], rfl⟩, fun a h => by
    rcases List.mem_append.mp h with h | h
    · exact .inl h
    · simp at h; subst h; exact .inr hp, fun a u h _ => by rw [upd_ne (ne_of_none h hp)]; exact h⟩
/-- a list of the store is changed -/
theorem Sto.put {K : PySem.W.Frag} {θ : List Addr} {H : Hp} {μ : DM} (s : Sto K θ H μ) {n : Nat} {p : Addr} {xs : List DV} {vs ws : List V} (hn : θ[n]? = some p) (h : H p = some (.lst vs)) (r : RpL K θ H xs ws) :
    Sto K θ (upd H p (.lst ws)) (μ.set n (.lst xs)) ∧ Lt θ θ H (upd H p (.lst ws)) := by
  have lt : Lt θ θ H (upd H p (.lst ws)) := ⟨⟨[], by simp⟩, fun a h => .inl h, fun a u e hf => by
    rw [upd_ne fun q => ?_]
    · exact e
    · subst q
      rw [h] at e; cases e
      exact hf.elim (fun z => z (List.mem_of_getElem? hn)) id⟩
  refine ⟨⟨by simp [s.len], s.nd, fun m a c h1 h2 => ?_⟩, lt⟩
  by_cases hm : m = n
  · subst hm
    rw [hn] at h1; cases h1
    have hl : m < μ.length := by rw [← s.len]; exact (List.getElem?_eq_some_iff.mp hn).1
    rw [List.getElem?_set_self hl] at h2
    cases h2
    exact ⟨ws, upd_same, lt.rpL r⟩
  · rw [List.getElem?_set_ne (Ne.symm hm)] at h2
    have hne : a ≠ p := fun e => by
      subst e
      have e1 := (List.getElem?_eq_some_iff.mp h1)
      have e2 := (List.getElem?_eq_some_iff.mp hn)
      exact hm ((List.getElem_inj s.nd).mp (e1.2.trans e2.2.symm))
    exact (s.cell m a c h1 h2).of lt.stay (upd_ne hne)
section
variable (K : PySem.W.Frag) (xt : String → Option Addr) (W : WX)
def RpX (θ : List Addr) (H : Hp) (e : DX) (cls : Value) (d : Option Addr) : Prop := ∃ A, xt e.cls = some A ∧ cls = .ref A ∧ match e.fld with
  | none => d = none
  | some (f, v) => ∃ dx w, d = some dx ∧ H dx = some (.xd [(Str.ofString f, w)]) ∧ Rp K θ H v w
def Po {α β : Type} (R : List Addr → Hp → α → β → Prop) (r : DR α) (θ : List Addr) (H : Hp) (σ : L2.St) (Q : β → Hp → Prop) : Prop := match r with
  | .ok v μ => ∀ θ' H' w, Lt θ θ' H H' → Sto K θ' H' μ → R θ' H' v w → Q w H'
  | .ex e μ => ∀ θ' H' cls d, Lt θ θ' H H' → Sto K θ' H' μ → RpX K xt θ' H' e cls d → W cls d σ H'
  | .bad => False
def tG {α β : Type} (R : List Addr → Hp → α → β → Prop) (m : DE → DM → DR α) : L2.St → Hp → (β → Hp → Prop) → Prop := fun σ H Q =>
  ∃ θ ρ μ, RpE K θ H ρ σ ∧ Sto K θ H μ ∧ Po K xt W R (m ρ μ) θ H σ Q
abbrev tE (m : EM) : TE := tG K xt W (Rp K) m
abbrev tAs (m : LM) : TA := tG K xt W (RpL K) m
abbrev tTs (m : BM) : TT := tG K xt W (fun _ _ b c => b = c) m
/-- a list that is new, and not in the store -/
def PoF (r : DR (List DV)) (θ : List Addr) (H : Hp) (σ : L2.St) (Q : VK) : Prop := match r with
  | .ok xs μ => ∀ θ' H' a vs, Lt θ θ' H H' → Sto K θ' H' μ → H a = none → a ∉ θ' → H' a = some (.lst vs) → RpL K θ' H' xs vs → Q (.ref a) H'
  | .ex e μ => ∀ θ' H' cls d, Lt θ θ' H H' → Sto K θ' H' μ → RpX K xt θ' H' e cls d → W cls d σ H'
  | .bad => False
def tFr (m : LM) : TE := fun σ H Q => ∃ θ ρ μ, RpE K θ H ρ σ ∧ Sto K θ H μ ∧ PoF K xt W (m ρ μ) θ H σ Q
def PoS (r : SR) (θ : List Addr) (H : Hp) (D : Ends) : Prop := match r with
  | .nx ρ μ => ∀ θ' H' σ', Lt θ θ' H H' → RpE K θ' H' ρ σ' → Sto K θ' H' μ → D.nx σ' H'
  | .rt v μ => ∀ θ' H' w, Lt θ θ' H H' → Sto K θ' H' μ → Rp K θ' H' v w → D.rt w H'
  | .ex e ρ μ => ∀ θ' H' σ' cls d, Lt θ θ' H H' → RpE K θ' H' ρ σ' → Sto K θ' H' μ → RpX K xt θ' H' e cls d → W cls d σ' H'
  | .bk ρ μ => ∀ θ' H' σ', Lt θ θ' H H' → RpE K θ' H' ρ σ' → Sto K θ' H' μ → D.bk σ' H'
  | .ct ρ μ => ∀ θ' H' σ', Lt θ θ' H H' → RpE K θ' H' ρ σ' → Sto K θ' H' μ → D.ct σ' H'
  | .bad => False
def tSt (m : SM) : TS := fun D σ H => ∃ θ ρ μ, RpE K θ H ρ σ ∧ Sto K θ H μ ∧ PoS K xt W (m ρ μ) θ H D
end
section
variable {K : PySem.W.Frag} {xt : String → Option Addr} {W : WX} {α β α' β' : Type} {R : List Addr → Hp → α → β → Prop} {R' : List Addr → Hp → α' → β' → Prop} {θ θ' : List Addr} {H H' : Hp} {σ : L2.St}
theorem Po.later {r : DR α} {Q : β → Hp → Prop} (h : Po K xt W R r θ H σ Q) (x : Lt θ θ' H H') : Po K xt W R r θ' H' σ Q := by
  cases r with
  | ok v μ => exact fun θ2 H2 w l => h θ2 H2 w (x.trans l)
  | ex e μ => exact fun θ2 H2 c d l => h θ2 H2 c d (x.trans l)
  | bad => exact h
theorem Po.imp {r : DR α} {Q Q' : β → Hp → Prop} (h : Po K xt W R r θ H σ Q) (q : ∀ w H', Q w H' → Q' w H') : Po K xt W R r θ H σ Q' := by
  cases r with
  | ok v μ => exact fun θ2 H2 w l s p => q _ _ (h θ2 H2 w l s p)
  | ex e μ => exact h
  | bad => exact h
/-- the first of two -/
theorem Po.bind {r : DR α} {k : α → DM → DR α'} {Q : β' → Hp → Prop} (h : Po K xt W R' (r.bind k) θ H σ Q) :
    Po K xt W R r θ H σ fun w H1 => ∃ θ1 μ1 v, Lt θ θ1 H H1 ∧ Sto K θ1 H1 μ1 ∧ R θ1 H1 v w ∧ Po K xt W R' (k v μ1) θ1 H1 σ Q := by
  cases r with
  | ok v μ => exact fun θ2 H2 w l s p => ⟨θ2, μ, v, l, s, p, Po.later h l⟩
  | ex e μ => exact h
  | bad => exact h
theorem Po.ret {v : α} {μ : DM} {w : β} {Q : β → Hp → Prop} (h : Po K xt W R (.ok v μ) θ H σ Q) (s : Sto K θ H μ) (r : R θ H v w) : Q w H := h θ H w .refl s r
theorem Po.noex {r : DR α} {Q : β → Hp → Prop} {W' : WX} (h : Po K xt W R r.noex θ H σ Q) : Po K xt W' R r θ H σ Q := by
  cases r with
  | ok v μ => exact h
  | ex e μ => exact False.elim h
  | bad => exact h
theorem PoF.imp {r : DR (List DV)} {Q Q' : VK} (h : PoF K xt W r θ H σ Q) (q : ∀ w H', Q w H' → Q' w H') : PoF K xt W r θ H σ Q' := by
  cases r with
  | ok v μ => exact fun θ2 H2 a vs l s h0 hn ha p => q _ _ (h θ2 H2 a vs l s h0 hn ha p)
  | ex e μ => exact h
  | bad => exact h
/-- what a new list is for the next one -/
def FrAt (K : PySem.W.Frag) (θ : List Addr) (H : Hp) (θ1 : List Addr) (H1 : Hp) (μ1 : DM) (xs : List DV) (w : V) : Prop :=
  ∃ a vs, w = .ref a ∧ Lt θ θ1 H H1 ∧ Sto K θ1 H1 μ1 ∧ H a = none ∧ a ∉ θ1 ∧ H1 a = some (.lst vs) ∧ RpL K θ1 H1 xs vs
theorem PoF.bind {r : DR (List DV)} {k : List DV → DM → DR α'} {Q : β' → Hp → Prop} (h : Po K xt W R' (r.bind k) θ H σ Q) :
    PoF K xt W r θ H σ fun w H1 => ∃ θ1 μ1 xs, FrAt K θ H θ1 H1 μ1 xs w ∧ ∀ θ2 H2, Lt θ θ2 H H2 → Po K xt W R' (k xs μ1) θ2 H2 σ Q := by
  cases r with
  | ok v μ => exact fun θ2 H2 a vs l s h0 hn ha p => ⟨θ2, μ, v, ⟨a, vs, rfl, l, s, h0, hn, ha, p⟩, fun _ _ l => Po.later h l⟩
  | ex e μ => exact h
  | bad => exact h
theorem PoS.later {r : SR} {D : Ends} (h : PoS K xt W r θ H D) (x : Lt θ θ' H H') : PoS K xt W r θ' H' D := by
  cases r with
  | nx ρ μ => exact fun θ2 H2 σ l => h θ2 H2 σ (x.trans l)
  | rt v μ => exact fun θ2 H2 w l => h θ2 H2 w (x.trans l)
  | ex e ρ μ => exact fun θ2 H2 σ c d l => h θ2 H2 σ c d (x.trans l)
  | bk ρ μ => exact fun θ2 H2 σ l => h θ2 H2 σ (x.trans l)
  | ct ρ μ => exact fun θ2 H2 σ l => h θ2 H2 σ (x.trans l)
  | bad => exact h
/-- an expression's end within a statement -/
def DR.st {α : Type} (r : DR α) (ρ : DE) (k : α → DM → SR) : SR := match r with
  | .ok v μ => k v μ
  | .ex e μ => .ex e ρ μ
  | .bad => .bad
@[simp] theorem DR.st_ok {α : Type} (a : α) (μ : DM) (ρ : DE) (f : α → DM → SR) : (DR.ok a μ).st ρ f = f a μ := rfl
@[simp] theorem DR.st_ex {α : Type} (e : DX) (μ : DM) (ρ : DE) (f : α → DM → SR) : (DR.ex e μ : DR α).st ρ f = .ex e ρ μ := rfl
theorem Po.st {r : DR α} {ρ : DE} {k : α → DM → SR} {D : Ends} (he : RpE K θ H ρ σ) (h : PoS K xt W (r.st ρ k) θ H D) :
    Po K xt W R r θ H σ fun w H1 => ∃ θ1 μ1 v, Lt θ θ1 H H1 ∧ Sto K θ1 H1 μ1 ∧ R θ1 H1 v w ∧ PoS K xt W (k v μ1) θ1 H1 D := by
  cases r with
  | ok v μ => exact fun θ2 H2 w l s p => ⟨θ2, μ, v, l, s, p, PoS.later h l⟩
  | ex e μ => exact fun θ2 H2 c d l s p => h θ2 H2 σ c d l (l.rpE he) s p
  | bad => exact h
end
theorem imE {X : Cx} {e : Expr} {t t' : TE} (h : PE X e t) (i : ∀ σ H Q, t' σ H Q → t σ H Q) : PE X e t' := ⟨fun pins s σ H Q I q => h.run pins s σ H Q I (i σ H Q q)⟩
theorem imT {X : Cx} {e : Expr} {t t' : TT} (h : PT X e t) (i : ∀ σ H Q, t' σ H Q → t σ H Q) : PT X e t' := ⟨fun pins s σ H Q I q => h.run pins s σ H Q I (i σ H Q q)⟩
theorem imW {X : Cx} {e : Expr} {t t' : TT} (h : PW X e t) (i : ∀ σ H Q, t' σ H Q → t σ H Q) : PW X e t' := ⟨fun wh pins s σ H Q I q => h.run wh pins s σ H Q I (i σ H Q q)⟩
theorem imA {X : Cx} {e : List Expr} {t t' : TA} (h : PA X e t) (i : ∀ σ H Q, t' σ H Q → t σ H Q) : PA X e t' := ⟨fun pos pins s σ H Q I q => h.run pos pins s σ H Q I (i σ H Q q)⟩
theorem imS {X : Cx} {e : Stmt} {t t' : TS} (h : PS X e t) (i : ∀ D σ H, t' D σ H → t D σ H) : PS X e t' := ⟨fun pins s σ H Q I q => h.run pins s σ H Q I (i Q σ H q)⟩
theorem imSs {X : Cx} {e : List Stmt} {t t' : TS} (h : PSs X e t) (i : ∀ D σ H, t' D σ H → t D σ H) : PSs X e t' := ⟨fun pins s σ H Q I q => h.run pins s σ H Q I (i Q σ H q)⟩
theorem imO {X : Cx} {f : Value → Value → Sem Value} {r r' : R2} (h : OpR X f r) (i : ∀ x y H Q, r' x y H Q → r x y H Q) : OpR X f r' := fun pins s σ H x y v u Q I rx ry q => h pins s σ H x y v u Q I rx ry (i _ _ _ _ q)
theorem imC {X : Cx} {f : Value} {r r' : List V → Hp → VK → Prop} (h : CallR X f r) (i : ∀ x H Q, r' x H Q → r x H Q) : CallR X f r' := fun pins s σ H xs us Q I rx q => h pins s σ H xs us Q I rx (i _ _ _ q)

section
variable {X : Cx} {xt : String → Option Addr} {W : WX} {a b c e : Expr} {es : List Expr} {pos : Pos}
abbrev DEx (xt : String → Option Addr) (W : WX) (X : Cx) (e : Expr) (m : EM) : Prop := PE X e (tE X.K xt W m)
abbrev DAs (xt : String → Option Addr) (W : WX) (X : Cx) (e : List Expr) (m : LM) : Prop := PA X e (tAs X.K xt W m)
abbrev DTs (xt : String → Option Addr) (W : WX) (X : Cx) (e : Expr) (m : BM) : Prop := PT X e (tTs X.K xt W m)
abbrev DWs (xt : String → Option Addr) (W : WX) (X : Cx) (e : Expr) (m : BM) : Prop := PW X e (tTs X.K xt W m)
abbrev DFr (xt : String → Option Addr) (W : WX) (X : Cx) (e : Expr) (m : LM) : Prop := PE X e (tFr X.K xt W m)
abbrev DSt (xt : String → Option Addr) (W : WX) (X : Cx) (e : Stmt) (m : SM) : Prop := PS X e (tSt X.K xt W m)
abbrev DSs (xt : String → Option Addr) (W : WX) (X : Cx) (e : List Stmt) (m : SM) : Prop := PSs X e (tSt X.K xt W m)

/-! ### names, constants -/
def mVar (i : Nat) : EM := fun ρ μ => match ρ[i]? with
  | some (some v) => .ok v μ
  | _ => .bad
theorem d_var (i : Nat) {x : Str} (hN : X.N[i]? = some x := by rfl) (hv : Vis X.env.scope x := by first | exact Or.inl rfl | exact Or.inr (Or.inl rfl) | exact Or.inr (Or.inr rfl)) (hd : (x == ("__debug__" : Str)) = false := by decide)
    (hcd : (x == ("__classdict__" : Str)) = false := by decide) : DEx xt W X (.Name x pos) (mVar i) := by
  refine imE (pe_var hN hv hd hcd) fun σ H Q ⟨θ, ρ, μ, he, hs, q⟩ => ?_
  unfold mVar at q
  split at q
  · rename_i v hv'
    obtain ⟨w, e1, r⟩ := he.at' i v hv'
    exact ⟨w, e1, q.ret hs r⟩
  · exact q.elim
def mC (v : DV) : EM := fun _ μ => .ok v μ
theorem d_int {i : Int} {j : Nat} : DEx xt W X (.Constant (.int i) j pos) (mC (.int i)) := imE pe_int fun _ _ _ ⟨_, _, _, _, hs, q⟩ => q.ret hs rfl
theorem d_bl {i : Bool} {j : Nat} : DEx xt W X (.Constant (.bool i) j pos) (mC (.bl i)) := imE pe_bl fun _ _ _ ⟨_, _, _, _, hs, q⟩ => q.ret hs rfl
theorem d_non {j : Nat} : DEx xt W X (.Constant .none j pos) (mC .non) := imE pe_non fun _ _ _ ⟨_, _, _, _, hs, q⟩ => q.ret hs rfl
theorem d_str (s : String) {j : Nat} : DEx xt W X (.Constant (.str (Str.ofString s)) j pos) (mC (.str s)) := imE pe_str fun _ _ _ ⟨_, _, _, _, hs, q⟩ => q.ret hs rfl
/-- a module's constant -/
theorem d_glob {x : Str} {v : V} {d : DV} {u : Value} (hg : Gl X x) (hm : X.mg x = some u) (r : RelV v u) (hr : ∀ θ H, Rp X.K θ H d v) (hd : (x == ("__debug__" : Str)) = false := by decide) : DEx xt W X (.Name x pos) (mC d) :=
  imE (pe_glob hg hm r hd) fun _ _ _ ⟨_, _, _, _, hs, q⟩ => q.ret hs (hr _ _)

/-! ### rows of arguments, displays -/
def mNil : LM := fun _ μ => .ok [] μ
def mCons (m : EM) (ms : LM) : LM := fun ρ μ => (m ρ μ).bind fun v μ => (ms ρ μ).bind fun vs μ => .ok (v :: vs) μ
theorem d_anil : DAs xt W X [] mNil := imA pa_nil fun _ _ _ ⟨_, _, _, _, hs, q⟩ => q.ret hs rfl
theorem d_acons {m : EM} {ms : LM} (h : DEx xt W X e m) (hs : DAs xt W X es ms) (hst : starEach (e :: es) X.env = (false, eval e X.env) :: starEach es X.env := by rfl) : DAs xt W X (e :: es) (mCons m ms) := by
  refine imA (pa_cons h hs hst) fun σ H Q ⟨θ, ρ, μ, he, hs, q⟩ => ⟨θ, ρ, μ, he, hs, ?_⟩
  refine q.bind.imp fun w H1 ⟨θ1, μ1, v, l1, s1, r1, q1⟩ => ⟨θ1, ρ, μ1, l1.rpE he, s1, ?_⟩
  refine q1.bind.imp fun ws H2 ⟨θ2, μ2, vs, l2, s2, r2, q2⟩ => ?_
  exact q2.ret s2 ⟨w, ws, rfl, l2.rp r1, r2⟩
def mTup (ms : LM) : EM := fun ρ μ => (ms ρ μ).bind fun vs μ => if vs.length ≤ LIM then .ok (.tup vs) μ else .bad
theorem d_tup {ms : LM} {k : Nat} (h : DAs xt W X es ms) : DEx xt W X (.Tuple es k pos) (mTup ms) := by
  refine imE (pe_tup h) fun σ H Q ⟨θ, ρ, μ, he, hs, q⟩ => ⟨θ, ρ, μ, he, hs, ?_⟩
  refine q.bind.imp fun ws H1 ⟨θ1, μ1, vs, l1, s1, r1, q1⟩ => ?_
  split at q1
  · rename_i hl
    refine ⟨by rw [← r1.len, ← lim_line]; exact hl, fun p hp => ?_⟩
    have l := Lt.laid (θ := θ1) (o := .tup ws) hp
    exact q1 θ1 _ _ l (s1.fr hp) ⟨p, ws, rfl, .inl (.inl upd_same), l.rpL r1⟩
  · exact q1.elim
/-- a new list into the store -/
def mKeep (ms : LM) : EM := fun ρ μ => (ms ρ μ).bind fun vs μ => .ok (.ref μ.length) (μ ++ [.lst vs])
theorem d_keep {ms : LM} (h : DFr xt W X e ms) : DEx xt W X e (mKeep ms) := by
  refine imE h fun σ H Q ⟨θ, ρ, μ, he, hs, q⟩ => ⟨θ, ρ, μ, he, hs, ?_⟩
  refine (PoF.bind q).imp fun w H1 ⟨θ1, μ1, xs, ⟨a, vs, e, l1, s1, h0, hn, ha, r1⟩, q1⟩ => ?_
  subst e
  obtain ⟨t, et⟩ := l1.pre
  have l2 : Lt θ (θ1 ++ [a]) H H1 := ⟨⟨t ++ [a], by rw [et, List.append_assoc]⟩, fun b hb => by
    rcases List.mem_append.mp hb with hb | hb
    · exact l1.new b hb
    · simp at hb; subst hb; exact .inr h0, l1.keep⟩
  refine (q1 _ _ l2).ret (s1.push hn ha r1) ⟨a, ?_, rfl⟩
  rw [← s1.len, List.getElem?_append_right (Nat.le_refl _)]
  simp
def mLst (ms : LM) : LM := fun ρ μ => (ms ρ μ).bind fun vs μ => if vs.length ≤ LIM then .ok vs μ else .bad
theorem PoF.later {K : PySem.W.Frag} {r : DR (List DV)} {θ θ1 : List Addr} {H H1 : Hp} {σ : L2.St} {Q : VK} (h : PoF K xt W r θ H σ Q) (l : Lt θ θ1 H H1) : PoF K xt W r θ1 H1 σ Q := by
  cases r with
  | ok xs μ2 =>
    intro θ2 H2 a vs l2 s2 h0 hn ha r
    refine h θ2 H2 a vs (l.trans l2) s2 ?_ hn ha r
    cases q : H a with
    | none => rfl
    | some o =>
      by_cases ht : a ∈ θ
      · obtain ⟨t, e⟩ := (l.trans l2).pre
        exact absurd (e ▸ List.mem_append_left _ ht) hn
      · rw [l.keep a o q (.inl ht)] at h0; cases h0
  | ex e μ2 => exact fun θ2 H2 c d l2 => h θ2 H2 c d (l.trans l2)
  | bad => exact h
/-- a part ahead of what makes a new list -/
theorem PoF.of {K : PySem.W.Frag} {α β : Type} {R : List Addr → Hp → α → β → Prop} {r : DR α} {f : α → DM → DR (List DV)} {θ : List Addr} {H : Hp} {σ : L2.St} {Q : VK} (h : PoF K xt W (r.bind f) θ H σ Q) :
    Po K xt W R r θ H σ fun ws H1 => ∃ θ1 μ1 vs, Lt θ θ1 H H1 ∧ Sto K θ1 H1 μ1 ∧ R θ1 H1 vs ws ∧ PoF K xt W (f vs μ1) θ1 H1 σ Q := by
  cases r with
  | ok v μ => exact fun θ1 H1 ws l s r => ⟨θ1, μ, v, l, s, r, PoF.later h l⟩
  | ex e μ => exact h
  | bad => exact h
theorem PoF.ret {K : PySem.W.Frag} {xs : List DV} {vs : List V} {μ : DM} {θ : List Addr} {H : Hp} {σ : L2.St} {Q : VK} (h : PoF K xt W (.ok xs μ) θ H σ Q) (s : Sto K θ H μ) (r : RpL K θ H xs vs) : ∀ p, H p = none → Q (.ref p) (upd H p (.lst vs)) :=
  fun p hp => h θ _ p vs (Lt.laid hp) (s.fr hp) hp (s.out hp) upd_same ((Lt.laid hp).rpL r)
theorem d_lstF {ms : LM} (h : DAs xt W X es ms) : DFr xt W X (.List es pos) (mLst ms) := by
  refine imE (pe_lst h) fun σ H Q ⟨θ, ρ, μ, he, hs, q⟩ => ⟨θ, ρ, μ, he, hs, ?_⟩
  refine (PoF.of q).imp fun ws H1 ⟨θ1, μ1, vs, l1, s1, r1, q1⟩ => ?_
  split at q1
  · rename_i hl
    exact ⟨by rw [← r1.len, ← lim_line]; exact hl, q1.ret s1 r1⟩
  · exact q1.elim
/-! ### operators -/
/-- an operator by plain data -/
def rG (K : PySem.W.Frag) (g : DV → DV → DM → DR DV) : R2 := fun x y H Q => ∃ θ μ u v, Sto K θ H μ ∧ Rp K θ H u x ∧ Rp K θ H v y ∧ Po K (fun _ => none) (fun _ _ _ _ => False) (Rp K) (g u v μ).noex θ H [] Q
abbrev OpD (X : Cx) (f : Value → Value → Sem Value) (g : DV → DV → DM → DR DV) : Prop := OpR X f (rG X.K g)
def mOp (g : DV → DV → DM → DR DV) (a b : EM) : EM := fun ρ μ => (a ρ μ).bind fun u μ => (b ρ μ).bind fun v μ => (g u v μ).noex
theorem Po.noxt {K : PySem.W.Frag} {α β : Type} {R : List Addr → Hp → α → β → Prop} {xt' : String → Option Addr} {W' : WX} {σ σ' : L2.St} {r : DR α} {θ : List Addr} {H : Hp} {Q : β → Hp → Prop} (h : Po K xt W R r.noex θ H σ Q) : Po K xt' W' R r.noex θ H σ' Q := by
  cases r with
  | ok v μ => exact h
  | ex e μ => exact h
  | bad => exact h
theorem op_run {g : DV → DV → DM → DR DV} {ma mb : EM} {σ : L2.St} {H : Hp} {Q : VK} (q : tE X.K xt W (mOp g ma mb) σ H Q) : tOp (rG X.K g) (tE X.K xt W ma) (tE X.K xt W mb) σ H Q := by
  obtain ⟨θ, ρ, μ, he, hs, q⟩ := q
  refine ⟨θ, ρ, μ, he, hs, ?_⟩
  refine q.bind.imp fun w H1 ⟨θ1, μ1, u, l1, s1, r1, q1⟩ => ⟨θ1, ρ, μ1, l1.rpE he, s1, ?_⟩
  refine q1.bind.imp fun w2 H2 ⟨θ2, μ2, v, l2, s2, r2, q2⟩ => ⟨θ2, μ2, u, v, s2, l2.rp r1, r2, q2.noxt⟩
theorem d_bin {op : Operator} {g : DV → DV → DM → DR DV} {ma mb : EM} (ho : OpD X (binaryOp op) g) (ha : DEx xt W X a ma) (hb : DEx xt W X b mb) : DEx xt W X (.BinOp a op b pos) (mOp g ma mb) :=
  imE (pe_op ho ha hb) fun _ _ _ q => op_run q
theorem d_cmp {op : CmpOp} {g : DV → DV → DM → DR DV} {ma mb : EM} (ho : OpD X (compareOp op) g) (ha : DEx xt W X a ma) (hb : DEx xt W X b mb) (hm : behindInMarks op b = false) : DEx xt W X (.Compare a [op] [b] pos) (mOp g ma mb) :=
  imE (pe_cmpR ho ha hb hm) fun _ _ _ q => op_run q
/-- a value as a truth -/
def asBl (v : DV) (μ : DM) : DR Bool := match v with
  | .bl b => .ok b μ
  | _ => .bad
def mBl (m : EM) : BM := fun ρ μ => (m ρ μ).bind asBl
theorem bl_run {K : PySem.W.Frag} {m : EM} {σ : L2.St} {H : Hp} {Q : Bool → Hp → Prop} (q : tTs K xt W (mBl m) σ H Q) : tE K xt W m σ H fun x H' => ∃ k, x = .bl k ∧ Q k H' := by
  obtain ⟨θ, ρ, μ, he, hs, q⟩ := q
  refine ⟨θ, ρ, μ, he, hs, ?_⟩
  refine q.bind.imp fun w H1 ⟨θ1, μ1, u, l1, s1, r1, q1⟩ => ?_
  cases u with
  | bl b =>
    cases r1
    exact ⟨b, rfl, q1.ret s1 rfl⟩
  | _ => exact q1.elim
theorem t_cmp {op : CmpOp} {g : DV → DV → DM → DR DV} {ma mb : EM} (ho : OpD X (compareOp op) g) (ha : DEx xt W X a ma) (hb : DEx xt W X b mb) (hm : behindInMarks op b = false) : DTs xt W X (.Compare a [op] [b] pos) (mBl (mOp g ma mb)) :=
  imT (pt_cmpR ho ha hb hm) fun σ H Q q => op_run (bl_run q)
/-- a op b op' c -/
def mChain (g g' : DV → DV → DM → DR DV) (a b c : EM) : EM := fun ρ μ => (a ρ μ).bind fun u μ => (b ρ μ).bind fun v μ => (g u v μ).noex.bind fun z μ => (asBl z μ).bind fun k μ =>
  if k = true then (c ρ μ).bind fun w μ => (g' v w μ).noex else .ok (.bl false) μ
theorem Po.xnox {K : PySem.W.Frag} {α β α' β' : Type} {R : List Addr → Hp → α → β → Prop} {R' : List Addr → Hp → α' → β' → Prop} {r : DR α} {k : α → DM → DR α'} {θ : List Addr} {H : Hp} {σ : L2.St} {Q : β' → Hp → Prop} (h : Po K xt W R' (r.noex.bind k) θ H σ Q) :
    Po K (fun _ => none) (fun _ _ _ _ => False) R r.noex θ H [] fun w H1 => ∃ θ1 μ1 v, Lt θ θ1 H H1 ∧ Sto K θ1 H1 μ1 ∧ R θ1 H1 v w ∧ Po K xt W R' (k v μ1) θ1 H1 σ Q := by
  cases r with
  | ok v μ => exact fun θ2 H2 w l s p => ⟨θ2, μ, v, l, s, p, Po.later h l⟩
  | ex e μ => exact h
  | bad => exact h
theorem chain_run {g g' : DV → DV → DM → DR DV} {ma mb mc : EM} {σ : L2.St} {H : Hp} {Q : VK} (q : tE X.K xt W (mChain g g' ma mb mc) σ H Q) : tChain (rG X.K g) (rG X.K g') (tE X.K xt W ma) (tE X.K xt W mb) (tE X.K xt W mc) σ H Q := by
  obtain ⟨θ, ρ, μ, he, hs, q⟩ := q
  refine ⟨θ, ρ, μ, he, hs, ?_⟩
  refine q.bind.imp fun w H1 ⟨θ1, μ1, u, l1, s1, r1, q1⟩ => ⟨θ1, ρ, μ1, l1.rpE he, s1, ?_⟩
  refine q1.bind.imp fun w2 H2 ⟨θ2, μ2, v, l2, s2, r2, q2⟩ => ⟨θ2, μ2, u, v, s2, l2.rp r1, r2, ?_⟩
  refine (Po.xnox (R := Rp X.K) q2).imp fun w3 H3 ⟨θ3, μ3, z, l3, s3, r3, q3⟩ => ?_
  cases z with
  | bl k =>
    cases r3
    refine ⟨k, rfl, ?_⟩
    cases k with
    | false => exact q3.ret s3 rfl
    | true =>
      refine ⟨θ3, ρ, μ3, l3.rpE (l2.rpE (l1.rpE he)), s3, ?_⟩
      replace q3 : Po X.K xt W (Rp X.K) ((mc ρ μ3).bind fun w μ => (g' v w μ).noex) θ3 H3 σ Q := q3
      exact q3.bind.imp fun w4 H4 ⟨θ4, μ4, y, l4, s4, r4, q4⟩ => ⟨θ4, μ4, v, y, s4, l4.rp (l3.rp r2), r4, q4.noxt⟩
  | _ => exact q3.elim
theorem d_chain {op op' : CmpOp} {g g' : DV → DV → DM → DR DV} {ma mb mc : EM} (ho : OpD X (compareOp op) g) (ho' : OpD X (compareOp op') g') (ha : DEx xt W X a ma) (hb : DEx xt W X b mb) (hc : DEx xt W X c mc)
    (hm : lastMarks [op, op'] [b, c] = false := by with_unfolding_all rfl) : DEx xt W X (.Compare a [op, op'] [b, c] pos) (mChain g g' ma mb mc) :=
  imE (pe_chain ho ho' ha hb hc hm) fun _ _ _ q => chain_run q
theorem t_chain {op op' : CmpOp} {g g' : DV → DV → DM → DR DV} {ma mb mc : EM} (ho : OpD X (compareOp op) g) (ho' : OpD X (compareOp op') g') (ha : DEx xt W X a ma) (hb : DEx xt W X b mb) (hc : DEx xt W X c mc)
    (hm : lastMarks [op, op'] [b, c] = false := by with_unfolding_all rfl) : DTs xt W X (.Compare a [op, op'] [b, c] pos) (mBl (mChain g g' ma mb mc)) :=
  imT (pt_chain ho ho' ha hb hc hm) fun _ _ _ q => chain_run (bl_run q)
/-! ### truth, and, or, not, if -/
def DV.truth (v : DV) (μ : DM) : DR Bool := match v with
  | .non => .ok false μ
  | .bl b => .ok b μ
  | .int i => .ok (i != 0) μ
  | .tup xs => .ok (!xs.isEmpty) μ
  | .kl xs => .ok (!xs.isEmpty) μ
  | .ref n => match μ[n]? with
    | some (.lst xs) => .ok (!xs.isEmpty) μ
    | _ => .bad
  | _ => .bad
def mTru (m : EM) : BM := fun ρ μ => (m ρ μ).bind DV.truth
theorem RpL.emp {K : PySem.W.Frag} {θ : List Addr} {H : Hp} {xs : List DV} {vs : List V} (r : RpL K θ H xs vs) : vs.isEmpty = xs.isEmpty := by
  cases xs with
  | nil => cases r; rfl
  | cons x xs => obtain ⟨w, ws, rfl, _⟩ := r; rfl
theorem t_tru {m : EM} (h : DEx xt W X e m) (he : ∀ whole, isTrue e X.env whole = (do let v ← whole; standAt e.pos; holding [v] (truthy v)) := by intro _; rfl) : DTs xt W X e (mTru m) := by
  refine imT (pt_truth h he) fun σ H Q ⟨θ, ρ, μ, he, hs, q⟩ => ⟨θ, ρ, μ, he, hs, ?_⟩
  refine q.bind.imp fun w H1 ⟨θ1, μ1, u, l1, s1, r1, q1⟩ => ?_
  cases u with
  | non => cases r1; exact ⟨false, rfl, q1.ret s1 rfl⟩
  | bl b => cases r1; exact ⟨b, rfl, q1.ret s1 rfl⟩
  | int i => cases r1; exact ⟨_, rfl, q1.ret s1 rfl⟩
  | str s => exact q1.elim
  | tup xs =>
    obtain ⟨p, vs, rfl, sq, r⟩ := r1
    exact ⟨_, .inr (.inl ⟨vs, sq, rfl⟩), by rw [r.emp]; exact q1.ret s1 rfl⟩
  | kl xs =>
    obtain ⟨p, vs, rfl, sq, r⟩ := r1
    exact ⟨_, .inl ⟨vs, sq.sq, rfl⟩, by rw [r.emp]; exact q1.ret s1 rfl⟩
  | ref n =>
    obtain ⟨p, hp, rfl⟩ := r1
    replace q1 : Po X.K xt W (fun _ _ b c => b = c) (match μ1[n]? with | some (.lst xs) => .ok (!xs.isEmpty) μ1 | _ => .bad) θ1 H1 σ Q := q1
    split at q1
    · rename_i xs hx
      obtain ⟨vs, ev, r⟩ := s1.cell n p _ hp hx
      exact ⟨_, .inl ⟨vs, SqL.of ev, rfl⟩, by rw [r.emp]; exact q1.ret s1 rfl⟩
    · exact q1.elim
def mAnd (a b : BM) : BM := fun ρ μ => (a ρ μ).bind fun c μ => if c = true then b ρ μ else .ok false μ
def mOr (a b : BM) : BM := fun ρ μ => (a ρ μ).bind fun c μ => if c = true then .ok true μ else b ρ μ
def mNot (a : BM) : BM := fun ρ μ => (a ρ μ).bind fun c μ => .ok (!c) μ
theorem w_and1 {m : BM} (h : DTs xt W X a m) : DWs xt W X (.BoolOp .And [a] pos) m := pw_and1 h
theorem w_or1 {m : BM} (h : DTs xt W X a m) : DWs xt W X (.BoolOp .Or [a] pos) m := pw_or1 h
theorem w_and {ma mb : BM} (ha : DTs xt W X a ma) (hb : DWs xt W X (.BoolOp .And (b :: es) pos) mb) : DWs xt W X (.BoolOp .And (a :: b :: es) pos) (mAnd ma mb) := by
  refine imW (pw_and ha hb) fun σ H Q ⟨θ, ρ, μ, he, hs, q⟩ => ⟨θ, ρ, μ, he, hs, ?_⟩
  refine q.bind.imp fun w H1 ⟨θ1, μ1, u, l1, s1, r1, q1⟩ => ?_
  subst r1
  cases u with
  | true => exact ⟨θ1, ρ, μ1, l1.rpE he, s1, q1⟩
  | false => exact q1.ret s1 rfl
theorem w_or {ma mb : BM} (ha : DTs xt W X a ma) (hb : DWs xt W X (.BoolOp .Or (b :: es) pos) mb) : DWs xt W X (.BoolOp .Or (a :: b :: es) pos) (mOr ma mb) := by
  refine imW (pw_or ha hb) fun σ H Q ⟨θ, ρ, μ, he, hs, q⟩ => ⟨θ, ρ, μ, he, hs, ?_⟩
  refine q.bind.imp fun w H1 ⟨θ1, μ1, u, l1, s1, r1, q1⟩ => ?_
  subst r1
  cases u with
  | true => exact q1.ret s1 rfl
  | false => exact ⟨θ1, ρ, μ1, l1.rpE he, s1, q1⟩
theorem t_w {m : BM} (h : DWs xt W X e m) : DTs xt W X e m := h.pt
theorem t_not {m : BM} (h : DTs xt W X a m) : DTs xt W X (.UnaryOp .Not a pos) (mNot m) := by
  refine imT (pt_not h) fun σ H Q ⟨θ, ρ, μ, he, hs, q⟩ => ⟨θ, ρ, μ, he, hs, ?_⟩
  refine q.bind.imp fun w H1 ⟨θ1, μ1, u, l1, s1, r1, q1⟩ => ?_
  subst r1
  exact q1.ret s1 rfl
/-- .. as values, all but the last truths -/
def mAndV (a b : EM) : EM := fun ρ μ => (mBl a ρ μ).bind fun c μ => if c = true then b ρ μ else .ok (.bl false) μ
def mOrV (a b : EM) : EM := fun ρ μ => (mBl a ρ μ).bind fun c μ => if c = true then .ok (.bl true) μ else b ρ μ
def mNotV (a : EM) : EM := fun ρ μ => (mBl a ρ μ).bind fun c μ => .ok (.bl (!c)) μ
theorem d_one {op : BoolOp} {m : EM} (h : DEx xt W X a m) : DEx xt W X (.BoolOp op [a] pos) m := pe_one h
theorem bl_step {K : PySem.W.Frag} {α β : Type} {R : List Addr → Hp → α → β → Prop} {m : EM} {k : Bool → DM → DR α} {ρ : DE} {μ : DM} {θ : List Addr} {σ : L2.St} {H : Hp} {Q : β → Hp → Prop} (q : Po K xt W R ((mBl m ρ μ).bind k) θ H σ Q) :
    Po K xt W (Rp K) (m ρ μ) θ H σ fun x H1 => ∃ c θ1 μ1, x = .bl c ∧ Lt θ θ1 H H1 ∧ Sto K θ1 H1 μ1 ∧ Po K xt W R (k c μ1) θ1 H1 σ Q := by
  have e : (mBl m ρ μ).bind k = (m ρ μ).bind fun v μ => (asBl v μ).bind k := by
    unfold mBl
    cases m ρ μ <;> rfl
  rw [e] at q
  refine q.bind.imp fun w H1 ⟨θ1, μ1, u, l1, s1, r1, q1⟩ => ?_
  cases u with
  | bl b => cases r1; exact ⟨b, θ1, μ1, rfl, l1, s1, q1⟩
  | _ => exact q1.elim
theorem d_and {ma mb : EM} (ha : DEx xt W X a ma) (hb : DEx xt W X (.BoolOp .And (b :: es) pos) mb) : DEx xt W X (.BoolOp .And (a :: b :: es) pos) (mAndV ma mb) := by
  refine imE (pe_and ha hb) fun σ H Q ⟨θ, ρ, μ, he, hs, q⟩ => ⟨θ, ρ, μ, he, hs, ?_⟩
  refine (bl_step q).imp fun w H1 ⟨c, θ1, μ1, e, l1, s1, q1⟩ => ⟨c, e, ?_⟩
  cases c with
  | true => exact ⟨θ1, ρ, μ1, l1.rpE he, s1, q1⟩
  | false => exact q1.ret s1 rfl
theorem d_or {ma mb : EM} (ha : DEx xt W X a ma) (hb : DEx xt W X (.BoolOp .Or (b :: es) pos) mb) : DEx xt W X (.BoolOp .Or (a :: b :: es) pos) (mOrV ma mb) := by
  refine imE (pe_or ha hb) fun σ H Q ⟨θ, ρ, μ, he, hs, q⟩ => ⟨θ, ρ, μ, he, hs, ?_⟩
  refine (bl_step q).imp fun w H1 ⟨c, θ1, μ1, e, l1, s1, q1⟩ => ⟨c, e, ?_⟩
  cases c with
  | false => exact ⟨θ1, ρ, μ1, l1.rpE he, s1, q1⟩
  | true => exact q1.ret s1 rfl
theorem d_not {m : EM} (h : DEx xt W X a m) : DEx xt W X (.UnaryOp .Not a pos) (mNotV m) := by
  refine imE (pe_not h) fun σ H Q ⟨θ, ρ, μ, he, hs, q⟩ => ⟨θ, ρ, μ, he, hs, ?_⟩
  exact (bl_step q).imp fun w H1 ⟨c, θ1, μ1, e, l1, s1, q1⟩ => ⟨c, e, q1.ret s1 rfl⟩
def mIf (t : BM) (a b : EM) : EM := fun ρ μ => (t ρ μ).bind fun c μ => if c = true then a ρ μ else b ρ μ
theorem d_if {t : BM} {ma mb : EM} (ht : DTs xt W X c t) (ha : DEx xt W X a ma) (hb : DEx xt W X b mb) : DEx xt W X (.IfExp c a b pos) (mIf t ma mb) := by
  refine imE (pe_ifExp ht ha hb) fun σ H Q ⟨θ, ρ, μ, he, hs, q⟩ => ⟨θ, ρ, μ, he, hs, ?_⟩
  refine q.bind.imp fun w H1 ⟨θ1, μ1, u, l1, s1, r1, q1⟩ => ?_
  subst r1
  cases u with
  | true => exact ⟨θ1, ρ, μ1, l1.rpE he, s1, q1⟩
  | false => exact ⟨θ1, ρ, μ1, l1.rpE he, s1, q1⟩
end
end Md

namespace Md
open PySem L2 PySem.Spec PyProof.Rows
section
variable {X : Cx} {xt : String → Option Addr} {W : WX} {a b c e : Expr} {es : List Expr} {pos : Pos}
/-! ## operators by plain data -/
theorem Po.fin {K : PySem.W.Frag} {xt : String → Option Addr} {W : WX} {v : DV} {μ : DM} {θ : List Addr} {H : Hp} {σ : L2.St} {Q : VK} {w : V} (h : Po K xt W (Rp K) (DR.noex (.ok v μ)) θ H σ Q) (s : Sto K θ H μ) (r : Rp K θ H v w) : Q w H := h θ H w .refl s r
theorem Po.finT {K : PySem.W.Frag} {xt : String → Option Addr} {W : WX} {xs : List DV} {μ : DM} {θ : List Addr} {H : Hp} {σ : L2.St} {Q : VK} {vs : List V} (h : Po K xt W (Rp K) (DR.noex (.ok (.tup xs) μ)) θ H σ Q) (s : Sto K θ H μ) (r : RpL K θ H xs vs) :
    ∀ p, H p = none → Q (.ref p) (upd H p (.tup vs)) := fun p hp => h θ _ _ (Lt.laid hp) (s.fr hp) ⟨p, vs, rfl, .inl (.inl upd_same), (Lt.laid hp).rpL r⟩
theorem Po.finL {K : PySem.W.Frag} {xt : String → Option Addr} {W : WX} {xs : List DV} {μ : DM} {θ : List Addr} {H : Hp} {σ : L2.St} {Q : VK} {vs : List V} (h : Po K xt W (Rp K) (DR.noex (.ok (.ref μ.length) (μ ++ [.lst xs]))) θ H σ Q) (s : Sto K θ H μ) (r : RpL K θ H xs vs) :
    ∀ p, H p = none → Q (.ref p) (upd H p (.lst vs)) := fun p hp => h _ _ _ (Lt.push hp) ((s.fr hp).push (s.out hp) upd_same ((Lt.laid hp).rpL r)) ⟨p, by rw [← s.len, List.getElem?_append_right (Nat.le_refl _)]; simp, rfl⟩
/-- a list's items -/
def DV.lst (v : DV) (μ : DM) : Option (List DV) := match v with
  | .ref n => match μ[n]? with
    | some (.lst xs) => some xs
    | _ => none
  | _ => none
/-- a list's or a tuple's items -/
def DV.seq (v : DV) (μ : DM) : Option (List DV) := match v with
  | .ref n => match μ[n]? with
    | some (.lst xs) => some xs
    | _ => none
  | .tup xs => some xs
  | .kl xs => some xs
  | _ => none
theorem lst_of {K : PySem.W.Frag} {θ : List Addr} {H : Hp} {μ : DM} (s : Sto K θ H μ) {v : DV} {w : V} (r : Rp K θ H v w) {xs : List DV} (h : v.lst μ = some xs) : ∃ p vs, w = .ref p ∧ H p = some (.lst vs) ∧ RpL K θ H xs vs := by
  cases v with
  | ref n =>
    obtain ⟨p, hp, rfl⟩ := r
    simp only [DV.lst] at h
    split at h
    · rename_i ys hy
      cases h
      obtain ⟨vs, e, r⟩ := s.cell n p _ hp hy
      exact ⟨p, vs, rfl, e, r⟩
    · cases h
  | _ => cases h
theorem seq_of {K : PySem.W.Frag} {θ : List Addr} {H : Hp} {μ : DM} (s : Sto K θ H μ) {v : DV} {w : V} (r : Rp K θ H v w) {xs : List DV} (h : v.seq μ = some xs) : ∃ p vs, w = .ref p ∧ (SqL K H p vs ∨ SqT K H p vs) ∧ RpL K θ H xs vs := by
  cases v with
  | ref n =>
    obtain ⟨p, vs, e, h1, r1⟩ := lst_of s r (xs := xs) h
    exact ⟨p, vs, e, .inl (SqL.of h1), r1⟩
  | tup ys =>
    cases h
    obtain ⟨p, vs, e, h1, r1⟩ := r
    exact ⟨p, vs, e, .inr h1, r1⟩
  | kl ys =>
    cases h
    obtain ⟨p, vs, e, h1, r1⟩ := r
    exact ⟨p, vs, e, .inl h1.sq, r1⟩
  | _ => cases h
/-! ### ints -/
def gI (C : Int → Int → Prop) [∀ i j, Decidable (C i j)] (g : Int → Int → DV) : DV → DV → DM → DR DV := fun u v μ => match u, v with
  | .int i, .int j => if C i j then .ok (g i j) μ else .bad
  | _, _ => .bad
def CT (_ _ : Int) : Prop := True
instance (i j : Int) : Decidable (CT i j) := inferInstanceAs (Decidable True)
theorem gI_of {f : Value → Value → Sem Value} {C C' : Int → Int → Prop} [∀ i j, Decidable (C' i j)] {g : Int → Int → V} {g' : Int → Int → DV} (h : OpR X f (rI C g)) (hC : ∀ i j, C' i j → C i j) (hg : ∀ i j θ H, Rp X.K θ H (g' i j) (g i j)) : OpD X f (gI C' g') :=
  imO h fun x y H Q ⟨θ, μ, u, v, s, ru, rv, q⟩ => by
    unfold gI at q
    split at q
    · rename_i i j
      cases ru
      cases rv
      split at q
      · rename_i hc
        exact ⟨i, j, rfl, rfl, hC i j hc, q.fin s (hg i j θ H)⟩
      · exact q.elim
    · exact q.elim
theorem rI0_rI {g : Int → Int → V} {x y : V} {H : Hp} {Q : VK} (h : rI CT g x y H Q) : rI0 g x y H Q := let ⟨i, j, a, b, _, q⟩ := h; ⟨i, j, a, b, q⟩
theorem gI0_of {f : Value → Value → Sem Value} {g : Int → Int → V} {g' : Int → Int → DV} (h : OpR X f (rI0 g)) (hg : ∀ i j θ H, Rp X.K θ H (g' i j) (g i j)) : OpD X f (gI CT g') :=
  gI_of (C := CT) (imO h fun _ _ _ _ => rI0_rI) (fun _ _ h => h) hg
theorem o_sub : OpD X (binaryOp .Sub) (gI CT fun i j => .int (i - j)) := gI0_of op_sub fun _ _ _ _ => rfl
theorem o_lt : OpD X (compareOp .Lt) (gI CT fun i j => .bl (decide (i < j))) := gI0_of op_lt fun _ _ _ _ => rfl
theorem o_le : OpD X (compareOp .LtE) (gI CT fun i j => .bl (decide (i ≤ j))) := gI0_of op_le fun _ _ _ _ => rfl
theorem o_gt : OpD X (compareOp .Gt) (gI CT fun i j => .bl (decide (j < i))) := gI0_of op_gt fun _ _ _ _ => rfl
theorem o_ge : OpD X (compareOp .GtE) (gI CT fun i j => .bl (decide (j ≤ i))) := gI0_of op_ge fun _ _ _ _ => rfl
/-- % by another number than 0; // by a divisor above 0 -/
def CNe (_ j : Int) : Prop := j ≠ 0
instance (i j : Int) : Decidable (CNe i j) := inferInstanceAs (Decidable (j ≠ 0))
theorem o_mod : OpD X (binaryOp .Mod) (gI CNe fun i j => .int (i.fmod j)) := gI_of op_modN (fun _ _ h => h) fun _ _ _ _ => rfl
def CDv (_ j : Int) : Prop := 0 < j ∧ j.natAbs.log2 < 9000
instance (i j : Int) : Decidable (CDv i j) := inferInstanceAs (Decidable (_ ∧ _))
theorem o_fdiv : OpD X (binaryOp .FloorDiv) (gI CDv fun i j => .int (i / j)) := gI_of op_fdivW (fun _ _ h => h) fun _ _ _ _ => rfl
def CPw (i j : Int) : Prop := 0 ≤ j ∧ j ≤ 1000000 ∧ i.natAbs < 2 ^ 64
instance (i j : Int) : Decidable (CPw i j) := inferInstanceAs (Decidable (_ ∧ _ ∧ _))
theorem o_pow : OpD X (binaryOp .Pow) (gI CPw fun i j => .int (i ^ j.toNat)) := gI_of op_pow (fun _ _ h => h) fun _ _ _ _ => rfl
theorem o_isub : OpD X (inplaceOp .Sub) (gI CT fun i j => .int (i - j)) := gI0_of iop_sub fun _ _ _ _ => rfl
abbrev qLt := gI CT fun i j => .bl (decide (i < j))
abbrev qLe := gI CT fun i j => .bl (decide (i ≤ j))
abbrev qGt := gI CT fun i j => .bl (decide (j < i))
abbrev qGe := gI CT fun i j => .bl (decide (j ≤ i))
abbrev qSub := gI CT fun i j => .int (i - j)
abbrev qIadd := gI CT fun i j => .int (i + j)
abbrev qMod := gI CNe fun i j => .int (i.fmod j)
abbrev qFdiv := gI CDv fun i j => .int (i / j)
abbrev qPow := gI CPw fun i j => .int (i ^ j.toNat)
/-! ### + -/
def gAdd : DV → DV → DM → DR DV := fun u v μ => match u, v with
  | .int i, .int j => .ok (.int (i + j)) μ
  | .tup xs, .tup ys => if xs.length + ys.length ≤ LIM then .ok (.tup (xs ++ ys)) μ else .bad
  | u, v => match u.lst μ, v.lst μ with
    | some xs, some ys => if xs.length + ys.length ≤ LIM then .ok (.ref μ.length) (μ ++ [.lst (xs ++ ys)]) else .bad
    | _, _ => .bad
theorem RpL.nil_of {K : PySem.W.Frag} {θ : List Addr} {H : Hp} {xs : List DV} {vs : List V} (r : RpL K θ H xs vs) : vs = [] ↔ xs = [] := by
  have := r.len
  cases xs <;> cases vs <;> simp at this ⊢
theorem o_add : OpD X (binaryOp .Add) gAdd := imO (op_add.or (op_catA.or op_cat)) fun x y H Q ⟨θ, μ, u, v, s, ru, rv, q⟩ => by
  unfold gAdd at q
  split at q
  · rename_i i j
    cases ru; cases rv
    exact .inl ⟨i, j, rfl, rfl, q.fin s rfl⟩
  · rename_i xs ys
    obtain ⟨p, vs, rfl, sp, r1⟩ := ru
    obtain ⟨p2, ws, rfl, sp2, r2⟩ := rv
    split at q
    · rename_i hl
      refine .inr (.inl ⟨p, p2, vs, ws, rfl, rfl, sp, sp2, ?_, fun e => ?_, fun _ e => ?_, fun _ _ => q.finT s (r1.app r2)⟩)
      · rw [← r1.len, ← r2.len, ← lim_line]; exact hl
      · rw [r1.nil_of.mp e] at q
        exact q.fin s ⟨p2, ws, rfl, sp2, r2⟩
      · rw [r2.nil_of.mp e, List.append_nil] at q
        exact q.fin s ⟨p, vs, rfl, sp, r1⟩
    · exact q.elim
  · split at q
    · rename_i xs ys h1 h2
      split at q
      · rename_i hl
        obtain ⟨p, vs, rfl, sp, r1⟩ := lst_of s ru h1
        obtain ⟨p2, ws, rfl, sp2, r2⟩ := lst_of s rv h2
        exact .inr (.inr ⟨p, p2, vs, ws, rfl, rfl, sp, sp2, by rw [← r1.len, ← r2.len, ← lim_line]; exact hl, q.finL s (r1.app r2)⟩)
      · exact q.elim
    · exact q.elim
theorem o_iadd : OpD X (inplaceOp .Add) (gI CT fun i j => .int (i + j)) := gI0_of iop_add fun _ _ _ _ => rfl
/-! ### * -/
/-! ### a tuple once, a tuple no times -/
theorem tuple_mulS (l : Addr) (items : Array Value) (n : Nat) (dd : Option Addr) (sl : Array (Option Value)) (x : Int) (u : Tok) (c0 : (decide (x < -(2 ^ 63)) || decide (x ≥ 2 ^ 63)) = false) (c1 : (items.isEmpty || x == 1) = true) :
    Meets (Builtin.«tuple.__mul__» ⟨[.ref l, .int x u], []⟩) (fun _ R s => s.heap.get? l = some { cls := .type "tuple", dict := dd, data := .seq items n, slots := sl } ∧ R (.ok (.ret (Value.ref l))) s) :=
  .of_wp fun prog w A R s h => by
    obtain ⟨hp, g, d, tk, os⟩ := s
    obtain ⟨hl, h⟩ := h
    have f1 := AutoSeq1.idx_int
    wp_walk using wpAny_loadPart' hl
    repeat (first
      | (refine wpAny_ite_false (decide_eq_false (by rw [c0]; exact Bool.false_ne_true)) ?_; wp_walk using wpAny_loadPart' hl)
      | (refine wpAny_ite_true (decide_eq_true c1) ?_; wp_walk using wpAny_loadPart' hl))
    exact ⟨_, rfl, h⟩
theorem tuple_mulZ (l : Addr) (items : Array Value) (n : Nat) (dd : Option Addr) (sl : Array (Option Value)) (x : Int) (u : Tok) (c0 : (decide (x < -(2 ^ 63)) || decide (x ≥ 2 ^ 63)) = false) (c1 : (items.isEmpty || x == 1) = false) (c2 : (decide (x ≤ 0) || items.isEmpty) = true) :
    Meets (Builtin.«tuple.__mul__» ⟨[.ref l, .int x u], []⟩) (fun _ R s => s.heap.get? l = some { cls := .type "tuple", dict := dd, data := .seq items n, slots := sl } ∧
      R (.ok (.ret (Value.ref s.heap.objs.size))) { s with heap := s.heap.push { cls := Value.type "tuple", data := Data.seq #[] }, toks := s.toks }) :=
  .of_wp fun prog w A R s h => by
    obtain ⟨hp, g, d, tk, os⟩ := s
    obtain ⟨hl, h⟩ := h
    have f1 := AutoSeq1.idx_int
    wp_walk using wpAny_loadPart' hl
    repeat (first
      | (refine wpAny_ite_false (decide_eq_false (by rw [c0]; exact Bool.false_ne_true)) ?_; wp_walk using wpAny_loadPart' hl)
      | (refine wpAny_ite_false (decide_eq_false (by rw [c1]; exact Bool.false_ne_true)) ?_; wp_walk using wpAny_loadPart' hl)
      | (refine wpAny_ite_true (decide_eq_true c2) ?_; wp_walk using wpAny_loadPart' hl))
    exact ⟨_, rfl, h⟩
/-- a tuple that comes back as it is; an empty one -/
def rRepO (K : PySem.W.Frag) : R2 := fun x y H Q => ∃ l k xs, x = .ref l ∧ y = .int k ∧ SqT K H l xs ∧ -1000 ≤ k ∧ k ≤ 1000 ∧ (((xs = [] ∨ k = 1) ∧ Q (.ref l) H) ∨ (xs ≠ [] ∧ k ≤ 0 ∧ ∀ p, H p = none → Q (.ref p) (upd H p (.tup []))))
theorem op_repO {X : Cx} : OpR X (binaryOp .Mult) (rRepO X.K) := by
  intro pins s σ H x y v u Q I rx ry h
  obtain ⟨l, k, xs, rfl, rfl, hT, b1, b2, q⟩ := h
  cases rx
  obtain ⟨t, rfl⟩ := ry
  obtain ⟨its, r, ⟨⟨cls, dd, data, sl⟩, ho, hc, n, hd⟩, hz⟩ := I.tuple hT
  simp only at hc hd
  subst hc hd
  have c0 : (decide (k < -(2 ^ 63)) || decide (k ≥ 2 ^ 63)) = false := by
    simp only [Bool.or_eq_false_iff, decide_eq_false_iff_not]
    omega
  have em : its.toArray.isEmpty = true ↔ xs = [] := by
    have := r.length
    cases xs <;> cases its <;> simp at this ⊢
  rcases q with ⟨e, q⟩ | ⟨e, k0, q⟩
  · have c1 : (its.toArray.isEmpty || k == 1) = true := by
      rw [Bool.or_eq_true, em, beq_iff_eq]
      exact e
    exact wpAny_binaryOp_repeat_ref (T := "tuple") (U := "int") (by decide) ⟨_, ho, rfl⟩ (fun s' => typeIs_int s' k t) noFill_tuple_mul F.fills_int_mul F.slot_int_rmul repeat_tuple F.slot_int_index.lookup
      (call_meets F.slot_int_rmul (typeIs_int s k t) F.entry_int_rmul (F.args_int_rmul_2 _ _) (int_rmul_tuple k t l its.toArray n dd sl)
        ⟨ho, rfl, ⟨_, ho, rfl⟩, call_meets F.slot_tuple_mul ⟨_, ho, rfl⟩ F.entry_tuple_mul (F.args_tuple_mul_2 _ _) (tuple_mulS l its.toArray n dd sl k t c0 c1) ⟨ho, .ref l, _, I, rfl, q⟩⟩)
  · have c1 : (its.toArray.isEmpty || k == 1) = false := by
      rw [Bool.or_eq_false_iff]
      refine ⟨?_, ?_⟩
      · cases z : its.toArray.isEmpty with
        | false => rfl
        | true => exact absurd (em.mp z) e
      · exact beq_eq_false_iff_ne.mpr (by omega)
    have c2 : (decide (k ≤ 0) || its.toArray.isEmpty) = true := by rw [decide_eq_true k0]; rfl
    refine wpAny_binaryOp_repeat_ref (T := "tuple") (U := "int") (by decide) ⟨_, ho, rfl⟩ (fun s' => typeIs_int s' k t) noFill_tuple_mul F.fills_int_mul F.slot_int_rmul repeat_tuple F.slot_int_index.lookup
      (call_meets F.slot_int_rmul (typeIs_int s k t) F.entry_int_rmul (F.args_int_rmul_2 _ _) (int_rmul_tuple k t l its.toArray n dd sl)
        ⟨ho, rfl, ⟨_, ho, rfl⟩, call_meets F.slot_tuple_mul ⟨_, ho, rfl⟩ F.entry_tuple_mul (F.args_tuple_mul_2 _ _) (tuple_mulZ l its.toArray n dd sl k t c0 c1 c2) ⟨ho, ?_⟩⟩)
    refine ⟨.ref s.heap.objs.size, _, I.laid (t' := s.toks) (o := .tup []) (fun b ob q => Heap.get?_push_of_some _ q) (Nat.le_refl _) ?_, rfl, q _ (I.hok.fresh (Nat.le_refl _))⟩
    exact ⟨by simp, _, .nil, IsTup.new _ _⟩
def CMw (i j : Int) : Prop := i.natAbs.log2 + j.natAbs.log2 < 1000000
instance (i j : Int) : Decidable (CMw i j) := inferInstanceAs (Decidable (_ < _))
def gMul : DV → DV → DM → DR DV := fun u v μ => match u, v with
  | .int i, .int j => if CMw i j then .ok (.int (i * j)) μ else .bad
  | .tup xs, .int k => if -1000 ≤ k ∧ k ≤ 1000 ∧ xs.length ≤ 1000 then .ok (.tup (List.replicate k.toNat xs).flatten) μ else .bad
  | u, .int k => match u.lst μ with
    | some xs => if 0 ≤ k ∧ k ≤ 1000 ∧ xs.length ≤ 1000 then .ok (.ref μ.length) (μ ++ [.lst (List.replicate k.toNat xs).flatten]) else .bad
    | _ => .bad
  | _, _ => .bad
theorem o_mul : OpD X (binaryOp .Mult) gMul := imO (op_mulW.or (op_repT.or (op_repO.or op_rep))) fun x y H Q ⟨θ, μ, u, v, s, ru, rv, q⟩ => by
  unfold gMul at q
  split at q
  · rename_i i j
    cases ru; cases rv
    split at q
    · rename_i hc
      exact .inl ⟨i, j, rfl, rfl, hc, q.fin s rfl⟩
    · exact q.elim
  · rename_i xs k
    cases rv
    obtain ⟨p, vs, rfl, sp, r1⟩ := ru
    split at q
    · rename_i hc
      by_cases e0 : xs = []
      · subst e0
        cases r1
        refine .inr (.inr (.inl ⟨p, k, [], rfl, rfl, sp, hc.1, hc.2.1, .inl ⟨.inl rfl, q.fin s ⟨p, [], rfl, sp, ?_⟩⟩⟩))
        rw [List.flatten_eq_nil_iff.mpr (fun l hl => (List.mem_replicate.mp hl).2)]
        rfl
      by_cases e1 : k = 1
      · subst e1
        refine .inr (.inr (.inl ⟨p, 1, vs, rfl, rfl, sp, hc.1, hc.2.1, .inl ⟨.inr rfl, q.fin s ⟨p, vs, rfl, sp, ?_⟩⟩⟩))
        simpa using r1
      by_cases e2 : k ≤ 0
      · refine .inr (.inr (.inl ⟨p, k, vs, rfl, rfl, sp, hc.1, hc.2.1, .inr ⟨fun e => e0 (r1.nil_of.mp e), e2, q.finT s ?_⟩⟩))
        rw [show k.toNat = 0 from by omega]
        rfl
      exact .inr (.inl ⟨p, k, vs, rfl, rfl, sp, fun e => e0 (r1.nil_of.mp e), by omega, hc.2.1, by rw [← r1.len]; exact hc.2.2, q.finT s (r1.rep _)⟩)
    · exact q.elim
  · rename_i k _ _
    cases rv
    split at q
    · rename_i xs h1
      split at q
      · rename_i hc
        obtain ⟨p, vs, rfl, sp, r1⟩ := lst_of s ru h1
        have hl : vs.length * k.toNat ≤ 1000 * 1000 := Nat.mul_le_mul (by rw [← r1.len]; exact hc.2.2) (by omega)
        have hs : sizeLine = 16777216 := sizeLine_eq
        exact .inr (.inr (.inr ⟨p, k, vs, rfl, rfl, sp, by omega, by omega, by omega, q.finL s (r1.rep _)⟩))
      · exact q.elim
    · exact q.elim
  · exact q.elim
/-! ### == -/
mutual
/-- lists of the store put in -/
def rsW (f : Nat → Option DV) : DV → Option DV
  | .ref n => f n
  | .tup xs => (rsWL f xs).map .tup
  | .kl xs => (rsWL f xs).map .kl
  | .non => some .non
  | .bl b => some (.bl b)
  | .int i => some (.int i)
  | .str s => some (.str s)
def rsWL (f : Nat → Option DV) : List DV → Option (List DV)
  | [] => some []
  | x :: xs => match rsW f x, rsWL f xs with
    | some d, some ds => some (d :: ds)
    | _, _ => none
end
def rsR (μ : DM) : Nat → Nat → Option DV
  | 0, _ => none
  | k + 1, n => match μ[n]? with
    | some (.lst xs) => (rsWL (rsR μ k) xs).map .kl
    | none => none
def rsv (μ : DM) (v : DV) : Option DV := rsW (rsR μ 4) v
mutual
def toP : DV → PyData
  | .non => .none
  | .bl b => .bool b
  | .int i => .int i
  | .str s => .str (Str.ofString s)
  | .tup xs => .tuple (toPL xs)
  | .kl xs => .list (toPL xs)
  | .ref _ => .none
def toPL : List DV → List PyData
  | [] => []
  | x :: xs => toP x :: toPL xs
def DV.dp : DV → Nat
  | .tup xs => DV.dpL xs + 1
  | .kl xs => DV.dpL xs + 1
  | _ => 0
def DV.dpL : List DV → Nat
  | [] => 0
  | x :: xs => max (DV.dp x) (DV.dpL xs)
/-- == of data -/
def dEq : DV → DV → Bool
  | .non, .non => true
  | .bl a, .bl b => a == b
  | .bl a, .int j => (if a then 1 else 0) == j
  | .int i, .bl b => i == (if b then 1 else 0)
  | .int i, .int j => i == j
  | .str a, .str b => a == b
  | .tup a, .tup b => dEqL a b
  | .kl a, .kl b => dEqL a b
  | _, _ => false
def dEqL : List DV → List DV → Bool
  | [], [] => true
  | x :: xs, y :: ys => dEq x y && dEqL xs ys
  | _, _ => false
/-- no list of the store within -/
def DV.pure : DV → Bool
  | .ref _ => false
  | .tup xs => DV.pureL xs
  | .kl xs => DV.pureL xs
  | _ => true
def DV.pureL : List DV → Bool
  | [] => true
  | x :: xs => DV.pure x && DV.pureL xs
end
theorem ofString_inj {a b : String} (h : Str.ofString a = Str.ofString b) : a = b := by
  rw [Str.ofString_eq_toList, Str.ofString_eq_toList, Str.mk.injEq] at h
  have h2 : a.toList.map Char.toNat = b.toList.map Char.toNat := by simpa using congrArg Array.toList h
  have inj : ∀ (l m : List Char), l.map Char.toNat = m.map Char.toNat → l = m := by
    intro l
    induction l with
    | nil => intro m h; cases m with
      | nil => rfl
      | cons _ _ => simp at h
    | cons c l ih => intro m h; cases m with
      | nil => simp at h
      | cons d m =>
        simp only [List.map_cons, List.cons.injEq] at h
        rw [ih m h.2]
        have : c = d := Char.ext (UInt32.toNat_inj.mp h.1)
        rw [this]
  exact String.toList_inj.mp (inj _ _ h2)
theorem ofString_eq {a b : String} : (Str.ofString a == Str.ofString b) = (a == b) := by
  by_cases h : a = b
  · subst h; simp
  · rw [beq_eq_false_iff_ne.mpr h, beq_eq_false_iff_ne.mpr fun e => h (ofString_inj e)]
theorem ofString_ok (a : String) : PyData.strOk (Str.ofString a) = true := by
  rw [Str.ofString_eq_toList]
  unfold PyData.strOk
  simp only [List.all_toArray, List.all_eq_true, List.mem_map, decide_eq_true_eq]
  rintro x ⟨c, _, rfl⟩
  have hc := c.valid
  simp only [UInt32.isValidChar, Nat.isValidChar] at hc
  show c.val.toNat < _
  omega
mutual
theorem dEq_P : ∀ a b : DV, a.pure = true → b.pure = true → PyData.eqv (toP a) (toP b) = dEq a b
  | .non, b, _, hb => by cases b <;> first | rfl | cases hb
  | .bl _, b, _, hb => by cases b <;> first | rfl | cases hb
  | .int _, b, _, hb => by cases b <;> first | rfl | cases hb
  | .str _, b, _, hb => by cases b <;> first | (simp only [toP, PyData.eqv, dEq]; exact ofString_eq) | rfl | cases hb
  | .ref _, _, h, _ => by cases h
  | .tup xs, b, h, hb => by
    cases b with
    | tup ys => exact dEqL_P xs ys h hb
    | _ => first | rfl | cases hb
  | .kl xs, b, h, hb => by
    cases b with
    | kl ys => exact dEqL_P xs ys h hb
    | _ => first | rfl | cases hb
theorem dEqL_P : ∀ a b : List DV, DV.pureL a = true → DV.pureL b = true → PyData.eqvAll (toPL a) (toPL b) = dEqL a b
  | [], b, _, _ => by cases b <;> rfl
  | x :: xs, b, h, hb => by
    cases b with
    | nil => rfl
    | cons y ys =>
      simp only [DV.pureL, Bool.and_eq_true] at h hb
      show (PyData.eqv (toP x) (toP y) && PyData.eqvAll (toPL xs) (toPL ys)) = (dEq x y && dEqL xs ys)
      rw [dEq_P x y h.1 hb.1, dEqL_P xs ys h.2 hb.2]
end
mutual
theorem lay_P : ∀ a : DV, (toP a).canLay0 = true
  | .non => rfl
  | .bl _ => rfl
  | .int _ => rfl
  | .ref _ => rfl
  | .str s => by simp [toP, PyData.canLay0, ofString_ok]
  | .tup xs => by simp only [toP, PyData.canLay0]; exact layL_P xs
  | .kl xs => by simp only [toP, PyData.canLay0]; exact layL_P xs
theorem layL_P : ∀ a : List DV, PyData.canLayAll0 (toPL a) = true
  | [] => rfl
  | x :: xs => by simp only [toPL, PyData.canLayAll0, lay_P x, layL_P xs, Bool.and_self]
theorem dp_P : ∀ a : DV, (toP a).depth = a.dp
  | .non => rfl
  | .bl _ => rfl
  | .int _ => rfl
  | .ref _ => rfl
  | .str s => rfl
  | .tup xs => by simp only [toP, PyData.depth, DV.dp, dpL_P xs]
  | .kl xs => by simp only [toP, PyData.depth, DV.dp, dpL_P xs]
theorem dpL_P : ∀ a : List DV, PyData.depthAll (toPL a) = DV.dpL a
  | [] => rfl
  | x :: xs => by simp only [toPL, PyData.depthAll, DV.dpL, dp_P x, dpL_P xs]
end
theorem shaped_P {a : DV} (h : a.dp ≤ 64) : SeqAt.shaped (toP a) = true := by
  unfold SeqAt.shaped
  rw [lay_P, dp_P]
  simp [h]
section
variable {K : PySem.W.Frag} {θ : List Addr} {H : Hp}
mutual
theorem rsW_dp {f : Nat → Option DV} (hf : ∀ n d a, f n = some d → θ[n]? = some a → Dp K H (.ref a) (toP d) ∧ d.pure = true) : ∀ (v : DV) (w : V) (d : DV), rsW f v = some d → Rp K θ H v w → Dp K H w (toP d) ∧ d.pure = true
  | .non, w, d, h, r => by cases h; cases r; exact ⟨.non, rfl⟩
  | .bl b, w, d, h, r => by cases h; cases r; exact ⟨.bl b, rfl⟩
  | .int i, w, d, h, r => by cases h; cases r; exact ⟨.int i, rfl⟩
  | .str s, w, d, h, r => by cases h; cases r; exact ⟨.str _, rfl⟩
  | .ref n, w, d, h, r => by
    obtain ⟨a, ha, rfl⟩ := r
    exact hf n d a h ha
  | .tup xs, w, d, h, r => by
    obtain ⟨a, vs, rfl, s, r⟩ := r
    simp only [rsW, Option.map_eq_some_iff] at h
    obtain ⟨ds, h1, rfl⟩ := h
    obtain ⟨q1, q2⟩ := rsWL_dp hf xs vs ds h1 r
    exact ⟨.tup s q1, q2⟩
  | .kl xs, w, d, h, r => by
    obtain ⟨a, vs, rfl, s, r⟩ := r
    simp only [rsW, Option.map_eq_some_iff] at h
    obtain ⟨ds, h1, rfl⟩ := h
    obtain ⟨q1, q2⟩ := rsWL_dp hf xs vs ds h1 r
    exact ⟨.lst s.sq q1, q2⟩
theorem rsWL_dp {f : Nat → Option DV} (hf : ∀ n d a, f n = some d → θ[n]? = some a → Dp K H (.ref a) (toP d) ∧ d.pure = true) : ∀ (v : List DV) (w : List V) (d : List DV), rsWL f v = some d → RpL K θ H v w → DpAll K H w (toPL d) ∧ DV.pureL d = true
  | [], w, d, h, r => by cases h; cases r; exact ⟨.nil, rfl⟩
  | x :: xs, w, d, h, r => by
    obtain ⟨u, us, rfl, r1, r2⟩ := r
    simp only [rsWL] at h
    split at h
    · rename_i d1 ds h1 h2
      cases h
      obtain ⟨q1, q2⟩ := rsW_dp hf x u d1 h1 r1
      obtain ⟨q3, q4⟩ := rsWL_dp hf xs us ds h2 r2
      exact ⟨.cons q1 q3, by simp only [DV.pureL, q2, q4, Bool.and_self]⟩
    · cases h
end
theorem rsR_dp {μ : DM} (s : Sto K θ H μ) : ∀ (k n : Nat) (d : DV) (a : Addr), rsR μ k n = some d → θ[n]? = some a → Dp K H (.ref a) (toP d) ∧ d.pure = true
  | 0, _, _, _, h, _ => by cases h
  | k + 1, n, d, a, h, ha => by
    simp only [rsR] at h
    split at h
    · rename_i xs hx
      simp only [Option.map_eq_some_iff] at h
      obtain ⟨ds, h1, rfl⟩ := h
      obtain ⟨vs, e, r⟩ := s.cell n a _ ha hx
      obtain ⟨q1, q2⟩ := rsWL_dp (rsR_dp s k) xs vs ds h1 r
      exact ⟨.lst (SqL.of e) q1, q2⟩
    · cases h
theorem rsv_dp {μ : DM} (s : Sto K θ H μ) {v d : DV} {w : V} (h : rsv μ v = some d) (r : Rp K θ H v w) : Dp K H w (toP d) ∧ d.pure = true := rsW_dp (rsR_dp s 4) v w d h r
end
def gEq (neg : Bool) : DV → DV → DM → DR DV := fun u v μ => match rsv μ u, rsv μ v with
  | some a, some b => if a.dp ≤ 64 ∧ b.dp ≤ 64 then .ok (.bl (if neg then !dEq a b else dEq a b)) μ else .bad
  | _, _ => .bad
theorem eq_run {K : PySem.W.Frag} {neg : Bool} {x y : V} {H : Hp} {Q : VK} (q : rG K (gEq neg) x y H Q) : ∃ d e, Dp K H x d ∧ Dp K H y e ∧ SeqAt.shaped d = true ∧ SeqAt.shaped e = true ∧ Q (.bl (if neg then !PyData.eqv d e else PyData.eqv d e)) H := by
  obtain ⟨θ, μ, u, v, s, ru, rv, q⟩ := q
  unfold gEq at q
  split at q
  · rename_i a b ha hb
    split at q
    · rename_i hd
      obtain ⟨p1, p2⟩ := rsv_dp s ha ru
      obtain ⟨p3, p4⟩ := rsv_dp s hb rv
      refine ⟨_, _, p1, p3, shaped_P hd.1, shaped_P hd.2, ?_⟩
      rw [dEq_P a b p2 p4]
      exact q.fin s rfl
    · exact q.elim
  · exact q.elim
theorem o_eq (hu : X.A.units + 64 < cLine) : OpD X (compareOp .Eq) (gEq false) := imO (op_eqD hu) fun x y H Q q => eq_run q
theorem o_ne (hu : X.A.units + 64 < cLine) : OpD X (compareOp .NotEq) (gEq true) := imO (op_neD hu) fun x y H Q q => eq_run q
/-! ### in, not in -/
def gIn (neg : Bool) : DV → DV → DM → DR DV := fun u v μ => match rsv μ u, rsv μ v with
  | some a, some (.kl bs) => if a.dp ≤ 64 ∧ (DV.kl bs).dp ≤ 64 then .ok (.bl (if neg then !bs.any (fun z => dEq z a) else bs.any (fun z => dEq z a))) μ else .bad
  | _, _ => .bad
theorem any_P {a : DV} (ha : a.pure = true) : ∀ {bs : List DV}, DV.pureL bs = true → (toPL bs).any (fun z => PyData.eqv z (toP a)) = bs.any fun z => dEq z a
  | [], _ => rfl
  | b :: bs, h => by
    simp only [DV.pureL, Bool.and_eq_true] at h
    simp only [toPL, List.any_cons, any_P ha h.2, dEq_P b a h.1 ha]
theorem in_run {K : PySem.W.Frag} {neg : Bool} {x y : V} {H : Hp} {Q : VK} (q : rG K (gIn neg) x y H Q) : ∃ d ds, Dp K H x d ∧ Dp K H y (.list ds) ∧ SeqAt.shaped d = true ∧ SeqAt.shaped (.list ds) = true ∧ Q (.bl (if neg then !ds.any (fun z => PyData.eqv z d) else ds.any (fun z => PyData.eqv z d))) H := by
  obtain ⟨θ, μ, u, v, s, ru, rv, q⟩ := q
  unfold gIn at q
  split at q
  · rename_i a bs ha hb
    split at q
    · rename_i hd
      obtain ⟨p1, p2⟩ := rsv_dp s ha ru
      obtain ⟨p3, p4⟩ := rsv_dp s hb rv
      refine ⟨_, _, p1, p3, shaped_P hd.1, shaped_P hd.2, ?_⟩
      rw [any_P p2 p4]
      exact q.fin s rfl
    · exact q.elim
  · exact q.elim
theorem o_in (hu : X.A.units + 65 < cLine) : OpD X (compareOp .In) (gIn false) := imO (op_inD hu) fun x y H Q q => in_run q
theorem o_notIn (hu : X.A.units + 65 < cLine) : OpD X (compareOp .NotIn) (gIn true) := imO (op_notInD hu) fun x y H Q q => in_run q
/-! ### is -/
def gIs (neg : Bool) : DV → DV → DM → DR DV := fun u v μ => match u, v with
  | .non, .non => .ok (.bl (!neg)) μ
  | _, .non => .ok (.bl neg) μ
  | .bl a, .bl b => .ok (.bl (if neg then !decide (a = b) else decide (a = b))) μ
  | _, _ => .bad
theorem Rp.non_iff {K : PySem.W.Frag} {θ : List Addr} {H : Hp} {u : DV} {x : V} (r : Rp K θ H u x) : x = .non ↔ u = .non := by
  cases u with
  | non => cases r; simp
  | tup _ => obtain ⟨a, vs, rfl, _⟩ := r; simp
  | kl _ => obtain ⟨a, vs, rfl, _⟩ := r; simp
  | ref _ => obtain ⟨a, _, rfl⟩ := r; simp
  | _ => cases r; simp
theorem is_run {K : PySem.W.Frag} {neg : Bool} {x y : V} {H : Hp} {Q : VK} (q : rG K (gIs neg) x y H Q) : (y = .non ∧ Q (.bl (if neg then !decide (x = .non) else decide (x = .non))) H) ∨ (∃ a b : Bool, x = .bl a ∧ y = .bl b ∧ Q (.bl (if neg then !decide (a = b) else decide (a = b))) H) := by
  obtain ⟨θ, μ, u, v, s, ru, rv, q⟩ := q
  unfold gIs at q
  split at q
  · cases ru; cases rv
    refine .inl ⟨rfl, ?_⟩
    simp only [decide_true, Bool.not_true]
    cases neg <;> exact q.fin s rfl
  · rename_i hn
    cases rv
    refine .inl ⟨rfl, ?_⟩
    have : decide (x = V.non) = false := decide_eq_false fun e => hn (ru.non_iff.mp e)
    rw [this]
    cases neg <;> exact q.fin s rfl
  · cases ru; cases rv
    exact .inr ⟨_, _, rfl, rfl, q.fin s rfl⟩
  · exact q.elim
theorem o_is : OpD X (compareOp .Is) (gIs false) := imO (op_isN.or op_isBl) fun x y H Q q => is_run q
theorem o_isNot : OpD X (compareOp .IsNot) (gIs true) := imO (op_notN.or op_notBl) fun x y H Q q => is_run q
/-! ### -x -/
def mNeg (m : EM) : EM := fun ρ μ => (m ρ μ).bind fun v μ => match v with
  | .int i => .ok (.int (-i)) μ
  | _ => .bad
theorem d_neg {m : EM} (h : DEx xt W X a m) : DEx xt W X (.UnaryOp .USub a pos) (mNeg m) := by
  refine imE (pe_un un_neg h) fun σ H Q ⟨θ, ρ, μ, he, hs, q⟩ => ⟨θ, ρ, μ, he, hs, ?_⟩
  refine q.bind.imp fun w H1 ⟨θ1, μ1, u, l1, s1, r1, q1⟩ => ?_
  cases u with
  | int i => cases r1; exact ⟨i, rfl, q1.ret s1 rfl⟩
  | _ => exact q1.elim
/-! ### a[i] -/
def gIx : DV → DV → DM → DR DV := fun u v μ => match u.seq μ, v with
  | some xs, .int i => match atI xs i with
    | some x => .ok x μ
    | none => .bad
  | _, _ => .bad
theorem ix_run {K : PySem.W.Frag} {x y : V} {H : Hp} {Q : VK} (q : rG K gIx x y H Q) : rIx K x y H Q := by
  obtain ⟨θ, μ, u, v, s, ru, rv, q⟩ := q
  unfold gIx at q
  split at q
  · rename_i xs i hx
    split at q
    · rename_i z hz
      cases rv
      obtain ⟨p, vs, rfl, sp, r1⟩ := seq_of s ru hx
      obtain ⟨w, hw, rw'⟩ : ∃ w, atI vs i = some w ∧ Rp K θ H z w := by
        unfold atI at hz ⊢
        rw [← r1.len]
        cases h : ixN xs.length i with
        | none => rw [h] at hz; cases hz
        | some j => rw [h] at hz; exact r1.get hz
      rcases sp with sp | sp
      · exact .inl ⟨p, vs, i, w, rfl, rfl, sp, hw, q.fin s rw'⟩
      · exact .inr (.inl ⟨p, vs, i, w, rfl, rfl, sp, hw, q.fin s rw'⟩)
    · exact q.elim
  · exact q.elim
theorem d_ix {ma mb : EM} (ha : DEx xt W X a ma) (hb : DEx xt W X b mb) (hs : PlainIx b := by exact fun _ _ => rfl) : DEx xt W X (.Subscript a b pos) (mOp gIx ma mb) := by
  refine imE (pe_ix ix_seq ha hb hs) fun σ H Q q => ?_
  have q2 : tOp (rG X.K gIx) (tE X.K xt W ma) (tE X.K xt W mb) σ H Q := op_run q
  obtain ⟨θ, ρ, μ, he, hs, q⟩ := q2
  exact ⟨θ, ρ, μ, he, hs, q.imp fun w H1 ⟨θ, ρ, μ, he, hs, q⟩ => ⟨θ, ρ, μ, he, hs, q.imp fun _ _ => ix_run⟩⟩
end
end Md

namespace Md
open PySem L2
section
variable {X : Cx} {xt : String → Option Addr} {W : WX} {a b c e o : Expr} {es : List Expr} {pos p apos : Pos} {x : Str}
/-! ## slices -/
abbrev DPo (xt : String → Option Addr) (W : WX) (X : Cx) (e : Option Expr) (m : DE → DM → DR (Option Int)) : Prop := PO X e (tG X.K xt W (fun _ _ a b => a = b) m)
def mNoP : DE → DM → DR (Option Int) := fun _ μ => .ok none μ
def mP (m : EM) : DE → DM → DR (Option Int) := fun ρ μ => (m ρ μ).bind fun v μ => match v with
  | .int i => .ok (some i) μ
  | _ => .bad
theorem p_none : DPo xt W X none mNoP := ⟨fun pins s σ H Q I ⟨_, _, _, _, hs, q⟩ => po_none.run pins s σ H Q I (q.ret hs rfl)⟩
theorem p_some {m : EM} (h : DEx xt W X e m) : DPo xt W X (some e) (mP m) := ⟨fun pins s σ H Q I ⟨θ, ρ, μ, he, hs, q⟩ => (po_some h).run pins s σ H Q I (by
  refine ⟨θ, ρ, μ, he, hs, ?_⟩
  refine q.bind.imp fun w H1 ⟨θ1, μ1, u, l1, s1, r1, q1⟩ => ?_
  cases u with
  | int i => cases r1; exact ⟨i, rfl, q1.ret s1 rfl⟩
  | _ => exact q1.elim)⟩
def cutD (xs : List DV) (lo hi : Option Int) : List DV := (xs.drop (HT.sIx xs.length 0 lo)).take (HT.sIx xs.length xs.length hi - HT.sIx xs.length 0 lo)
def mSl (m : EM) (lo hi : DE → DM → DR (Option Int)) : EM := fun ρ μ => (m ρ μ).bind fun v μ => (lo ρ μ).bind fun l μ => (hi ρ μ).bind fun h μ => match v with
  | .tup xs => .ok (.tup (cutD xs l h)) μ
  | .kl xs => .ok (.ref μ.length) (μ ++ [.lst (cutD xs l h)])
  | .ref n => match μ[n]? with
    | some (.lst xs) => .ok (.ref μ.length) (μ ++ [.lst (cutD xs l h)])
    | none => .bad
  | _ => .bad
theorem RpL.cut {K : PySem.W.Frag} {θ : List Addr} {H : Hp} {xs : List DV} {vs : List V} (r : RpL K θ H xs vs) (l h : Option Int) : RpL K θ H (cutD xs l h) (cutV vs l h) := by
  unfold cutD cutV
  rw [r.len]
  exact (r.drop _).take _
theorem Po.retT {K : PySem.W.Frag} {xt : String → Option Addr} {W : WX} {xs : List DV} {μ : DM} {θ : List Addr} {H : Hp} {σ : L2.St} {Q : VK} {vs : List V} (h : Po K xt W (Rp K) (.ok (.tup xs) μ) θ H σ Q) (s : Sto K θ H μ) (r : RpL K θ H xs vs) :
    ∀ p, H p = none → Q (.ref p) (upd H p (.tup vs)) := fun p hp => h θ _ _ (Lt.laid hp) (s.fr hp) ⟨p, vs, rfl, .inl (.inl upd_same), (Lt.laid hp).rpL r⟩
theorem Po.retL {K : PySem.W.Frag} {xt : String → Option Addr} {W : WX} {xs : List DV} {μ : DM} {θ : List Addr} {H : Hp} {σ : L2.St} {Q : VK} {vs : List V} (h : Po K xt W (Rp K) (.ok (.ref μ.length) (μ ++ [.lst xs])) θ H σ Q) (s : Sto K θ H μ) (r : RpL K θ H xs vs) :
    ∀ p, H p = none → Q (.ref p) (upd H p (.lst vs)) := fun p hp => h _ _ _ (Lt.push hp) ((s.fr hp).push (s.out hp) upd_same ((Lt.laid hp).rpL r)) ⟨p, by rw [← s.len, List.getElem?_append_right (Nat.le_refl _)]; simp, rfl⟩
theorem cutD_whole {xs : List DV} {l h : Option Int} (w : HT.sIx xs.length 0 l = 0 ∧ HT.sIx xs.length xs.length h = xs.length) : cutD xs l h = xs := by
  unfold cutD
  rw [w.1, w.2]
  simp
theorem d_slice {m : EM} {lo hi : Option Expr} {ml mh : DE → DM → DR (Option Int)} {p2 : Pos} (h : DEx xt W X e m) (hl : DPo xt W X lo ml) (hh : DPo xt W X hi mh) : DEx xt W X (.Subscript e (.Slice lo hi none p2) pos) (mSl m ml mh) := by
  refine imE (pe_slice (sl_tupA.or sl_list) h hl hh) fun σ H Q ⟨θ, ρ, μ, he, hs, q⟩ => ⟨θ, ρ, μ, he, hs, ?_⟩
  refine q.bind.imp fun w H1 ⟨θ1, μ1, v, l1, s1, r1, q1⟩ => ⟨θ1, ρ, μ1, l1.rpE he, s1, ?_⟩
  refine q1.bind.imp fun l' H2 ⟨θ2, μ2, l, l2, s2, r2, q2⟩ => ⟨θ2, ρ, μ2, l2.rpE (l1.rpE he), s2, ?_⟩
  refine q2.bind.imp fun h' H3 ⟨θ3, μ3, h, l3, s3, r3, q3⟩ => ?_
  subst r2; subst r3
  have rv := l3.rp (l2.rp r1)
  cases v with
  | tup xs =>
    obtain ⟨p, vs, rfl, sp, r⟩ := rv
    refine .inl ⟨p, vs, rfl, sp, fun hw => ?_, fun hw => q3.retT s3 (r.cut l h)⟩
    refine q3.ret s3 ⟨p, vs, rfl, sp, ?_⟩
    rw [← r.len] at hw
    rw [cutD_whole hw]
    exact r
  | kl xs =>
    obtain ⟨p, vs, rfl, sp, r⟩ := rv
    exact .inr ⟨p, vs, rfl, sp.sq, q3.retL s3 (r.cut l h)⟩
  | ref n =>
    obtain ⟨p, hp, rfl⟩ := rv
    replace q3 : Po X.K xt W (Rp X.K) (match μ3[n]? with | some (.lst xs) => .ok (.ref μ3.length) (μ3 ++ [.lst (cutD xs l h)]) | none => .bad) θ3 H3 σ Q := q3
    split at q3
    · rename_i xs hx
      obtain ⟨vs, ev, r⟩ := s3.cell n p _ hp hx
      exact .inr ⟨p, vs, rfl, SqL.of ev, q3.retL s3 (r.cut l h)⟩
    · exact q3.elim
  | _ => exact q3.elim
/-! ## built-ins of one list -/
/-- a built-in's rule, by the items -/
def Lf (K : PySem.W.Frag) (r : List V → Hp → VK → Prop) (g : List DV → DM → DR DV) : Prop :=
  ∀ (θ : List Addr) (H : Hp) (μ : DM) (xs : List DV) (p : Addr) (vs : List V) (σ : L2.St) (xt : String → Option Addr) (W : WX) (Q : VK), Sto K θ H μ → SqL K H p vs → RpL K θ H xs vs → Po K xt W (Rp K) (g xs μ).noex θ H σ Q → r [.ref p] H Q
/-- a list's items, also of one that nobody changes -/
def DV.lsq (v : DV) (μ : DM) : Option (List DV) := match v with
  | .ref n => match μ[n]? with
    | some (.lst xs) => some xs
    | none => none
  | .kl xs => some xs
  | _ => none
theorem lsq_of {K : PySem.W.Frag} {θ : List Addr} {H : Hp} {μ : DM} (s : Sto K θ H μ) {v : DV} {w : V} (r : Rp K θ H v w) {xs : List DV} (h : v.lsq μ = some xs) : ∃ p vs, w = .ref p ∧ SqL K H p vs ∧ RpL K θ H xs vs := by
  cases v with
  | ref n =>
    obtain ⟨p, hp, rfl⟩ := r
    simp only [DV.lsq] at h
    split at h
    · rename_i ys hy
      cases h
      obtain ⟨vs, e, r⟩ := s.cell n p _ hp hy
      exact ⟨p, vs, rfl, SqL.of e, r⟩
    · cases h
  | kl ys =>
    cases h
    obtain ⟨p, vs, e, h1, r1⟩ := r
    exact ⟨p, vs, e, h1.sq, r1⟩
  | _ => cases h
def mL1 (g : List DV → DM → DR DV) (m : EM) : EM := fun ρ μ => (m ρ μ).bind fun v μ => match v.lsq μ with
  | some xs => (g xs μ).noex
  | none => .bad
def mL1F (g : List DV → DM → DR DV) (m : LM) : EM := fun ρ μ => (m ρ μ).bind fun xs μ => (g xs μ).noex
theorem l1_run {r : List V → Hp → VK → Prop} {g : List DV → DM → DR DV} {m : EM} (hr : Lf X.K r g) {σ : L2.St} {H : Hp} {Q : VK} (q : tE X.K xt W (mL1 g m) σ H Q) : tCB r (tCons (tE X.K xt W m) tNil) σ H Q := by
  obtain ⟨θ, ρ, μ, he, hs, q⟩ := q
  refine ⟨θ, ρ, μ, he, hs, ?_⟩
  refine q.bind.imp fun w H1 ⟨θ1, μ1, v, l1, s1, r1, q1⟩ => ?_
  split at q1
  · rename_i xs hx
    obtain ⟨p, vs, rfl, sp, r2⟩ := lsq_of s1 r1 hx
    exact hr _ _ _ _ _ _ _ _ _ _ s1 sp r2 q1
  · exact q1.elim
theorem l1F_run {r : List V → Hp → VK → Prop} {g : List DV → DM → DR DV} {m : LM} (hr : Lf X.K r g) {σ : L2.St} {H : Hp} {Q : VK} (q : tE X.K xt W (mL1F g m) σ H Q) : tCB r (tCons (tFr X.K xt W m) tNil) σ H Q := by
  obtain ⟨θ, ρ, μ, he, hs, q⟩ := q
  refine ⟨θ, ρ, μ, he, hs, ?_⟩
  refine (PoF.bind q).imp fun w H1 ⟨θ1, μ1, xs, ⟨p, vs, e, l1, s1, h0, hn, hp, r2⟩, q1⟩ => ?_
  subst e
  exact hr _ _ _ _ _ _ _ _ _ _ s1 (SqL.of hp) r2 (q1 _ _ l1)
section
variable {id T : String} {r : List V → Hp → VK → Prop} {g : List DV → DM → DR DV}
theorem d_b1 {m : EM} (hc : CallR X (.builtin id) r) (hr : Lf X.K r g) (hm : X.mg x = none) (hg : Gl X x := by rfl) (hv : bootBuiltins x = some (.builtin id) := by first | exact PySem.boot_len | decide +kernel) (h : DEx xt W X a m) (hn : x ≠ "__name__" := by decide) (hdb : (x == ("__debug__" : Str)) = false := by decide)
    (he : starEach [a] X.env = (false, eval a X.env) :: starEach [] X.env := by rfl) (hpl : (backTo pos (starEach [] X.env)).any (·.1) = false := by rfl) : DEx xt W X (.Call (.Name x p) [a] [] pos) (mL1 g m) :=
  imE (pe_callB hc hg hm hv (pa_cons h pa_nil he) hn hdb he hpl) fun _ _ _ q => l1_run hr q
theorem d_b1F {m : LM} (hc : CallR X (.builtin id) r) (hr : Lf X.K r g) (hm : X.mg x = none) (hg : Gl X x := by rfl) (hv : bootBuiltins x = some (.builtin id) := by decide +kernel) (h : DFr xt W X a m) (hn : x ≠ "__name__" := by decide) (hdb : (x == ("__debug__" : Str)) = false := by decide)
    (he : starEach [a] X.env = (false, eval a X.env) :: starEach [] X.env := by rfl) (hpl : (backTo pos (starEach [] X.env)).any (·.1) = false := by rfl) : DEx xt W X (.Call (.Name x p) [a] [] pos) (mL1F g m) :=
  imE (pe_callB hc hg hm hv (pa_cons h pa_nil he) hn hdb he hpl) fun _ _ _ q => l1F_run hr q
theorem d_t1F {m : LM} (hc : CallR X (.type T) r) (hr : Lf X.K r g) (hm : X.mg x = none) (hg : Gl X x := by rfl) (hv : bootBuiltins x = some (.type T) := by decide +kernel) (h : DFr xt W X a m) (hn : x ≠ "__name__" := by decide) (hdb : (x == ("__debug__" : Str)) = false := by decide)
    (he : starEach [a] X.env = (false, eval a X.env) :: starEach [] X.env := by rfl) (hpl : (backTo pos (starEach [] X.env)).any (·.1) = false := by rfl) : DEx xt W X (.Call (.Name x p) [a] [] pos) (mL1F g m) :=
  imE (pe_callTy hc hg hm hv (pa_cons h pa_nil he) hn hdb he hpl) fun _ _ _ q => l1F_run hr q
end
def blsOf : List DV → Option (List Bool)
  | [] => some []
  | .bl b :: xs => (blsOf xs).map (b :: ·)
  | _ => none
def intsOf : List DV → Option (List Int)
  | [] => some []
  | .int b :: xs => (intsOf xs).map (b :: ·)
  | _ => none
theorem blsOf_eq : ∀ {xs : List DV} {bs : List Bool}, blsOf xs = some bs → xs = bs.map DV.bl
  | [], bs, h => by cases h; rfl
  | x :: xs, bs, h => by
    cases x with
    | bl b =>
      simp only [blsOf, Option.map_eq_some_iff] at h
      obtain ⟨cs, h1, rfl⟩ := h
      rw [blsOf_eq h1]; rfl
    | _ => simp [blsOf] at h
theorem intsOf_eq : ∀ {xs : List DV} {bs : List Int}, intsOf xs = some bs → xs = bs.map DV.int
  | [], bs, h => by cases h; rfl
  | x :: xs, bs, h => by
    cases x with
    | int b =>
      simp only [intsOf, Option.map_eq_some_iff] at h
      obtain ⟨cs, h1, rfl⟩ := h
      rw [intsOf_eq h1]; rfl
    | _ => simp [intsOf] at h
@[simp] theorem blsOf_map : ∀ (bs : List Bool), blsOf (bs.map DV.bl) = some bs
  | [] => rfl
  | b :: bs => by simp [blsOf, blsOf_map bs]
@[simp] theorem intsOf_map : ∀ (bs : List Int), intsOf (bs.map DV.int) = some bs
  | [] => rfl
  | b :: bs => by simp [intsOf, intsOf_map bs]
def gAll (xs : List DV) (μ : DM) : DR DV := match blsOf xs with
  | some bs => .ok (.bl (bs.all id)) μ
  | none => .bad
def gAny (xs : List DV) (μ : DM) : DR DV := match blsOf xs with
  | some bs => .ok (.bl (bs.any id)) μ
  | none => .bad
def gSum (xs : List DV) (μ : DM) : DR DV := match intsOf xs with
  | some ns => .ok (.int ns.sum) μ
  | none => .bad
def gMin (xs : List DV) (μ : DM) : DR DV := match intsOf xs with
  | some ns => match ns.min? with
    | some m => .ok (.int m) μ
    | none => .bad
  | none => .bad
def gMax (xs : List DV) (μ : DM) : DR DV := match intsOf xs with
  | some ns => match ns.max? with
    | some m => .ok (.int m) μ
    | none => .bad
  | none => .bad
theorem lf_all {K : PySem.W.Frag} : Lf K (rAll K) gAll := fun θ H μ xs p vs σ xt W Q s sp r q => by
  unfold gAll at q
  split at q
  · rename_i bs hb
    rw [blsOf_eq hb] at r
    rw [r.bls] at sp
    exact ⟨p, bs, rfl, sp, q.fin s rfl⟩
  · exact q.elim
theorem lf_any {K : PySem.W.Frag} : Lf K (rAny K) gAny := fun θ H μ xs p vs σ xt W Q s sp r q => by
  unfold gAny at q
  split at q
  · rename_i bs hb
    rw [blsOf_eq hb] at r
    rw [r.bls] at sp
    exact ⟨p, bs, rfl, sp, q.fin s rfl⟩
  · exact q.elim
theorem lf_sum {K : PySem.W.Frag} : Lf K (rSum K) gSum := fun θ H μ xs p vs σ xt W Q s sp r q => by
  unfold gSum at q
  split at q
  · rename_i bs hb
    rw [intsOf_eq hb] at r
    rw [r.ints] at sp
    exact ⟨p, bs, rfl, sp, q.fin s rfl⟩
  · exact q.elim
theorem lf_min {K : PySem.W.Frag} : Lf K (rMin K) gMin := fun θ H μ xs p vs σ xt W Q s sp r q => by
  unfold gMin at q
  split at q
  · rename_i bs hb
    rw [intsOf_eq hb] at r
    rw [r.ints] at sp
    split at q
    · rename_i m hm
      refine ⟨p, bs, rfl, sp, ?_, fun m' h1 h2 => ?_⟩
      · cases bs with
        | nil => simp at hm
        | cons _ _ => simp
      · have hm' := List.min?_eq_some_iff.mp hm
        have e : m' = m := Int.le_antisymm (h2 m hm'.1) (hm'.2 m' h1)
        rw [e]
        exact q.fin s rfl
    · exact q.elim
  · exact q.elim
theorem lf_max {K : PySem.W.Frag} : Lf K (rMax K) gMax := fun θ H μ xs p vs σ xt W Q s sp r q => by
  unfold gMax at q
  split at q
  · rename_i bs hb
    rw [intsOf_eq hb] at r
    rw [r.ints] at sp
    split at q
    · rename_i m hm
      refine ⟨p, bs, rfl, sp, ?_, fun m' h1 h2 => ?_⟩
      · cases bs with
        | nil => simp at hm
        | cons _ _ => simp
      · have hm' := List.max?_eq_some_iff.mp hm
        have e : m' = m := Int.le_antisymm (hm'.2 m' h1) (h2 m hm'.1)
        rw [e]
        exact q.fin s rfl
    · exact q.elim
  · exact q.elim
/-! ## len, tuple, list, sorted, int, abs, gcd, isinstance -/
def mLen (m : EM) : EM := fun ρ μ => (m ρ μ).bind fun v μ => match v.seq μ with
  | some xs => .ok (.int xs.length) μ
  | none => .bad
def gLen (xs : List DV) (μ : DM) : DR DV := .ok (.int xs.length) μ
theorem d_len {m : EM} (hm : X.mg ("len" : Str) = none) (h : DEx xt W X a m) (hg : Gl X ("len" : Str) := by rfl)
    (he : starEach [a] X.env = (false, eval a X.env) :: starEach [] X.env := by rfl) (hpl : (backTo pos (starEach [] X.env)).any (·.1) = false := by rfl) : DEx xt W X (.Call (.Name "len" p) [a] [] pos) (mLen m) := by
  refine imE (pe_callB call_len_seq hg hm PySem.boot_len (pa_cons h pa_nil he) (by decide) (by decide) he hpl) fun σ H Q ⟨θ, ρ, μ, he, hs, q⟩ => ⟨θ, ρ, μ, he, hs, ?_⟩
  refine q.bind.imp fun w H1 ⟨θ1, μ1, v, l1, s1, r1, q1⟩ => ?_
  split at q1
  · rename_i xs hx
    obtain ⟨p, vs, rfl, sp, r2⟩ := seq_of s1 r1 hx
    exact ⟨p, vs, rfl, sp, q1.ret s1 (by rw [r2.len]; rfl)⟩
  · exact q1.elim
theorem lf_len {K : PySem.W.Frag} : Lf K (fun xs H Q => ∃ p ys, xs = [.ref p] ∧ (SqL K H p ys ∨ SqT K H p ys) ∧ Q (.int ys.length) H) gLen := fun θ H μ xs p vs σ xt W Q s sp r q =>
  ⟨p, vs, rfl, .inl sp, q.fin s (by rw [r.len]; rfl)⟩
def mTupOf (m : EM) : EM := fun ρ μ => (m ρ μ).bind fun v μ => match v.seq μ with
  | some xs => .ok (.tup xs) μ
  | none => .bad
def mTupF (m : LM) : EM := fun ρ μ => (m ρ μ).bind fun xs μ => .ok (.tup xs) μ
theorem d_tupOf {m : EM} (hm : X.mg ("tuple" : Str) = none) (h : DEx xt W X a m) (hg : Gl X ("tuple" : Str) := by rfl) (na : starEach [a] X.env = (false, eval a X.env) :: starEach [] X.env := by rfl) : DEx xt W X (.Call (.Name "tuple" p) [a] [] pos) (mTupOf m) := by
  refine imE (pe_tupleOf hg hm h na) fun σ H Q ⟨θ, ρ, μ, he, hs, q⟩ => ⟨θ, ρ, μ, he, hs, ?_⟩
  refine q.bind.imp fun w H1 ⟨θ1, μ1, v, l1, s1, r1, q1⟩ => ?_
  split at q1
  · rename_i xs hx
    obtain ⟨p, vs, rfl, sp, r2⟩ := seq_of s1 r1 hx
    rcases sp with sp | sp
    · exact .inl ⟨p, vs, rfl, sp, q1.retT s1 r2⟩
    · exact .inr ⟨p, vs, rfl, sp, q1.ret s1 ⟨p, vs, rfl, sp, r2⟩⟩
  · exact q1.elim
theorem d_tupF {m : LM} (hm : X.mg ("tuple" : Str) = none) (h : DFr xt W X a m) (hg : Gl X ("tuple" : Str) := by rfl) (na : starEach [a] X.env = (false, eval a X.env) :: starEach [] X.env := by rfl) : DEx xt W X (.Call (.Name "tuple" p) [a] [] pos) (mTupF m) := by
  refine imE (pe_tupleOf hg hm h na) fun σ H Q ⟨θ, ρ, μ, he, hs, q⟩ => ⟨θ, ρ, μ, he, hs, ?_⟩
  refine (PoF.bind q).imp fun w H1 ⟨θ1, μ1, xs, ⟨p, vs, e, l1, s1, h0, hn, hp, r2⟩, q1⟩ => ?_
  subst e
  exact .inl ⟨p, vs, rfl, SqL.of hp, (q1 _ _ l1).retT s1 r2⟩
def mListOf (m : EM) : LM := fun ρ μ => (m ρ μ).bind fun v μ => match v.seq μ with
  | some xs => .ok xs μ
  | none => .bad
theorem d_listOf {m : EM} (hm : X.mg ("list" : Str) = none) (h : DEx xt W X a m) (hg : Gl X ("list" : Str) := by rfl)
    (he : starEach [a] X.env = (false, eval a X.env) :: starEach [] X.env := by rfl) (hpl : (backTo pos (starEach [] X.env)).any (·.1) = false := by rfl) : DFr xt W X (.Call (.Name "list" p) [a] [] pos) (mListOf m) := by
  refine imE (pe_callTy call_list_of hg hm (by decide +kernel) (pa_cons h pa_nil he) (by decide) (by decide) he hpl) fun σ H Q ⟨θ, ρ, μ, he, hs, q⟩ => ⟨θ, ρ, μ, he, hs, ?_⟩
  refine (PoF.of q).imp fun w H1 ⟨θ1, μ1, v, l1, s1, r1, q1⟩ => ?_
  split at q1
  · rename_i xs hx
    obtain ⟨p, vs, rfl, sp, r2⟩ := seq_of s1 r1 hx
    exact ⟨p, vs, rfl, sp, q1.ret s1 r2⟩
  · exact q1.elim
/-- lo, lo + 1, .. below hi -/
def rgD (lo hi : Int) : List DV := (List.range (hi - lo).toNat).map fun i => DV.int (lo + (i : Nat))
theorem rg_rp {K : PySem.W.Frag} {θ : List Addr} {H : Hp} {lo hi : Int} : RpL K θ H (rgD lo hi) (rgV lo hi) := by
  unfold rgD rgV
  generalize List.range (hi - lo).toNat = l
  induction l with
  | nil => rfl
  | cons i l ih => exact ⟨_, _, rfl, rfl, ih⟩
/-- the ends of a range, asked so that nothing is counted down -/
def RgB (a b : Int) : Bool := match a, b with
  | .ofNat m, .ofNat n => Nat.ble m 10000000 && Nat.ble n 10000000
  | .ofNat m, .negSucc n => Nat.ble m 10000000 && Nat.ble n 10000000
  | _, _ => false
def RgO (a b : Int) : Prop := RgB a b = true
instance (a b : Int) : Decidable (RgO a b) := inferInstanceAs (Decidable (_ = _))
theorem RgO.ok {a b : Int} (h : RgO a b) : RgOk a b := by
  unfold RgO RgB at h
  split at h
  · rename_i m n
    rw [Bool.and_eq_true, Nat.ble_eq, Nat.ble_eq] at h
    simp only [Int.ofNat_eq_natCast] at *
    exact ⟨by omega, by omega, by omega, by omega, by omega⟩
  · rename_i m n
    rw [Bool.and_eq_true, Nat.ble_eq, Nat.ble_eq] at h
    simp only [Int.ofNat_eq_natCast, Int.negSucc_eq] at *
    exact ⟨by omega, by omega, by omega, by omega, by omega⟩
  · cases h
def mRg1 (m : EM) : LM := fun ρ μ => (m ρ μ).bind fun v μ => match v with
  | .int n => if RgO 0 n then .ok (rgD 0 n) μ else .bad
  | _ => .bad
def mRg2 (m n : EM) : LM := fun ρ μ => (m ρ μ).bind fun v μ => (n ρ μ).bind fun u μ => match v, u with
  | .int a, .int b => if RgO a b then .ok (rgD a b) μ else .bad
  | _, _ => .bad
theorem d_listRg1 {m : EM} {p2 pos2 : Pos} (hc : X.calm = true) (hm : X.mg ("list" : Str) = none) (hm2 : X.mg ("range" : Str) = none) (h : DEx xt W X a m) (hg : Gl X ("list" : Str) := by rfl) (hg2 : Gl X ("range" : Str) := by rfl)
    (na : starEach [a] X.env = (false, eval a X.env) :: starEach [] X.env := by rfl) (na2 : starEach [.Call (.Name "range" p2) [a] [] pos2] X.env = (false, eval (.Call (.Name "range" p2) [a] [] pos2) X.env) :: starEach [] X.env := by rfl) :
    DFr xt W X (.Call (.Name "list" p) [.Call (.Name "range" p2) [a] [] pos2] [] pos) (mRg1 m) := by
  refine imE (pe_listRg hc hg hm (prg_1 hg2 hm2 h na) na2) fun σ H Q ⟨θ, ρ, μ, he, hs, q⟩ => ⟨θ, ρ, μ, he, hs, ?_⟩
  refine (PoF.of q).imp fun w H1 ⟨θ1, μ1, v, l1, s1, r1, q1⟩ => ?_
  cases v with
  | int n =>
    cases r1
    replace q1 : PoF X.K xt W (if RgO 0 n then .ok (rgD 0 n) μ1 else .bad) θ1 H1 σ Q := q1
    split at q1
    · rename_i hr
      exact ⟨n, rfl, hr.ok, q1.ret s1 rg_rp⟩
    · exact q1.elim
  | _ => exact q1.elim
theorem d_listRg2 {m n : EM} {p2 pos2 : Pos} (hc : X.calm = true) (hm : X.mg ("list" : Str) = none) (hm2 : X.mg ("range" : Str) = none) (h : DEx xt W X a m) (h2 : DEx xt W X b n) (hg : Gl X ("list" : Str) := by rfl) (hg2 : Gl X ("range" : Str) := by rfl)
    (na : starEach [a, b] X.env = (false, eval a X.env) :: starEach [b] X.env := by rfl) (nb : starEach [b] X.env = (false, eval b X.env) :: starEach [] X.env := by rfl) (hp : (backTo pos2 (starEach [b] X.env)).any (·.1) = false := by rfl)
    (na2 : starEach [.Call (.Name "range" p2) [a, b] [] pos2] X.env = (false, eval (.Call (.Name "range" p2) [a, b] [] pos2) X.env) :: starEach [] X.env := by rfl) :
    DFr xt W X (.Call (.Name "list" p) [.Call (.Name "range" p2) [a, b] [] pos2] [] pos) (mRg2 m n) := by
  refine imE (pe_listRg hc hg hm (prg_2 hg2 hm2 h h2 na nb hp) na2) fun σ H Q ⟨θ, ρ, μ, he, hs, q⟩ => ⟨θ, ρ, μ, he, hs, ?_⟩
  refine (PoF.of q).imp fun w H1 ⟨θ1, μ1, v, l1, s1, r1, q1⟩ => ⟨θ1, ρ, μ1, l1.rpE he, s1, ?_⟩
  refine (PoF.of q1).imp fun w2 H2 ⟨θ2, μ2, u, l2, s2, r2, q2⟩ => ?_
  cases v with
  | int i =>
    cases u with
    | int j =>
      cases r1; cases r2
      replace q2 : PoF X.K xt W (if RgO i j then .ok (rgD i j) μ2 else .bad) θ2 H2 σ Q := q2
      split at q2
      · rename_i hr
        exact ⟨i, j, rfl, rfl, hr.ok, q2.ret s2 rg_rp⟩
      · exact q2.elim
    | _ => exact q2.elim
  | _ => exact q2.elim
/-- ascending -/
def srtD (ns : List Int) : List Int := ns.mergeSort (fun a b => decide (a ≤ b))
theorem srt_one : ∀ {l m : List Int}, l.Perm m → l.Pairwise (· ≤ ·) → m.Pairwise (· ≤ ·) → l = m
  | [], m, hp, _, _ => by have := hp.length_eq; cases m with
    | nil => rfl
    | cons _ _ => simp at this
  | a :: l, m, hp, h1, h2 => by
    cases m with
    | nil => have := hp.length_eq; simp at this
    | cons b m =>
      have h1' := List.pairwise_cons.mp h1
      have h2' := List.pairwise_cons.mp h2
      have e : a = b := by
        have ha : a ∈ b :: m := hp.mem_iff.mp List.mem_cons_self
        have hb : b ∈ a :: l := hp.mem_iff.mpr List.mem_cons_self
        have x1 : b ≤ a := by
          rcases List.mem_cons.mp ha with e | e
          · omega
          · exact h2'.1 a e
        have x2 : a ≤ b := by
          rcases List.mem_cons.mp hb with e | e
          · omega
          · exact h1'.1 b e
        omega
      subst e
      rw [srt_one ((List.perm_cons a).mp hp) h1'.2 h2'.2]
theorem srtD_perm (ns : List Int) : (srtD ns).Perm ns := List.mergeSort_perm ns _
theorem srtD_srt (ns : List Int) : (srtD ns).Pairwise (· ≤ ·) := by
  have h := List.pairwise_mergeSort (le := fun a b : Int => decide (a ≤ b)) (fun a b c h1 h2 => by simp at *; omega) (fun a b => by simp; omega) ns
  exact h.imp fun h => by simpa using h
def mSorted (m : EM) : LM := fun ρ μ => (m ρ μ).bind fun v μ => match v.lsq μ with
  | some xs => match intsOf xs with
    | some ns => .ok ((srtD ns).map .int) μ
    | none => .bad
  | none => .bad
def mSortedF (m : LM) : LM := fun ρ μ => (m ρ μ).bind fun xs μ => match intsOf xs with
    | some ns => .ok ((srtD ns).map .int) μ
    | none => .bad
theorem d_sorted {m : EM} (hm : X.mg ("sorted" : Str) = none) (h : DEx xt W X a m) (hg : Gl X ("sorted" : Str) := by rfl)
    (he : starEach [a] X.env = (false, eval a X.env) :: starEach [] X.env := by rfl) (hpl : (backTo pos (starEach [] X.env)).any (·.1) = false := by rfl) : DFr xt W X (.Call (.Name "sorted" p) [a] [] pos) (mSorted m) := by
  refine imE (pe_callB cr_sortedI hg hm (by decide +kernel) (pa_cons h pa_nil he) (by decide) (by decide) he hpl) fun σ H Q ⟨θ, ρ, μ, he, hs, q⟩ => ⟨θ, ρ, μ, he, hs, ?_⟩
  refine (PoF.of q).imp fun w H1 ⟨θ1, μ1, v, l1, s1, r1, q1⟩ => ?_
  split at q1
  · rename_i xs hx
    obtain ⟨p, vs, rfl, sp, r2⟩ := lsq_of s1 r1 hx
    split at q1
    · rename_i ns hn
      rw [intsOf_eq hn] at r2
      rw [r2.ints] at sp
      refine ⟨p, ns, rfl, sp, fun ns' p' h1 h2 h3 => ?_⟩
      rw [srt_one (h1.trans (srtD_perm ns).symm) h2 (srtD_srt ns)]
      exact q1.ret s1 RpL.of_ints p' h3
    · exact q1.elim
  · exact q1.elim
def mInt (m : EM) : EM := fun ρ μ => (m ρ μ).bind fun v μ => match v with
  | .int i => .ok (.int i) μ
  | .bl k => .ok (.int (if k then 1 else 0)) μ
  | _ => .bad
theorem d_intOf {m : EM} (hm : X.mg ("int" : Str) = none) (h : DEx xt W X a m) (hg : Gl X ("int" : Str) := by rfl)
    (he : starEach [a] X.env = (false, eval a X.env) :: starEach [] X.env := by rfl) (hpl : (backTo pos (starEach [] X.env)).any (·.1) = false := by rfl) : DEx xt W X (.Call (.Name "int" p) [a] [] pos) (mInt m) := by
  refine imE (pe_callTy call_int1 hg hm (by decide +kernel) (pa_cons h pa_nil he) (by decide) (by decide) he hpl) fun σ H Q ⟨θ, ρ, μ, he, hs, q⟩ => ⟨θ, ρ, μ, he, hs, ?_⟩
  refine q.bind.imp fun w H1 ⟨θ1, μ1, v, l1, s1, r1, q1⟩ => ?_
  cases v with
  | int i => cases r1; exact .inl ⟨i, rfl, q1.ret s1 rfl⟩
  | bl i => cases r1; exact .inr ⟨i, rfl, q1.ret s1 rfl⟩
  | _ => exact q1.elim
def mAbs (m : EM) : EM := fun ρ μ => (m ρ μ).bind fun v μ => match v with
  | .int i => .ok (.int (if i < 0 then -i else i)) μ
  | _ => .bad
theorem d_abs {m : EM} (hm : X.mg ("abs" : Str) = none) (h : DEx xt W X a m) (hg : Gl X ("abs" : Str) := by rfl)
    (he : starEach [a] X.env = (false, eval a X.env) :: starEach [] X.env := by rfl) (hpl : (backTo pos (starEach [] X.env)).any (·.1) = false := by rfl) : DEx xt W X (.Call (.Name "abs" p) [a] [] pos) (mAbs m) := by
  refine imE (pe_callB call_abs hg hm (by decide +kernel) (pa_cons h pa_nil he) (by decide) (by decide) he hpl) fun σ H Q ⟨θ, ρ, μ, he, hs, q⟩ => ⟨θ, ρ, μ, he, hs, ?_⟩
  refine q.bind.imp fun w H1 ⟨θ1, μ1, v, l1, s1, r1, q1⟩ => ?_
  cases v with
  | int i => cases r1; exact ⟨i, rfl, q1.ret s1 rfl⟩
  | _ => exact q1.elim
def mGcd (m n : EM) : EM := fun ρ μ => (m ρ μ).bind fun v μ => (n ρ μ).bind fun u μ => match v, u with
  | .int i, .int j => .ok (.int ((Nat.gcd i.natAbs j.natAbs : Nat) : Int)) μ
  | _, _ => .bad
theorem d_gcd {m n : EM} (hm : X.mg ("gcd" : Str) = some (.builtin "math.gcd")) (h : DEx xt W X a m) (h2 : DEx xt W X b n) (hg : Gl X ("gcd" : Str) := by rfl)
    (hb : starEach [b] X.env = (false, eval b X.env) :: starEach [] X.env := by rfl) (he : starEach [a, b] X.env = (false, eval a X.env) :: starEach [b] X.env := by rfl) (hpl : (backTo pos (starEach [b] X.env)).any (·.1) = false := by rfl) : DEx xt W X (.Call (.Name "gcd" p) [a, b] [] pos) (mGcd m n) := by
  refine imE (pe_callBfun cr_gcd hg hm (pa_cons h (pa_cons h2 pa_nil hb) he) (by decide) he hpl) fun σ H Q ⟨θ, ρ, μ, he, hs, q⟩ => ⟨θ, ρ, μ, he, hs, ?_⟩
  refine q.bind.imp fun w H1 ⟨θ1, μ1, v, l1, s1, r1, q1⟩ => ⟨θ1, ρ, μ1, l1.rpE he, s1, ?_⟩
  refine q1.bind.imp fun w2 H2 ⟨θ2, μ2, u, l2, s2, r2, q2⟩ => ?_
  cases v with
  | int i =>
    cases u with
    | int j => cases r1; cases r2; exact ⟨i, j, rfl, q2.ret s2 rfl⟩
    | _ => exact q2.elim
  | _ => exact q2.elim
/-- isinstance of a built-in class -/
def DV.ty (v : DV) : String := match v with
  | .non => "NoneType"
  | .bl _ => "bool"
  | .int _ => "int"
  | .str _ => "str"
  | .tup _ => "tuple"
  | .kl _ => "list"
  | .ref _ => "list"
def isTy (T t : String) : Bool := T == t || (t == "bool" && T == "int")
def isOf (T : String) (v : DV) : Bool := isTy T v.ty
def mIsi (T : String) (m : EM) : EM := fun ρ μ => (m ρ μ).bind fun v μ => match v with
  | .ref n => if n < μ.length then .ok (.bl (isTy T "list")) μ else .bad
  | v => .ok (.bl (isOf T v)) μ
theorem ty_of {K : PySem.W.Frag} {θ : List Addr} {H : Hp} {μ : DM} (s : Sto K θ H μ) {v : DV} {w : V} (r : Rp K θ H v w) (hn : ∀ n, v = .ref n → n < μ.length) : TyX K H w (.type v.ty) := by
  cases v with
  | non => cases r; exact .base .non
  | bl b => cases r; exact .base (.bl b)
  | int b => cases r; exact .base (.int b)
  | str b => cases r; exact .base (.str _)
  | tup xs =>
    obtain ⟨a, vs, rfl, sp, _⟩ := r
    rcases sp with (sp | ⟨o, sp⟩) | ⟨o, its, n, h1, h2, _⟩
    · exact .base (.tup sp)
    · exact .fTuple sp
    · exact .kTuple h1 h2
  | kl xs =>
    obtain ⟨a, vs, rfl, sp, _⟩ := r
    rcases sp with ⟨o, sp⟩ | ⟨o, its, n, h1, h2, _⟩
    · exact .base (.frz sp)
    · exact .kList h1 h2
  | ref n =>
    obtain ⟨a, ha, rfl⟩ := r
    have hl := hn n rfl
    obtain ⟨xs, hx⟩ : ∃ c, μ[n]? = some c := ⟨_, List.getElem?_eq_getElem hl⟩
    cases xs with
    | lst xs =>
      obtain ⟨vs, e, _⟩ := s.cell n a _ ha hx
      exact .base (.lst e)
/-- the types that are asked, the types that are met -/
theorem kit_all : (["NoneType", "bool", "int", "str", "tuple", "list"].all fun t => ["int", "bool", "tuple", "list", "str"].all fun T => kitB t T == some (isTy T t)) = true := by decide +kernel
theorem kit_tab (T : String) (h : T ∈ ["int", "bool", "tuple", "list", "str"]) (v : DV) : kitB v.ty T = some (isOf T v) := by
  have hv : v.ty ∈ ["NoneType", "bool", "int", "str", "tuple", "list"] := by cases v <;> simp [DV.ty]
  have h1 := List.all_eq_true.mp (List.all_eq_true.mp kit_all v.ty hv) T h
  exact eq_of_beq h1
theorem d_isi {m : EM} {T : String} {y : Str} {p2 : Pos} (hT : T ∈ ["int", "bool", "tuple", "list", "str"]) (hm : X.mg ("isinstance" : Str) = none) (hmT : X.mg y = none) (h : DEx xt W X a m) (hvT : bootBuiltins y = some (.type T) := by decide +kernel)
    (hg : Gl X ("isinstance" : Str) := by rfl) (hgT : Gl X y := by rfl) (hn : y ≠ "__name__" := by decide) (hdb : (y == ("__debug__" : Str)) = false := by decide)
    (hb : starEach [.Name y p2] X.env = (false, eval (.Name y p2) X.env) :: starEach [] X.env := by rfl) (he : starEach [a, .Name y p2] X.env = (false, eval a X.env) :: starEach [.Name y p2] X.env := by rfl) (hpl : (backTo pos (starEach [.Name y p2] X.env)).any (·.1) = false := by rfl) :
    DEx xt W X (.Call (.Name "isinstance" p) [a, .Name y p2] [] pos) (mIsi T m) := by
  refine imE (pe_callB call_isi hg hm (by decide +kernel) (pa_cons h (pa_cons (pe_bltn (v := .ty T) hgT hmT hvT rfl hn hdb) pa_nil hb) he) (by decide) (by decide) he hpl) fun σ H Q ⟨θ, ρ, μ, he, hs, q⟩ => ⟨θ, ρ, μ, he, hs, ?_⟩
  refine q.bind.imp fun w H1 ⟨θ1, μ1, v, l1, s1, r1, q1⟩ => ?_
  have key : ∀ b, (∀ n, v = .ref n → n < μ1.length) → kitB v.ty T = some b → Q (.bl b) H1 → tC (.ty T) σ H1 fun y H2 => tNil σ H2 fun ys H3 => rIsi X.K (w :: y :: ys) H3 Q := fun b hn hk hq =>
    ⟨w, .ty T, .type v.ty, .type T, b, rfl, .ty T, ty_of s1 r1 hn, kit_ty hk, hq⟩
  have kt := kit_tab T hT v
  cases v with
  | ref n =>
    replace q1 : Po X.K xt W (Rp X.K) (if n < μ1.length then .ok (.bl (isTy T "list")) μ1 else .bad) θ1 H1 σ Q := q1
    split at q1
    · rename_i hn
      exact key _ (fun m e => by cases e; exact hn) kt (q1.ret s1 rfl)
    · exact q1.elim
  | _ => exact key _ (fun m e => by cases e) kt (q1.ret s1 rfl)
/-! ## methods of lists -/
def mAppend (mo mv : EM) : EM := fun ρ μ => (mo ρ μ).bind fun u μ => match u.lst μ with
  | none => .bad
  | some _ => (mv ρ μ).bind fun v μ => match u with
    | .ref n => match μ[n]? with
      | some (.lst xs) => if xs.length < LIM then .ok .non (μ.set n (.lst (xs ++ [v]))) else .bad
      | none => .bad
    | _ => .bad
theorem d_append {mo mv : EM} {cpos : Pos} (ho : DEx xt W X o mo) (hv : DEx xt W X e mv)
    (hbase : attributeBase o "append" X.env (eval o X.env) = eval o X.env := by rfl)
    (hfew : ((backTo cpos (starEach [e] X.env)).all (fun x => !x.1) && (backToKw cpos (keywordEach [] X.env)).all (fun x => x.1.isSome) && decide (([e] : List Expr).length + ([] : List Keyword).length + (if ([] : List Keyword).isEmpty then 0 else 1) < 30)) = true := by rfl)
    (hline : (apos.endLine == cpos.line) = true := by rfl) (hs : starEach [e] X.env = (false, eval e X.env) :: starEach [] X.env := by rfl) (hplain : (backTo cpos (starEach [] X.env)).any (·.1) = false := by rfl) :
    DEx xt W X (.Call (.Attribute o "append" apos) [e] [] cpos) (mAppend mo mv) := by
  refine imE (pe_bm PySem.F.plainAttrs_list PySem.F.slot_list_append PySem.F.type_list_append mt_append ho (pa_cons hv pa_nil hs) hbase hfew hline hs hplain) fun σ H Q ⟨θ, ρ, μ, he, hs, q⟩ => ⟨θ, ρ, μ, he, hs, ?_⟩
  refine q.bind.imp fun w H1 ⟨θ1, μ1, u, l1, s1, r1, q1⟩ => ?_
  split at q1
  · exact q1.elim
  · rename_i ys hy
    obtain ⟨p, vs, rfl, hp, _⟩ := lst_of s1 r1 hy
    refine ⟨.inl ⟨rfl, _, SqL.of hp⟩, θ1, ρ, μ1, l1.rpE he, s1, ?_⟩
    refine q1.bind.imp fun w2 H2 ⟨θ2, μ2, v, l2, s2, r2, q2⟩ => ?_
    cases u with
    | ref n =>
      obtain ⟨p', hp', e⟩ := l2.rp r1
      cases e
      replace q2 : Po X.K xt W (Rp X.K) (match μ2[n]? with | some (.lst xs) => if xs.length < LIM then .ok .non (μ2.set n (.lst (xs ++ [v]))) else .bad | none => .bad) θ2 H2 σ Q := q2
      split at q2
      · rename_i xs hx
        obtain ⟨vs2, ev, r⟩ := s2.cell n p _ hp' hx
        split at q2
        · rename_i hl
          obtain ⟨s3, l3⟩ := s2.put hp' ev (r.app (RpL.one r2))
          exact ⟨p, vs2, w2, rfl, rfl, ev, by rw [← r.len, ← lim_line]; exact hl, q2 _ _ _ l3 s3 rfl⟩
        · exact q2.elim
      · exact q2.elim
    | _ => exact q2.elim
def mPop (mo : EM) : EM := fun ρ μ => (mo ρ μ).bind fun u μ => match u with
  | .ref n => match μ[n]? with
    | some (.lst xs) => match xs[xs.length - 1]? with
      | some y => .ok y (μ.set n (.lst xs.dropLast))
      | none => .bad
    | none => .bad
  | _ => .bad
theorem RpL.dropLast {K : PySem.W.Frag} {θ : List Addr} {H : Hp} {xs : List DV} {vs : List V} (r : RpL K θ H xs vs) : RpL K θ H xs.dropLast vs.dropLast := by
  rw [List.dropLast_eq_take, List.dropLast_eq_take, r.len]
  exact r.take _
theorem d_pop {mo : EM} {cpos : Pos} (ho : DEx xt W X o mo) (hbase : attributeBase o "pop" X.env (eval o X.env) = eval o X.env := by rfl) (hline : (apos.endLine == cpos.line) = true := by rfl) :
    DEx xt W X (.Call (.Attribute o "pop" apos) [] [] cpos) (mPop mo) := by
  refine imE (pe_bm0 PySem.F.plainAttrs_list PySem.F.slot_list_pop PySem.F.type_list_pop mt_pop ho hbase hline) fun σ H Q ⟨θ, ρ, μ, he, hs, q⟩ => ⟨θ, ρ, μ, he, hs, ?_⟩
  refine q.bind.imp fun w H1 ⟨θ1, μ1, u, l1, s1, r1, q1⟩ => ?_
  cases u with
  | ref n =>
    obtain ⟨p, hp, rfl⟩ := r1
    replace q1 : Po X.K xt W (Rp X.K) (match μ1[n]? with | some (.lst xs) => (match xs[xs.length - 1]? with | some y => .ok y (μ1.set n (.lst xs.dropLast)) | none => .bad) | none => .bad) θ1 H1 σ Q := q1
    split at q1
    · rename_i xs hx
      obtain ⟨vs, ev, r⟩ := s1.cell n p _ hp hx
      split at q1
      · rename_i y hy
        obtain ⟨z, hz, rz⟩ := r.get hy
        obtain ⟨s3, l3⟩ := s1.put hp ev r.dropLast
        exact ⟨.inl ⟨rfl, _, SqL.of ev⟩, p, vs, z, rfl, rfl, ev, by rw [← r.len]; exact hz, q1 _ _ _ l3 s3 (l3.rp rz)⟩
      · exact q1.elim
    · exact q1.elim
  | _ => exact q1.elim
def mPopAt (mo mi : EM) : EM := fun ρ μ => (mo ρ μ).bind fun u μ => match u.lst μ with
  | none => .bad
  | some _ => (mi ρ μ).bind fun v μ => match u, v with
    | .ref n, .int i => match μ[n]? with
      | some (.lst xs) => match ixN xs.length i with
        | some k => match xs[k]? with
          | some y => if xs.length ≤ LIM then .ok y (μ.set n (.lst (xs.eraseIdx k))) else .bad
          | none => .bad
        | none => .bad
      | none => .bad
    | _, _ => .bad
theorem d_popAt {mo mv : EM} {cpos : Pos} (ho : DEx xt W X o mo) (hv : DEx xt W X e mv)
    (hbase : attributeBase o "pop" X.env (eval o X.env) = eval o X.env := by rfl)
    (hfew : ((backTo cpos (starEach [e] X.env)).all (fun x => !x.1) && (backToKw cpos (keywordEach [] X.env)).all (fun x => x.1.isSome) && decide (([e] : List Expr).length + ([] : List Keyword).length + (if ([] : List Keyword).isEmpty then 0 else 1) < 30)) = true := by rfl)
    (hline : (apos.endLine == cpos.line) = true := by rfl) (hs : starEach [e] X.env = (false, eval e X.env) :: starEach [] X.env := by rfl) (hplain : (backTo cpos (starEach [] X.env)).any (·.1) = false := by rfl) :
    DEx xt W X (.Call (.Attribute o "pop" apos) [e] [] cpos) (mPopAt mo mv) := by
  refine imE (pe_bm PySem.F.plainAttrs_list PySem.F.slot_list_pop PySem.F.type_list_pop mt_popAt ho (pa_cons hv pa_nil hs) hbase hfew hline hs hplain) fun σ H Q ⟨θ, ρ, μ, he, hs, q⟩ => ⟨θ, ρ, μ, he, hs, ?_⟩
  refine q.bind.imp fun w H1 ⟨θ1, μ1, u, l1, s1, r1, q1⟩ => ?_
  split at q1
  · exact q1.elim
  · rename_i ys hy
    obtain ⟨p, vs, rfl, hp, _⟩ := lst_of s1 r1 hy
    refine ⟨.inl ⟨rfl, _, SqL.of hp⟩, θ1, ρ, μ1, l1.rpE he, s1, ?_⟩
    refine q1.bind.imp fun w2 H2 ⟨θ2, μ2, v, l2, s2, r2, q2⟩ => ?_
    obtain ⟨n, rfl⟩ : ∃ n, u = .ref n := by
      cases u with
      | ref n => exact ⟨n, rfl⟩
      | _ => cases hy
    cases v with
    | int i =>
      obtain ⟨p', hp', e⟩ := l2.rp r1
      cases e
      cases r2
      replace q2 : Po X.K xt W (Rp X.K) (match μ2[n]? with | some (.lst xs) => (match ixN xs.length i with | some k => (match xs[k]? with | some y => if xs.length ≤ LIM then .ok y (μ2.set n (.lst (xs.eraseIdx k))) else .bad | none => .bad) | none => .bad) | none => .bad) θ2 H2 σ Q := q2
      split at q2
      · rename_i xs hx
        obtain ⟨vs2, ev, r⟩ := s2.cell n p _ hp' hx
        split at q2
        · rename_i k hk
          split at q2
          · rename_i y hy
            split at q2
            · rename_i hl
              obtain ⟨z, hz, rz⟩ := r.get hy
              obtain ⟨s3, l3⟩ := s2.put hp' ev (r.erase k)
              obtain ⟨i1, i2, i3, i4⟩ := ixN_seq hk
              replace hl : xs.length ≤ 16777216 := hl
              refine ⟨p, vs2, i, k, z, rfl, rfl, ev, by omega, by omega, by rw [← r.len]; exact i1, hz, q2 _ _ _ l3 s3 (l3.rp rz)⟩
            · exact q2.elim
          · exact q2.elim
        · exact q2.elim
      · exact q2.elim
    | _ => exact q2.elim
end
end Md

namespace Md
open PySem L2
/-! ## what a loop goes over -/
abbrev Src := List DV × Option Nat
abbrev IM := DE → DM → DR Src
def okAt (c : Option Nat) (xs : List DV) (μ : DM) : Bool := match c with
  | none => true
  | some n => decide (μ[n]? = some (.lst xs))
@[simp] theorem okAt_none (xs : List DV) (μ : DM) : okAt none xs μ = true := rfl
def ItRel (K : PySem.W.Frag) (θ : List Addr) (H : Hp) (s : Src) (J : It) : Prop := ∀ θ' H' μ', Lt θ θ' H H' → Sto K θ' H' μ' → okAt s.2 s.1 μ' = true →
  (∀ (i : Nat) (x : DV), s.1[i]? = some x → J.go i H' ∧ ∀ w H'', J.yld i H' w H'' → Lt θ' θ' H' H'' ∧ Sto K θ' H'' μ' ∧ Rp K θ' H'' x w) ∧ ∀ i, s.1.length ≤ i → J.stop i H'
section
variable {K : PySem.W.Frag} {θ : List Addr} {H : Hp} {xs : List DV} {vs : List V} {a : Addr}
theorem it_sqL {c : Option Nat} (h : ∀ θ' H' μ', Lt θ θ' H H' → Sto K θ' H' μ' → okAt c xs μ' = true → ∃ ws, SqL K H' a ws ∧ RpL K θ' H' xs ws) : ItRel K θ H (xs, c) (Itl K a) := by
  intro θ' H' μ' l s ho
  obtain ⟨ws, hw, rw'⟩ := h θ' H' μ' l s ho
  refine ⟨fun i x hx => ?_, fun i hi => ⟨ws, hw, by rw [← rw'.len]; exact hi⟩⟩
  obtain ⟨w, e, r1⟩ := rw'.get hx
  refine ⟨⟨ws, w, hw, e⟩, fun w' H'' ⟨e1, h1⟩ => ?_⟩
  subst e1
  have := h1 ws hw
  rw [e] at this; cases this
  exact ⟨.refl, s, r1⟩
theorem it_sqT (h : SqT K H a vs) (r : RpL K θ H xs vs) : ItRel K θ H (xs, none) (Itt K a) := by
  intro θ' H' μ' l s ho
  have hw := l.sqT h
  have rw' := l.rpL r
  refine ⟨fun i x hx => ?_, fun i hi => ⟨vs, hw, by rw [← rw'.len]; exact hi⟩⟩
  obtain ⟨w, e, r1⟩ := rw'.get hx
  refine ⟨⟨vs, w, hw, e⟩, fun w' H'' ⟨e1, h1⟩ => ?_⟩
  subst e1
  have := h1 vs hw
  rw [e] at this; cases this
  exact ⟨.refl, s, r1⟩
theorem it_rng {lo : Int} {n : Nat} : ItRel K θ H ((List.range n).map fun i => DV.int (lo + (i : Nat)), none) (Itr lo n) := by
  intro θ' H' μ' l s ho
  refine ⟨fun i x hx => ?_, fun i hi => by show n ≤ i; simpa using hi⟩
  simp only [List.getElem?_map, Option.map_eq_some_iff] at hx
  obtain ⟨j, hj, rfl⟩ := hx
  have hlt : i < n := by simpa using (List.getElem?_eq_some_iff.mp hj).1
  have ej : j = i := by
    have := (List.getElem?_eq_some_iff.mp hj).2
    simp at this; exact this.symm
  subst ej
  refine ⟨hlt, fun w' H'' ⟨e1, h1⟩ => ?_⟩
  subst e1; subst h1
  exact ⟨.refl, s, rfl⟩
end
section
variable {X : Cx} {xt : String → Option Addr} {W : WX} {a b c e o : Expr} {es : List Expr} {pos p apos : Pos} {tg : Expr}
abbrev DIt (xt : String → Option Addr) (W : WX) (X : Cx) (tg e : Expr) (m : IM) : Prop := PI X tg e (tG X.K xt W (ItRel X.K) m)
/-- a list or a tuple -/
def mIt (m : EM) : IM := fun ρ μ => (m ρ μ).bind fun v μ => match v with
  | .tup xs => .ok (xs, none) μ
  | .kl xs => .ok (xs, none) μ
  | .ref n => match μ[n]? with
    | some (.lst xs) => .ok (xs, some n) μ
    | none => .bad
  | _ => .bad
theorem i_seq {m : EM} (h : DEx xt W X e m) : DIt xt W X tg e (mIt m) := by
  refine ⟨fun pins s σ H R I ⟨θ, ρ, μ, he, hs, q⟩ => ?_⟩
  have tup : (∃ xs μ1, m ρ μ = .ok (.tup xs) μ1) → iTup X.K (tE X.K xt W m) σ H R := fun ⟨xs, μ1, em⟩ => by
    refine ⟨θ, ρ, μ, he, hs, ?_⟩
    have q' := q
    unfold mIt at q'
    rw [em] at q' ⊢
    intro θ1 H1 w l1 s1 r1
    obtain ⟨a, vs, rfl, sp, r⟩ := r1
    exact ⟨a, rfl, ⟨vs, sp⟩, q' θ1 H1 _ l1 s1 (it_sqT sp r)⟩
  have lst : (∀ xs μ1, m ρ μ ≠ .ok (.tup xs) μ1) → iList X.K (tE X.K xt W m) σ H R := fun hne => by
    refine ⟨θ, ρ, μ, he, hs, ?_⟩
    unfold mIt at q
    cases em : m ρ μ with
    | ex e μ1 => rw [em] at q; exact q
    | bad => rw [em] at q; exact q
    | ok v μ1 =>
      rw [em] at q
      intro θ1 H1 w l1 s1 r1
      cases v with
      | tup xs => exact absurd em (hne xs μ1)
      | kl xs =>
        obtain ⟨a, vs, rfl, sp, r⟩ := r1
        exact ⟨a, rfl, ⟨vs, sp.sq⟩, q θ1 H1 _ l1 s1 (it_sqL fun θ' H' μ' l _ _ => ⟨vs, (l.frL sp).sq, l.rpL r⟩)⟩
      | ref n =>
        obtain ⟨a, ha, rfl⟩ := r1
        replace q : Po X.K xt W (ItRel X.K) (match μ1[n]? with | some (.lst xs) => .ok (xs, some n) μ1 | none => .bad) θ H σ R := q
        split at q
        · rename_i xs hx
          obtain ⟨vs, ev, r⟩ := s1.cell n a _ ha hx
          refine ⟨a, rfl, ⟨vs, SqL.of ev⟩, q θ1 H1 _ l1 s1 (it_sqL fun θ' H' μ' l s' ho => ?_)⟩
          have ho' : μ'[n]? = some (.lst xs) := of_decide_eq_true ho
          obtain ⟨vs', ev', r'⟩ := s'.cell n a _ (l.get ha) ho'
          exact ⟨vs', SqL.of ev', r'⟩
        · exact q.elim
      | _ => exact q.elim
  by_cases hc : ∃ xs μ1, m ρ μ = .ok (.tup xs) μ1
  · exact (pi_tup h).run pins s σ H R I (tup hc)
  · exact (pi_list h).run pins s σ H R I (lst fun xs μ1 e => hc ⟨xs, μ1, e⟩)
def mItF (m : LM) : IM := fun ρ μ => (m ρ μ).bind fun xs μ => .ok (xs, none) μ
theorem i_fresh {m : LM} (h : DFr xt W X e m) : DIt xt W X tg e (mItF m) := by
  refine ⟨fun pins s σ H R I ⟨θ, ρ, μ, he, hs, q⟩ => (pi_list h).run pins s σ H R I ?_⟩
  refine ⟨θ, ρ, μ, he, hs, ?_⟩
  refine (PoF.bind q).imp fun w H1 ⟨θ1, μ1, xs, ⟨p, vs, e, l1, s1, h0, hn, hp, r2⟩, q1⟩ => ?_
  subst e
  exact ⟨p, rfl, ⟨vs, SqL.of hp⟩, (q1 _ _ l1) θ1 H1 _ .refl s1 (it_sqL fun θ' H' μ' l _ _ => ⟨vs, SqL.of (l.keep p _ hp (.inl hn)), l.rpL r2⟩)⟩
def mItR1 (m : EM) : IM := fun ρ μ => (m ρ μ).bind fun v μ => match v with
  | .int n => if RgO 0 n then .ok (rgD 0 n, none) μ else .bad
  | _ => .bad
def mItR2 (m n : EM) : IM := fun ρ μ => (m ρ μ).bind fun v μ => (n ρ μ).bind fun u μ => match v, u with
  | .int a, .int b => if RgO a b then .ok (rgD a b, none) μ else .bad
  | _, _ => .bad
theorem i_rg1 {m : EM} (hm : X.mg ("range" : Str) = none) (h : DEx xt W X a m) (hg : Gl X ("range" : Str) := by rfl)
    (na : starEach [a] X.env = (false, eval a X.env) :: starEach [] X.env := by rfl) (hs : starEach [a] X.env = [(false, eval a X.env)] := by rfl) : DIt xt W X tg (.Call (.Name "range" p) [a] [] pos) (mItR1 m) := by
  refine ⟨fun pins s σ H R I ⟨θ, ρ, μ, he, hst, q⟩ => (pi_range1 hg hm (pa_cons h pa_nil na) hs).run pins s σ H R I ?_⟩
  refine ⟨θ, ρ, μ, he, hst, ?_⟩
  refine q.bind.imp fun w H1 ⟨θ1, μ1, v, l1, s1, r1, q1⟩ => ?_
  cases v with
  | int n =>
    cases r1
    replace q1 : Po X.K xt W (ItRel X.K) (if RgO 0 n then .ok (rgD 0 n, none) μ1 else .bad) θ1 H1 σ R := q1
    split at q1
    · rename_i hr
      have e : (n - 0).toNat = n.toNat := by rw [Int.sub_zero]
      have hr : RgO 0 n := hr
      refine ⟨n, rfl, hr.ok.2.2.1, hr.ok.2.2.2.1, q1 θ1 H1 _ .refl s1 ?_⟩
      unfold rgD
      rw [e]
      exact it_rng
    · exact q1.elim
  | _ => exact q1.elim
theorem i_rg2 {m n : EM} (hm : X.mg ("range" : Str) = none) (h : DEx xt W X a m) (h2 : DEx xt W X b n) (hg : Gl X ("range" : Str) := by rfl)
    (nb : starEach [b] X.env = (false, eval b X.env) :: starEach [] X.env := by rfl) (na : starEach [a, b] X.env = (false, eval a X.env) :: starEach [b] X.env := by rfl)
    (hs : starEach [a, b] X.env = [(false, eval a X.env), (false, eval b X.env)] := by rfl) (hs2 : starEach [b] X.env = [(false, eval b X.env)] := by rfl) : DIt xt W X tg (.Call (.Name "range" p) [a, b] [] pos) (mItR2 m n) := by
  refine ⟨fun pins s σ H R I ⟨θ, ρ, μ, he, hst, q⟩ => (pi_range2 hg hm (pa_cons h (pa_cons h2 pa_nil nb) na) hs hs2).run pins s σ H R I ?_⟩
  refine ⟨θ, ρ, μ, he, hst, ?_⟩
  refine q.bind.imp fun w H1 ⟨θ1, μ1, v, l1, s1, r1, q1⟩ => ⟨θ1, ρ, μ1, l1.rpE he, s1, ?_⟩
  refine q1.bind.imp fun w2 H2 ⟨θ2, μ2, u, l2, s2, r2, q2⟩ => ?_
  cases v with
  | int i =>
    cases u with
    | int j =>
      cases r1; cases r2
      replace q2 : Po X.K xt W (ItRel X.K) (if RgO i j then .ok (rgD i j, none) μ2 else .bad) θ2 H2 σ R := q2
      split at q2
      · rename_i hr
        have hr : RgO i j := hr
        exact ⟨i, j, rfl, ⟨hr.ok.1, hr.ok.2.1, hr.ok.2.2.1, hr.ok.2.2.2.1⟩, q2 θ2 H2 _ .refl s2 it_rng⟩
      · exact q2.elim
    | _ => exact q2.elim
  | _ => exact q2.elim
/-- zip of two lists, of two tuples -/
def mZip (m n : EM) : IM := fun ρ μ => (m ρ μ).bind fun v μ => (n ρ μ).bind fun u μ => match v, u with
  | .tup xs, .tup ys => .ok ((xs.zip ys).map fun z => .tup [z.1, z.2], none) μ
  | _, _ => .bad
theorem it_zipT {K : PySem.W.Frag} {θ : List Addr} {H : Hp} {xs ys : List DV} {vs ws : List V} {a b : Addr} (h : SqT K H a vs) (r : RpL K θ H xs vs) (h2 : SqT K H b ws) (r2 : RpL K θ H ys ws) :
    ItRel K θ H ((xs.zip ys).map fun z => .tup [z.1, z.2], none) (RZ.ItzT K a b) := by
  intro θ' H' μ' l s ho
  have hv := l.sqT h
  have rv := l.rpL r
  have hw := l.sqT h2
  have rw' := l.rpL r2
  refine ⟨fun i x hx => ?_, fun i hi => ⟨vs, ws, hv, hw, ?_⟩⟩
  · simp only [List.getElem?_map, Option.map_eq_some_iff] at hx
    obtain ⟨z, hz, rfl⟩ := hx
    obtain ⟨hz1, hz2⟩ := List.getElem?_zip_eq_some.mp hz
    obtain ⟨v, e, r1⟩ := rv.get hz1
    obtain ⟨w, e', r1'⟩ := rw'.get hz2
    refine ⟨⟨vs, ws, v, w, hv, hw, e, e'⟩, fun u H'' ⟨T, v', w', e1, h1, e2, h3, h4⟩ => ?_⟩
    have z1 := h3 vs hv
    have z2 := h4 ws hw
    rw [e] at z1; cases z1
    rw [e'] at z2; cases z2
    subst e1; subst e2
    have l2 := Lt.laid (θ := θ') (o := .tup [v, w]) h1
    exact ⟨l2, s.fr h1, T, [v, w], rfl, .inl (.inl upd_same), v, [w], rfl, l2.rp r1, w, [], rfl, l2.rp r1', rfl⟩
  · have hi' : min xs.length ys.length ≤ i := by simpa using hi
    rw [← rv.len, ← rw'.len]
    omega
theorem i_zip {m n : EM} {elts : List Expr} {kk : Nat} {tpos : Pos} (hm : X.mg ("zip" : Str) = none) (h : DEx xt W X a m) (h2 : DEx xt W X b n) (hg : Gl X ("zip" : Str) := by rfl)
    (nb : starEach [b] X.env = (false, eval b X.env) :: starEach [] X.env := by rfl) (na : starEach [a, b] X.env = (false, eval a X.env) :: starEach [b] X.env := by rfl)
    (hpl : (backTo pos (starEach [b] X.env)).any (·.1) = false := by rfl) : DIt xt W X (.Tuple elts kk tpos) (.Call (.Name "zip" p) [a, b] [] pos) (mZip m n) := by
  refine ⟨fun pins s σ H R I ⟨θ, ρ, μ, he, hst, q⟩ => (RZ.pi_zipA hg hm (pa_cons h (pa_cons h2 pa_nil nb) na) na hpl).run pins s σ H R I ?_⟩
  refine ⟨θ, ρ, μ, he, hst, ?_⟩
  refine q.bind.imp fun w H1 ⟨θ1, μ1, v, l1, s1, r1, q1⟩ => ⟨θ1, ρ, μ1, l1.rpE he, s1, ?_⟩
  refine q1.bind.imp fun w2 H2 ⟨θ2, μ2, u, l2, s2, r2, q2⟩ => ?_
  have r1' := l2.rp r1
  split at q2
  · obtain ⟨a, vs, rfl, sa, ra⟩ := r1'
    obtain ⟨b, ws, rfl, sb, rb⟩ := r2
    exact ⟨a, b, vs, ws, rfl, .inr ⟨sa, sb, q2 θ2 H2 _ .refl s2 (it_zipT sa ra sb rb)⟩⟩
  · exact q2.elim
/-! ## targets -/
abbrev GM := DV → DE → DM → Option DE
abbrev GMs := List DV → DE → DM → Option DE
def tGt (K : PySem.W.Frag) (t : GM) (is : List Nat) : TG := fun w σ H Q => ∃ θ ρ μ x ρ', RpE K θ H ρ σ ∧ Sto K θ H μ ∧ Rp K θ H x w ∧ t x ρ μ = some ρ' ∧
  ∀ σ', RpE K θ H ρ' σ' → σ'.length = σ.length → (∀ j, j ∉ is → σ'[j]? = σ[j]?) → Q σ' H
def tGts (K : PySem.W.Frag) (t : GMs) (is : List Nat) : TGs := fun w σ H Q => ∃ θ ρ μ x ρ', RpE K θ H ρ σ ∧ Sto K θ H μ ∧ RpL K θ H x w ∧ t x ρ μ = some ρ' ∧
  ∀ σ', RpE K θ H ρ' σ' → σ'.length = σ.length → (∀ j, j ∉ is → σ'[j]? = σ[j]?) → Q σ' H
abbrev DTg (X : Cx) (tg : Expr) (t : GM) (is : List Nat) : Prop := PG X tg (tGt X.K t is)
abbrev DTgs (X : Cx) (tg : List Expr) (t : GMs) (is : List Nat) : Prop := PGs X tg (tGts X.K t is)
theorem imG {tg : Expr} {t t' : TG} (h : PG X tg t) (i : ∀ w σ H Q, t' w σ H Q → t w σ H Q) : PG X tg t' := ⟨fun pins s σ H v u Q I r q => h.run pins s σ H v u Q I r (i _ _ _ _ q)⟩
theorem imGs {tg : List Expr} {t t' : TGs} (h : PGs X tg t) (i : ∀ w σ H Q, t' w σ H Q → t w σ H Q) : PGs X tg t' := ⟨fun pins s σ H v u Q I r q => h.run pins s σ H v u Q I r (i _ _ _ _ q)⟩
def tgN (i : Nat) : GM := fun x ρ _ => if i < ρ.length then some (ρ.set i (some x)) else none
theorem RpE.set {K : PySem.W.Frag} {θ : List Addr} {H : Hp} {ρ : DE} {σ : L2.St} (h : RpE K θ H ρ σ) {x : DV} {w : V} (r : Rp K θ H x w) (i : Nat) : RpE K θ H (ρ.set i (some x)) (σ.set i (some w)) := by
  refine ⟨by simp [h.len], fun j v e => ?_⟩
  by_cases hj : i = j
  · subst hj
    by_cases hl : i < ρ.length
    · rw [List.getElem?_set_self hl] at e
      cases e
      exact ⟨w, by rw [List.getElem?_set_self (by rw [← h.len]; exact hl)], r⟩
    · rw [List.getElem?_eq_none (by simpa using hl)] at e; cases e
  · rw [List.getElem?_set_ne hj] at e ⊢
    exact h.at' j v e
theorem RpE.unset {K : PySem.W.Frag} {θ : List Addr} {H : Hp} {ρ : DE} {σ : L2.St} (h : RpE K θ H ρ σ) (i : Nat) {o : Option V} : RpE K θ H (ρ.set i none) (σ.set i o) := by
  refine ⟨by simp [h.len], fun j v e => ?_⟩
  by_cases hj : i = j
  · subst hj
    by_cases hl : i < ρ.length
    · rw [List.getElem?_set_self hl] at e; cases e
    · rw [List.getElem?_eq_none (by simpa using hl)] at e; cases e
  · rw [List.getElem?_set_ne hj] at e ⊢
    exact h.at' j v e
theorem g_name {y : Str} (i : Nat) (hN : X.N.Nodup) (hi : X.N[i]? = some y := by rfl) (hx : Loc X.env.scope y := by first | exact .inl rfl | exact .inr rfl) (hf : X.fn y = true ∨ X.env.scope.names.lookup y = some .local := by first | exact .inl rfl | exact .inr rfl) :
    DTg X (.Name y pos) (tgN i) [i] := by
  refine imG (pg_name hN hi hx hf) fun w σ H Q ⟨θ, ρ, μ, x, ρ', he, hs, r, ht, q⟩ => ?_
  unfold tgN at ht
  split at ht
  · cases ht
    exact q _ (he.set r i) (by simp) fun j hj => by rw [List.getElem?_set_ne fun e => hj (by simp [e])]
  · cases ht
def tgNil : GMs := fun xs ρ _ => if xs = [] then some ρ else none
def tgCons (t : GM) (u : GMs) : GMs := fun xs ρ μ => match xs with
  | x :: xs => (t x ρ μ).bind fun ρ1 => u xs ρ1 μ
  | [] => none
theorem g_nil : DTgs X [] tgNil [] := imGs pgs_nil fun w σ H Q ⟨θ, ρ, μ, x, ρ', he, hs, r, ht, q⟩ => by
  unfold tgNil at ht
  split at ht
  · rename_i e
    subst e
    cases r
    cases ht
    exact ⟨rfl, q σ he rfl fun _ _ => rfl⟩
  · cases ht
theorem g_cons {t : GM} {u : GMs} {is js : List Nat} (h : DTg X e t is) (h2 : DTgs X es u js) (hs : (assignEach (e :: es) X.env).map (·.2) = assign e X.env :: (assignEach es X.env).map (·.2) := by rfl) : DTgs X (e :: es) (tgCons t u) (is ++ js) := by
  refine imGs (pgs_cons h h2 hs) fun w σ H Q ⟨θ, ρ, μ, xs, ρ', he, hs, r, ht, q⟩ => ?_
  cases xs with
  | nil => cases ht
  | cons x xs =>
    obtain ⟨v, vs, rfl, r1, r2⟩ := r
    simp only [tgCons, Option.bind_eq_some_iff] at ht
    obtain ⟨ρ1, ht1, ht2⟩ := ht
    refine ⟨v, vs, rfl, θ, ρ, μ, x, ρ1, he, hs, r1, ht1, fun σ1 he1 hl1 hk1 => ?_⟩
    refine ⟨θ, ρ1, μ, xs, ρ', he1, hs, r2, ht2, fun σ2 he2 hl2 hk2 => ?_⟩
    refine q σ2 he2 (hl2.trans hl1) fun j hj => ?_
    rw [hk2 j fun z => hj (List.mem_append_right _ z), hk1 j fun z => hj (List.mem_append_left _ z)]
def tgTup (n : Nat) (t : GMs) : GM := fun x ρ μ => match x with
  | .tup xs => if xs.length = n then t xs ρ μ else none
  | _ => none
theorem g_tup {t : GMs} {is : List Nat} {k n : Nat} (hc : X.calm = true) (h : DTgs X es t is) (hn : (assignEach es X.env).length = n := by rfl) (hst : (assignEach es X.env).findIdx? (·.1) = none := by rfl) : DTg X (.Tuple es k pos) (tgTup n t) is := by
  refine imG (pg_tup hc h hn hst) fun w σ H Q ⟨θ, ρ, μ, x, ρ', he, hs, r, ht, q⟩ => ?_
  cases x with
  | tup xs =>
    obtain ⟨a, vs, rfl, sp, r⟩ := r
    simp only [tgTup] at ht
    split at ht
    · rename_i hl
      exact ⟨a, vs, rfl, sp, by rw [← r.len]; exact hl, θ, ρ, μ, xs, ρ', he, hs, r, ht, q⟩
    · cases ht
  | _ => cases ht
/-! ## comprehensions -/
def wipeD (ρ : DE) : List Nat → DE
  | [] => ρ
  | v :: vs => (wipeD ρ vs).set v none
theorem RpE.wipe {K : PySem.W.Frag} {θ : List Addr} {H : Hp} {ρ : DE} {σ : L2.St} (h : RpE K θ H ρ σ) : ∀ vs, RpE K θ H (wipeD ρ vs) (wipe σ vs)
  | [] => h
  | v :: vs => (RpE.wipe h vs).unset v
theorem wipe_eq {σ σ' : L2.St} {vs : List Nat} (hl : σ'.length = σ.length) (hk : ∀ j, j ∉ vs → σ'[j]? = (wipe σ vs)[j]?) : wipe σ' vs = wipe σ vs := by
  have key : ∀ (τ : L2.St) (us : List Nat) (j : Nat), j ∈ us → (wipe τ us)[j]? = if j < τ.length then some none else none := by
    intro τ us
    induction us with
    | nil => intro j hj; cases hj
    | cons u us ih =>
      intro j hj
      unfold wipe
      by_cases e : u = j
      · subst e
        by_cases hlt : u < τ.length
        · rw [List.getElem?_set_self (by rw [wipe_length]; exact hlt), if_pos hlt]
        · rw [List.getElem?_eq_none (by rw [List.length_set, wipe_length]; omega), if_neg hlt]
      · rw [List.getElem?_set_ne e]
        exact ih j ((List.mem_cons.mp hj).resolve_left fun z => e z.symm)
  apply List.ext_getElem?
  intro j
  by_cases hj : j ∈ vs
  · rw [key σ' vs j hj, key σ vs j hj, hl]
  · rw [wipe_out hj]
    exact hk j hj
def mLc (vs : List Nat) (mi : IM) (t : GM) (tt : BM) (te : EM) : LM := fun ρ μ => (mi ρ μ).bind fun s μ => go s (wipeD ρ vs) s.1 [] μ
where go (s : Src) (ρ : DE) : List DV → List DV → DM → DR (List DV)
  | [], acc, μ => if okAt s.2 s.1 μ = true then .ok acc μ else .bad
  | x :: xs, acc, μ => if okAt s.2 s.1 μ = true ∧ acc.length < LIM then match t x ρ μ with
      | some ρ1 => (tt ρ1 μ).noex.bind fun b μ => if b = true then (te ρ1 μ).noex.bind fun y μ => go s ρ xs (acc ++ [y]) μ else go s ρ xs acc μ
      | none => .bad
    else .bad
abbrev PTest (xt : String → Option Addr) (W : WX) (X : Cx) (ifs : List Expr) (m : BM) : Prop := PTs X ifs (tTs X.K xt W m)
def mYes : BM := fun _ μ => .ok true μ
theorem q_nil : PTest xt W X [] mYes := ⟨fun pins s σ H Q I ⟨_, _, _, _, hs, q⟩ => pts_nil.run pins s σ H Q I (q.ret hs rfl)⟩
theorem q_one {m : BM} (h : DTs xt W X c m) : PTest xt W X [c] m := pts_one h
/-- nothing is wished of an exception -/
abbrev WN : WX := fun _ _ _ _ => False
theorem noex_W {α : Type} {β : Type} {R : List Addr → Hp → α → β → Prop} {K : PySem.W.Frag} {r : DR α} {θ : List Addr} {H : Hp} {σ σ' : L2.St} {Q : β → Hp → Prop} (h : Po K xt W R r.noex θ H σ Q) : Po K xt WN R r θ H σ' Q := by
  cases r with
  | ok v μ => exact h
  | ex e μ => exact h.elim
  | bad => exact h
/-- a list that is not in the store is changed -/
theorem Stay.own {K : PySem.W.Frag} {θ : List Addr} {H : Hp} {D : Addr} {ws us : List V} (h : H D = some (.lst ws)) : Stay K θ θ H (upd H D (.lst us)) := by
  have ne : ∀ {a : Addr} {o : HO}, H a = some o → (∀ xs, o ≠ .lst xs) → a ≠ D := fun {a o} e n z => by
    subst z
    rw [h] at e; cases e
    exact n ws rfl
  refine ⟨fun a vs q => ?_, fun a vs q => ?_, fun _ _ q => q⟩
  · rcases q with (q | ⟨o, q⟩) | q
    · exact .inl (.inl (by rw [upd_ne (ne q (fun _ z => by cases z))]; exact q))
    · exact .inl (.inr ⟨o, by rw [upd_ne (ne q (fun _ z => by cases z))]; exact q⟩)
    · exact .inr q
  · rcases q with ⟨o, q⟩ | q
    · exact .inl ⟨o, by rw [upd_ne (ne q (fun _ z => by cases z))]; exact q⟩
    · exact .inr q
theorem Sto.own {K : PySem.W.Frag} {θ : List Addr} {H : Hp} {μ : DM} {D : Addr} {ws us : List V} (s : Sto K θ H μ) (h : H D = some (.lst ws)) (hD : D ∉ θ) : Sto K θ (upd H D (.lst us)) μ :=
  ⟨s.len, s.nd, fun n a c h1 h2 => (s.cell n a c h1 h2).of (Stay.own h) (upd_ne fun e => hD (e ▸ List.mem_of_getElem? h1))⟩
theorem Lt.notin {θ θ' : List Addr} {H H' : Hp} {D : Addr} {o : HO} (l : Lt θ θ' H H') (h : H D = some o) (hD : D ∉ θ) : D ∉ θ' := fun z => by
  rcases l.new D z with q | q
  · exact hD q
  · rw [h] at q; cases q
theorem lc_run {K : PySem.W.Frag} {vs is : List Nat} {mi : IM} {t : GM} {tt : BM} {te : EM} (his : ∀ j ∈ is, j ∈ vs) {σ : L2.St} {H : Hp} {Q : VK} (q : tFr K xt W (mLc vs mi t tt te) σ H Q) :
    tLc (tG K xt W (ItRel K) mi) (tGt K t is) (tTs K xt WN tt) (tE K xt WN te) vs σ H Q := by
  obtain ⟨θ, ρ, μ, he, hs, q⟩ := q
  refine ⟨θ, ρ, μ, he, hs, ?_⟩
  refine (PoF.of q).imp fun J H1 ⟨θ1, μ1, s, l1, s1, hJ, q1⟩ D hD => ?_
  have hw : RpE K θ1 H1 (wipeD ρ vs) (wipe σ vs) := (l1.rpE he).wipe vs
  refine ⟨fun i m Hc => m = s.1.length - i ∧ i ≤ s.1.length ∧ ∃ θc μc acc ws, Lt θ1 θc H1 Hc ∧ Sto K θc Hc μc ∧ D ∉ θc ∧ Hc D = some (.lst ws) ∧ RpL K θc Hc acc ws ∧ PoF K xt W (mLc.go t tt te s (wipeD ρ vs) (s.1.drop i) acc μc) θ1 H1 σ Q,
    ⟨_, rfl, Nat.zero_le _, θ1, μ1, [], [], Lt.laid hD, s1.fr hD, s1.out hD, upd_same, rfl, q1⟩, ?_⟩
  rintro i m Hc ⟨rfl, hi, θc, μc, acc, ws, lc, sc, hDc, hDw, ra, qc⟩
  by_cases hlt : i < s.1.length
  · have hd : s.1.drop i = s.1[i] :: s.1.drop (i + 1) := List.drop_eq_getElem_cons hlt
    have hx : s.1[i]? = some s.1[i] := List.getElem?_eq_getElem hlt
    rw [hd] at qc
    simp only [mLc.go] at qc
    split at qc
    · rename_i hok
      obtain ⟨hgo, hyl⟩ := (hJ θc Hc μc lc sc hok.1).1 i _ hx
      refine .inr ⟨hgo, fun H' => ∃ m', m' < s.1.length - i ∧ (m' = s.1.length - (i + 1) ∧ i + 1 ≤ s.1.length ∧ ∃ θc μc acc ws, Lt θ1 θc H1 H' ∧ Sto K θc H' μc ∧ D ∉ θc ∧ H' D = some (.lst ws) ∧ RpL K θc H' acc ws ∧ PoF K xt W (mLc.go t tt te s (wipeD ρ vs) (s.1.drop (i + 1)) acc μc) θ1 H1 σ Q), fun H' h => h, fun w H2 hy => ?_⟩
      obtain ⟨l2, s2, r2⟩ := hyl w H2 hy
      split at qc
      · rename_i ρ1 ht
        refine ⟨θc, wipeD ρ vs, μc, _, ρ1, (lc.trans l2).rpE hw, s2, r2, ht, fun σ' he' hl' hk' => ?_⟩
        refine ⟨wipe_eq (hl'.trans (wipe_length σ vs)) fun j hj => hk' j fun z => hj (his j z), θc, ρ1, μc, he', s2, ?_⟩
        have hD2 : H2 D = some (.lst ws) := l2.keep D _ hDw (.inl hDc)
        cases et : tt ρ1 μc with
        | ex e μ2 => rw [et] at qc; exact qc.elim
        | bad => rw [et] at qc; exact qc.elim
        | ok b μ2 =>
          rw [et] at qc
          replace qc : PoF K xt W (if b = true then (te ρ1 μ2).noex.bind fun y μ => mLc.go t tt te s (wipeD ρ vs) (s.1.drop (i + 1)) (acc ++ [y]) μ else mLc.go t tt te s (wipeD ρ vs) (s.1.drop (i + 1)) acc μ2) θ1 H1 σ Q := qc
          intro θ3 H3 b' l3 s3 eb
          subst eb
          have hD3 : H3 D = some (.lst ws) := l3.keep D _ hD2 (.inl hDc)
          have hn3 : D ∉ θ3 := l3.notin hD2 hDc
          cases b with
          | false => exact ⟨_, by omega, rfl, hlt, θ3, μ2, acc, ws, (lc.trans l2).trans l3, s3, hn3, hD3, (l2.trans l3).rpL ra, qc⟩
          | true =>
            refine ⟨θ3, ρ1, μ2, l3.rpE he', s3, ?_⟩
            replace qc : PoF K xt W ((te ρ1 μ2).noex.bind fun y μ => mLc.go t tt te s (wipeD ρ vs) (s.1.drop (i + 1)) (acc ++ [y]) μ) θ1 H1 σ Q := qc
            cases ee : te ρ1 μ2 with
            | ex e μ2 => rw [ee] at qc; exact qc.elim
            | bad => rw [ee] at qc; exact qc.elim
            | ok y μ4 =>
              rw [ee] at qc
              intro θ4 H4 wy l4 s4 ry
              have hD4 : H4 D = some (.lst ws) := l4.keep D _ hD3 (.inl hn3)
              have hn4 : D ∉ θ4 := l4.notin hD3 hn3
              have L : Lt θ1 θ4 H1 H4 := ((lc.trans l2).trans l3).trans l4
              refine ⟨ws, hD4, by rw [← ra.len, ← lim_line]; exact hok.2, _, by omega, rfl, hlt, θ4, μ4, acc ++ [y], ws ++ [wy], ?_, s4.own hD4 hn4, hn4, upd_same, RpL.of (Stay.own hD4) _ _ ((((l2.trans l3).trans l4).rpL ra).app (RpL.one ry)), qc⟩
              exact ⟨L.pre, L.new, fun a o h1 h2 => by rw [upd_ne (ne_of_none h1 hD)]; exact L.keep a o h1 h2⟩
      · exact qc.elim
    · exact qc.elim
  · have e : i = s.1.length := by omega
    subst e
    rw [List.drop_length] at qc
    simp only [mLc.go] at qc
    split at qc
    · rename_i hok
      exact .inl ⟨(hJ θc Hc μc lc sc hok).2 _ (Nat.le_refl _), qc θc Hc D ws lc sc hD hDc hDw ra⟩
    · exact qc.elim
theorem blkOk_at {X0 : Cx} {N : List Str} {sc scope : Scope} {own : List (Str × Nat)} (hN : X0.N = N) (hs : X0.env.scope = sc) (h : blkC N sc scope own = true) : BlkOk X0.N X0.env.scope scope own := by
  subst hN; subst hs
  exact blkOk_by h
theorem blkOk_in {X0 : Cx} {N : List Str} {sc0 scope0 scope : Scope} {own : List (Str × Nat)} {s : Shared} {H : Hp} {cl : List (Str × Addr)} {C : Addr} {fp : List Addr} (hN : X0.N = N) (hs : X0.env.scope = sc0) (h : blkC N (relS scope0 sc0) scope own = true) :
    BlkOk (X0.blk s H scope0 (compEnvC scope0 cl C X0.env) fp).N (X0.blk s H scope0 (compEnvC scope0 cl C X0.env) fp).env.scope scope own := by
  subst hN; subst hs
  exact blkOk_by h
theorem d_lc {elt iter : Expr} {ifs : List Expr} {scope : Scope} {own : List (Str × Nat)} {is : List Nat} {mi : IM} {t : GM} {tt : BM} {te : EM} (hc : X.calm = true) (hN : X.N.Nodup) (hi : DIt xt W X tg iter mi) (ok : BlkOk X.N X.env.scope scope own) (his : ∀ j ∈ is, j ∈ own.map (·.2))
    (hg : ∀ (s : Shared) (H : Hp) (C : Addr) (cl : List (Str × Addr)) (fp : List Addr), DTg (X.blk s H scope (compEnvC scope cl C X.env) fp) tg t is)
    (ht : ∀ (s : Shared) (H : Hp) (C : Addr) (cl : List (Str × Addr)) (fp : List Addr), PTest xt WN (X.blk s H scope (compEnvC scope cl C X.env) fp) ifs tt)
    (he : ∀ (s : Shared) (H : Hp) (C : Addr) (cl : List (Str × Addr)) (fp : List Addr), DEx xt WN (X.blk s H scope (compEnvC scope cl C X.env) fp) elt te) (hs : ∀ x, foldedSetIterable iter X.env x = pure x := by intro _; rfl) :
    DFr xt W X (.ListComp elt [⟨tg, iter, ifs, 0⟩] scope pos) (mLc (own.map (·.2)) mi t tt te) :=
  imE (pe_lc hc hN hi ok hg ht he hs) fun _ _ _ q => lc_run his q
/-- y = [..] on one line -/
def sSetF (m : LM) (i : Nat) : SM := fun ρ μ => (m ρ μ).st ρ fun xs μ => if i < ρ.length then .nx (ρ.set i (some (.ref μ.length))) (μ ++ [.lst xs]) else .bad
theorem PoF.st {K : PySem.W.Frag} {r : DR (List DV)} {ρ : DE} {k : List DV → DM → SR} {θ : List Addr} {H : Hp} {σ : L2.St} {D : Ends} (he : RpE K θ H ρ σ) (h : PoS K xt W (r.st ρ k) θ H D) :
    PoF K xt W r θ H σ fun w H1 => ∃ θ1 μ1 xs, FrAt K θ H θ1 H1 μ1 xs w ∧ PoS K xt W (k xs μ1) θ H D := by
  cases r with
  | ok v μ => exact fun θ2 H2 a vs l s h0 hn ha p => ⟨θ2, μ, v, ⟨a, vs, rfl, l, s, h0, hn, ha, p⟩, h⟩
  | ex e μ => exact fun θ2 H2 c d l s p => h θ2 H2 σ c d l (l.rpE he) s p
  | bad => exact h
/-- a new list goes to the store -/
theorem FrAt.keep {K : PySem.W.Frag} {θ θ1 : List Addr} {H H1 : Hp} {μ1 : DM} {xs : List DV} {w : V} (h : FrAt K θ H θ1 H1 μ1 xs w) : ∃ θ2, Lt θ θ2 H H1 ∧ Sto K θ2 H1 (μ1 ++ [.lst xs]) ∧ Rp K θ2 H1 (.ref μ1.length) w := by
  obtain ⟨a, vs, rfl, l1, s1, h0, hn, ha, r1⟩ := h
  obtain ⟨t, et⟩ := l1.pre
  refine ⟨θ1 ++ [a], ⟨⟨t ++ [a], by rw [et, List.append_assoc]⟩, fun b hb => ?_, l1.keep⟩, s1.push hn ha r1, a, ?_, rfl⟩
  · rcases List.mem_append.mp hb with hb | hb
    · exact l1.new b hb
    · simp at hb; subst hb; exact .inr h0
  · rw [← s1.len, List.getElem?_append_right (Nat.le_refl _)]
    simp
theorem s_setLc {i : Nat} {y : Str} {py spos : Pos} {elt iter : Expr} {ifs : List Expr} {scope : Scope} {own : List (Str × Nat)} {is : List Nat} {mi : IM} {t : GM} {tt : BM} {te : EM} (hc : X.calm = true) (hN : X.N.Nodup) (hy : X.N[i]? = some y) (hyl : X.env.scope.names.lookup y = some .local)
    (hsw : swapsWith (.ListComp elt [⟨tg, iter, ifs, 0⟩] scope pos) (some (.Name y py)) spos.line X.env = pure true) (hi : DIt xt W X tg iter mi) (ok : BlkOk X.N X.env.scope scope own) (his : ∀ j ∈ is, j ∈ own.map (·.2))
    (hg : ∀ (s : Shared) (H : Hp) (C : Addr) (cl : List (Str × Addr)) (fp : List Addr), DTg (X.blk s H scope (compEnvC scope cl C X.env) fp) tg t is)
    (ht : ∀ (s : Shared) (H : Hp) (C : Addr) (cl : List (Str × Addr)) (fp : List Addr), PTest xt WN (X.blk s H scope (compEnvC scope cl C X.env) fp) ifs tt)
    (he : ∀ (s : Shared) (H : Hp) (C : Addr) (cl : List (Str × Addr)) (fp : List Addr), DEx xt WN (X.blk s H scope (compEnvC scope cl C X.env) fp) elt te) (hs : ∀ x, foldedSetIterable iter X.env x = pure x := by intro _; rfl) :
    DSt xt W X (.Assign [.Name y py] (.ListComp elt [⟨tg, iter, ifs, 0⟩] scope pos) spos) (sSetF (mLc (own.map (·.2)) mi t tt te) i) := by
  refine imS (ps_setLc (g := tGt X.K t is) (tt := tTs X.K xt WN tt) (te := tE X.K xt WN te) hc hN hy hyl hsw hi ok hg ht he hs) fun D σ H ⟨θ, ρ, μ, he, hst, q⟩ => ?_
  refine lc_run his ⟨θ, ρ, μ, he, hst, ?_⟩
  refine (PoF.st he q).imp fun w H1 ⟨θ1, μ1, xs, fr, q1⟩ => ?_
  split at q1
  · obtain ⟨θ2, l2, s2, r2⟩ := fr.keep
    exact q1 θ2 H1 _ l2 ((l2.rpE he).set r2 i) s2
  · exact q1.elim
end
end Md

namespace Md
open PySem L2
section
variable {X : Cx} {xt : String → Option Addr} {W : WX} {a b c e o : Expr} {es : List Expr} {pos p apos : Pos} {tg : Expr} {st : Stmt} {sts : List Stmt}
/-! ## statements -/
def sNil : SM := fun ρ μ => .nx ρ μ
def sSeq (m n : SM) : SM := fun ρ μ => match m ρ μ with
  | .nx ρ μ => n ρ μ
  | r => r
theorem ss_nil : DSs xt W X [] sNil := imSs pss_nil fun D σ H ⟨θ, ρ, μ, he, hs, q⟩ => q θ H σ .refl he hs
theorem ss_cons {m n : SM} (h : DSt xt W X st m) (h2 : DSs xt W X sts n) : DSs xt W X (st :: sts) (sSeq m n) := by
  refine imSs (pss_cons h h2) fun D σ H ⟨θ, ρ, μ, he, hs, q⟩ => ⟨θ, ρ, μ, he, hs, ?_⟩
  unfold sSeq at q
  cases e : m ρ μ with
  | nx ρ1 μ1 => rw [e] at q; exact fun θ1 H1 σ1 l1 he1 s1 => ⟨θ1, ρ1, μ1, he1, s1, PoS.later q l1⟩
  | rt v μ1 => rw [e] at q; exact q
  | ex x ρ1 μ1 => rw [e] at q; exact q
  | bk ρ1 μ1 => rw [e] at q; exact q
  | ct ρ1 μ1 => rw [e] at q; exact q
  | bad => rw [e] at q; exact q
theorem ss_one {m : SM} (h : DSt xt W X st m) : DSs xt W X [st] m := pss_one h
def sPass : SM := sNil
theorem s_pass : DSt xt W X (.Pass pos) sPass := imS ps_pass fun D σ H ⟨θ, ρ, μ, he, hs, q⟩ => q θ H σ .refl he hs
def sBrk : SM := fun ρ μ => .bk ρ μ
def sCnt : SM := fun ρ μ => .ct ρ μ
theorem s_break : DSt xt W X (.Break pos) sBrk := imS ps_break fun D σ H ⟨θ, ρ, μ, he, hs, q⟩ => q θ H σ .refl he hs
theorem s_continue : DSt xt W X (.Continue pos) sCnt := imS ps_continue fun D σ H ⟨θ, ρ, μ, he, hs, q⟩ => q θ H σ .refl he hs
def sExpr (m : EM) : SM := fun ρ μ => (m ρ μ).st ρ fun _ μ => .nx ρ μ
theorem s_expr {m : EM} (h : DEx xt W X e m) (hs : swapsWith e none pos.line X.env = pure false := by rfl) : DSt xt W X (.Expr e pos) (sExpr m) := by
  refine imS (ps_expr h hs) fun D σ H ⟨θ, ρ, μ, he, hst, q⟩ => ⟨θ, ρ, μ, he, hst, ?_⟩
  exact (Po.st he q).imp fun w H1 ⟨θ1, μ1, v, l1, s1, r1, q1⟩ => q1 θ1 H1 σ .refl (l1.rpE he) s1
def sRet (m : EM) : SM := fun ρ μ => (m ρ μ).st ρ fun v μ => .rt v μ
theorem s_ret {m : EM} (h : DEx xt W X e m) : DSt xt W X (.Return (some e) pos) (sRet m) := by
  refine imS (ps_ret h) fun D σ H ⟨θ, ρ, μ, he, hst, q⟩ => ⟨θ, ρ, μ, he, hst, ?_⟩
  exact (Po.st he q).imp fun w H1 ⟨θ1, μ1, v, l1, s1, r1, q1⟩ => q1 θ1 H1 w .refl s1 r1
def sRetN : SM := fun ρ μ => .rt .non μ
theorem s_retN : DSt xt W X (.Return none pos) sRetN := imS ps_retN fun D σ H ⟨θ, ρ, μ, he, hs, q⟩ => q θ H .non .refl hs rfl
def sIf (t : BM) (a b : SM) : SM := fun ρ μ => (t ρ μ).st ρ fun c μ => if c = true then a ρ μ else b ρ μ
theorem s_if {t : BM} {m n : SM} {as bs : List Stmt} (ht : DTs xt W X c t) (ha : DSs xt W X as m) (hb : DSs xt W X bs n) : DSt xt W X (.If c as bs pos) (sIf t m n) := by
  refine imS (ps_if ht ha hb) fun D σ H ⟨θ, ρ, μ, he, hs, q⟩ => ⟨θ, ρ, μ, he, hs, ?_⟩
  refine (Po.st he q).imp fun w H1 ⟨θ1, μ1, u, l1, s1, r1, q1⟩ => ?_
  subst r1
  cases u with
  | true => exact ⟨θ1, ρ, μ1, l1.rpE he, s1, q1⟩
  | false => exact ⟨θ1, ρ, μ1, l1.rpE he, s1, q1⟩
def sAsg (m : EM) (t : GM) : SM := fun ρ μ => (m ρ μ).st ρ fun v μ => match t v ρ μ with
  | some ρ' => .nx ρ' μ
  | none => .bad
theorem asg_step {K : PySem.W.Frag} {t : GM} {is : List Nat} {ρ : DE} {σ : L2.St} {D : Ends} {θ θ1 : List Addr} {H H1 : Hp} {μ1 : DM} {v : DV} {w : V} (he : RpE K θ H ρ σ) (l1 : Lt θ θ1 H H1) (s1 : Sto K θ1 H1 μ1) (r1 : Rp K θ1 H1 v w)
    (q : PoS K xt W (match t v ρ μ1 with | some ρ' => SR.nx ρ' μ1 | none => .bad) θ1 H1 D) : tGt K t is w σ H1 D.nx := by
  split at q
  · rename_i ρ' ht
    exact ⟨θ1, ρ, μ1, v, ρ', l1.rpE he, s1, r1, ht, fun σ' he' _ _ => q θ1 H1 σ' .refl he' s1⟩
  · exact q.elim
theorem s_asg {m : EM} {t : GM} {is : List Nat} (h : DEx xt W X e m) (hg : DTg X tg t is) (hs : swapsWithSole [tg] e pos.line X.env = pure false := by rfl) (hw : swappedStores [tg] e X.env = pure none := by rfl)
    (h1 : (assignEach [tg] X.env).map (·.2) = [assign tg X.env] := by rfl) : DSt xt W X (.Assign [tg] e pos) (sAsg m t) := by
  refine imS (ps_asg h hg hs hw h1) fun D σ H ⟨θ, ρ, μ, he, hst, q⟩ => ⟨θ, ρ, μ, he, hst, ?_⟩
  exact (Po.st he q).imp fun w H1 ⟨θ1, μ1, v, l1, s1, r1, q1⟩ => asg_step he l1 s1 r1 q1
theorem s_set {m : EM} {y : Str} {py : Pos} (i : Nat) (hN : X.N.Nodup) (h : DEx xt W X e m) (hi : X.N[i]? = some y := by rfl) (hx : Loc X.env.scope y := by first | exact .inl rfl | exact .inr rfl) (hs : swapsWith e (some (.Name y py)) pos.line X.env = pure false := by rfl)
    (hf : X.fn y = true ∨ X.env.scope.names.lookup y = some .local := by first | exact .inl rfl | exact .inr rfl) : DSt xt W X (.Assign [.Name y py] e pos) (sAsg m (tgN i)) := by
  refine imS (ps_set hN hi hx h hs hf) fun D σ H ⟨θ, ρ, μ, he, hst, q⟩ => ⟨θ, ρ, μ, he, hst, ?_⟩
  refine (Po.st he q).imp fun w H1 ⟨θ1, μ1, v, l1, s1, r1, q1⟩ => ?_
  split at q1
  · rename_i ρ' ht
    unfold tgN at ht
    split at ht
    · cases ht
      exact q1 θ1 H1 _ .refl ((l1.rpE he).set r1 i) s1
    · cases ht
  · exact q1.elim
/-- a, b = x, y -/
def sPar (i j : Nat) (ms : LM) : SM := fun ρ μ => (ms ρ μ).st ρ fun vs μ => match vs with
  | [v, w] => if i < ρ.length ∧ j < ρ.length then .nx ((ρ.set i (some v)).set j (some w)) μ else .bad
  | _ => .bad
theorem s_par {i j : Nat} {x y : Str} {ms : LM} {px py pt : Pos} {kt k2 : Nat} {pt2 : Pos} (hc : X.calm = true) (hN : X.N.Nodup) (hij : i ≠ j) (h : DAs xt W X [a, b] ms)
    (hi : X.N[i]? = some x := by rfl) (hj : X.N[j]? = some y := by rfl) (hx : X.env.scope.names.lookup x = some .local := by rfl) (hy : X.env.scope.names.lookup y = some .local := by rfl)
    (hw : swappedStores [.Tuple [.Name x px, .Name y py] kt pt] (.Tuple [a, b] k2 pt2) X.env = pure (some [x, y]) := by rfl)
    (hs : swapsWithSole [.Tuple [.Name x px, .Name y py] kt pt] (.Tuple [a, b] k2 pt2) pos.line X.env = pure false := by rfl) :
    DSt xt W X (.Assign [.Tuple [.Name x px, .Name y py] kt pt] (.Tuple [a, b] k2 pt2) pos) (sPar i j ms) := by
  refine imS (ps_par hc hN hi hj hij hx hy h hw hs) fun D σ H ⟨θ, ρ, μ, he, hst, q⟩ => ⟨θ, ρ, μ, he, hst, ?_⟩
  refine (Po.st he q).imp fun ws H1 ⟨θ1, μ1, vs, l1, s1, r1, q1⟩ => ?_
  split at q1
  · rename_i v w
    obtain ⟨v', _, rfl, r1, w', _, rfl, r2, rfl⟩ := r1
    split at q1
    · exact ⟨v', w', rfl, q1 θ1 H1 _ .refl (((l1.rpE he).set r1 i).set r2 j) s1⟩
    · exact q1.elim
  · exact q1.elim
def sPar3 (i j k : Nat) (ms : LM) : SM := fun ρ μ => (ms ρ μ).st ρ fun vs μ => match vs with
  | [u, v, w] => if i < ρ.length ∧ j < ρ.length ∧ k < ρ.length then .nx (((ρ.set i (some u)).set j (some v)).set k (some w)) μ else .bad
  | _ => .bad
theorem s_par3 {i j k : Nat} {x y z : Str} {ms : LM} {px py pz pt : Pos} {kt k2 : Nat} {pt2 : Pos} (hc : X.calm = true) (hN : X.N.Nodup) (hij : i ≠ j) (hik : i ≠ k) (hjk : j ≠ k) (h : DAs xt W X [a, b, c] ms)
    (hi : X.N[i]? = some x := by rfl) (hj : X.N[j]? = some y := by rfl) (hk : X.N[k]? = some z := by rfl) (hx : X.env.scope.names.lookup x = some .local := by rfl) (hy : X.env.scope.names.lookup y = some .local := by rfl) (hz : X.env.scope.names.lookup z = some .local := by rfl)
    (hw : swappedStores [.Tuple [.Name x px, .Name y py, .Name z pz] kt pt] (.Tuple [a, b, c] k2 pt2) X.env = pure (some [x, y, z]) := by rfl)
    (hs : swapsWithSole [.Tuple [.Name x px, .Name y py, .Name z pz] kt pt] (.Tuple [a, b, c] k2 pt2) pos.line X.env = pure false := by rfl) :
    DSt xt W X (.Assign [.Tuple [.Name x px, .Name y py, .Name z pz] kt pt] (.Tuple [a, b, c] k2 pt2) pos) (sPar3 i j k ms) := by
  refine imS (ps_par3 hc hN hi hj hk hij hik hjk hx hy hz h hw hs) fun D σ H ⟨θ, ρ, μ, he, hst, q⟩ => ⟨θ, ρ, μ, he, hst, ?_⟩
  refine (Po.st he q).imp fun ws H1 ⟨θ1, μ1, vs, l1, s1, r1, q1⟩ => ?_
  split at q1
  · rename_i u v w
    obtain ⟨u', _, rfl, r0, v', _, rfl, r1, w', _, rfl, r2, rfl⟩ := r1
    split at q1
    · exact ⟨u', v', w', rfl, q1 θ1 H1 _ .refl ((((l1.rpE he).set r0 i).set r1 j).set r2 k) s1⟩
    · exact q1.elim
  · exact q1.elim
/-- o[i] = e -/
def sSub (mo mi me : EM) : SM := fun ρ μ => (me ρ μ).st ρ fun v μ => (mo ρ μ).st ρ fun u μ => (mi ρ μ).st ρ fun i μ => match u, i with
  | .ref n, .int k => match μ[n]? with
    | some (.lst xs) => match ixN xs.length k with
      | some j => .nx ρ (μ.set n (.lst (xs.set j v)))
      | none => .bad
    | none => .bad
  | _, _ => .bad
theorem s_sub {i : Expr} {mo mi me : EM} {ps : Pos} (ho : DEx xt W X o mo) (hi : DEx xt W X i mi) (h : DEx xt W X e me)
    (ha : ∀ v, assign (.Subscript o i ps) X.env v = (do
      let ov ← holding [v] (eval o X.env)
      let iv ← holding [v, ov] (eval i X.env)
      standAt ps
      holding [v, ov, iv] (setItem ov iv v)
      release [v, ov, iv] []) := by intro _; rfl)
    (hs : swapsWithSole [.Subscript o i ps] e pos.line X.env = pure false := by rfl) (hw : swappedStores [.Subscript o i ps] e X.env = pure none := by rfl)
    (h1 : (assignEach [.Subscript o i ps] X.env).map (·.2) = [assign (.Subscript o i ps) X.env] := by rfl) : DSt xt W X (.Assign [.Subscript o i ps] e pos) (sSub mo mi me) := by
  refine imS (ps_asg h (pg_sub ho hi set_list ha) hs hw h1) fun D σ H ⟨θ, ρ, μ, he, hst, q⟩ => ⟨θ, ρ, μ, he, hst, ?_⟩
  refine (Po.st he q).imp fun w H1 ⟨θ1, μ1, v, l1, s1, r1, q1⟩ => ⟨θ1, ρ, μ1, l1.rpE he, s1, ?_⟩
  refine (Po.st (l1.rpE he) q1).imp fun w2 H2 ⟨θ2, μ2, u, l2, s2, r2, q2⟩ => ⟨θ2, ρ, μ2, l2.rpE (l1.rpE he), s2, ?_⟩
  refine (Po.st (l2.rpE (l1.rpE he)) q2).imp fun w3 H3 ⟨θ3, μ3, i', l3, s3, r3, q3⟩ => ?_
  cases u with
  | ref n =>
    cases i' with
    | int k =>
      cases r3
      obtain ⟨p, hp, rfl⟩ := l3.rp r2
      replace q3 : PoS X.K xt W (match μ3[n]? with | some (.lst xs) => (match ixN xs.length k with | some j => .nx ρ (μ3.set n (.lst (xs.set j v))) | none => .bad) | none => .bad) θ3 H3 D := q3
      split at q3
      · rename_i xs hx
        obtain ⟨vs, ev, r⟩ := s3.cell n p _ hp hx
        split at q3
        · rename_i j hj
          obtain ⟨s4, l4⟩ := s3.put hp ev (r.set j (l3.rp (l2.rp r1)))
          exact ⟨p, vs, k, j, rfl, rfl, ev, by rw [← r.len]; exact hj, q3 _ _ σ l4 (l4.rpE (l3.rpE (l2.rpE (l1.rpE he)))) s4⟩
        · exact q3.elim
      · exact q3.elim
    | _ => exact q3.elim
  | _ => exact q3.elim
/-- name op= e -/
def sAug (g : DV → DV → DM → DR DV) (i : Nat) (me : EM) : SM := fun ρ μ => match ρ[i]? with
  | some (some u) => (me ρ μ).st ρ fun v μ => (g u v μ).noex.st ρ fun w μ => .nx (ρ.set i (some w)) μ
  | _ => .bad
theorem s_aug {m : EM} {y : Str} {py : Pos} {op : Operator} {g : DV → DV → DM → DR DV} (i : Nat) (hN : X.N.Nodup) (ho : OpD X (inplaceOp op) g) (h : DEx xt W X e m) (hi : X.N[i]? = some y := by rfl) (hx : Loc X.env.scope y := by first | exact .inl rfl | exact .inr rfl)
    (hf : X.fn y = true ∨ X.env.scope.names.lookup y = some .local := by first | exact .inl rfl | exact .inr rfl) : DSt xt W X (.AugAssign (.Name y py) op e pos) (sAug g i m) := by
  refine imS (ps_aug (ti := rG X.K g) hN hi hx h ho hf) fun D σ H ⟨θ, ρ, μ, he, hst, q⟩ => ?_
  unfold sAug at q
  split at q
  · rename_i u hu
    obtain ⟨x, e1, r0⟩ := he.at' i u hu
    refine ⟨x, e1, θ, ρ, μ, he, hst, ?_⟩
    refine (Po.st he q).imp fun w H1 ⟨θ1, μ1, v, l1, s1, r1, q1⟩ => ⟨θ1, μ1, u, v, s1, l1.rp r0, r1, ?_⟩
    cases eg : g u v μ1 with
    | ex e μ2 => rw [eg] at q1; exact q1.elim
    | bad => rw [eg] at q1; exact q1.elim
    | ok z μ2 =>
      rw [eg] at q1
      intro θ2 H2 wz l2 s2 r2
      exact q1 θ2 H2 _ l2 ((l2.rpE (l1.rpE he)).set r2 i) s2
  · exact q.elim
/-! ## loops -/
/-- the turns of a while, at most -/
abbrev WF : Nat := 1000000
def sWhile (t : BM) (b : SM) : Nat → SM
  | 0 => fun _ _ => .bad
  | n + 1 => fun ρ μ => (t ρ μ).st ρ fun c μ => if c = true then match b ρ μ with
      | .nx ρ μ => sWhile t b n ρ μ
      | .ct ρ μ => sWhile t b n ρ μ
      | .bk ρ μ => .nx ρ μ
      | r => r
    else .nx ρ μ
theorem s_while {t : BM} {m : SM} {body : List Stmt} (n : Nat) (hp : PassesOwn (model X.prog X.w) X.A X.env X.xe) (ht : DTs xt W X c t) (hb : DSs xt W X body m) : DSt xt W X (.While c body [] pos) (sWhile t m n) := by
  refine imS (ps_while hp ht hb) fun D σ H ⟨θ, ρ, μ, he, hst, q⟩ => ?_
  refine ⟨fun k σ H => ∃ θ ρ μ, RpE X.K θ H ρ σ ∧ Sto X.K θ H μ ∧ PoS X.K xt W (sWhile t m k ρ μ) θ H D, ⟨n, θ, ρ, μ, he, hst, q⟩, ?_⟩
  rintro k σ H ⟨θ, ρ, μ, he, hst, q⟩
  cases k with
  | zero => exact q.elim
  | succ k =>
    refine ⟨θ, ρ, μ, he, hst, ?_⟩
    refine (Po.st he q).imp fun w H1 ⟨θ1, μ1, u, l1, s1, r1, q1⟩ => ?_
    subst r1
    cases u with
    | false => exact q1 θ1 H1 σ .refl (l1.rpE he) s1
    | true =>
      refine ⟨fun σ' H' => ∃ θ ρ μ, RpE X.K θ H' ρ σ' ∧ Sto X.K θ H' μ ∧ PoS X.K xt W (sWhile t m k ρ μ) θ H' D, fun σ' H' h => ⟨k, Nat.lt_succ_self k, h⟩, θ1, ρ, μ1, l1.rpE he, s1, ?_⟩
      replace q1 : PoS X.K xt W (match m ρ μ1 with | .nx ρ μ => sWhile t m k ρ μ | .ct ρ μ => sWhile t m k ρ μ | .bk ρ μ => .nx ρ μ | r => r) θ1 H1 D := q1
      cases em : m ρ μ1 with
      | nx ρ2 μ2 => rw [em] at q1; exact fun θ2 H2 σ2 l2 he2 s2 => ⟨θ2, ρ2, μ2, he2, s2, PoS.later q1 l2⟩
      | ct ρ2 μ2 => rw [em] at q1; exact fun θ2 H2 σ2 l2 he2 s2 => ⟨θ2, ρ2, μ2, he2, s2, PoS.later q1 l2⟩
      | bk ρ2 μ2 => rw [em] at q1; exact q1
      | rt v μ2 => rw [em] at q1; exact q1
      | ex e ρ2 μ2 => rw [em] at q1; exact q1
      | bad => rw [em] at q1; exact q1
def sFor (mi : IM) (t : GM) (b : SM) : SM := fun ρ μ => (mi ρ μ).st ρ fun s μ => go s s.1 ρ μ
where go (s : Src) : List DV → SM
  | [] => fun ρ μ => if okAt s.2 s.1 μ = true then .nx ρ μ else .bad
  | x :: xs => fun ρ μ => if okAt s.2 s.1 μ = true then match t x ρ μ with
      | some ρ1 => match b ρ1 μ with
        | .nx ρ2 μ2 => go s xs ρ2 μ2
        | .ct ρ2 μ2 => go s xs ρ2 μ2
        | .bk ρ2 μ2 => .nx ρ2 μ2
        | r => r
      | none => .bad
    else .bad
theorem s_for {mi : IM} {t : GM} {is : List Nat} {m : SM} {body : List Stmt} (hp : PassesOwn (model X.prog X.w) X.A X.env X.xe) (hc : X.calm = true) (hi : DIt xt W X tg e mi) (hg : DTg X tg t is) (hb : DSs xt W X body m)
    (hs : ∀ x, foldedSetIterable e X.env x = pure x := by intro _; rfl) : DSt xt W X (.For tg e body [] pos) (sFor mi t m) := by
  refine imS (ps_for hp hc hi hg hb hs) fun D σ H ⟨θ, ρ, μ, he, hst, q⟩ => ⟨θ, ρ, μ, he, hst, ?_⟩
  refine (Po.st he q).imp fun J H1 ⟨θ1, μ1, s, l1, s1, hJ, q1⟩ => ?_
  refine ⟨fun i k σ Hc => k = s.1.length - i ∧ i ≤ s.1.length ∧ ∃ θc ρc μc, Lt θ1 θc H1 Hc ∧ RpE X.K θc Hc ρc σ ∧ Sto X.K θc Hc μc ∧ PoS X.K xt W (sFor.go t m s (s.1.drop i) ρc μc) θc Hc D, ⟨_, rfl, Nat.zero_le _, θ1, ρ, μ1, .refl, l1.rpE he, s1, q1⟩, ?_⟩
  rintro i k σ Hc ⟨rfl, hi, θc, ρc, μc, lc, hec, sc, qc⟩
  by_cases hlt : i < s.1.length
  · have hd : s.1.drop i = s.1[i] :: s.1.drop (i + 1) := List.drop_eq_getElem_cons hlt
    have hx : s.1[i]? = some s.1[i] := List.getElem?_eq_getElem hlt
    rw [hd] at qc
    simp only [sFor.go] at qc
    split at qc
    · rename_i hok
      obtain ⟨hgo, hyl⟩ := (hJ θc Hc μc lc sc hok).1 i _ hx
      refine .inr ⟨hgo, fun σ' H' => ∃ m', m' < s.1.length - i ∧ (m' = s.1.length - (i + 1) ∧ i + 1 ≤ s.1.length ∧ ∃ θc ρc μc, Lt θ1 θc H1 H' ∧ RpE X.K θc H' ρc σ' ∧ Sto X.K θc H' μc ∧ PoS X.K xt W (sFor.go t m s (s.1.drop (i + 1)) ρc μc) θc H' D), fun σ' H' h => h, fun w H2 hy => ?_⟩
      obtain ⟨l2, s2, r2⟩ := hyl w H2 hy
      split at qc
      · rename_i ρ1 ht
        refine ⟨θc, ρc, μc, _, ρ1, l2.rpE hec, s2, r2, ht, fun σ' he' hl' hk' => ⟨θc, ρ1, μc, he', s2, ?_⟩⟩
        cases em : m ρ1 μc with
        | nx ρ2 μ2 => rw [em] at qc; exact fun θ3 H3 σ3 l3 he3 s3 => ⟨_, by omega, rfl, hlt, θ3, ρ2, μ2, (lc.trans l2).trans l3, he3, s3, PoS.later qc (l2.trans l3)⟩
        | ct ρ2 μ2 => rw [em] at qc; exact fun θ3 H3 σ3 l3 he3 s3 => ⟨_, by omega, rfl, hlt, θ3, ρ2, μ2, (lc.trans l2).trans l3, he3, s3, PoS.later qc (l2.trans l3)⟩
        | bk ρ2 μ2 => rw [em] at qc; exact fun θ3 H3 σ3 l3 => qc θ3 H3 σ3 (l2.trans l3)
        | rt v μ2 => rw [em] at qc; exact fun θ3 H3 w3 l3 => qc θ3 H3 w3 (l2.trans l3)
        | ex e ρ2 μ2 => rw [em] at qc; exact fun θ3 H3 σ3 c d l3 => qc θ3 H3 σ3 c d (l2.trans l3)
        | bad => rw [em] at qc; exact qc.elim
      · exact qc.elim
    · exact qc.elim
  · have e : i = s.1.length := by omega
    subst e
    rw [List.drop_length] at qc
    simp only [sFor.go] at qc
    split at qc
    · rename_i hok
      exact .inl ⟨(hJ θc Hc μc lc sc hok).2 _ (Nat.le_refl _), qc θc Hc σ .refl hec sc⟩
    · exact qc.elim
end
end Md

namespace Md
open PySem L2
/-! ## calls -/
/-- an exception's field -/
def DX.val (e : DX) : DV := match e.fld with
  | none => .non
  | some (_, v) => v
def tidyE (μ0 : DM) (e : DX) (μ : DM) : DR DV := if tidyOk μ0 e.val μ then .ex e (μ.take μ0.length) else .ex e μ
def runFn (N n : Nat) (body : SM) : Fn := fun ds μ => if ds.length = n then match body (ds.map some ++ List.replicate (N - n) none) μ with
  | .rt v μ' => tidy μ v μ'
  | .nx _ μ' => tidy μ .non μ'
  | .ex e _ μ' => tidyE μ e μ'
  | _ => .bad
  else .bad
def spD (K : PySem.W.Frag) (xt : String → Option Addr) (n : Nat) (f : Fn) : Sp := fun vs H Q E => vs.length = n ∧ ∃ θ μ ds, Sto K θ H μ ∧ RpL K θ H ds vs ∧ Po K xt (fun cls d _ H' => E cls d H') (Rp K) (f ds μ) θ H [] Q
section
variable {K : PySem.W.Frag} {xt : String → Option Addr} {θ θ' : List Addr} {H H' : Hp}
mutual
theorem rp_und : ∀ (v : DV) (w : V), Rp K θ H v w → v.und θ.length = true
  | .non, _, _ => rfl
  | .bl _, _, _ => rfl
  | .int _, _, _ => rfl
  | .str _, _, _ => rfl
  | .tup xs, w, h => by obtain ⟨a, vs, _, _, r⟩ := h; exact rpL_und xs vs r
  | .kl xs, w, h => by obtain ⟨a, vs, _, _, r⟩ := h; exact rpL_und xs vs r
  | .ref n, w, h => by obtain ⟨a, e, _⟩ := h; exact decide_eq_true (List.getElem?_eq_some_iff.mp e).1
theorem rpL_und : ∀ (v : List DV) (w : List V), RpL K θ H v w → DV.undL θ.length v = true
  | [], _, _ => rfl
  | x :: xs, w, h => by
    obtain ⟨v, vs, rfl, r, rs⟩ := h
    simp only [DV.undL, rp_und x v r, rpL_und xs vs rs, Bool.and_self]
end
mutual
theorem und_rp {t : List Addr} : ∀ (v : DV) (w : V), v.und θ.length = true → Rp K (θ ++ t) H v w → Rp K θ H v w
  | .non, _, _, h => h
  | .bl _, _, _, h => h
  | .int _, _, _, h => h
  | .str _, _, _, h => h
  | .tup xs, w, u, h => by obtain ⟨a, vs, e, s, r⟩ := h; exact ⟨a, vs, e, s, undL_rp xs vs u r⟩
  | .kl xs, w, u, h => by obtain ⟨a, vs, e, s, r⟩ := h; exact ⟨a, vs, e, s, undL_rp xs vs u r⟩
  | .ref n, w, u, h => by
    obtain ⟨a, e, r⟩ := h
    have hn : n < θ.length := of_decide_eq_true u
    rw [List.getElem?_append_left hn] at e
    exact ⟨a, e, r⟩
theorem undL_rp {t : List Addr} : ∀ (v : List DV) (w : List V), DV.undL θ.length v = true → RpL K (θ ++ t) H v w → RpL K θ H v w
  | [], _, _, h => h
  | x :: xs, w, u, h => by
    obtain ⟨v, vs, e, r, rs⟩ := h
    simp only [DV.undL, Bool.and_eq_true] at u
    exact ⟨v, vs, e, und_rp x v u.1 r, undL_rp xs vs u.2 rs⟩
end
theorem tidy_sto {μ μ' : DM} {v : DV} (s : Sto K θ H μ) (l : Lt θ θ' H H') (s' : Sto K θ' H' μ') (h : tidyOk μ v μ') : Lt θ θ H H' ∧ Sto K θ H' (μ'.take μ.length) ∧ ∃ t, θ' = θ ++ t := by
  obtain ⟨t, et⟩ := l.pre
  refine ⟨⟨⟨[], by simp⟩, fun a h => .inl h, l.keep⟩, ⟨?_, s.nd, fun n a c h1 h2 => ?_⟩, t, et⟩
  · rw [List.length_take, s.len]
    exact (Nat.min_eq_left h.2.1).symm
  · have hn : n < μ.length := by rw [← s.len]; exact (List.getElem?_eq_some_iff.mp h1).1
    rw [List.getElem?_take_of_lt hn] at h2
    have h1' : θ'[n]? = some a := l.get h1
    have hc := s'.cell n a c h1' h2
    have hu : c.und μ.length = true := by
      rcases h.2.2 n hn with e | e
      · rw [h2] at e
        have := s.cell n a c h1 e.symm
        cases c with
        | lst xs =>
          obtain ⟨vs, _, r⟩ := this
          have := rpL_und xs vs r
          rw [s.len] at this
          exact this
      · rw [h2] at e
        exact e
    cases c with
    | lst xs =>
      obtain ⟨vs, e, r⟩ := hc
      rw [et] at r
      exact ⟨vs, e, undL_rp xs vs (by rw [s.len]; exact hu) r⟩
theorem tidy_ok {W : WX} {μ μ' : DM} {v : DV} {w : V} {σ : L2.St} {Q : VK} (q : Po K xt W (Rp K) (tidy μ v μ') θ H σ Q) (s : Sto K θ H μ) (l : Lt θ θ' H H') (s' : Sto K θ' H' μ') (r : Rp K θ' H' v w) : Q w H' := by
  unfold tidy at q
  split at q
  · rename_i h
    obtain ⟨l2, s2, t, et⟩ := tidy_sto s l s' h
    rw [et] at r
    exact q θ H' w l2 s2 (und_rp v w (by rw [s.len]; exact h.1) r)
  · exact q θ' H' w l s' r
theorem tidyX_ok {W : WX} {μ μ' : DM} {e : DX} {cls : Value} {d : Option Addr} {σ : L2.St} {Q : VK} (q : Po K xt W (Rp K) (tidyE μ e μ') θ H σ Q) (s : Sto K θ H μ) (l : Lt θ θ' H H') (s' : Sto K θ' H' μ') (r : RpX K xt θ' H' e cls d) : W cls d σ H' := by
  unfold tidyE at q
  split at q
  · rename_i h
    obtain ⟨l2, s2, t, et⟩ := tidy_sto s l s' h
    refine q θ H' cls d l2 s2 ?_
    obtain ⟨A, h1, h2, h3⟩ := r
    refine ⟨A, h1, h2, ?_⟩
    obtain ⟨ec, ef⟩ := e
    cases ef with
    | none => exact h3
    | some fv =>
      obtain ⟨dx, w, e1, e2, e3⟩ := h3
      rw [et] at e3
      exact ⟨dx, w, e1, e2, und_rp _ w (by rw [s.len]; exact h.1) e3⟩
  · exact q θ' H' cls d l s' r
theorem rpE_start {ds : List DV} {vs : List V} (r : RpL K θ H ds vs) {N : List Str} {n : Nat} (hn : vs.length = n) : RpE K θ H (ds.map some ++ List.replicate (N.length - n) none) (L2.start N vs) := by
  refine ⟨by simp [L2.start, r.len, hn], fun i v e => ?_⟩
  by_cases hi : i < ds.length
  · rw [List.getElem?_append_left (by simpa using hi), List.getElem?_map] at e
    have e' : ds[i]? = some v := by
      cases q : ds[i]? with
      | none => rw [q] at e; cases e
      | some u => rw [q] at e; cases e; rfl
    obtain ⟨w, hw, rw'⟩ := r.get e'
    refine ⟨w, ?_, rw'⟩
    unfold L2.start
    rw [List.getElem?_append_left (by rw [List.length_map, ← r.len]; exact hi), List.getElem?_map, hw]
    rfl
  · rw [List.getElem?_append_right (by simpa using hi), List.getElem?_replicate] at e
    split at e <;> cases e
end
/-- THE RULE of a def -/
theorem fn_ok {P : Program} {w : World} {K : PySem.W.Frag} {mg : Str → Option Value} {base : Heap} {xt : String → Option Addr} {x qual : Str} {st : Stmt} {f : Addr} {fd : FuncData} {N ps : List Str} {k : Nat} {body : SM} (F : Fun K x qual st f fd) (S : FnScope N ps (defScope st))
    (h : ∀ (cdv : Value) (A : Around) (outer : List Env) (s : Shared) (H : Hp) (E : XK), Room k (cxOf (L2.CX P w) P w K mg base N qual (defScope st) f cdv A outer s H E).A →
      Takes (cxOf (L2.CX P w) P w K mg base N qual (defScope st) f cdv A outer s H E) (fun cls d _ H => E cls d H) →
      PassesOwn (model P w) (cxOf (L2.CX P w) P w K mg base N qual (defScope st) f cdv A outer s H E).A (cxOf (L2.CX P w) P w K mg base N qual (defScope st) f cdv A outer s H E).env (cxOf (L2.CX P w) P w K mg base N qual (defScope st) f cdv A outer s H E).xe →
      DSs xt (fun cls d _ H => E cls d H) (cxOf (L2.CX P w) P w K mg base N qual (defScope st) f cdv A outer s H E) (defBody st) body) :
    FnOk P w K mg base (L2.CX P w) (k + 1) f fd ps (spD K xt ps.length (runFn N.length ps.length body)) := by
  refine F.okX S (fun vs H Q E h => h.1) fun cdv A outer s H vs Q E hr ⟨hl, θ, μ, ds, hs, r, q⟩ => ⟨_, h cdv A outer s H E hr (takes_of rfl rfl rfl rfl) PassesOwn.leaving, ?_⟩
  refine ⟨θ, _, μ, rpE_start r hl, hs, ?_⟩
  unfold runFn at q
  rw [if_pos (r.len.trans hl)] at q
  revert q
  cases body (ds.map some ++ List.replicate (N.length - ps.length) none) μ with
  | nx ρ μ' => exact fun q θ1 H1 σ1 l1 he1 s1 => tidy_ok q hs l1 s1 rfl
  | rt v μ' => exact fun q θ1 H1 w l1 s1 r1 => tidy_ok q hs l1 s1 r1
  | ex e ρ μ' => exact fun q θ1 H1 σ1 c d l1 he1 s1 r1 => tidyX_ok q hs l1 s1 r1
  | bk ρ μ' => exact fun q => q.elim
  | ct ρ μ' => exact fun q => q.elim
  | bad => exact fun q => q.elim
section
variable {X : Cx} {xt : String → Option Addr} {W : WX} {a b c e o : Expr} {es : List Expr} {pos p apos : Pos} {tg : Expr} {st : Stmt} {sts : List Stmt}
def mCall (n : Nat) (f : Fn) (ms : LM) : EM := fun ρ μ => (ms ρ μ).bind fun ds μ => if ds.length = n then f ds μ else .bad
theorem d_call {k : Nat} {f : Addr} {fd : FuncData} {ps : List Str} {n : Nat} {fn : Fn} {x : Str} {ms : LM} (F : FnOk X.prog X.w X.K X.mg X.base (L2.CX X.prog X.w) k f fd ps (spD X.K xt n fn)) (hr : Room k X.A) (hm : X.mg x = some (.ref f)) (hk : PySem.W.keepIn X.K (.ref f) = true) (hb : Binds X.K fd ps [])
    (tk : Takes X W) (ha : DAs xt W X (e :: es) ms) (hg : Gl X x := by rfl) (hdb : (x == ("__debug__" : Str)) = false := by decide) (he : starEach (e :: es) X.env = (false, eval e X.env) :: starEach es X.env := by rfl) (hpl : (backTo pos (starEach es X.env)).any (·.1) = false := by rfl) :
    DEx xt W X (.Call (.Name x p) (e :: es) [] pos) (mCall n fn ms) := by
  refine imE (pe_callS F hr hg hm hk hb (fun σ => passAt tk σ) ha hdb he hpl) fun σ H Q ⟨θ, ρ, μ, hen, hs, q⟩ => ⟨θ, ρ, μ, hen, hs, ?_⟩
  refine q.bind.imp fun ws H1 ⟨θ1, μ1, ds, l1, s1, r1, q1⟩ => ?_
  split at q1
  · rename_i hl
    refine ⟨by rw [← r1.len]; exact hl, θ1, μ1, ds, s1, r1, ?_⟩
    revert q1
    cases fn ds μ1 with
    | ok v μ2 => exact id
    | ex e μ2 => exact id
    | bad => exact id
  · exact q1.elim
theorem d_call0 {k : Nat} {f : Addr} {fd : FuncData} {ps : List Str} {fn : Fn} {x : Str} (F : FnOk X.prog X.w X.K X.mg X.base (L2.CX X.prog X.w) k f fd ps (spD X.K xt 0 fn)) (hr : Room k X.A) (hm : X.mg x = some (.ref f)) (hk : PySem.W.keepIn X.K (.ref f) = true) (hb : Binds X.K fd ps [])
    (hg : Gl X x := by rfl) (hdb : (x == ("__debug__" : Str)) = false := by decide) : DEx xt W X (.Call (.Name x p) [] [] pos) (fun _ μ => (fn [] μ).noex) := by
  refine imE (pe_call0 F hr hg hm hk hb .nil passL hdb) fun σ H Q ⟨θ, ρ, μ, hen, hs, q⟩ => ⟨rfl, θ, μ, [], hs, rfl, ?_⟩
  replace q : Po X.K xt W (Rp X.K) (fn [] μ).noex θ H σ Q := q
  revert q
  cases fn [] μ with
  | ok v μ2 => exact id
  | ex e μ2 => exact fun q => q.elim
  | bad => exact id
/-! ## raise -/
/-- C(), an own exception class without own __init__ -/
theorem pmk_no {C : Addr} {bmB : List Value} {B newId initId : String} {x : Str} (F : ExcBaseFacts B newId initId bmB) (hq : PySem.W.excIn X.K C bmB newId = true) (gC : X.mg x = some (.ref C)) (kC : PySem.W.keepIn X.K (.ref C) = true) (r : Raises X (.ref C)) (hg : Gl X x)
    (hdb : (x == ("__debug__" : Str)) = false := by decide) : PMk X (.Call (.Name x p) [] [] pos) (fun _ H Q => Q (.ref C) none H) := fun pins s σ H Q I hw => by
  refine wpAny_Call_Name_kw (ld_glob I hg gC (PySem.W.callWith_K0 I.kIn kC ?_) hdb)
  obtain ⟨bm, N, nm, qn, bs, hdct, sn, sub, ab, col, dd, k0, k1, k2, k3, k5, mN, hC, hN, hni, T⟩ := exc_obj I.kIn hq
  exact wpAny_call_exc_subT F T hC hN hni (fun h' e' hm => mk_of I hm r hw (I.hok.gone hm.new)) (Nat.zero_le _)
/-- what is known of an own exception class -/
structure ExK (K : PySem.W.Frag) (C : Addr) : Prop where
  x : PySem.W.excIn K C [.type "ValueError", .type "Exception", .type "BaseException", .type "object"] "ValueError.__new__" = true
  k : PySem.W.keepIn K (.ref C) = true
  b : PySem.W.subIn K (.ref C) (.type "BaseException") = some true
  t : PySem.W.typeIn K (.ref C) = some (.type "type")
def sRaise (n : String) : SM := fun ρ μ => .ex { cls := n } ρ μ
theorem s_raise {C : Addr} {x : Str} {p2 : Pos} (n : String) (hc : X.calm = true) (tk : Takes X W) (E : ExK X.K C) (gC : X.mg x = some (.ref C)) (hx : xt n = some C) (hg : Gl X x := by rfl) (hdb : (x == ("__debug__" : Str)) = false := by decide) :
    DSt xt W X (.Raise (some (.Call (.Name x p) [] [] p2)) none pos) (sRaise n) :=
  imS (ps_raise hc tk (pmk_no PySem.F.excBase_ValueError E.x gC E.k (raises_own E.b E.t) hg hdb)) fun D σ H ⟨θ, ρ, μ, he, hs, q⟩ => q θ H σ _ _ .refl he hs ⟨C, hx, rfl, rfl⟩
end
end Md

namespace Md
open PySem L2
/-! ## try .. except, several clauses, each with or without a name -/
/-- a clause: its class, the slot of its name, its suite -/
abbrev Cls3 := Value × Option Nat × (Addr → Value → Option Addr → TS)
def offEnds (D : Ends) : Option Nat → Ends
  | none => D
  | some i => { nx := fun τ G => D.nx (τ.set i none) G, rt := D.rt, bk := fun τ G => D.bk (τ.set i none) G, ct := fun τ G => D.ct (τ.set i none) G }
def onSlot (τ : L2.St) (a : Addr) : Option Nat → L2.St
  | none => τ
  | some i => τ.set i (some (.ref a))
def wMix (K : PySem.W.Frag) (Wo : WX) (D : Ends) : List Cls3 → WX
  | [] => Wo
  | (c, n, ts) :: l => fun cls d τ G => ∃ b, PySem.W.exmOne K cls c = some b ∧ (b = true → ∀ a, G a = none → ts a cls d (offEnds D n) (onSlot τ a n) G) ∧ (b = false → wMix K Wo D l cls d τ G)
abbrev Suite (X : Cx) (bs : List Stmt) (ts : Addr → Value → Option Addr → TS) : Prop := ∀ (a : Addr) (oe : Obj) (cls : Value) (d : Option Addr) (pn : List (Addr × Obj)), Zc cls d oe → (∃ vs, oe.data = .fields vs) → PSs (X.suite a ((a, oe) :: pn)) bs (ts a cls d)
inductive MixOk (X : Cx) : List ExceptHandler → List Cls3 → Prop
  | nil : MixOk X [] []
  | bare {x : Str} {c : Value} {ts : Addr → Value → Option Addr → TS} {b : Stmt} {bs : List Stmt} {np p : Pos} {hd : List ExceptHandler} {l : List Cls3} (hc : Names X x c) (hs : Suite X (b :: bs) ts) (r : MixOk X hd l) :
      MixOk X (.ExceptHandler (some (.Name x np)) none (b :: bs) p :: hd) ((c, none, ts) :: l)
  | named {x n : Str} {i : Nat} {c : Value} {ts : Addr → Value → Option Addr → TS} {b : Stmt} {bs : List Stmt} {np p : Pos} {hd : List ExceptHandler} {l : List Cls3} (hc : Names X x c) (hi : X.N[i]? = some n) (hn : X.env.kindOf n = some .local) (hs : Suite X (b :: bs) ts) (r : MixOk X hd l) :
      MixOk X (.ExceptHandler (some (.Name x np)) (some n) (b :: bs) p :: hd) ((c, some i, ts) :: l)
section
variable {X : Cx} {body : List Stmt} {hd0 : ExceptHandler} {hds : List ExceptHandler} {l : List Cls3} {pos : Pos} {tb : WX → TS} {Wo : WX}
theorem ps_try_mix (hst : X.stack = X.env :: X.outer) (hfr : X.env.frame = some X.env.locals) (hN : X.N.Nodup) (tk : Takes X Wo)
    (hb : ∀ (W : WX) (pn : List (Addr × Obj)) (xe : Value → Shared → Prop), Takes (X.tr pn xe) W → PassesOwn (model X.prog X.w) X.A X.env xe → PSs (X.tr pn xe) body (tb W))
    (hh : MixOk X (hd0 :: hds) l) : PS X (.Try body (hd0 :: hds) [] [] pos) (fun D σ H => tb (wMix X.K Wo D l) D σ H) := ⟨fun pins s σ H D I hw => by
  have okX := I.ok
  have frA : X.A.frames = some (X.env :: X.outer) := by rw [okX.frames, hst]
  refine wpAny_Try_except (wpAny_mono ((hb (wMix X.K Wo D l) (X.pn ++ pins) (fun e t1 => wpAny (model X.prog X.w) X.A (noteFrame e X.env) (fun _ t2 => wpAny (model X.prog X.w) X.A (setFlight e none)
    (fun _ t3 => wpAny (model X.prog X.w) X.A (handleBy e X.env (hd0 :: hds)) (SP X pins D) X.xe t3) X.xe t2) X.xe t1) (fun u t air => ?_) PassesOwn.looking).run [] s σ H D (I.toTry _) hw) (fun f t ends => ?_) fun _ _ z => z)
  · obtain ⟨a, B, t0, pins1, τ, G, cls, d, rfl, J0, nb, up, sky, na, os, ag, wish⟩ := air
    have J : Inv X pins τ G t0 := J0.ofTry okX
    rw [show (X.tr (X.pn ++ pins) _).stack = X.env :: X.outer from hst] at sky
    refine Sky.land Zc.steady frA hfr sky fun h1 fl1 up1 => ?_
    have J1 : Inv X pins τ G { t with heap := h1 } := J.landed nb fl1.1 (up.trans up1) os ag
    obtain ⟨o1, v1, g1, z1, d1⟩ := fl1.there
    have off : a ∉ frs (X.env :: X.outer) := fun hm => by
      obtain ⟨_, o', e', q'⟩ := fl1.2.2.1.mem hm
      rw [g1] at e'; cases e'
      exact q' _ d1
    have offL : a ≠ X.env.locals := fun q => off (List.mem_filterMap.mpr ⟨X.env, List.mem_cons_self, by rw [hfr, q]⟩)
    have offF : a ∉ X.fs := fun hm => by
      obtain ⟨e, q1, q2⟩ := List.mem_filterMap.mp hm
      exact off (List.mem_filterMap.mpr ⟨e, List.mem_cons_of_mem _ q1, q2⟩)
    have S1 := J1.suite g1 d1 na offL offF
    -- the class that a clause names, read
    have ask : ∀ {x : Str} {c : Value} {np : Pos} {Q E : Value → Shared → Prop}, Names X x c → Q c { t with heap := h1 } → wpAny (model X.prog X.w) (X.A.mark (some (.ref a))) (eval (.Name x np) X.env) Q E { t with heap := h1 } := fun {x c np Q E} hc q => by
      obtain ⟨hg, hdb, k | ⟨k1, k2, k3⟩⟩ := hc
      · exact ld_glob (X := X.suite a ((a, o1) :: (X.pn ++ pins))) S1 hg k q hdb
      · exact ld_blt (X := X.suite a ((a, o1) :: (X.pn ++ pins))) S1 hg k1 k2 q k3 hdb
    have cl : PySem.W.Looks (model X.prog X.w) h1 (typeOf (.ref a)) cls := fun A Q E s k q => wpAny_typeOf_ref (k _ _ g1) (by rw [z1.1]; exact q)
    have main : ∀ {hd : List ExceptHandler} {l : List Cls3}, MixOk X hd l → wMix X.K Wo D l cls d τ G → wpAny (model X.prog X.w) X.A (handleBy (.ref a) X.env hd) (SP X pins D) X.xe { t with heap := h1 } := by
      intro hd l hk
      induction hk with
      | nil =>
        intro wish
        refine wpAny_handleBy_nil ?_
        obtain ⟨k1, k2, k3, oe, vs, T, oT, ts', he, hz, hdt, hf1, hr⟩ := id fl1
        unfold PySem.passOn
        refine wpAny_bind (wpAny_field he hdt hf1 ?_)
        rw [if_neg (show ¬ ((Value.ref T == Value.none) = true) from by simp)]
        have out : wpAny (model X.prog X.w) X.A (setFlight (.ref a) X.env.frame) (fun _ t4 => wpAny (model X.prog X.w) X.A (throw (.ref a) : Sem Flow) (SP X pins D) X.xe t4) X.xe { t with heap := h1 } := by
          rw [hfr]
          exact HandSPX.setFlight_upZ fl1 fun h2 hh2 up2 => wpAny_throw (tk _ _ ⟨a, B, t0, pins, τ, G, cls, d, rfl, J, nb, (up.trans up1).trans up2, .inr (.inr (by rw [hst]; exact hh2)), na, os, ag, wish⟩)
        first
          | exact wpAny_bind (wpAny_pure (wpAny_bind out))
          | exact wpAny_bind out
      | @bare x c ts b bs np p hd2 l2 hc hs r ih =>
        rintro ⟨k, ek, yes, no⟩
        refine wpAny_handleBy_cons (codeAny_handlers_test (ask hc ((PySem.W.exm_one (M := model X.prog X.w) J1.kIn cl ek).here ?_))) (by intro q; cases q)
        cases k with
        | false => exact ih (no rfl)
        | true =>
          refine codeAny_handlers_suite (HandSPX.lands_againZ fl1 fun h2 fl2 up2 => ?_)
          have J2 : Inv X pins τ G { t with heap := h2 } := J.landed nb fl2.1 ((up.trans up1).trans up2) os ag
          obtain ⟨o2, v2, g2, z2, d2⟩ := fl2.there
          refine wpAny_mono ((hs a o2 cls d (X.pn ++ pins) z2 ⟨_, d2⟩).run [] _ _ G _ (J2.suite g2 d2 na offL offF) (yes rfl a na)) (fun f t6 ends => ?_) (fun _ _ z => False.elim z)
          cases f with
          | next => obtain ⟨_, _, S6, q6⟩ := ends; exact ⟨_, _, S6.unsuite okX, q6⟩
          | brk => obtain ⟨_, _, S6, q6⟩ := ends; exact ⟨_, _, S6.unsuite okX, q6⟩
          | cont => obtain ⟨_, _, S6, q6⟩ := ends; exact ⟨_, _, S6.unsuite okX, q6⟩
          | ret u => obtain ⟨_, _, _, S6, r6, q6⟩ := ends; exact ⟨_, _, _, S6.unsuite okX, r6, q6⟩
      | @named x n i c ts b bs np p hd2 l2 hc hi hn hs r ih =>
        rintro ⟨k, ek, yes, no⟩
        refine wpAny_handleBy_cons (codeAny_handlers_test (ask hc ((PySem.W.exm_one (M := model X.prog X.w) J1.kIn cl ek).here ?_))) (by intro q; cases q)
        cases k with
        | false => exact ih (no rfl)
        | true =>
          refine codeAny_handlers_suite_as (HandSPX.lands_againZ fl1 fun h2 fl2 up2 => ?_)
          have J2 : Inv X pins τ G { t with heap := h2 } := J.landed nb fl2.1 ((up.trans up1).trans up2) os ag
          obtain ⟨o2, v2, g2, z2, d2⟩ := fl2.there
          refine store_ok (X := X.suite a ((a, o2) :: (X.pn ++ pins))) (v := .ref a) (J2.suite g2 d2 na offL offF) hN hi (.inl hn) rfl (fun t5 S5 => ?_) (.inr hn)
          refine wpAny_mono ((hs a o2 cls d (X.pn ++ pins) z2 ⟨_, d2⟩).run [] t5 _ G _ S5 (yes rfl a na)) (fun f t6 ends => ?_) (fun _ _ z => False.elim z)
          cases f with
          | next => obtain ⟨_, _, S6, q6⟩ := ends; exact gone_ok (S6.unsuite okX) hN hi hn fun _ J7 => ⟨_, _, J7, q6⟩
          | brk => obtain ⟨_, _, S6, q6⟩ := ends; exact gone_ok (S6.unsuite okX) hN hi hn fun _ J7 => ⟨_, _, J7, q6⟩
          | cont => obtain ⟨_, _, S6, q6⟩ := ends; exact gone_ok (S6.unsuite okX) hN hi hn fun _ J7 => ⟨_, _, J7, q6⟩
          | ret u => obtain ⟨_, _, _, S6, r6, q6⟩ := ends; exact gone_ok (S6.unsuite okX) hN hi hn fun _ J7 => ⟨_, _, _, J7, r6, q6⟩
    exact main hh wish
  · cases f with
    | next => obtain ⟨_, _, J1, q⟩ := ends; exact wpAny_execs_nil ⟨_, _, J1.ofTry okX, q⟩
    | brk => obtain ⟨_, _, J1, q⟩ := ends; exact ⟨_, _, J1.ofTry okX, q⟩
    | cont => obtain ⟨_, _, J1, q⟩ := ends; exact ⟨_, _, J1.ofTry okX, q⟩
    | ret u => obtain ⟨_, _, _, J1, r, q⟩ := ends; exact ⟨_, _, _, J1.ofTry okX, r, q⟩⟩
end
/-! ## the same over plain data -/
/-- the classes of the package: each under the base -/
def subC (c c' : String) : Bool := c == c' || c' == "ShareError"
abbrev Hd := String × Option Nat × SM
def onS (ρ : DE) : Option Nat → DE
  | none => ρ
  | some i => ρ.set i none
def offS (r : SR) (n : Option Nat) : SR := match r with
  | .nx ρ μ => .nx (onS ρ n) μ
  | .rt v μ => .rt v μ
  | .bk ρ μ => .bk (onS ρ n) μ
  | .ct ρ μ => .ct (onS ρ n) μ
  | _ => .bad
def hdl : List Hd → DX → SM
  | [], e => fun ρ μ => .ex e ρ μ
  | (c, n, s) :: l, e => fun ρ μ => if subC e.cls c = true then offS (s (onS ρ n) μ) n else hdl l e ρ μ
def sTry (m : SM) (hs : List Hd) : SM := fun ρ μ => match m ρ μ with
  | .ex e ρ1 μ1 => hdl hs e ρ1 μ1
  | r => r
section
variable {X : Cx} {xt : String → Option Addr} {W : WX}
theorem RpE.onS {K : PySem.W.Frag} {θ : List Addr} {H : Hp} {ρ : DE} {σ : L2.St} (h : RpE K θ H ρ σ) (n : Option Nat) (a : Addr) : RpE K θ H (onS ρ n) (onSlot σ a n) := by
  cases n with
  | none => exact h
  | some i => exact h.unset i
theorem offS_ok {K : PySem.W.Frag} {r : SR} {n : Option Nat} {θ : List Addr} {H : Hp} {D : Ends} (q : PoS K xt W (offS r n) θ H D) : PoS K xt WN r θ H (offEnds D n) := by
  cases r with
  | nx ρ μ => cases n with
    | none => exact q
    | some i => exact fun θ' H' σ' l he s => q θ' H' _ l (he.unset i) s
  | bk ρ μ => cases n with
    | none => exact q
    | some i => exact fun θ' H' σ' l he s => q θ' H' _ l (he.unset i) s
  | ct ρ μ => cases n with
    | none => exact q
    | some i => exact fun θ' H' σ' l he s => q θ' H' _ l (he.unset i) s
  | rt v μ => cases n <;> exact q
  | ex e ρ μ => exact q.elim
  | bad => exact q.elim
abbrev DSuite (xt : String → Option Addr) (X : Cx) (bs : List Stmt) (s : SM) : Prop := ∀ (a : Addr) (oe : Obj) (pn : List (Addr × Obj)), DSs xt WN (X.suite a ((a, oe) :: pn)) bs s
/-- a class that a clause names -/
structure Named (X : Cx) (xt : String → Option Addr) (x : Str) (n : String) (C : Addr) : Prop where
  nm : Names X x (.ref C)
  sub : ∀ c A, xt c = some A → PySem.W.exmOne X.K (.ref A) (.ref C) = some (subC c n)
inductive DHs (xt : String → Option Addr) (X : Cx) : List ExceptHandler → List Hd → List Cls3 → Prop
  | nil : DHs xt X [] [] []
  | bare {x : Str} {n : String} {C : Addr} {b : Stmt} {bs : List Stmt} {np p : Pos} {s : SM} {hd : List ExceptHandler} {hs : List Hd} {l : List Cls3} (hc : Named X xt x n C) (h : DSuite xt X (b :: bs) s) (r : DHs xt X hd hs l) :
      DHs xt X (.ExceptHandler (some (.Name x np)) none (b :: bs) p :: hd) ((n, none, s) :: hs) ((.ref C, none, fun _ _ _ => tSt X.K xt WN s) :: l)
  | named {x y : Str} {n : String} {i : Nat} {C : Addr} {b : Stmt} {bs : List Stmt} {np p : Pos} {s : SM} {hd : List ExceptHandler} {hs : List Hd} {l : List Cls3} (hc : Named X xt x n C) (hi : X.N[i]? = some y) (hn : X.env.kindOf y = some .local) (h : DSuite xt X (b :: bs) s) (r : DHs xt X hd hs l) :
      DHs xt X (.ExceptHandler (some (.Name x np)) (some y) (b :: bs) p :: hd) ((n, some i, s) :: hs) ((.ref C, some i, fun _ _ _ => tSt X.K xt WN s) :: l)
theorem DHs.mix {hd : List ExceptHandler} {hs : List Hd} {l : List Cls3} (h : DHs xt X hd hs l) : MixOk X hd l := by
  induction h with
  | nil => exact .nil
  | bare hc h r ih => exact .bare hc.nm (fun a oe _ _ pn _ _ => h a oe pn) ih
  | named hc hi hn h r ih => exact .named hc.nm hi hn (fun a oe _ _ pn _ _ => h a oe pn) ih
theorem DHs.wish {hd : List ExceptHandler} {hs : List Hd} {l : List Cls3} (h : DHs xt X hd hs l) {D : Ends} {e : DX} {ρ : DE} {μ : DM} {θ : List Addr} {H : Hp} {σ : L2.St} {cls : Value} {d : Option Addr} (he : RpE X.K θ H ρ σ) (s : Sto X.K θ H μ) (rx : RpX X.K xt θ H e cls d)
    (q : PoS X.K xt W (hdl hs e ρ μ) θ H D) : wMix X.K W D l cls d σ H := by
  induction h with
  | nil => exact q θ H σ cls d .refl he s rx
  | bare hc h r ih =>
    obtain ⟨A, h1, rfl, h3⟩ := rx
    refine ⟨_, hc.sub _ _ h1, fun hy a ha => ?_, fun hn => ?_⟩
    · simp only [hdl] at q
      rw [if_pos hy] at q
      exact ⟨θ, _, μ, he.onS none a, s, offS_ok q⟩
    · simp only [hdl] at q
      rw [if_neg (by rw [hn]; exact Bool.false_ne_true)] at q
      exact ih q
  | named hc hi hn h r ih =>
    obtain ⟨A, h1, rfl, h3⟩ := rx
    refine ⟨_, hc.sub _ _ h1, fun hy a ha => ?_, fun hn => ?_⟩
    · simp only [hdl] at q
      rw [if_pos hy] at q
      exact ⟨θ, _, μ, he.onS _ a, s, offS_ok q⟩
    · simp only [hdl] at q
      rw [if_neg (by rw [hn]; exact Bool.false_ne_true)] at q
      exact ih q
theorem s_try {body : List Stmt} {hd0 : ExceptHandler} {hds : List ExceptHandler} {hs : List Hd} {l : List Cls3} {pos : Pos} {m : SM} (hst : X.stack = X.env :: X.outer) (hfr : X.env.frame = some X.env.locals) (hN : X.N.Nodup) (tk : Takes X W)
    (hb : ∀ (W : WX) (pn : List (Addr × Obj)) (xe : Value → Shared → Prop), Takes (X.tr pn xe) W → PassesOwn (model X.prog X.w) X.A X.env xe → DSs xt W (X.tr pn xe) body m)
    (hh : DHs xt X (hd0 :: hds) hs l) : DSt xt W X (.Try body (hd0 :: hds) [] [] pos) (sTry m hs) := by
  refine imS (ps_try_mix (tb := fun W => tSt X.K xt W m) hst hfr hN tk hb hh.mix) fun D σ H ⟨θ, ρ, μ, he, hs, q⟩ => ⟨θ, ρ, μ, he, hs, ?_⟩
  unfold sTry at q
  cases em : m ρ μ with
  | ex e ρ1 μ1 => rw [em] at q; exact fun θ1 H1 σ1 c d l1 he1 s1 r1 => hh.wish he1 s1 r1 (PoS.later q l1)
  | nx ρ1 μ1 => rw [em] at q; exact q
  | rt v μ1 => rw [em] at q; exact q
  | bk ρ1 μ1 => rw [em] at q; exact q
  | ct ρ1 μ1 => rw [em] at q; exact q
  | bad => rw [em] at q; exact q
end
/-! ## the end: a law is True at every script -/
def spLaw (K : PySem.W.Frag) : Sp := fun vs H Q _ => ∃ (a : Addr) (ns : List Int), vs = [.ref a] ∧ FrL K H a (ns.map V.int) ∧ ns.length ≤ 63 ∧ ∀ H', Q (.bl true) H'
theorem law_of {P : Program} {w : World} {K : PySem.W.Frag} {mg : Str → Option Value} {base : Heap} {xt : String → Option Addr} {k : Nat} {f : Addr} {fd : FuncData} {ps : List Str} {fn : Fn} (F : FnOk P w K mg base (L2.CX P w) k f fd ps (spD K xt 1 fn))
    (law : ∀ ns : List Int, ns.length ≤ 63 → ∃ μ, fn [.kl (ns.map .int)] [] = .ok (.bl true) μ) : FnOk P w K mg base (L2.CX P w) k f fd ps (spLaw K) :=
  F.imp fun vs H Q E ⟨a, ns, e, hf, hl, q⟩ => by
    obtain ⟨μ, em⟩ := law ns hl
    subst e
    refine ⟨rfl, [], [], [.kl (ns.map .int)], ⟨rfl, List.nodup_nil, fun n a c h => by simp at h⟩, ⟨_, _, rfl, ⟨a, _, rfl, hf, RpL.of_ints⟩, rfl⟩, ?_⟩
    rw [em]
    exact fun θ' H' w _ _ r => by cases r; exact q H'
theorem law_end {l : PySem.W.OpenLaw} {q : Program} {loose : List Str} {XP : (Str → Option Value) → Heap → Prop} {YP : World → Heap → Prop} {d : DefRec} {K : Params → PySem.W.Frag} {k : Nat} (hn : l.most = some 63) (hdf : d.params.defaults = []) (hr : Room k callerA)
    (hY : ∀ (w : World) (h : Heap), YP w h → (K w.params).In h)
    (F : ∀ (w : World) (mg : Str → Option Value) (fa : Addr) (h : Heap), (K w.params).In h → h.Ns mainGlobals mg → mg d.name = some (.ref fa) →
      ∃ fd : FuncData, (∀ (s : Shared) (u : Value), BindsTo s fd ⟨[u], []⟩ [("script", u)]) ∧ ∀ base : Heap, (K w.params).In base → base.Ns mainGlobals mg → FnOk l.prog w (K w.params) mg base (L2.CX l.prog w) k fa fd ["script"] (spLaw (K w.params))) :
    PySem.W.WalkO q loose XP YP l.row.toRowW d [] (fun f vs => PySem.call f vs) := by
  refine L2.walk_of (n := 63) (k := k) (x := "script") (CX := fun w => L2.CX l.prog w) (sp := fun w => spLaw (K w.params)) hn (by decide) hdf hr hY F (fun w H a ns hl hO hS => ?_) fun w H s e s' h => ?_
  · have hf : FrL (K w.params) H a (ns.map V.int) := by
      rcases hS with (h | h) | h
      · rcases hO a with e | ⟨o, xs, e⟩
        · rw [e] at h; cases h
        · rw [e] at h; cases h
      · exact .inl h
      · exact .inr h
    exact ⟨a, ns, rfl, hf, hl, fun _ => rfl⟩
  · obtain ⟨_, _, _, _, _, _, _, _, _, _, _, _, z⟩ := h
    exact z
end Md

namespace Md
open PySem L2
/-! ## defs that are called by their names -/
/-- where a def stands -/
def At (K : PySem.W.Frag) (mg : Str → Option Value) (x : Str) (st : Stmt) : Prop := ∃ f fd, mg x = some (.ref f) ∧ Fun K x x st f fd
/-- what a call of it is -/
def Cal (P : Program) (w : World) (K : PySem.W.Frag) (mg : Str → Option Value) (base : Heap) (xt : String → Option Addr) (x : Str) (k n : Nat) (fn : Fn) : Prop :=
  ∃ f fd ps, mg x = some (.ref f) ∧ PySem.W.keepIn K (.ref f) = true ∧ Binds K fd ps [] ∧ FnOk P w K mg base (L2.CX P w) k f fd ps (spD K xt n fn)
section
variable {P : Program} {w : World} {K : PySem.W.Frag} {mg : Str → Option Value} {base : Heap} {xt : String → Option Addr}
theorem Cal.mono {x : Str} {j k n : Nat} {fn : Fn} (C : Cal P w K mg base xt x j n fn) (h : j ≤ k) : Cal P w K mg base xt x k n fn :=
  let ⟨f, fd, ps, a, b, c, d⟩ := C; ⟨f, fd, ps, a, b, c, d.mono h⟩
abbrev BindH (st : Stmt) (x : Str) (ps : List Str) : Prop := ∀ (kV doc pm : Value) (an : Option Addr) (cdv ct : Value) (us : List Value), us.length = ps.length → bindArgs (PySem.W.fnOf x x (defArgs st) (defBody st) (defScope st) .none kV doc pm an cdv ct) ⟨us, []⟩ = pure (ps.zip us)
/-- what is shown of a def's body -/
abbrev DefH (P : Program) (w : World) (K : PySem.W.Frag) (mg : Str → Option Value) (base : Heap) (xt : String → Option Addr) (x : Str) (st : Stmt) (N : List Str) (f : Addr) (k : Nat) (body : SM) : Prop :=
  ∀ (cdv : Value) (A : Around) (outer : List Env) (s : Shared) (H : Hp) (E : XK), Room k (cxOf (L2.CX P w) P w K mg base N x (defScope st) f cdv A outer s H E).A →
      Takes (cxOf (L2.CX P w) P w K mg base N x (defScope st) f cdv A outer s H E) (fun cls d _ H => E cls d H) →
      PassesOwn (model P w) (cxOf (L2.CX P w) P w K mg base N x (defScope st) f cdv A outer s H E).A (cxOf (L2.CX P w) P w K mg base N x (defScope st) f cdv A outer s H E).env (cxOf (L2.CX P w) P w K mg base N x (defScope st) f cdv A outer s H E).xe →
      DSs xt (fun cls d _ H => E cls d H) (cxOf (L2.CX P w) P w K mg base N x (defScope st) f cdv A outer s H E) (defBody st) body
theorem At.cal {x : Str} {st : Stmt} {N ps : List Str} {k n : Nat} {body : SM} (A : At K mg x st) (S : FnScope N ps (defScope st)) (hb : BindH st x ps) (hn : ps.length = n)
    (h : ∀ f : Addr, DefH P w K mg base xt x st N f k body) : Cal P w K mg base xt x (k + 1) n (runFn N.length n body) := by
  obtain ⟨f, fd, hm, F⟩ := A
  subst hn
  exact ⟨f, fd, ps, hm, F.kp, F.binds hb, fn_ok F S (h f)⟩
/-- a def that is never asked -/
theorem At.bad {x : Str} {st : Stmt} {ps : List Str} {k n : Nat} (A : At K mg x st) (hb : BindH st x ps) (hn : ps.length = n) : Cal P w K mg base xt x k n (fun _ _ => .bad) := by
  obtain ⟨f, fd, hm, F⟩ := A
  subst hn
  exact ⟨f, fd, ps, hm, F.kp, F.binds hb, ⟨fun vs H Q E h => h.1, fun A outer s H args us vs Q E hr e0 hb r ⟨_, _, _, _, _, _, q⟩ => q.elim⟩⟩
end
section
variable {X : Cx} {xt : String → Option Addr} {W : WX} {a b c e o : Expr} {es : List Expr} {pos p apos : Pos}
theorem d_fn {j k n : Nat} {fn : Fn} {x : Str} {ms : LM} (C : Cal X.prog X.w X.K X.mg X.base xt x j n fn) (hr : Room k X.A) (tk : Takes X W) (ha : DAs xt W X (e :: es) ms) (hjk : j ≤ k := by decide) (hg : Gl X x := by rfl) (hdb : (x == ("__debug__" : Str)) = false := by decide)
    (he : starEach (e :: es) X.env = (false, eval e X.env) :: starEach es X.env := by rfl) (hpl : (backTo pos (starEach es X.env)).any (·.1) = false := by rfl) : DEx xt W X (.Call (.Name x p) (e :: es) [] pos) (mCall n fn ms) := by
  obtain ⟨f, fd, ps, hm, hk, hb, F⟩ := C
  exact d_call F (hr.mono hjk) hm hk hb tk ha hg hdb he hpl
def mCall0 (f : Fn) : EM := fun _ μ => (f [] μ).noex
theorem d_fn0 {j k : Nat} {fn : Fn} {x : Str} (C : Cal X.prog X.w X.K X.mg X.base xt x j 0 fn) (hr : Room k X.A) (hjk : j ≤ k := by decide) (hg : Gl X x := by rfl) (hdb : (x == ("__debug__" : Str)) = false := by decide) : DEx xt W X (.Call (.Name x p) [] [] pos) (mCall0 fn) := by
  obtain ⟨f, fd, ps, hm, hk, hb, F⟩ := C
  exact d_call0 F (hr.mono hjk) hm hk hb hg hdb
/-- a constant of the module -/
def Con' (K : PySem.W.Frag) (mg : Str → Option Value) (x : Str) (d : DV) : Prop := ∃ u v, mg x = some u ∧ RelV v u ∧ ∀ θ H, Rp K θ H d v
theorem d_con {x : Str} {d : DV} (C : Con' X.K X.mg x d) (hg : Gl X x := by rfl) (hd : (x == ("__debug__" : Str)) = false := by decide) : DEx xt W X (.Name x pos) (mC d) := by
  obtain ⟨u, v, hm, r, hr⟩ := C
  exact d_glob hg hm r hr hd
/-- an own exception class -/
structure ExN (K : PySem.W.Frag) (mg : Str → Option Value) (xt : String → Option Addr) (x : Str) (n : String) : Prop where
  ex : ∃ C, mg x = some (.ref C) ∧ ExK K C ∧ xt n = some C ∧ ∀ c A, xt c = some A → PySem.W.exmOne K (.ref A) (.ref C) = some (subC c n)
theorem s_rai {x : Str} {p2 : Pos} {n : String} (hc : X.calm = true) (tk : Takes X W) (E : ExN X.K X.mg xt x n) (hg : Gl X x := by rfl) (hdb : (x == ("__debug__" : Str)) = false := by decide) :
    DSt xt W X (.Raise (some (.Call (.Name x p) [] [] p2)) none pos) (sRaise n) := by
  obtain ⟨C, h1, h2, h3, h4⟩ := E.ex
  exact s_raise n hc tk h2 h1 h3 hg hdb
/-- a base class, not raised itself -/
structure ExB (K : PySem.W.Frag) (mg : Str → Option Value) (xt : String → Option Addr) (x : Str) (n : String) : Prop where
  ex : ∃ C, mg x = some (.ref C) ∧ ∀ c A, xt c = some A → PySem.W.exmOne K (.ref A) (.ref C) = some (subC c n)
theorem ExN.base {K : PySem.W.Frag} {mg : Str → Option Value} {x : Str} {n : String} (E : ExN K mg xt x n) : ExB K mg xt x n := let ⟨C, h1, _, _, h4⟩ := E.ex; ⟨C, h1, h4⟩
/-- the clauses, with their classes by name -/
def DHx (xt : String → Option Addr) (X : Cx) (hd : List ExceptHandler) (hs : List Hd) : Prop := ∃ l, DHs xt X hd hs l
theorem hx_nil : DHx xt X [] [] := ⟨_, .nil⟩
theorem hx_bare {x : Str} {n : String} {b : Stmt} {bs : List Stmt} {np p : Pos} {s : SM} {hd : List ExceptHandler} {hs : List Hd} (E : ExB X.K X.mg xt x n) (h : DSuite xt X (b :: bs) s) (r : DHx xt X hd hs) (hg : Gl X x := by rfl) (hdb : (x == ("__debug__" : Str)) = false := by decide) :
    DHx xt X (.ExceptHandler (some (.Name x np)) none (b :: bs) p :: hd) ((n, none, s) :: hs) := by
  obtain ⟨C, h1, h4⟩ := E.ex
  obtain ⟨l, r⟩ := r
  exact ⟨_, .bare ⟨⟨hg, hdb, .inl h1⟩, h4⟩ h r⟩
theorem hx_named {x y : Str} {n : String} (i : Nat) {b : Stmt} {bs : List Stmt} {np p : Pos} {s : SM} {hd : List ExceptHandler} {hs : List Hd} (E : ExB X.K X.mg xt x n) (h : DSuite xt X (b :: bs) s) (r : DHx xt X hd hs) (hi : X.N[i]? = some y := by rfl) (hn : X.env.kindOf y = some .local := by rfl)
    (hg : Gl X x := by rfl) (hdb : (x == ("__debug__" : Str)) = false := by decide) : DHx xt X (.ExceptHandler (some (.Name x np)) (some y) (b :: bs) p :: hd) ((n, some i, s) :: hs) := by
  obtain ⟨C, h1, h4⟩ := E.ex
  obtain ⟨l, r⟩ := r
  exact ⟨_, .named ⟨⟨hg, hdb, .inl h1⟩, h4⟩ hi hn h r⟩
theorem s_tri {body : List Stmt} {hd0 : ExceptHandler} {hds : List ExceptHandler} {hs : List Hd} {m : SM} (hN : X.N.Nodup) (tk : Takes X W)
    (hb : ∀ (W : WX) (pn : List (Addr × Obj)) (xe : Value → Shared → Prop), Takes (X.tr pn xe) W → PassesOwn (model X.prog X.w) X.A X.env xe → DSs xt W (X.tr pn xe) body m)
    (hh : DHx xt X (hd0 :: hds) hs) (hst : X.stack = X.env :: X.outer := by rfl) (hfr : X.env.frame = some X.env.locals := by rfl) : DSt xt W X (.Try body (hd0 :: hds) [] [] pos) (sTry m hs) := by
  obtain ⟨l, hh⟩ := hh
  exact s_try hst hfr hN tk hb hh
end
theorem Room.u65 {k : Nat} {A : Around} (hr : Room k A) : A.units + 65 < cLine := by have := hr.un; omega
/-! ## facts of the top -/
theorem at_of {K : PySem.W.Frag} {h : Heap} {mg : Str → Option Value} (X : K.In h) (G : h.Ns mainGlobals mg) {x : Str} {st : Stmt} {f : Addr} {oc : Value} {od an : Option Addr} {sl : Array (Option Value)} {kV dc pm cd ct : Value} (a : PySem.W.nsIn K mainGlobals x = some (some (.ref f)))
    (l : K.lookup f = some ⟨oc, od, .func (PySem.W.fnOf x x (defArgs st) (defBody st) (defScope st) .none kV dc pm an cd ct), sl⟩) (c : PySem.W.codeIn K cd x = true) (k : PySem.W.keepIn K (.ref f) = true) : At K mg x st :=
  ⟨f, _, PySem.W.mg_of X G a, fun_mk l c k⟩
theorem con_int {K : PySem.W.Frag} {h : Heap} {mg : Str → Option Value} (X : K.In h) (G : h.Ns mainGlobals mg) {x : Str} {i : Int} {t : Tok} (a : PySem.W.nsIn K mainGlobals x = some (some (.int i t))) : Con' K mg x (.int i) :=
  ⟨_, .int i, PySem.W.mg_of X G a, ⟨t, rfl⟩, fun _ _ => rfl⟩
mutual
/-- a written tuple of the module: its items one by one -/
def WrD (K : PySem.W.Frag) : DV → Value → Prop
  | .int i, u => ∃ t, u = .int i t
  | .str s, u => ∃ t, u = .str (Str.ofString s) t
  | .tup ds, u => ∃ (a : Addr) (dd : Option Addr) (n : Nat) (us : List Value) (sl : Array (Option Value)), u = .ref a ∧ K.lookup a = some ⟨.type "tuple", dd, .seq us.toArray n, sl⟩ ∧ us.length ≤ 1000 ∧ WrL K ds us
  | _, _ => False
def WrL (K : PySem.W.Frag) : List DV → List Value → Prop
  | [], us => us = []
  | d :: ds, us => ∃ v vs, us = v :: vs ∧ WrD K d v ∧ WrL K ds vs
end
mutual
theorem WrD.rp {K : PySem.W.Frag} : ∀ (d : DV) (u : Value), WrD K d u → ∃ v, RelV v u ∧ ∀ θ H, Rp K θ H d v
  | .int i, u, h => by obtain ⟨t, rfl⟩ := h; exact ⟨.int i, ⟨t, rfl⟩, fun _ _ => rfl⟩
  | .str s, u, h => by obtain ⟨t, rfl⟩ := h; exact ⟨.str _, ⟨t, rfl⟩, fun _ _ => rfl⟩
  | .tup ds, u, h => by
    obtain ⟨a, dd, n, us, sl, rfl, l, hl, h⟩ := h
    obtain ⟨vs, r, q⟩ := WrL.rp ds us h
    refine ⟨.ref a, rfl, fun θ H => ⟨a, vs, rfl, .inr ⟨_, us.toArray, n, l, rfl, rfl, ?_, r⟩, q θ H⟩⟩
    have hs : sizeLine = 16777216 := sizeLine_eq
    simp only [List.size_toArray]
    omega
  | .non, _, h => h.elim
  | .bl _, _, h => h.elim
  | .kl _, _, h => h.elim
  | .ref _, _, h => h.elim
theorem WrL.rp {K : PySem.W.Frag} : ∀ (d : List DV) (u : List Value), WrL K d u → ∃ v, Vals v u ∧ ∀ θ H, RpL K θ H d v
  | [], u, h => by cases h; exact ⟨[], .nil, fun _ _ => rfl⟩
  | d :: ds, u, h => by
    obtain ⟨v, vs, rfl, h1, h2⟩ := h
    obtain ⟨w, r1, q1⟩ := WrD.rp d v h1
    obtain ⟨ws, r2, q2⟩ := WrL.rp ds vs h2
    exact ⟨w :: ws, .cons r1 r2, fun θ H => ⟨w, ws, rfl, q1 θ H, q2 θ H⟩⟩
end
theorem con_tup {K : PySem.W.Frag} {h : Heap} {mg : Str → Option Value} (X : K.In h) (G : h.Ns mainGlobals mg) {x : Str} {d : DV} {u : Value} (a : PySem.W.nsIn K mainGlobals x = some (some u)) (hd : WrD K d u) : Con' K mg x d := by
  obtain ⟨v, r, q⟩ := WrD.rp d u hd
  exact ⟨u, v, PySem.W.mg_of X G a, r, q⟩
/-- the classes by their names -/
def xtOf (l : List (String × Addr)) : String → Option Addr := fun c => l.lookup c
theorem xt_mem {l : List (String × Addr)} {c : String} {A : Addr} (h : xtOf l c = some A) : (c, A) ∈ l := by
  unfold xtOf at h
  induction l with
  | nil => cases h
  | cons p l ih =>
    obtain ⟨d, B⟩ := p
    simp only [List.lookup] at h
    split at h
    · rename_i e
      cases h
      have := eq_of_beq e
      subst this
      exact List.mem_cons_self
    · exact List.mem_cons_of_mem _ (ih h)
theorem exn_of {K : PySem.W.Frag} {h : Heap} {mg : Str → Option Value} (X : K.In h) (G : h.Ns mainGlobals mg) {x : Str} {n : String} {C : Addr} {l : List (String × Addr)} (a : PySem.W.nsIn K mainGlobals x = some (some (.ref C))) (E : ExK K C) (hn : xtOf l n = some C)
    (hd : PySem.W.hasDictIn K C = true) (hs : ∀ p ∈ l, PySem.W.subIn K (.ref p.2) (.ref C) = some (subC p.1 n)) : ExN K mg (xtOf l) x n :=
  ⟨C, PySem.W.mg_of X G a, E, hn, fun c A e => PySem.W.exm_ref E.b hd E.t (hs _ (xt_mem e))⟩
theorem exb_of {K : PySem.W.Frag} {h : Heap} {mg : Str → Option Value} (X : K.In h) (G : h.Ns mainGlobals mg) {x : Str} {n : String} {C : Addr} {l : List (String × Addr)} (a : PySem.W.nsIn K mainGlobals x = some (some (.ref C))) (b : PySem.W.subIn K (.ref C) (.type "BaseException") = some true) (t : PySem.W.typeIn K (.ref C) = some (.type "type"))
    (hd : PySem.W.hasDictIn K C = true) (hs : ∀ p ∈ l, PySem.W.subIn K (.ref p.2) (.ref C) = some (subC p.1 n)) : ExB K mg (xtOf l) x n :=
  ⟨C, PySem.W.mg_of X G a, fun c A e => PySem.W.exm_ref b hd t (hs _ (xt_mem e))⟩
end Md

namespace Md
open PySem L2
/-! ## what a run of the plain form brings -/
def SR.thn (r : SR) (n : SM) : SR := match r with
  | .nx ρ μ => n ρ μ
  | r => r
def OkE {α : Type} (Q : α → DM → Prop) (E : DX → DM → Prop) : DR α → Prop
  | .ok a μ => Q a μ
  | .ex e μ => E e μ
  | .bad => False
structure EP where
  nx : DE → DM → Prop := fun _ _ => False
  rt : DV → DM → Prop := fun _ _ => False
  ex : DX → DE → DM → Prop := fun _ _ _ => False
  bk : DE → DM → Prop := fun _ _ => False
  ct : DE → DM → Prop := fun _ _ => False
def OkS (P : EP) : SR → Prop
  | .nx ρ μ => P.nx ρ μ
  | .rt v μ => P.rt v μ
  | .ex e ρ μ => P.ex e ρ μ
  | .bk ρ μ => P.bk ρ μ
  | .ct ρ μ => P.ct ρ μ
  | .bad => False
section
variable {α β : Type} {Q : α → DM → Prop} {E : DX → DM → Prop} {P : EP}
@[simp] theorem okE_ok {a : α} {μ : DM} : OkE Q E (.ok a μ) = Q a μ := rfl
@[simp] theorem okE_ex {e : DX} {μ : DM} : OkE Q E (.ex e μ) = E e μ := rfl
@[simp] theorem okE_bad : OkE Q E .bad = False := rfl
@[simp] theorem okE_bind {r : DR β} {f : β → DM → DR α} : OkE Q E (r.bind f) = OkE (fun a μ => OkE Q E (f a μ)) E r := by cases r <;> rfl
@[simp] theorem okE_noex {r : DR α} : OkE Q E r.noex = OkE Q (fun _ _ => False) r := by cases r <;> rfl
@[simp] theorem okE_ite {c : Prop} [Decidable c] {a b : DR α} : OkE Q E (if c then a else b) = if c then OkE Q E a else OkE Q E b := by split <;> rfl
@[simp] theorem okS_nx {ρ : DE} {μ : DM} : OkS P (.nx ρ μ) = P.nx ρ μ := rfl
@[simp] theorem okS_rt {v : DV} {μ : DM} : OkS P (.rt v μ) = P.rt v μ := rfl
@[simp] theorem okS_ex {e : DX} {ρ : DE} {μ : DM} : OkS P (.ex e ρ μ) = P.ex e ρ μ := rfl
@[simp] theorem okS_bk {ρ : DE} {μ : DM} : OkS P (.bk ρ μ) = P.bk ρ μ := rfl
@[simp] theorem okS_ct {ρ : DE} {μ : DM} : OkS P (.ct ρ μ) = P.ct ρ μ := rfl
@[simp] theorem okS_bad : OkS P .bad = False := rfl
@[simp] theorem okS_st {r : DR β} {ρ : DE} {k : β → DM → SR} : OkS P (r.st ρ k) = OkE (fun a μ => OkS P (k a μ)) (fun e μ => P.ex e ρ μ) r := by cases r <;> rfl
@[simp] theorem okS_ite {c : Prop} [Decidable c] {a b : SR} : OkS P (if c then a else b) = if c then OkS P a else OkS P b := by split <;> rfl
@[simp] theorem okS_thn {r : SR} {n : SM} : OkS P (r.thn n) = OkS { P with nx := fun ρ μ => OkS P (n ρ μ) } r := by
  cases r <;> rfl
@[simp] theorem st_ok {a : β} {μ : DM} {ρ : DE} {k : β → DM → SR} : (DR.ok a μ).st ρ k = k a μ := rfl
@[simp] theorem st_ex {e : DX} {μ : DM} {ρ : DE} {k : β → DM → SR} : (DR.ex e μ : DR β).st ρ k = .ex e ρ μ := rfl
@[simp] theorem noex_ex {e : DX} {μ : DM} : (DR.ex e μ : DR β).noex = .bad := rfl
@[simp] theorem noex_bad : (DR.bad : DR β).noex = .bad := rfl
theorem OkE.mono {Q' : α → DM → Prop} {E' : DX → DM → Prop} {r : DR α} (h : OkE Q E r) (hq : ∀ a μ, Q a μ → Q' a μ) (he : ∀ e μ, E e μ → E' e μ) : OkE Q' E' r := by
  cases r with
  | ok a μ => exact hq _ _ h
  | ex e μ => exact he _ _ h
  | bad => exact h
abbrev NoX : DX → DM → Prop := fun _ _ => False
theorem OkE.to {Q' : α → DM → Prop} {r : DR α} (h : OkE Q NoX r) (hq : ∀ a μ, Q a μ → Q' a μ) : OkE Q' E r := h.mono hq fun _ _ z => z.elim
theorem OkE.ok {r : DR α} (h : OkE Q NoX r) : ∃ a μ, r = .ok a μ ∧ Q a μ := by
  cases r with
  | ok a μ => exact ⟨a, μ, rfl, h⟩
  | ex e μ => exact h.elim
  | bad => exact h.elim
theorem OkS.mono {P P' : EP} {r : SR} (h : OkS P r) (h1 : ∀ ρ μ, P.nx ρ μ → P'.nx ρ μ) (h2 : ∀ v μ, P.rt v μ → P'.rt v μ) (h3 : ∀ e ρ μ, P.ex e ρ μ → P'.ex e ρ μ) (h4 : ∀ ρ μ, P.bk ρ μ → P'.bk ρ μ) (h5 : ∀ ρ μ, P.ct ρ μ → P'.ct ρ μ) : OkS P' r := by
  cases r with
  | nx ρ μ => exact h1 _ _ h
  | rt v μ => exact h2 _ _ h
  | ex e ρ μ => exact h3 _ _ _ h
  | bk ρ μ => exact h4 _ _ h
  | ct ρ μ => exact h5 _ _ h
  | bad => exact h
/-! ### the store at a call's end -/
theorem tidy_same {μ : DM} {v : DV} : tidy μ v μ = .ok v μ := by
  unfold tidy
  split <;> simp
theorem tidy_len {μ μ' : DM} {v : DV} (h : μ'.length = μ.length) : tidy μ v μ' = .ok v μ' := by
  unfold tidy
  rw [← h]
  split <;> simp
theorem tidyE_len {μ μ' : DM} {e : DX} (h : μ'.length = μ.length) : tidyE μ e μ' = .ex e μ' := by
  unfold tidyE
  rw [← h]
  split <;> simp
theorem tidyE_same {μ : DM} {e : DX} : tidyE μ e μ = .ex e μ := by
  unfold tidyE
  split <;> simp
mutual
theorem und_mono {n m : Nat} (hm : n ≤ m) : ∀ v : DV, v.und n = true → v.und m = true
  | .ref k, h => by simp only [DV.und, decide_eq_true_eq] at h ⊢; omega
  | .tup xs, h => undL_mono hm xs h
  | .kl xs, h => undL_mono hm xs h
  | .non, _ => rfl
  | .bl _, _ => rfl
  | .int _, _ => rfl
  | .str _, _ => rfl
theorem undL_mono {n m : Nat} (hm : n ≤ m) : ∀ v : List DV, DV.undL n v = true → DV.undL m v = true
  | [], _ => rfl
  | x :: xs, h => by
    simp only [DV.undL, Bool.and_eq_true] at h ⊢
    exact ⟨und_mono hm x h.1, undL_mono hm xs h.2⟩
end
mutual
theorem und_pure {n : Nat} : ∀ v : DV, v.pure = true → v.und n = true
  | .ref k, h => by cases h
  | .tup xs, h => undL_pure xs h
  | .kl xs, h => undL_pure xs h
  | .non, _ => rfl
  | .bl _, _ => rfl
  | .int _, _ => rfl
  | .str _, _ => rfl
theorem undL_pure {n : Nat} : ∀ v : List DV, DV.pureL v = true → DV.undL n v = true
  | [], _ => rfl
  | x :: xs, h => by
    simp only [DV.pureL, Bool.and_eq_true] at h
    simp only [DV.undL, Bool.and_eq_true]
    exact ⟨und_pure x h.1, undL_pure xs h.2⟩
end
theorem tidy_app {μ t : DM} {v : DV} (h : v.und μ.length = true) : tidy μ v (μ ++ t) = .ok v μ := by
  unfold tidy
  rw [if_pos]
  · simp
  · refine ⟨h, by simp, fun i hi => .inl ?_⟩
    rw [List.getElem?_append_left hi]
/-- the front of the store as it should be, with what stands behind it gone -/
theorem tidy_front {μ0 μ t : DM} {v : DV} (hl : μ.length = μ0.length) (h : v.und μ0.length = true) (hc : ∀ c ∈ μ, c ∈ μ0 ∨ c.und μ0.length = true) (hs : ∀ i, i < μ0.length → μ[i]? = μ0[i]? ∨ ((μ[i]?).all fun c => c.und μ0.length) = true) : tidy μ0 v (μ ++ t) = .ok v μ := by
  unfold tidy
  rw [if_pos]
  · rw [← hl]; simp
  · refine ⟨h, by simp [hl], fun i hi => ?_⟩
    rw [List.getElem?_append_left (by omega)]
    exact hs i hi
/-- both ways -/
theorem tidy_any {μ0 μ : DM} {v : DV} {Q : DV → DM → Prop} (h1 : tidyOk μ0 v μ → Q v (μ.take μ0.length)) (h2 : ¬ tidyOk μ0 v μ → Q v μ) : OkE Q E (tidy μ0 v μ) := by
  unfold tidy
  split
  · exact h1 ‹_›
  · exact h2 ‹_›
end
/-! ### calls -/
@[simp] theorem okE_call {Q : DV → DM → Prop} {E : DX → DM → Prop} {n : Nat} {f : Fn} {ms : LM} {ρ : DE} {μ : DM} : OkE Q E (mCall n f ms ρ μ) = OkE (fun ds μ => if ds.length = n then OkE Q E (f ds μ) else False) E (ms ρ μ) := by
  unfold mCall
  rw [okE_bind]
  congr 1
  funext ds μ
  rw [okE_ite]
  rfl
theorem okE_run {Q : DV → DM → Prop} {E : DX → DM → Prop} {N n : Nat} {b : SM} {ds : List DV} {μ : DM} (hn : ds.length = n)
    (h : OkS { nx := fun _ μ' => OkE Q E (tidy μ .non μ'), rt := fun v μ' => OkE Q E (tidy μ v μ'), ex := fun e _ μ' => OkE Q E (tidyE μ e μ') } (b (ds.map some ++ List.replicate (N - n) none) μ)) : OkE Q E (runFn N n b ds μ) := by
  unfold runFn
  rw [if_pos hn]
  cases q : b (ds.map some ++ List.replicate (N - n) none) μ <;> rw [q] at h <;> exact h
/-- a function that leaves the store as it was -/
theorem run_rt {N n : Nat} {b : SM} {ds : List DV} {μ : DM} {v : DV} (hn : ds.length = n) (h : b (ds.map some ++ List.replicate (N - n) none) μ = .rt v μ) : runFn N n b ds μ = .ok v μ := by
  unfold runFn
  rw [if_pos hn, h]
  exact tidy_same
theorem run_rtL {N n : Nat} {b : SM} {ds : List DV} {μ μ' : DM} {v : DV} (hn : ds.length = n) (hl : μ'.length = μ.length) (h : b (ds.map some ++ List.replicate (N - n) none) μ = .rt v μ') : runFn N n b ds μ = .ok v μ' := by
  unfold runFn
  rw [if_pos hn, h]
  exact tidy_len hl
theorem run_rtA {N n : Nat} {b : SM} {ds : List DV} {μ t : DM} {v : DV} (hn : ds.length = n) (hv : v.und μ.length = true) (h : b (ds.map some ++ List.replicate (N - n) none) μ = .rt v (μ ++ t)) : runFn N n b ds μ = .ok v μ := by
  unfold runFn
  rw [if_pos hn, h]
  exact tidy_app hv
theorem run_nx {N n : Nat} {b : SM} {ds : List DV} {μ : DM} {ρ : DE} (hn : ds.length = n) (h : b (ds.map some ++ List.replicate (N - n) none) μ = .nx ρ μ) : runFn N n b ds μ = .ok .non μ := by
  unfold runFn
  rw [if_pos hn, h]
  exact tidy_same
theorem run_ex {N n : Nat} {b : SM} {ds : List DV} {μ : DM} {ρ : DE} {e : DX} (hn : ds.length = n) (h : b (ds.map some ++ List.replicate (N - n) none) μ = .ex e ρ μ) : runFn N n b ds μ = .ex e μ := by
  unfold runFn
  rw [if_pos hn, h]
  exact tidyE_same
/-! ### walks -/
theorem lc_go {γ : Type} {enc : γ → DV} {s : Src} {ρ : DE} {t : GM} {tt : BM} {te : EM} {p : γ → Bool} {g : γ → DV} {μ : DM} (hok : okAt s.2 s.1 μ = true) : ∀ (L : List γ) (acc : List DV), acc.length + L.length ≤ LIM →
    (∀ x ∈ L, ∃ ρ1, t (enc x) ρ μ = some ρ1 ∧ tt ρ1 μ = .ok (p x) μ ∧ (p x = true → te ρ1 μ = .ok (g x) μ)) → mLc.go t tt te s ρ (L.map enc) acc μ = .ok (acc ++ (L.filter p).map g) μ
  | [], acc, _, _ => by simp [mLc.go, hok]
  | x :: L, acc, hl, h => by
    obtain ⟨ρ1, h1, h2, h3⟩ := h x (by simp)
    have hl' : acc.length < LIM := by simp at hl; omega
    have hr : ∀ x ∈ L, ∃ ρ1, t (enc x) ρ μ = some ρ1 ∧ tt ρ1 μ = .ok (p x) μ ∧ (p x = true → te ρ1 μ = .ok (g x) μ) := fun y hy => h y (List.mem_cons_of_mem _ hy)
    rw [List.map_cons, mLc.go, if_pos ⟨hok, hl'⟩]
    simp only [h1, h2, DR.noex_ok, DR.bind_ok]
    cases hp : p x with
    | true =>
      rw [if_pos rfl, h3 hp]
      simp only [DR.noex_ok, DR.bind_ok]
      rw [lc_go hok L _ (by simp at hl ⊢; omega) hr]
      simp [List.filter_cons, hp]
    | false =>
      rw [if_neg (by simp), lc_go hok L _ (by simp at hl ⊢; omega) hr]
      simp [List.filter_cons, hp]
/-- a comprehension that changes nothing -/
theorem lc_eq {γ : Type} (enc : γ → DV) (L : List γ) (p : γ → Bool) (g : γ → DV) {vs : List Nat} {mi : IM} {ρ : DE} {t : GM} {tt : BM} {te : EM} {c : Option Nat} {μ0 μ : DM} (hi : mi ρ μ0 = .ok (L.map enc, c) μ) (hc : okAt c (L.map enc) μ = true) (hl : L.length ≤ LIM)
    (h : ∀ x ∈ L, ∃ ρ1, t (enc x) (wipeD ρ vs) μ = some ρ1 ∧ tt ρ1 μ = .ok (p x) μ ∧ (p x = true → te ρ1 μ = .ok (g x) μ)) : mLc vs mi t tt te ρ μ0 = .ok ((L.filter p).map g) μ := by
  unfold mLc
  rw [hi, DR.bind_ok, lc_go hc L [] (by simpa using hl) h, List.nil_append]
theorem lc_map {γ : Type} (enc : γ → DV) (L : List γ) (g : γ → DV) {vs : List Nat} {mi : IM} {ρ : DE} {t : GM} {te : EM} {c : Option Nat} {μ0 μ : DM} (hi : mi ρ μ0 = .ok (L.map enc, c) μ) (hc : okAt c (L.map enc) μ = true) (hl : L.length ≤ LIM)
    (h : ∀ x ∈ L, ∃ ρ1, t (enc x) (wipeD ρ vs) μ = some ρ1 ∧ te ρ1 μ = .ok (g x) μ) : mLc vs mi t mYes te ρ μ0 = .ok (L.map g) μ := by
  rw [lc_eq enc L (fun _ => true) g hi hc hl fun x hx => by
    obtain ⟨ρ1, h1, h2⟩ := h x hx
    exact ⟨ρ1, h1, rfl, fun _ => h2⟩]
  rw [List.filter_eq_self.mpr fun _ _ => rfl]
/-- a comprehension with a part of the store that is changed -/
theorem lc_inv {Q : List DV → DM → Prop} {E : DX → DM → Prop} (I : List DV → List DV → DM → Prop) {s : Src} {ρ : DE} {t : GM} {tt : BM} {te : EM} (hok : ∀ l acc μ, I l acc μ → okAt s.2 s.1 μ = true ∧ acc.length + l.length ≤ LIM)
    (h : ∀ x l acc μ, I (x :: l) acc μ → ∃ ρ1, t x ρ μ = some ρ1 ∧ OkE (fun b μ => if b = true then OkE (fun y μ => I l (acc ++ [y]) μ) NoX (te ρ1 μ) else I l acc μ) NoX (tt ρ1 μ)) (hf : ∀ acc μ, I [] acc μ → Q acc μ) : ∀ (l acc : List DV) (μ : DM), I l acc μ → OkE Q E (mLc.go t tt te s ρ l acc μ)
  | [], acc, μ, i => by
    rw [mLc.go, if_pos (hok _ _ _ i).1]
    exact hf _ _ i
  | x :: l, acc, μ, i => by
    obtain ⟨o1, o2⟩ := hok _ _ _ i
    rw [mLc.go, if_pos ⟨o1, by simp at o2; omega⟩]
    obtain ⟨ρ1, h1, h2⟩ := h x l acc μ i
    rw [h1]
    simp only [okE_bind, okE_noex]
    refine h2.to fun b μ1 q => ?_
    cases b with
    | true =>
      simp only [if_pos, okE_bind, okE_noex] at q ⊢
      exact q.to fun y μ2 j => lc_inv I hok h hf l _ _ j
    | false =>
      simp only [Bool.false_eq_true, if_false] at q ⊢
      exact lc_inv I hok h hf l _ _ q
/-- a for -/
theorem for_inv {P : EP} (I : List DV → DE → DM → Prop) {s : Src} {t : GM} {b : SM} (hok : ∀ l ρ μ, I l ρ μ → okAt s.2 s.1 μ = true)
    (h : ∀ x l ρ μ, I (x :: l) ρ μ → ∃ ρ1, t x ρ μ = some ρ1 ∧ OkS { nx := fun ρ μ => I l ρ μ, ct := fun ρ μ => I l ρ μ, bk := P.nx, rt := P.rt, ex := P.ex } (b ρ1 μ)) (hf : ∀ ρ μ, I [] ρ μ → P.nx ρ μ) : ∀ (l : List DV) (ρ : DE) (μ : DM), I l ρ μ → OkS P (sFor.go t b s l ρ μ)
  | [], ρ, μ, i => by
    rw [sFor.go]
    show OkS P (if okAt s.2 s.1 μ = true then .nx ρ μ else .bad)
    rw [if_pos (hok _ _ _ i)]
    exact hf _ _ i
  | x :: l, ρ, μ, i => by
    rw [sFor.go]
    obtain ⟨ρ1, h1, h2⟩ := h x l ρ μ i
    simp only [if_pos (hok _ _ _ i), h1]
    cases q : b ρ1 μ with
    | nx ρ2 μ2 => rw [q] at h2; exact for_inv I hok h hf l _ _ h2
    | ct ρ2 μ2 => rw [q] at h2; exact for_inv I hok h hf l _ _ h2
    | bk ρ2 μ2 => rw [q] at h2; exact h2
    | rt v μ2 => rw [q] at h2; exact h2
    | ex e ρ2 μ2 => rw [q] at h2; exact h2
    | bad => rw [q] at h2; exact h2.elim
/-- a for that leaves the store as it is -/
theorem for_ind {γ : Type} {enc : γ → DV} {s : Src} {t : GM} {b : SM} {μ : DM} (R : List γ → DE → Prop) (hok : okAt s.2 s.1 μ = true) (h : ∀ x l ρ, R (x :: l) ρ → ∃ ρ1 ρ2, t (enc x) ρ μ = some ρ1 ∧ b ρ1 μ = .nx ρ2 μ ∧ R l ρ2) : ∀ (L : List γ) (ρ : DE), R L ρ → ∃ ρ', sFor.go t b s (L.map enc) ρ μ = .nx ρ' μ ∧ R [] ρ'
  | [], ρ, r => ⟨ρ, by simp [sFor.go, hok], r⟩
  | x :: l, ρ, r => by
    obtain ⟨ρ1, ρ2, h1, h2, r2⟩ := h x l ρ r
    obtain ⟨ρ', h3, r3⟩ := for_ind R hok h l ρ2 r2
    refine ⟨ρ', ?_, r3⟩
    rw [List.map_cons, sFor.go]
    simp only [if_pos hok, h1, h2, h3]
/-- a while: a number goes down -/
theorem while_inv {P : EP} (I : Nat → DE → DM → Prop) {t : BM} {b : SM}
    (h : ∀ n ρ μ, I n ρ μ → OkE (fun c μ => if c = true then OkS { nx := fun ρ μ => ∃ m, m < n ∧ I m ρ μ, ct := fun ρ μ => ∃ m, m < n ∧ I m ρ μ, bk := P.nx, rt := P.rt, ex := P.ex } (b ρ μ) else P.nx ρ μ) (fun e μ => P.ex e ρ μ) (t ρ μ)) : ∀ (k n : Nat) (ρ : DE) (μ : DM), n < k → I n ρ μ → OkS P (sWhile t b k ρ μ)
  | 0, n, ρ, μ, hn, i => by omega
  | k + 1, n, ρ, μ, hn, i => by
    rw [sWhile, okS_st]
    refine (h n ρ μ i).mono (fun c μ1 q => ?_) fun e μ q => q
    cases c with
    | false => simpa using q
    | true =>
      simp only [if_pos] at q ⊢
      cases e : b ρ μ1 with
      | nx ρ2 μ2 =>
        rw [e] at q
        obtain ⟨m, hm, j⟩ := q
        exact while_inv I h k m _ _ (by omega) j
      | ct ρ2 μ2 =>
        rw [e] at q
        obtain ⟨m, hm, j⟩ := q
        exact while_inv I h k m _ _ (by omega) j
      | bk ρ2 μ2 => rw [e] at q; exact q
      | rt v μ2 => rw [e] at q; exact q
      | ex x ρ2 μ2 => rw [e] at q; exact q
      | bad => rw [e] at q; exact q.elim
/-! ### the parts, laid open -/
section
variable {ρ : DE} {μ : DM}
@[simp] theorem x_var {i : Nat} {v : DV} (h : ρ[i]? = some (some v)) : mVar i ρ μ = .ok v μ := by unfold mVar; rw [h]
@[simp] theorem x_c {v : DV} : mC v ρ μ = .ok v μ := rfl
@[simp] theorem x_nil : mNil ρ μ = .ok [] μ := rfl
@[simp] theorem x_cons {m : EM} {ms : LM} : mCons m ms ρ μ = (m ρ μ).bind fun v μ => (ms ρ μ).bind fun vs μ => .ok (v :: vs) μ := rfl
@[simp] theorem x_op {g : DV → DV → DM → DR DV} {a b : EM} : mOp g a b ρ μ = (a ρ μ).bind fun u μ => (b ρ μ).bind fun v μ => (g u v μ).noex := rfl
@[simp] theorem x_bl {m : EM} : mBl m ρ μ = (m ρ μ).bind asBl := rfl
@[simp] theorem x_tru {m : EM} : mTru m ρ μ = (m ρ μ).bind DV.truth := rfl
@[simp] theorem asBl_bl {b : Bool} : asBl (.bl b) μ = .ok b μ := rfl
@[simp] theorem truth_bl {b : Bool} : DV.truth (.bl b) μ = .ok b μ := rfl
@[simp] theorem truth_int {b : Int} : DV.truth (.int b) μ = .ok (b != 0) μ := rfl
@[simp] theorem truth_tup {xs : List DV} : DV.truth (.tup xs) μ = .ok (!xs.isEmpty) μ := rfl
@[simp] theorem x_and {a b : BM} : mAnd a b ρ μ = (a ρ μ).bind fun c μ => if c = true then b ρ μ else .ok false μ := rfl
@[simp] theorem x_or {a b : BM} : mOr a b ρ μ = (a ρ μ).bind fun c μ => if c = true then .ok true μ else b ρ μ := rfl
@[simp] theorem x_not {a : BM} : mNot a ρ μ = (a ρ μ).bind fun c μ => .ok (!c) μ := rfl
@[simp] theorem x_andV {a b : EM} : mAndV a b ρ μ = (mBl a ρ μ).bind fun c μ => if c = true then b ρ μ else .ok (.bl false) μ := rfl
@[simp] theorem x_orV {a b : EM} : mOrV a b ρ μ = (mBl a ρ μ).bind fun c μ => if c = true then .ok (.bl true) μ else b ρ μ := rfl
@[simp] theorem x_notV {a : EM} : mNotV a ρ μ = (mBl a ρ μ).bind fun c μ => .ok (.bl (!c)) μ := rfl
@[simp] theorem x_if {t : BM} {a b : EM} : mIf t a b ρ μ = (t ρ μ).bind fun c μ => if c = true then a ρ μ else b ρ μ := rfl
@[simp] theorem x_tup {ms : LM} : mTup ms ρ μ = (ms ρ μ).bind fun vs μ => if vs.length ≤ LIM then .ok (.tup vs) μ else .bad := rfl
@[simp] theorem x_keep {ms : LM} : mKeep ms ρ μ = (ms ρ μ).bind fun vs μ => .ok (.ref μ.length) (μ ++ [.lst vs]) := rfl
@[simp] theorem x_lst {ms : LM} : mLst ms ρ μ = (ms ρ μ).bind fun vs μ => if vs.length ≤ LIM then .ok vs μ else .bad := rfl
@[simp] theorem x_call {n : Nat} {f : Fn} {ms : LM} : mCall n f ms ρ μ = (ms ρ μ).bind fun ds μ => if ds.length = n then f ds μ else .bad := rfl
@[simp] theorem x_chain {g g' : DV → DV → DM → DR DV} {a b c : EM} : mChain g g' a b c ρ μ = (a ρ μ).bind fun u μ => (b ρ μ).bind fun v μ => (g u v μ).noex.bind fun z μ => (asBl z μ).bind fun k μ => if k = true then (c ρ μ).bind fun w μ => (g' v w μ).noex else .ok (.bl false) μ := by
  unfold mChain
  rfl
@[simp] theorem x_neg {m : EM} : mNeg m ρ μ = (m ρ μ).bind fun v μ => match v with
  | .int i => .ok (.int (-i)) μ
  | _ => .bad := rfl
@[simp] theorem x_int {m : EM} : mInt m ρ μ = (m ρ μ).bind fun v μ => match v with
  | .int i => .ok (.int i) μ
  | .bl k => .ok (.int (if k then 1 else 0)) μ
  | _ => .bad := rfl
@[simp] theorem x_abs {m : EM} : mAbs m ρ μ = (m ρ μ).bind fun v μ => match v with
  | .int i => .ok (.int (if i < 0 then -i else i)) μ
  | _ => .bad := rfl
@[simp] theorem x_gcd {m n : EM} : mGcd m n ρ μ = (m ρ μ).bind fun v μ => (n ρ μ).bind fun u μ => match v, u with
  | .int i, .int j => .ok (.int ((Nat.gcd i.natAbs j.natAbs : Nat) : Int)) μ
  | _, _ => .bad := rfl
@[simp] theorem x_len {m : EM} : mLen m ρ μ = (m ρ μ).bind fun v μ => match v.seq μ with
  | some xs => .ok (.int xs.length) μ
  | none => .bad := rfl
@[simp] theorem x_tupOf {m : EM} : mTupOf m ρ μ = (m ρ μ).bind fun v μ => match v.seq μ with
  | some xs => .ok (.tup xs) μ
  | none => .bad := rfl
@[simp] theorem x_tupF {m : LM} : mTupF m ρ μ = (m ρ μ).bind fun xs μ => .ok (.tup xs) μ := rfl
@[simp] theorem x_listOf {m : EM} : mListOf m ρ μ = (m ρ μ).bind fun v μ => match v.seq μ with
  | some xs => .ok xs μ
  | none => .bad := rfl
@[simp] theorem x_l1F {g : List DV → DM → DR DV} {m : LM} : mL1F g m ρ μ = (m ρ μ).bind fun xs μ => (g xs μ).noex := rfl
@[simp] theorem x_isi {T : String} {m : EM} : mIsi T m ρ μ = (m ρ μ).bind fun v μ => match v with
  | .ref n => if n < μ.length then .ok (.bl (isTy T "list")) μ else .bad
  | v => .ok (.bl (isOf T v)) μ := rfl
@[simp] theorem g_len {xs : List DV} : gLen xs μ = .ok (.int xs.length) μ := rfl
theorem blsOf_mapf {γ : Type} (f : γ → Bool) : ∀ L : List γ, blsOf (L.map fun x => .bl (f x)) = some (L.map f)
  | [] => rfl
  | x :: L => by simp [blsOf, blsOf_mapf f L]
@[simp] theorem g_all {γ : Type} {f : γ → Bool} {L : List γ} : gAll (L.map fun x => .bl (f x)) μ = .ok (.bl (L.all f)) μ := by
  unfold gAll
  rw [blsOf_mapf]
  simp [List.all_map, Function.comp_def]
@[simp] theorem g_any {γ : Type} {f : γ → Bool} {L : List γ} : gAny (L.map fun x => .bl (f x)) μ = .ok (.bl (L.any f)) μ := by
  unfold gAny
  rw [blsOf_mapf]
  simp [List.any_map, Function.comp_def]
@[simp] theorem gI_int {C : Int → Int → Prop} [∀ i j, Decidable (C i j)] {g : Int → Int → DV} {i j : Int} : gI C g (.int i) (.int j) μ = if C i j then .ok (g i j) μ else .bad := rfl
@[simp] theorem CT_true {i j : Int} : CT i j ↔ True := Iff.rfl
@[simp] theorem gAdd_int {i j : Int} : gAdd (.int i) (.int j) μ = .ok (.int (i + j)) μ := rfl
@[simp] theorem gAdd_tup {xs ys : List DV} : gAdd (.tup xs) (.tup ys) μ = if xs.length + ys.length ≤ LIM then .ok (.tup (xs ++ ys)) μ else .bad := rfl
@[simp] theorem gMul_tup {xs : List DV} {k : Int} : gMul (.tup xs) (.int k) μ = if -1000 ≤ k ∧ k ≤ 1000 ∧ xs.length ≤ 1000 then .ok (.tup (List.replicate k.toNat xs).flatten) μ else .bad := rfl
@[simp] theorem gMul_int {i j : Int} : gMul (.int i) (.int j) μ = if CMw i j then .ok (.int (i * j)) μ else .bad := rfl
@[simp] theorem seq_tup {xs : List DV} : (DV.tup xs).seq μ = some xs := rfl
@[simp] theorem seq_kl {xs : List DV} : (DV.kl xs).seq μ = some xs := rfl
theorem seq_ref {n : Nat} {xs : List DV} (h : μ[n]? = some (.lst xs)) : (DV.ref n).seq μ = some xs := by simp [DV.seq, h]
theorem lst_ref {n : Nat} {xs : List DV} (h : μ[n]? = some (.lst xs)) : (DV.ref n).lst μ = some xs := by simp [DV.lst, h]
@[simp] theorem gEq_int {neg : Bool} {i j : Int} : gEq neg (.int i) (.int j) μ = .ok (.bl (if neg then !(i == j) else i == j)) μ := by
  simp [gEq, rsv, rsW, DV.dp, dEq]
@[simp] theorem gEq_str {neg : Bool} {i j : String} : gEq neg (.str i) (.str j) μ = .ok (.bl (if neg then !(i == j) else i == j)) μ := by
  simp [gEq, rsv, rsW, DV.dp, dEq]
@[simp] theorem gEq_bl {neg : Bool} {i j : Bool} : gEq neg (.bl i) (.bl j) μ = .ok (.bl (if neg then !(i == j) else i == j)) μ := by
  simp [gEq, rsv, rsW, DV.dp, dEq]
theorem gIx_tup {xs : List DV} {i : Int} {x : DV} (h : atI xs i = some x) : gIx (.tup xs) (.int i) μ = .ok x μ := by simp [gIx, h]
theorem gIx_ref {n : Nat} {xs : List DV} {i : Int} {x : DV} (hn : μ[n]? = some (.lst xs)) (h : atI xs i = some x) : gIx (.ref n) (.int i) μ = .ok x μ := by simp [gIx, seq_ref hn, h]
theorem atI_nat {α : Type} {xs : List α} {k : Nat} : atI xs (k : Int) = xs[k]? := by
  unfold atI ixN
  rw [if_pos (by omega)]
  by_cases h : k < xs.length
  · rw [if_pos (by omega)]
    rfl
  · rw [if_neg (by omega), List.getElem?_eq_none (by omega)]
    rfl
theorem gIx_nat {xs : List DV} {k : Nat} {x : DV} (h : xs[k]? = some x) : gIx (.tup xs) (.int k) μ = .ok x μ := gIx_tup (atI_nat.trans h)
theorem gIx_refn {n : Nat} {xs : List DV} {k : Nat} {x : DV} (hn : μ[n]? = some (.lst xs)) (h : xs[k]? = some x) : gIx (.ref n) (.int k) μ = .ok x μ := gIx_ref hn (atI_nat.trans h)
@[simp] theorem gIx_0 {x : DV} {xs : List DV} : gIx (.tup (x :: xs)) (.int 0) μ = .ok x μ := gIx_nat (k := 0) rfl
@[simp] theorem gIx_1 {x y : DV} {xs : List DV} : gIx (.tup (x :: y :: xs)) (.int 1) μ = .ok y μ := gIx_nat (k := 1) rfl
@[simp] theorem gIx_2 {x y z : DV} {xs : List DV} : gIx (.tup (x :: y :: z :: xs)) (.int 2) μ = .ok z μ := gIx_nat (k := 2) rfl
@[simp] theorem x_sNil : sNil ρ μ = .nx ρ μ := rfl
@[simp] theorem x_sRet {m : EM} : sRet m ρ μ = (m ρ μ).st ρ fun v μ => .rt v μ := rfl
@[simp] theorem x_sRetN : sRetN ρ μ = .rt .non μ := rfl
@[simp] theorem x_sExpr {m : EM} : sExpr m ρ μ = (m ρ μ).st ρ fun _ μ => .nx ρ μ := rfl
@[simp] theorem x_sIf {t : BM} {a b : SM} : sIf t a b ρ μ = (t ρ μ).st ρ fun c μ => if c = true then a ρ μ else b ρ μ := rfl
@[simp] theorem x_sAsg {m : EM} {t : GM} : sAsg m t ρ μ = (m ρ μ).st ρ fun v μ => match t v ρ μ with
  | some ρ' => .nx ρ' μ
  | none => .bad := rfl
@[simp] theorem x_sPar {i j : Nat} {ms : LM} : sPar i j ms ρ μ = (ms ρ μ).st ρ fun vs μ => match vs with
  | [v, w] => if i < ρ.length ∧ j < ρ.length then .nx ((ρ.set i (some v)).set j (some w)) μ else .bad
  | _ => .bad := rfl
@[simp] theorem x_sPar3 {i j k : Nat} {ms : LM} : sPar3 i j k ms ρ μ = (ms ρ μ).st ρ fun vs μ => match vs with
  | [u, v, w] => if i < ρ.length ∧ j < ρ.length ∧ k < ρ.length then .nx (((ρ.set i (some u)).set j (some v)).set k (some w)) μ else .bad
  | _ => .bad := rfl
@[simp] theorem x_sSub {mo mi me : EM} : sSub mo mi me ρ μ = (me ρ μ).st ρ fun v μ => (mo ρ μ).st ρ fun u μ => (mi ρ μ).st ρ fun i μ => match u, i with
  | .ref n, .int k => match μ[n]? with
    | some (.lst xs) => match ixN xs.length k with
      | some j => .nx ρ (μ.set n (.lst (xs.set j v)))
      | none => .bad
    | none => .bad
  | _, _ => .bad := rfl
@[simp] theorem x_append {mo mv : EM} : mAppend mo mv ρ μ = (mo ρ μ).bind fun u μ => match u.lst μ with
  | none => .bad
  | some _ => (mv ρ μ).bind fun v μ => match u with
    | .ref n => match μ[n]? with
      | some (.lst xs) => if xs.length < LIM then .ok .non (μ.set n (.lst (xs ++ [v]))) else .bad
      | none => .bad
    | _ => .bad := rfl
theorem x_aug {g : DV → DV → DM → DR DV} {i : Nat} {me : EM} {u : DV} (h : ρ[i]? = some (some u)) : sAug g i me ρ μ = (me ρ μ).st ρ fun v μ => (g u v μ).noex.st ρ fun w μ => .nx (ρ.set i (some w)) μ := by
  unfold sAug
  rw [h]
theorem ixN_nat {n k : Nat} (h : k < n) : ixN n (k : Int) = some k := by
  unfold ixN
  rw [if_pos (by omega), if_pos (by omega)]
  rfl
@[simp] theorem x_sl {m : EM} {lo hi : DE → DM → DR (Option Int)} : mSl m lo hi ρ μ = (m ρ μ).bind fun v μ => (lo ρ μ).bind fun l μ => (hi ρ μ).bind fun h μ => match v with
  | .tup xs => .ok (.tup (cutD xs l h)) μ
  | .kl xs => .ok (.ref μ.length) (μ ++ [.lst (cutD xs l h)])
  | .ref n => match μ[n]? with
    | some (.lst xs) => .ok (.ref μ.length) (μ ++ [.lst (cutD xs l h)])
    | none => .bad
  | _ => .bad := rfl
@[simp] theorem x_noP : mNoP ρ μ = .ok none μ := rfl
@[simp] theorem x_P {m : EM} : mP m ρ μ = (m ρ μ).bind fun v μ => match v with
  | .int i => .ok (some i) μ
  | _ => .bad := rfl
theorem cut_to {xs : List DV} {k : Nat} : cutD xs none (some (k : Int)) = xs.take k := by
  unfold cutD
  rw [HT.sIx_nat, HT.sIx_none, List.drop_zero, Nat.sub_zero]
  by_cases h : k ≤ xs.length
  · rw [Nat.min_eq_left h]
  · rw [Nat.min_eq_right (by omega), List.take_of_length_le (Nat.le_refl _), List.take_of_length_le (by omega)]
theorem cut_from {xs : List DV} {k : Nat} : cutD xs (some (k : Int)) none = xs.drop k := by
  unfold cutD
  rw [HT.sIx_nat, HT.sIx_none]
  by_cases h : k ≤ xs.length
  · rw [Nat.min_eq_left h, List.take_of_length_le (by simp)]
  · rw [Nat.min_eq_right (by omega), List.drop_of_length_le (Nat.le_refl _), List.drop_of_length_le (by omega), List.take_nil]
@[simp] theorem x_sSetF {m : LM} {i : Nat} : sSetF m i ρ μ = (m ρ μ).st ρ fun xs μ => if i < ρ.length then .nx (ρ.set i (some (.ref μ.length))) (μ ++ [.lst xs]) else .bad := rfl
@[simp] theorem x_sRaise {c : String} : sRaise c ρ μ = .ex { cls := c } ρ μ := rfl
@[simp] theorem x_seq {m n : SM} : sSeq m n ρ μ = (m ρ μ).thn n := rfl
@[simp] theorem thn_nx {n : SM} : (SR.nx ρ μ).thn n = n ρ μ := rfl
@[simp] theorem thn_rt {v : DV} {n : SM} : (SR.rt v μ).thn n = .rt v μ := rfl
@[simp] theorem thn_ex {e : DX} {n : SM} : (SR.ex e ρ μ).thn n = .ex e ρ μ := rfl
@[simp] theorem thn_bk {n : SM} : (SR.bk ρ μ).thn n = .bk ρ μ := rfl
@[simp] theorem thn_ct {n : SM} : (SR.ct ρ μ).thn n = .ct ρ μ := rfl
@[simp] theorem thn_bad {n : SM} : SR.bad.thn n = .bad := rfl
@[simp] theorem thn_ite {c : Prop} [Decidable c] {a b : SR} {n : SM} : (if c then a else b).thn n = if c then a.thn n else b.thn n := by split <;> rfl
@[simp] theorem bind_ite {α β : Type} {c : Prop} [Decidable c] {a b : DR α} {f : α → DM → DR β} : (if c then a else b).bind f = if c then a.bind f else b.bind f := by split <;> rfl
@[simp] theorem noex_ite {α : Type} {c : Prop} [Decidable c] {a b : DR α} : (if c then a else b).noex = if c then a.noex else b.noex := by split <;> rfl
@[simp] theorem st_ite {α : Type} {c : Prop} [Decidable c] {a b : DR α} {k : α → DM → SR} : (if c then a else b).st ρ k = if c then a.st ρ k else b.st ρ k := by split <;> rfl
@[simp] theorem st_bad {α : Type} {k : α → DM → SR} : (DR.bad : DR α).st ρ k = .bad := rfl
@[simp] theorem x_tgN {i : Nat} {x : DV} : tgN i x ρ μ = if i < ρ.length then some (ρ.set i (some x)) else none := rfl
@[simp] theorem x_tgNil {xs : List DV} : tgNil xs ρ μ = if xs = [] then some ρ else none := rfl
@[simp] theorem x_tgCons {t : GM} {u : GMs} {x : DV} {xs : List DV} : tgCons t u (x :: xs) ρ μ = (t x ρ μ).bind fun ρ1 => u xs ρ1 μ := rfl
@[simp] theorem x_tgTup {n : Nat} {t : GMs} {xs : List DV} : tgTup n t (.tup xs) ρ μ = if xs.length = n then t xs ρ μ else none := rfl
@[simp] theorem x_it {m : EM} : mIt m ρ μ = (m ρ μ).bind fun v μ => match v with
  | .tup xs => .ok (xs, none) μ
  | .kl xs => .ok (xs, none) μ
  | .ref n => match μ[n]? with
    | some (.lst xs) => .ok (xs, some n) μ
    | none => .bad
  | _ => .bad := rfl
@[simp] theorem x_for {mi : IM} {t : GM} {b : SM} : sFor mi t b ρ μ = (mi ρ μ).st ρ fun s μ => sFor.go t b s s.1 ρ μ := rfl
def rgS (a b : Int) (μ : DM) : DR Src := if RgO a b then .ok (rgD a b, none) μ else .bad
theorem rgS_ok {a b : Int} (h : RgO a b) : rgS a b μ = .ok (rgD a b, none) μ := by unfold rgS; rw [if_pos h]
@[simp] theorem x_rg1 {m : EM} : mItR1 m ρ μ = (m ρ μ).bind fun v μ => match v with
  | .int n => rgS 0 n μ
  | _ => .bad := by
  unfold mItR1
  cases m ρ μ with
  | ok v μ => cases v <;> first | rfl | (unfold rgS; rfl)
  | _ => rfl
@[simp] theorem x_rg2 {m n : EM} : mItR2 m n ρ μ = (m ρ μ).bind fun v μ => (n ρ μ).bind fun u μ => match v, u with
  | .int a, .int b => rgS a b μ
  | _, _ => .bad := by
  unfold mItR2
  cases m ρ μ with
  | ok v μ => cases v <;> first | rfl | (rw [DR.bind_ok, DR.bind_ok]; cases n ρ μ with
    | ok u μ => cases u <;> first | rfl | (unfold rgS; rfl)
    | _ => rfl)
  | _ => rfl
theorem RgO_nat {a b : Nat} (h : b ≤ 1000000) (ha : a ≤ 1000000) : RgO (a : Int) (b : Int) := by
  show (Nat.ble a 10000000 && Nat.ble b 10000000) = true
  rw [Bool.and_eq_true, Nat.ble_eq, Nat.ble_eq]
  omega
theorem rgD_nat {a b : Nat} : rgD (a : Int) (b : Int) = (List.range' a (b - a)).map fun i : Nat => DV.int (i : Int) := by
  unfold rgD
  rw [List.range'_eq_map_range, List.map_map, show ((b : Int) - (a : Int)).toNat = b - a from by omega]
  rfl
theorem rgS_nat {a b : Nat} (h : b ≤ 1000000) (ha : a ≤ 1000000) : rgS (a : Int) (b : Int) μ = .ok ((List.range' a (b - a)).map fun i : Nat => DV.int (i : Int), none) μ := by
  rw [rgS_ok (RgO_nat h ha), rgD_nat]
@[simp] theorem rgS_0 {b : Nat} (h : b ≤ 1000000) : rgS 0 (b : Int) μ = .ok ((List.range b).map fun i : Nat => DV.int (i : Int), none) μ := by
  have := rgS_nat (μ := μ) (a := 0) h (Nat.zero_le _)
  rw [Nat.sub_zero, ← List.range_eq_range'] at this
  exact this
@[simp] theorem x_itF {m : LM} : mItF m ρ μ = (m ρ μ).bind fun xs μ => .ok (xs, none) μ := rfl
@[simp] theorem LIM_le {n : Nat} : (n ≤ LIM) = (n ≤ 16777216) := rfl
@[simp] theorem LIM_lt {n : Nat} : (n < LIM) = (n < 16777216) := rfl
end
end Md

namespace Md
open PySem L2
/-! ## fractions -/
def FR (q : Rat) : DV := .tup [.int q.num, .int q.den]
structure Sz (k : Nat) (q : Rat) : Prop where
  num : q.num.natAbs < 2 ^ k
  den : q.den < 2 ^ k
theorem Sz.mono {k l : Nat} {q : Rat} (h : Sz k q) (hl : k ≤ l) : Sz l q := ⟨Nat.lt_of_lt_of_le h.num (Nat.pow_le_pow_right (by omega) hl), Nat.lt_of_lt_of_le h.den (Nat.pow_le_pow_right (by omega) hl)⟩
theorem log2_le {n a : Nat} (h : n < 2 ^ a) : n.log2 ≤ a := by
  by_cases h0 : n = 0
  · subst h0; simp
  · exact Nat.le_of_lt ((Nat.log2_lt h0).mpr h)
theorem CMw_of {i j : Int} {a b : Nat} (hi : i.natAbs < 2 ^ a) (hj : j.natAbs < 2 ^ b) (h : a + b < 1000000) : CMw i j := by
  have := log2_le hi
  have := log2_le hj
  unfold CMw
  omega
theorem CMw_den {p q : Rat} {a b : Nat} (hp : Sz a p) (hq : Sz b q) (h : a + b < 1000000) : CMw p.num (q.den : Int) ∧ CMw q.num (p.den : Int) ∧ CMw (p.den : Int) (q.den : Int) :=
  ⟨CMw_of hp.num (by simpa using hq.den) h, CMw_of hq.num (by simpa using hp.den) (by omega), CMw_of (by simpa using hp.den) (by simpa using hq.den) h⟩
theorem CDv_of {i : Int} {n a : Nat} (h0 : 0 < n) (h : n < 2 ^ a) (ha : a < 9000) : CDv i (n : Int) := by
  have := log2_le h
  exact ⟨by omega, by simpa using Nat.lt_of_le_of_lt this ha⟩
theorem norm_num {n : Int} {d : Nat} (h : d ≠ 0) : (Rat.normalize n d h).num = n / ((Nat.gcd n.natAbs d : Nat) : Int) ∧ (Rat.normalize n d h).den = d / Nat.gcd n.natAbs d := by
  rw [Rat.normalize_eq]
  exact ⟨rfl, rfl⟩
theorem norm_sz {n : Int} {d k : Nat} (h : d ≠ 0) (hn : n.natAbs < 2 ^ k) (hd : d < 2 ^ k) : Sz k (Rat.normalize n d h) := by
  obtain ⟨e1, e2⟩ := norm_num (n := n) h
  have hg : 0 < Nat.gcd n.natAbs d := Nat.gcd_pos_of_pos_right _ (Nat.pos_of_ne_zero h)
  refine ⟨?_, ?_⟩
  · rw [e1]
    refine Nat.lt_of_le_of_lt ?_ hn
    exact Int.natAbs_ediv_le_natAbs _ _
  · rw [e2]
    exact Nat.lt_of_le_of_lt (Nat.div_le_self _ _) hd
theorem Sz.mulI {i j : Int} {a b : Nat} (hi : i.natAbs < 2 ^ a) (hj : j.natAbs < 2 ^ b) : (i * j).natAbs < 2 ^ (a + b) := by
  rw [Int.natAbs_mul, Nat.pow_add]
  exact Nat.mul_lt_mul_of_lt_of_le hi (Nat.le_of_lt hj) (Nat.lt_of_le_of_lt (Nat.zero_le _) hj)
theorem Sz.addI {i j : Int} {a : Nat} (hi : i.natAbs < 2 ^ a) (hj : j.natAbs < 2 ^ a) : (i + j).natAbs < 2 ^ (a + 1) := by
  rw [Nat.pow_succ]
  omega
theorem Sz.add {p q : Rat} {a b : Nat} (hp : Sz a p) (hq : Sz b q) : Sz (a + b + 1) (p + q) := by
  rw [Rat.add_def]
  refine norm_sz _ (Sz.addI (Sz.mulI hp.num (by simpa using hq.den)) (by rw [Nat.add_comm a b]; exact Sz.mulI hq.num (by simpa using hp.den))) ?_
  have := Sz.mulI (i := p.den) (j := q.den) (by simpa using hp.den) (by simpa using hq.den)
  rw [Nat.pow_succ]
  simp [Int.natAbs_mul] at this
  omega
theorem Sz.neg {p : Rat} {a : Nat} (hp : Sz a p) : Sz a (-p) := ⟨by rw [Rat.neg_num]; simpa using hp.num, by rw [Rat.neg_den]; exact hp.den⟩
theorem Sz.sub {p q : Rat} {a b : Nat} (hp : Sz a p) (hq : Sz b q) : Sz (a + b + 1) (p - q) := by
  rw [Rat.sub_eq_add_neg]
  exact hp.add hq.neg
theorem Sz.mul {p q : Rat} {a b : Nat} (hp : Sz a p) (hq : Sz b q) : Sz (a + b) (p * q) := by
  rw [Rat.mul_def]
  refine norm_sz _ (Sz.mulI hp.num hq.num) ?_
  have := Sz.mulI (i := p.den) (j := q.den) (by simpa using hp.den) (by simpa using hq.den)
  simpa [Int.natAbs_mul] using this
theorem Sz.zero : Sz 1 0 := ⟨by decide, by decide⟩
theorem Sz.one : Sz 1 1 := ⟨by decide, by decide⟩
theorem FR_zero : FR 0 = .tup [.int 0, .int 1] := rfl
theorem FR_one : FR 1 = .tup [.int 1, .int 1] := rfl
@[simp] theorem FR_ix0 {q : Rat} {μ : DM} : gIx (FR q) (.int 0) μ = .ok (.int q.num) μ := gIx_0
@[simp] theorem FR_ix1 {q : Rat} {μ : DM} : gIx (FR q) (.int 1) μ = .ok (.int q.den) μ := gIx_1
theorem FR_pure {q : Rat} : (FR q).pure = true := rfl
theorem FR_inj {p q : Rat} : FR p = FR q ↔ p = q := by
  constructor
  · intro h
    simp only [FR, DV.tup.injEq, List.cons.injEq, DV.int.injEq] at h
    exact Rat.ext h.1 (by omega)
  · intro h; rw [h]
theorem FR_dEq {p q : Rat} : dEq (FR p) (FR q) = decide (p = q) := by
  simp only [FR, dEq, dEqL]
  by_cases h : p = q
  · subst h; simp
  · simp only [h, decide_false]
    by_cases h1 : p.num = q.num
    · have : ¬ p.den = q.den := fun h2 => h (Rat.ext h1 h2)
      simp; omega
    · simp [h1]
@[simp] theorem FR_eq {neg : Bool} {p q : Rat} {μ : DM} : gEq neg (FR p) (FR q) μ = .ok (.bl (if neg then !decide (p = q) else decide (p = q))) μ := by
  have h1 : ∀ q : Rat, rsv μ (FR q) = some (FR q) := fun q => rfl
  have h2 : ∀ q : Rat, (FR q).dp = 1 := fun q => rfl
  simp [gEq, h1, h2, FR_dEq]
/-! ### the turns of the old way to a common part -/
def euM (a b : Nat) : Nat := if b = 0 then 0 else 1 + (a * b).log2 + if a < b then 1 else 0
theorem euM_lt {a b : Nat} (hb : 0 < b) : euM b (a % b) < euM a b := by
  have hr : a % b < b := Nat.mod_lt _ hb
  unfold euM
  rw [if_neg (show ¬ b = 0 by omega), if_neg (show ¬ b < a % b by omega)]
  split
  · omega
  · rename_i h0
    by_cases h : a < b
    · rw [if_pos h, Nat.mod_eq_of_lt h, Nat.mul_comm b a]
      omega
    · have h2 : b + a % b ≤ a := by
        have e := Nat.div_add_mod a b
        have : b * 1 ≤ b * (a / b) := Nat.mul_le_mul (Nat.le_refl _) ((Nat.le_div_iff_mul_le hb).mpr (by omega))
        omega
      have p0 : b * (a % b) ≠ 0 := Nat.mul_ne_zero (by omega) h0
      have p1 : a * b ≠ 0 := Nat.mul_ne_zero (by omega) (by omega)
      have : (b * (a % b)).log2 + 1 ≤ (a * b).log2 := by
        rw [Nat.le_log2 p1, Nat.pow_succ]
        have h3 := Nat.log2_self_le p0
        have h4 : b * (2 * (a % b)) ≤ b * a := Nat.mul_le_mul (Nat.le_refl _) (by omega)
        have h5 : b * (2 * (a % b)) = b * (a % b) * 2 := by rw [Nat.mul_comm 2, ← Nat.mul_assoc]
        have h6 : b * a = a * b := Nat.mul_comm _ _
        omega
      omega
theorem euM_le {a b k l : Nat} (ha : a < 2 ^ k) (hb : b < 2 ^ l) : euM a b ≤ k + l + 2 := by
  have h1 : a * b < 2 ^ (k + l) := by
    rw [Nat.pow_add]
    exact Nat.mul_lt_mul_of_lt_of_le ha (Nat.le_of_lt hb) (Nat.lt_of_le_of_lt (Nat.zero_le _) hb)
  have := log2_le h1
  unfold euM
  split
  · omega
  · split <;> omega
theorem fmod_nat {a b : Nat} : (a : Int).fmod (b : Int) = ((a % b : Nat) : Int) := by
  rw [Int.fmod_eq_emod_of_nonneg _ (by omega)]
  rfl
end Md

namespace Md
open PySem PySem.Spec PyProof.Rows L2
/-! ## enumerate of a list, of a tuple -/
theorem meets_enum1 {v : Value} {o : Obj} {H : Heap → Prop} (B : Begins v o H) :
    Meets (Builtin.«enumerate.__new__» ⟨[.type "enumerate", v], []⟩) (fun _ R s => H s.heap ∧
      R (.ok (.ret (.ref (s.heap.push o).objs.size))) { s with heap := (s.heap.push o).push { cls := .type "enumerate", data := .fields #[.none, .bool false, .ref s.heap.objs.size, rawInt 0, .none, .none] } }) :=
  .of_wp fun prog w A R s h => by
    obtain ⟨hp, g, d, tk, os⟩ := s; obtain ⟨h1, h⟩ := h
    have hsub := sub_enumerate
    have q1 : ∀ {A' : Around} {E : Value → Shared → Prop} {Q : Value → Shared → Prop}, Q (.ref hp.objs.size) ⟨hp.push o, g, d, tk, os⟩ → wpAny (model prog w) A' (pyIter v) Q E ⟨hp, g, d, tk, os⟩ :=
      fun q => B.iter prog w _ _ ⟨hp, g, d, tk, os⟩ _ h1 q
    wp_walk using q1
    refine wpAny_stack_any fun st => wpAny_pure ?_
    split
    · rename_i c _ _ _ _ _
      cases (c == Value.type "enumerate")
      · wp_walk using q1
        exact ⟨_, rfl, h⟩
      · wp_walk using q1
        exact ⟨_, rfl, h⟩
    · wp_walk using q1
      exact ⟨_, rfl, h⟩
theorem call_enumT {prog : Program} {w : World} {A : Around} {E : Value → Shared → Prop} {s : Shared} {l : Addr} {items : Array Value} {Q : Value → Shared → Prop} (hL : s.heap.IsTuple l items)
    (h : ∀ h', IsEnum h' (s.heap.objs.size + 1) s.heap.objs.size 0 .none → h'.IsTupleIter s.heap.objs.size l 0 → h'.objs.size = s.heap.objs.size + 2 →
      (∀ b o, s.heap.get? b = some o → h'.get? b = some o) → Q (.ref (s.heap.objs.size + 1)) { s with heap := h' }) :
    wpAny (model prog w) A (call (.type "enumerate") [.ref l]) Q E s := by
  refine callType_new F.called_enumerate (by decide) (F.typeCall_enumerate_1 _) (F.newCall_enumerate_1 _) (fun obj => F.args_object_init_2 obj _) F.entry_enumerate_new
    (meets_enum1 (begins_tuple l items)) ⟨hL, ?_⟩
  have hz : (s.heap.push { cls := .type "tuple_iterator", data := .fields #[.ref l, .int 0 0] }).objs.size = s.heap.objs.size + 1 := Heap.size_push ..
  show _ ∧ _
  rw [hz]
  have he : IsEnum ((s.heap.push { cls := .type "tuple_iterator", data := .fields #[.ref l, .int 0 0] }).push
      { cls := .type "enumerate", data := .fields #[.none, .bool false, .ref s.heap.objs.size, rawInt 0, .none, .none] }) (s.heap.objs.size + 1) s.heap.objs.size 0 .none := by
    have := Heap.get?_push_size (s.heap.push { cls := .type "tuple_iterator", data := .fields #[.ref l, .int 0 0] })
      (o := { cls := .type "enumerate", data := .fields #[.none, .bool false, .ref s.heap.objs.size, rawInt 0, .none, .none] }) rfl
    rw [hz] at this; exact this
  refine ⟨⟨_, he, rfl⟩, h _ he ⟨_, Heap.get?_push_of_some _ (Heap.get?_push_size _ rfl), rfl, rfl⟩ (by rw [Heap.size_push, hz]) fun b o x => Heap.get?_push_of_some _ (Heap.get?_push_of_some _ x)⟩
theorem enum_endT {prog : Program} {w : World} {A : Around} {E : Value → Shared → Prop} {s : Shared} {e it l : Addr} {c : Int} {i : Nat} {items : Array Value} {old : Value} {Q : Option Value → Shared → Prop} (hh : A.handled = none)
    (he : IsEnum s.heap e it c old) (hit : s.heap.IsTupleIter it l i) (hl : s.heap.IsTuple l items) (hx : items[i]? = none)
    (hQ : ∀ h', Heap.ExtBut it s.heap h' → Q none { s with heap := h' }) : wpAny (model prog w) A (pyNext (.ref e)) Q E s := by
  have hT : s.TypeIs (.ref e) "enumerate" := ⟨_, he, rfl⟩
  unfold pyNext
  refine wpAny_bind (wpAny_attempt (wpAny_callSpecial?_slot (name := Str.ofString "__next__") hT F.slot_enumerate_next
    (wpAny_call_entry F.slot_enumerate_next hT F.entry_enumerate_next ?_ (F.args_enumerate_next_1 _))))
  show wpAny _ _ (field (.ref e) 2 >>= _) _ _ _
  refine wpAny_bind (wpAny_field he rfl (x := .ref it) rfl ?_)
  refine wpAny_bind (wpAny_nextOf_tuple_end hh hit hl hx fun h' x he' hx' => ?_)
  obtain ⟨o, ho, hc⟩ := hx'
  refine wpAny_bind (wpAny_isInstance (T := "StopIteration") (b := true) ⟨o, ho, hc⟩ isSubtype_stop ?_)
  exact wpAny_pure (hQ _ he')
/-- the tuple at a, each item in a new pair -/
def IteT (K : PySem.W.Frag) (a : Addr) : It :=
  ⟨fun i H => ∃ (xs : List V) (x : V), SqT K H a xs ∧ xs[i]? = some x,
    fun i H v H' => ∃ T x, v = .ref T ∧ H T = none ∧ H' = upd H T (.tup [.int (i : Nat), x]) ∧ ∀ xs, SqT K H a xs → xs[i]? = some x,
    fun i H => ∃ xs : List V, SqT K H a xs ∧ xs.length ≤ i⟩
theorem turn_enumT {P : Program} {w : World} {K : PySem.W.Frag} {elts : List Expr} {kk : Nat} {tpos : Pos} (a e it : Addr) (ha : a ≠ it) (hae : e ≠ a) :
    Turn P w K (.Tuple elts kk tpos) (IteT K a) [e, it] e (fun i h => (∃ old, IsEnum h e it ((i : Nat) : Int) old) ∧ h.IsTupleIter it a i ∧ e ≠ it) where
  mem := by simp
  obj := fun i h st b hb => by
    obtain ⟨⟨old, he⟩, ⟨o, ho, hc, hd⟩, _⟩ := st
    have e' : b = e ∨ b = it := by simpa using hb
    rcases e' with z | z
    · rw [z]; exact ⟨_, he, fun v q => nomatch q⟩
    · rw [z]; exact ⟨o, ho, fun v q => by rw [hd] at q; cases q⟩
  keep := fun i h h' st k => let ⟨⟨old, he⟩, hi, hne⟩ := st; ⟨⟨old, k e (by simp) _ he⟩, hi.at fun o q => k it (by simp) o q, hne⟩
  item := by
    intro X hP hw hK hc i pins s σ H E I hf st hg
    subst hP hw hK
    obtain ⟨⟨old, he⟩, hit, hne⟩ := st
    obtain ⟨xs, x, hq, hx⟩ := hg
    obtain ⟨its, rv, p, hz⟩ := I.tuple hq
    obtain ⟨u, hu, ru⟩ := rv.get hx
    have hel : e < s.heap.objs.size := Heap.lt_size he
    have hil : it < s.heap.objs.size := by obtain ⟨_, q, _⟩ := hit; exact Heap.lt_size q
    have hil2 : i < its.toArray.size := by
      have := (List.getElem?_eq_some_iff.mp hu).1
      simpa using this
    have D := Draws.tuple (prog := X.prog) (w := X.w) (A := X.A.in1) (show X.A.in1.handled = none from I.ok.hd hc) it a ha its.toArray
    refine wpAny_pyNext_enum_itemC (c := ((i : Nat) : Int)) D he ⟨hit, p⟩ hil2 hne (by simp; exact ⟨hne, hae⟩) fun y h' tk hy ho hs' hT hsz hk => ?_
    have hyu : y = u := by
      have h1 : its.toArray[i]? = some u := by simpa using hu
      rw [h1] at hy
      exact (Option.some.inj hy).symm
    subst hyu
    refine ⟨_, rfl, wpAny_letOwnedTupleGo_enum (s := { s with heap := h', toks := tk + 1 }) ho fun h'' he' sb => ?_⟩
    have hT2 : h''.get? s.heap.objs.size = some { cls := .type "tuple", data := .seq #[.int i tk, y] } := (sb.2 _ (Nat.ne_of_gt hel)).trans hT
    have new : ObjOk X.prog X.w (upd H s.heap.objs.size (.tup [.int (i : Nat), x])) h'' s.heap.objs.size (.tup [.int (i : Nat), x]) :=
      ⟨by show 2 ≤ sizeLine; decide, [.int i tk, y], .cons ⟨_, rfl⟩ (.cons ru .nil), ⟨_, hT2, rfl, _, rfl⟩⟩
    have I1 : Inv X pins σ (upd H s.heap.objs.size (.tup [.int (i : Nat), x])) { s with heap := h'', toks := tk + 1 } :=
      I.turnedNew (ch := [e, it]) (fun b ob hb q => (sb.2 b (fun z => hb (by simp [z]))).trans (hk b ob (fun z => hb (by simp [z])) (fun z => hb (by simp [z])) q)) hf (Nat.le_refl _) new
    refine ⟨.ref s.heap.objs.size, _, I1, rfl, ⟨_, x, rfl, I.hok.fresh (Nat.le_refl _), rfl, fun ys hy => by rw [I.tuple_inj hy hq]; exact hx⟩, ⟨⟨y, ?_⟩, hs'.1.at fun o q => (sb.2 it (Ne.symm hne)).trans q, hne⟩, fun b hb => ?_⟩
    · have e1 : ((i + 1 : Nat) : Int) = (i : Int) + 1 := by omega
      rw [e1]; exact he'
    · have hb' : b < s.heap.objs.size := by
        have e' : b = e ∨ b = it := by simpa using hb
        rcases e' with z | z
        · rw [z]; exact hel
        · rw [z]; exact hil
      rw [upd_ne (Nat.ne_of_lt hb')]
      exact (hf b hb).1
  done := by
    intro X hP hw hK hc i pins s σ H E I hf st hg
    subst hP hw hK
    obtain ⟨⟨old, he⟩, hit, hne⟩ := st
    obtain ⟨xs, hq, hx⟩ := hg
    obtain ⟨its, rv, p, hz⟩ := I.tuple hq
    obtain ⟨f0, f1, f2, f3, f4, f5⟩ := hf it (by simp)
    have hl := rv.length
    exact enum_endT (I.ok.hd hc) he hit p (by simp; omega) fun h' eb => ⟨rfl, I.turned (t' := s.toks) (fun b o hb q => eb b o hb q) f0 f1 f3 f4 f5⟩
  self := fun A i s Q E st h => let ⟨⟨_, he⟩, _⟩ := st; wpAny_pyIter_enum he h
def iEnumA (K : PySem.W.Frag) (ta : TA) : TI := fun σ H R => ta σ H fun vs H1 => ∃ a xs, vs = [.ref a] ∧ ((SqL K H1 a xs ∧ R (Ite K a) H1) ∨ (SqT K H1 a xs ∧ R (IteT K a) H1))
theorem pi_enumA {X : Cx} {e : Expr} {ta : TA} {p pos tpos : Pos} {elts : List Expr} {kk : Nat} (hg : Gl X "enumerate") (hm : X.mg "enumerate" = none) (ha : PA X [e] ta) (hs : starEach [e] X.env = [(false, eval e X.env)] := by rfl) :
    PI X (.Tuple elts kk tpos) (.Call (.Name "enumerate" p) [e] [] pos) (iEnumA X.K ta) := by
  refine ⟨fun pins s σ H R I h => ?_⟩
  refine Call_ (ld_blt I hg hm boot_enumerate (PyProof.Rows.callWith_type1 (thn (ha.run pos pins s σ H _ I h) fun us s1 ⟨vs, H1, I1, r1, q1⟩ => ?_) hs rfl))
  obtain ⟨a, xs, ex, q⟩ := q1
  subst ex
  cases r1 with
  | cons r rr =>
    cases rr
    cases r
    have fresh : ∀ b, b ∈ [s1.heap.objs.size + 1, s1.heap.objs.size] → FpOk X pins H1 b := fun b hb => by
      have e' : b = s1.heap.objs.size + 1 ∨ b = s1.heap.objs.size := by simpa using hb
      have hle : s1.heap.objs.size ≤ b := by
        rcases e' with z | z
        · rw [z]; exact Nat.le_add_right _ _
        · rw [z]; exact Nat.le_refl _
      exact I1.fpOk hle (I1.hok.fresh hle)
    rcases q with ⟨hq, q⟩ | ⟨hq, q⟩
    · obtain ⟨its, rv, p', hz⟩ := I1.list hq
      refine call_enumerate_list p'.isList fun h' he hit hsz hk => wpAny_pyIter_enum he ?_
      have I2 : Inv X pins σ H1 { s1 with heap := h' } := I1.kept (t' := s1.toks) hk
      exact ⟨s1.heap.objs.size + 1, [s1.heap.objs.size + 1, s1.heap.objs.size], _, _, H1, rfl, I2, turn_enum a (s1.heap.objs.size + 1) s1.heap.objs.size, ⟨⟨.none, he⟩, hit, Nat.succ_ne_self _⟩, fresh, q⟩
    · obtain ⟨its, rv, p', hz⟩ := I1.tuple hq
      obtain ⟨o1, ho1, _⟩ := id p'
      have hlt : a < s1.heap.objs.size := Heap.lt_size ho1
      refine call_enumT (show s1.heap.IsTuple a its.toArray from p') fun h' he hit hsz hk => wpAny_pyIter_enum he ?_
      have I2 : Inv X pins σ H1 { s1 with heap := h' } := I1.kept (t' := s1.toks) hk
      exact ⟨s1.heap.objs.size + 1, [s1.heap.objs.size + 1, s1.heap.objs.size], _, _, H1, rfl, I2, turn_enumT a (s1.heap.objs.size + 1) s1.heap.objs.size (Nat.ne_of_lt hlt) (fun z => by rw [← z] at hlt; exact absurd hlt (Nat.not_lt.mpr (Nat.le_succ _))), ⟨⟨.none, he⟩, hit, Nat.succ_ne_self _⟩, fresh, q⟩
section
variable {X : Cx} {xt : String → Option Addr} {W : WX} {a : Expr} {p pos : Pos}
def enD (i : Nat) : List DV → List DV
  | [] => []
  | x :: xs => .tup [.int (i : Int), x] :: enD (i + 1) xs
theorem enD_get : ∀ {xs : List DV} {i j : Nat} {y : DV}, (enD i xs)[j]? = some y → ∃ x, xs[j]? = some x ∧ y = .tup [.int ((i + j : Nat) : Int), x]
  | [], i, j, y, h => by simp [enD] at h
  | x :: xs, i, 0, y, h => by simp [enD] at h; exact ⟨x, rfl, by simp [h]⟩
  | x :: xs, i, j + 1, y, h => by
    simp only [enD, List.getElem?_cons_succ] at h
    obtain ⟨z, h1, h2⟩ := enD_get h
    exact ⟨z, by simpa using h1, by rw [h2]; simp; omega⟩
theorem enD_len : ∀ {xs : List DV} {i : Nat}, (enD i xs).length = xs.length
  | [], _ => rfl
  | x :: xs, i => by simp [enD, enD_len]
def mEnum (m : EM) : IM := fun ρ μ => (m ρ μ).bind fun v μ => match v with
  | .tup xs => .ok (enD 0 xs, none) μ
  | _ => .bad
theorem it_enT {K : PySem.W.Frag} {θ : List Addr} {H : Hp} {xs : List DV} {vs : List V} {a : Addr} (h : SqT K H a vs) (r : RpL K θ H xs vs) : ItRel K θ H (enD 0 xs, none) (IteT K a) := by
  intro θ' H' μ' l s ho
  have hv := l.sqT h
  have rv := l.rpL r
  refine ⟨fun i x hx => ?_, fun i hi => ⟨vs, hv, ?_⟩⟩
  · obtain ⟨z, hz, rfl⟩ := enD_get hx
    obtain ⟨v, e, r1⟩ := rv.get hz
    refine ⟨⟨vs, v, hv, e⟩, fun u H'' ⟨T, v', e1, h1, e2, h3⟩ => ?_⟩
    have z1 := h3 vs hv
    rw [e] at z1; cases z1
    subst e1; subst e2
    have l2 := Lt.laid (θ := θ') (o := .tup [.int (i : Nat), v]) h1
    exact ⟨l2, s.fr h1, T, [.int (i : Nat), v], rfl, .inl (.inl upd_same), .int (i : Nat), [v], rfl, by simp [Rp], v, [], rfl, l2.rp r1, rfl⟩
  · rw [← rv.len]
    simpa [enD_len] using hi
theorem i_enum {m : EM} {elts : List Expr} {kk : Nat} {tpos : Pos} (hm : X.mg ("enumerate" : Str) = none) (h : DEx xt W X a m) (hg : Gl X ("enumerate" : Str) := by rfl)
    (na : starEach [a] X.env = [(false, eval a X.env)] := by rfl) : DIt xt W X (.Tuple elts kk tpos) (.Call (.Name "enumerate" p) [a] [] pos) (mEnum m) := by
  refine ⟨fun pins s σ H R I ⟨θ, ρ, μ, he, hst, q⟩ => (pi_enumA hg hm (pa_cons h pa_nil na) na).run pins s σ H R I ?_⟩
  refine ⟨θ, ρ, μ, he, hst, ?_⟩
  refine q.bind.imp fun w H1 ⟨θ1, μ1, v, l1, s1, r1, q1⟩ => ?_
  split at q1
  · obtain ⟨a, vs, rfl, sa, ra⟩ := r1
    exact ⟨a, vs, rfl, .inr ⟨sa, q1 θ1 H1 _ .refl s1 (it_enT sa ra)⟩⟩
  · exact q1.elim
end
end Md

/-! ## what each def computes, printed by gen.py -/
namespace Lw
open PySem L2 Md
def b_is_integer : SM :=
  sRet (mAndV (mIsi "int" (mVar 0)) (mNotV (mIsi "bool" (mVar 0))))
def f_is_integer : Fn := runFn 1 1 b_is_integer
def b_is_between : SM :=
  sRet (mAndV (mCall 1 f_is_integer (mCons (mVar 0) (mNil))) (mChain qLe qLe (mVar 1) (mVar 0) (mVar 2)))
def f_is_between : Fn := runFn 3 3 b_is_between
def b_is_tuple_of : SM :=
  sRet (mAndV (mIsi "tuple" (mVar 0)) (mOp (gEq false) (mLen (mVar 0)) (mVar 1)))
def f_is_tuple_of : Fn := runFn 2 2 b_is_tuple_of
def b_part_of : SM :=
  sSeq (sAsg (mGcd (mAbs (mVar 0)) (mVar 1)) (tgN 2)) <|
  sRet (mTup (mCons (mOp qFdiv (mVar 0) (mVar 2)) (mCons (mOp qFdiv (mVar 1) (mVar 2)) (mNil))))
def f_part_of : Fn := runFn 3 2 b_part_of
def b_is_fraction : SM :=
  sSeq (sIf (mOr (mNot (mTru (mCall 2 f_is_tuple_of (mCons (mVar 0) (mCons (mC (.int 2)) (mNil)))))) (mNot (mTru (mL1F gAll (mLc [1] (mIt (mVar 0)) (tgN 1) (mYes) (mCall 1 f_is_integer (mCons (mVar 1) (mNil)))))))) (sRet (mC (.bl false))) (sNil)) <|
  sRet (mAndV (mOp qGt (mOp gIx (mVar 0) (mC (.int 1))) (mC (.int 0))) (mOp (gEq false) (mGcd (mAbs (mOp gIx (mVar 0) (mC (.int 0)))) (mOp gIx (mVar 0) (mC (.int 1)))) (mC (.int 1))))
def f_is_fraction : Fn := runFn 2 1 b_is_fraction
def b_is_share : SM :=
  sRet (mAndV (mCall 1 f_is_fraction (mCons (mVar 0) (mNil))) (mChain qLe qLe (mC (.int 0)) (mOp gIx (mVar 0) (mC (.int 0))) (mOp gIx (mVar 0) (mC (.int 1)))))
def f_is_share : Fn := runFn 1 1 b_is_share
def b_add : SM :=
  sSeq (sIf (mBl (mOp (gEq false) (mOp gIx (mVar 0) (mC (.int 0))) (mC (.int 0)))) (sRet (mVar 1)) (sNil)) <|
  sSeq (sIf (mBl (mOp (gEq false) (mOp gIx (mVar 1) (mC (.int 0))) (mC (.int 0)))) (sRet (mVar 0)) (sNil)) <|
  sRet (mCall 2 f_part_of (mCons (mOp gAdd (mOp gMul (mOp gIx (mVar 0) (mC (.int 0))) (mOp gIx (mVar 1) (mC (.int 1)))) (mOp gMul (mOp gIx (mVar 1) (mC (.int 0))) (mOp gIx (mVar 0) (mC (.int 1))))) (mCons (mOp gMul (mOp gIx (mVar 0) (mC (.int 1))) (mOp gIx (mVar 1) (mC (.int 1)))) (mNil))))
def f_add : Fn := runFn 2 2 b_add
def b_turned : SM :=
  sRet (mTup (mCons (mNeg (mOp gIx (mVar 0) (mC (.int 0)))) (mCons (mOp gIx (mVar 0) (mC (.int 1))) (mNil))))
def f_turned : Fn := runFn 1 1 b_turned
def b_take : SM :=
  sRet (mCall 2 f_add (mCons (mVar 0) (mCons (mCall 1 f_turned (mCons (mVar 1) (mNil))) (mNil))))
def f_take : Fn := runFn 2 2 b_take
def b_product : SM :=
  sSeq (sIf (mOr (mBl (mOp (gEq false) (mOp gIx (mVar 0) (mC (.int 0))) (mC (.int 0)))) (mBl (mOp (gEq false) (mOp gIx (mVar 1) (mC (.int 0))) (mC (.int 0))))) (sRet (mC (.tup [.int 0, .int 1]))) (sNil)) <|
  sRet (mCall 2 f_part_of (mCons (mOp gMul (mOp gIx (mVar 0) (mC (.int 0))) (mOp gIx (mVar 1) (mC (.int 0)))) (mCons (mOp gMul (mOp gIx (mVar 0) (mC (.int 1))) (mOp gIx (mVar 1) (mC (.int 1)))) (mNil))))
def f_product : Fn := runFn 2 2 b_product
def b_ratio : SM :=
  sSeq (sIf (mBl (mOp qLt (mOp gIx (mVar 1) (mC (.int 0))) (mC (.int 0)))) (sRet (mCall 2 f_part_of (mCons (mOp gMul (mNeg (mOp gIx (mVar 0) (mC (.int 0)))) (mOp gIx (mVar 1) (mC (.int 1)))) (mCons (mOp gMul (mNeg (mOp gIx (mVar 0) (mC (.int 1)))) (mOp gIx (mVar 1) (mC (.int 0)))) (mNil))))) (sNil)) <|
  sRet (mCall 2 f_part_of (mCons (mOp gMul (mOp gIx (mVar 0) (mC (.int 0))) (mOp gIx (mVar 1) (mC (.int 1)))) (mCons (mOp gMul (mOp gIx (mVar 0) (mC (.int 1))) (mOp gIx (mVar 1) (mC (.int 0)))) (mNil))))
def f_ratio : Fn := runFn 2 2 b_ratio
def b_is_at_most : SM :=
  sRet (mOp qLe (mOp gMul (mOp gIx (mVar 0) (mC (.int 0))) (mOp gIx (mVar 1) (mC (.int 1)))) (mOp gMul (mOp gIx (mVar 1) (mC (.int 0))) (mOp gIx (mVar 0) (mC (.int 1)))))
def f_is_at_most : Fn := runFn 2 2 b_is_at_most
def b_is_below : SM :=
  sRet (mOp qLt (mOp gMul (mOp gIx (mVar 0) (mC (.int 0))) (mOp gIx (mVar 1) (mC (.int 1)))) (mOp gMul (mOp gIx (mVar 1) (mC (.int 0))) (mOp gIx (mVar 0) (mC (.int 1)))))
def f_is_below : Fn := runFn 2 2 b_is_below
def b_total : SM :=
  sSeq (sAsg (mC (.tup [.int 0, .int 1])) (tgN 1)) <|
  sSeq (sFor (mIt (mVar 0)) (tgN 2) (sAsg (mCall 2 f_add (mCons (mVar 1) (mCons (mVar 2) (mNil)))) (tgN 1))) <|
  sRet (mVar 1)
def f_total : Fn := runFn 3 1 b_total
def b_is_stretch : SM :=
  sRet (mAndV (mCall 2 f_is_tuple_of (mCons (mVar 0) (mCons (mC (.int 2)) (mNil)))) (mAndV (mCall 1 f_is_share (mCons (mOp gIx (mVar 0) (mC (.int 0))) (mNil))) (mAndV (mCall 1 f_is_share (mCons (mOp gIx (mVar 0) (mC (.int 1))) (mNil))) (mCall 2 f_is_at_most (mCons (mOp gIx (mVar 0) (mC (.int 0))) (mCons (mOp gIx (mVar 0) (mC (.int 1))) (mNil)))))))
def f_is_stretch : Fn := runFn 1 1 b_is_stretch
def b_is_piece : SM :=
  sSeq (sIf (mOr (mNot (mTru (mIsi "tuple" (mVar 0)))) (mOr (mBl (mOp qGt (mLen (mVar 0)) (mC (.int 60)))) (mNot (mTru (mL1F gAll (mLc [2] (mIt (mVar 0)) (tgN 2) (mYes) (mCall 1 f_is_stretch (mCons (mVar 2) (mNil))))))))) (sRet (mC (.bl false))) (sNil)) <|
  sRet (mL1F gAll (mLc [1] (mItR2 (mC (.int 1)) (mLen (mVar 0))) (tgN 1) (mYes) (mCall 2 f_is_at_most (mCons (mOp gIx (mOp gIx (mVar 0) (mOp qSub (mVar 1) (mC (.int 1)))) (mC (.int 1))) (mCons (mOp gIx (mOp gIx (mVar 0) (mVar 1)) (mC (.int 0))) (mNil))))))
def f_is_piece : Fn := runFn 3 1 b_is_piece
def b_need_piece : SM :=
  sIf (mNot (mTru (mCall 1 f_is_piece (mCons (mVar 0) (mNil))))) (sRaise "NoPiece") (sNil)
def f_need_piece : Fn := runFn 1 1 b_need_piece
def b_parted : SM :=
  sSeq (sAsg (mOp gIx (mVar 0) (mVar 1)) (tgTup 2 (tgCons (tgN 3) (tgCons (tgN 4) (tgNil))))) <|
  sRet (mTup (mCons (mOp gAdd (mSl (mVar 0) (mNoP) (mP (mVar 1))) (mTup (mCons (mTup (mCons (mVar 3) (mCons (mVar 2) (mNil)))) (mNil)))) (mCons (mOp gAdd (mTup (mCons (mTup (mCons (mVar 2) (mCons (mVar 4) (mNil)))) (mNil))) (mSl (mVar 0) (mP (mOp gAdd (mVar 1) (mC (.int 1)))) (mNoP))) (mNil))))
def f_parted : Fn := runFn 5 3 b_parted
def b_is_point_of : SM :=
  sSeq (sIf (mOr (mNot (mTru (mCall 3 f_is_between (mCons (mVar 1) (mCons (mC (.int 0)) (mCons (mOp qSub (mLen (mVar 0)) (mC (.int 1))) (mNil))))))) (mNot (mTru (mCall 1 f_is_fraction (mCons (mVar 2) (mNil)))))) (sRet (mC (.bl false))) (sNil)) <|
  sRet (mAndV (mCall 2 f_is_at_most (mCons (mOp gIx (mOp gIx (mVar 0) (mVar 1)) (mC (.int 0))) (mCons (mVar 2) (mNil)))) (mCall 2 f_is_at_most (mCons (mVar 2) (mCons (mOp gIx (mOp gIx (mVar 0) (mVar 1)) (mC (.int 1))) (mNil)))))
def f_is_point_of : Fn := runFn 3 3 b_is_point_of
def b_cut_at : SM :=
  sSeq (sExpr (mCall 1 f_need_piece (mCons (mVar 0) (mNil)))) <|
  sSeq (sIf (mNot (mTru (mCall 3 f_is_point_of (mCons (mVar 0) (mCons (mVar 1) (mCons (mVar 2) (mNil))))))) (sRaise "NoPoint") (sNil)) <|
  sRet (mCall 3 f_parted (mCons (mVar 0) (mCons (mVar 1) (mCons (mVar 2) (mNil)))))
def f_cut_at : Fn := runFn 3 3 b_cut_at
def b_is_taste : SM :=
  sSeq (sIf (mOr (mNot (mTru (mIsi "tuple" (mVar 0)))) (mNot (mBl (mChain qLe qLe (mC (.int 1)) (mLen (mVar 0)) (mC (.int 60)))))) (sRet (mC (.bl false))) (sNil)) <|
  sSeq (sIf (mNot (mTru (mL1F gAll (mLc [5] (mIt (mVar 0)) (tgN 5) (mYes) (mAndV (mCall 2 f_is_tuple_of (mCons (mVar 5) (mCons (mC (.int 2)) (mNil)))) (mAndV (mCall 1 f_is_share (mCons (mOp gIx (mVar 5) (mC (.int 0))) (mNil))) (mCall 1 f_is_share (mCons (mOp gIx (mVar 5) (mC (.int 1))) (mNil))))))))) (sRet (mC (.bl false))) (sNil)) <|
  sSeq (sAsg (mOp gAdd (mKeep (mLst (mCons (mC (.tup [.int 0, .int 1])) (mNil)))) (mKeep (mLc [4, 2] (mIt (mVar 0)) (tgTup 2 (tgCons (tgN 4) (tgCons (tgN 2) (tgNil)))) (mYes) (mVar 4)))) (tgN 1)) <|
  sSeq (sIf (mNot (mTru (mL1F gAll (mLc [3] (mItR2 (mC (.int 1)) (mLen (mVar 1))) (tgN 3) (mYes) (mCall 2 f_is_below (mCons (mOp gIx (mVar 1) (mOp qSub (mVar 3) (mC (.int 1)))) (mCons (mOp gIx (mVar 1) (mVar 3)) (mNil)))))))) (sRet (mC (.bl false))) (sNil)) <|
  sRet (mAndV (mOp (gEq false) (mOp gIx (mVar 1) (mNeg (mC (.int 1)))) (mC (.tup [.int 1, .int 1]))) (mOp (gEq false) (mCall 1 f_total (mCons (mKeep (mLc [2, 6] (mIt (mVar 0)) (tgTup 2 (tgCons (tgN 2) (tgCons (tgN 6) (tgNil)))) (mYes) (mVar 6))) (mNil))) (mC (.tup [.int 1, .int 1]))))
def f_is_taste : Fn := runFn 7 1 b_is_taste
def b_need_taste : SM :=
  sIf (mNot (mTru (mCall 1 f_is_taste (mCons (mVar 0) (mNil))))) (sRaise "NoTaste") (sNil)
def f_need_taste : Fn := runFn 1 1 b_need_taste
def b_worth_up_to : SM :=
  sSeq (sPar 2 3 (mCons (mC (.tup [.int 0, .int 1])) (mCons (mC (.tup [.int 0, .int 1])) (mNil)))) <|
  sSeq (sFor (mIt (mVar 0)) (tgTup 2 (tgCons (tgN 4) (tgCons (tgN 5) (tgNil)))) (sSeq (sIf (mTru (mCall 2 f_is_at_most (mCons (mVar 4) (mCons (mVar 1) (mNil))))) (sAsg (mCall 2 f_add (mCons (mVar 2) (mCons (mVar 5) (mNil)))) (tgN 2)) (sIf (mTru (mCall 2 f_is_below (mCons (mVar 3) (mCons (mVar 1) (mNil))))) (sAsg (mCall 2 f_add (mCons (mVar 2) (mCons (mCall 2 f_product (mCons (mVar 5) (mCons (mCall 2 f_ratio (mCons (mCall 2 f_take (mCons (mVar 1) (mCons (mVar 3) (mNil)))) (mCons (mCall 2 f_take (mCons (mVar 4) (mCons (mVar 3) (mNil)))) (mNil)))) (mNil)))) (mNil)))) (tgN 2)) (sNil))) <|
  sAsg (mVar 4) (tgN 3))) <|
  sRet (mVar 2)
def f_worth_up_to : Fn := runFn 6 2 b_worth_up_to
def b_worth_between : SM :=
  sRet (mCall 2 f_take (mCons (mCall 2 f_worth_up_to (mCons (mVar 0) (mCons (mOp gIx (mVar 1) (mC (.int 1))) (mNil)))) (mCons (mCall 2 f_worth_up_to (mCons (mVar 0) (mCons (mOp gIx (mVar 1) (mC (.int 0))) (mNil)))) (mNil))))
def f_worth_between : Fn := runFn 2 2 b_worth_between
def b_worth_of : SM :=
  sRet (mCall 1 f_total (mCons (mKeep (mLc [2] (mIt (mVar 1)) (tgN 2) (mYes) (mCall 2 f_worth_between (mCons (mVar 0) (mCons (mVar 2) (mNil)))))) (mNil)))
def f_worth_of : Fn := runFn 3 2 b_worth_of
def b_worth : SM :=
  sSeq (sExpr (mCall 1 f_need_taste (mCons (mVar 0) (mNil)))) <|
  sSeq (sExpr (mCall 1 f_need_piece (mCons (mVar 1) (mNil)))) <|
  sRet (mCall 2 f_worth_of (mCons (mVar 0) (mCons (mVar 1) (mNil))))
def f_worth : Fn := runFn 2 2 b_worth
def b_first_point : SM :=
  sSeq (sIf (mBl (mOp (gEq false) (mVar 2) (mC (.tup [.int 0, .int 1])))) (sRet (mVar 1)) (sNil)) <|
  sSeq (sAsg (mCall 2 f_add (mCons (mCall 2 f_worth_up_to (mCons (mVar 0) (mCons (mVar 1) (mNil)))) (mCons (mVar 2) (mNil)))) (tgN 3)) <|
  sSeq (sPar 4 5 (mCons (mC (.tup [.int 0, .int 1])) (mCons (mC (.tup [.int 0, .int 1])) (mNil)))) <|
  sSeq (sFor (mIt (mVar 0)) (tgTup 2 (tgCons (tgN 6) (tgCons (tgN 7) (tgNil)))) (sSeq (sIf (mAnd (mBl (mOp qGt (mOp gIx (mVar 7) (mC (.int 0))) (mC (.int 0)))) (mTru (mCall 2 f_is_at_most (mCons (mVar 3) (mCons (mCall 2 f_add (mCons (mVar 4) (mCons (mVar 7) (mNil)))) (mNil)))))) (sRet (mCall 2 f_add (mCons (mVar 5) (mCons (mCall 2 f_product (mCons (mCall 2 f_take (mCons (mVar 6) (mCons (mVar 5) (mNil)))) (mCons (mCall 2 f_ratio (mCons (mCall 2 f_take (mCons (mVar 3) (mCons (mVar 4) (mNil)))) (mCons (mVar 7) (mNil)))) (mNil)))) (mNil))))) (sNil)) <|
  sSeq (sAsg (mCall 2 f_add (mCons (mVar 4) (mCons (mVar 7) (mNil)))) (tgN 4)) <|
  sAsg (mVar 6) (tgN 5))) <|
  sRet (mC (.tup [.int 1, .int 1]))
def f_first_point : Fn := runFn 8 3 b_first_point
def b_mark_of : SM :=
  sSeq (sAsg (mC (.tup [.int 0, .int 1])) (tgN 3)) <|
  sSeq (sFor (mEnum (mVar 1)) (tgTup 2 (tgCons (tgN 4) (tgCons (tgN 5) (tgNil)))) (sSeq (sAsg (mCall 2 f_worth_between (mCons (mVar 0) (mCons (mVar 5) (mNil)))) (tgN 6)) <|
  sSeq (sIf (mTru (mCall 2 f_is_at_most (mCons (mVar 2) (mCons (mCall 2 f_add (mCons (mVar 3) (mCons (mVar 6) (mNil)))) (mNil))))) (sRet (mTup (mCons (mVar 4) (mCons (mCall 3 f_first_point (mCons (mVar 0) (mCons (mOp gIx (mVar 5) (mC (.int 0))) (mCons (mCall 2 f_take (mCons (mVar 2) (mCons (mVar 3) (mNil)))) (mNil))))) (mNil))))) (sNil)) <|
  sAsg (mCall 2 f_add (mCons (mVar 3) (mCons (mVar 6) (mNil)))) (tgN 3))) <|
  sRet (mC .non)
def f_mark_of : Fn := runFn 7 3 b_mark_of
def b_mark : SM :=
  sSeq (sExpr (mCall 1 f_need_taste (mCons (mVar 0) (mNil)))) <|
  sSeq (sIf (mOr (mNot (mTru (mCall 1 f_is_piece (mCons (mVar 1) (mNil))))) (mBl (mOp (gEq false) (mLen (mVar 1)) (mC (.int 0))))) (sRaise "NoPiece") (sNil)) <|
  sSeq (sIf (mOr (mNot (mTru (mCall 1 f_is_fraction (mCons (mVar 2) (mNil))))) (mOr (mBl (mOp qLt (mOp gIx (mVar 2) (mC (.int 0))) (mC (.int 0)))) (mNot (mTru (mCall 2 f_is_at_most (mCons (mVar 2) (mCons (mCall 2 f_worth_of (mCons (mVar 0) (mCons (mVar 1) (mNil)))) (mNil)))))))) (sRaise "NoAmount") (sNil)) <|
  sRet (mCall 3 f_mark_of (mCons (mVar 0) (mCons (mVar 1) (mCons (mVar 2) (mNil)))))
def f_mark : Fn := runFn 3 3 b_mark
def b__law_hand : SM :=
  sSeq (sSetF (mLc [2] (mIt (mSl (mVar 0) (mNoP) (mP (mC (.int 63))))) (tgN 2) (mYes) (mAbs (mInt (mVar 2)))) 1) <|
  sRet (mKeep (mLst (mCons (mVar 1) (mCons (mC (.int 0)) (mCons (mC (.int 0)) (mCons (mOp gAdd (mC (.int 41)) (mOp gMul (mC (.int 7)) (mLen (mVar 1)))) (mCons (mC (.int 0)) (mNil))))))))
def f__law_hand : Fn := runFn 3 1 b__law_hand
def b__law_draw : SM :=
  sSeq (sIf (mAnd (mBl (mOp (gEq false) (mOp gIx (mVar 0) (mC (.int 2))) (mC (.int 0)))) (mBl (mOp qLt (mOp gIx (mVar 0) (mC (.int 1))) (mLen (mOp gIx (mVar 0) (mC (.int 0))))))) (sSeq (sAsg (mOp gIx (mOp gIx (mVar 0) (mC (.int 0))) (mOp gIx (mVar 0) (mC (.int 1)))) (tgN 2)) <|
  sSeq (sSub (mVar 0) (mC (.int 1)) (mOp gAdd (mOp gIx (mVar 0) (mC (.int 1))) (mC (.int 1)))) <|
  sSeq (sSub (mVar 0) (mC (.int 3)) (mOp qMod (mInt (mOp gAdd (mOp gAdd (mOp gMul (mOp gIx (mVar 0) (mC (.int 3))) (mC (.int 48271))) (mVar 2)) (mC (.int 13)))) (mC (.int 2147483647)))) <|
  sIf (mBl (mOp qGe (mVar 2) (mOp qPow (mC (.int 10)) (mC (.int 18))))) (sSub (mVar 0) (mC (.int 2)) (mVar 2)) (sNil)) (sNil)) <|
  sSeq (sIf (mBl (mOp qGt (mOp gIx (mVar 0) (mC (.int 2))) (mC (.int 0)))) (sSeq (sAsg (mOp qMod (mInt (mOp gIx (mVar 0) (mC (.int 2)))) (mVar 1)) (tgN 3)) <|
  sSeq (sSub (mVar 0) (mC (.int 2)) (mOp qFdiv (mOp gIx (mVar 0) (mC (.int 2))) (mVar 1))) <|
  sRet (mVar 3)) (sNil)) <|
  sSeq (sSub (mVar 0) (mC (.int 4)) (mOp gAdd (mOp gIx (mVar 0) (mC (.int 4))) (mC (.int 1)))) <|
  sSeq (sAsg (mOp qMod (mInt (mOp gMul (mInt (mOp gAdd (mOp gIx (mVar 0) (mC (.int 3))) (mOp gMul (mC (.int 6007)) (mOp gIx (mVar 0) (mC (.int 4)))))) (mC (.int 69621)))) (mC (.int 2147483629))) (tgN 4)) <|
  sSeq (sAsg (mOp qMod (mInt (mOp gMul (mVar 4) (mOp gAdd (mOp qFdiv (mVar 4) (mC (.int 1013))) (mC (.int 48271))))) (mC (.int 2147483647))) (tgN 4)) <|
  sSeq (sAsg (mOp qMod (mInt (mOp gMul (mVar 4) (mOp gAdd (mOp qFdiv (mVar 4) (mC (.int 2011))) (mC (.int 16807))))) (mC (.int 2147483587))) (tgN 4)) <|
  sRet (mOp qMod (mInt (mOp qFdiv (mVar 4) (mC (.int 32)))) (mVar 1))
def f__law_draw : Fn := runFn 5 2 b__law_draw
def b__law_kept (f_rec : Fn) : SM :=
  sSeq (sIf (mOr (mTru (mIsi "tuple" (mVar 1))) (mTru (mIsi "list" (mVar 1)))) (sSeq (sIf (mOr (mBl (mOp (gEq true) (mIsi "tuple" (mVar 0)) (mIsi "tuple" (mVar 1)))) (mBl (mOp (gEq true) (mIsi "list" (mVar 0)) (mIsi "list" (mVar 1))))) (sRet (mC (.bl false))) (sNil)) <|
  sRet (mAndV (mOp (gEq false) (mLen (mVar 0)) (mLen (mVar 1))) (mL1F gAll (mLc [2] (mItR1 (mLen (mVar 1))) (tgN 2) (mYes) (mCall 2 f_rec (mCons (mOp gIx (mVar 0) (mVar 2)) (mCons (mOp gIx (mVar 1) (mVar 2)) (mNil)))))))) (sNil)) <|
  sSeq (sIf (mBl (mOp (gIs false) (mVar 1) (mC .non))) (sRet (mOp (gIs false) (mVar 0) (mC .non))) (sNil)) <|
  sSeq (sIf (mTru (mIsi "bool" (mVar 1))) (sRet (mIf (mTru (mVar 1)) (mOp (gIs false) (mVar 0) (mC (.bl true))) (mOp (gIs false) (mVar 0) (mC (.bl false))))) (sNil)) <|
  sSeq (sIf (mTru (mIsi "int" (mVar 1))) (sRet (mAndV (mIsi "int" (mVar 0)) (mAndV (mNotV (mIsi "bool" (mVar 0))) (mOp (gEq false) (mVar 0) (mVar 1))))) (sNil)) <|
  sRet (mAndV (mIsi "str" (mVar 0)) (mOp (gEq false) (mVar 0) (mVar 1)))
def f__law_kept_n : Nat → Fn
  | 0 => fun _ _ => .bad
  | n + 1 => runFn 3 2 (b__law_kept (f__law_kept_n n))
abbrev f__law_kept : Fn := f__law_kept_n 24
def b__law_mixed : SM :=
  sSeq (sPar 2 3 (mCons (mKeep (mListOf (mVar 1))) (mCons (mKeep (mLst (mNil))) (mNil)))) <|
  sSeq (sWhile (mBl (mOp qGt (mLen (mVar 2)) (mC (.int 0)))) (sExpr (mAppend (mVar 3) (mPopAt (mVar 2) (mCall 2 f__law_draw (mCons (mVar 0) (mCons (mLen (mVar 2)) (mNil))))))) WF) <|
  sRet (mVar 3)
def f__law_mixed : Fn := runFn 4 2 b__law_mixed
def b__law_part : SM :=
  sSeq (sPar 2 3 (mCons (mAbs (mVar 0)) (mCons (mVar 1) (mNil)))) <|
  sSeq (sWhile (mBl (mOp qGt (mVar 3) (mC (.int 0)))) (sPar 2 3 (mCons (mVar 3) (mCons (mOp qMod (mInt (mVar 2)) (mVar 3)) (mNil)))) WF) <|
  sRet (mTup (mCons (mOp qFdiv (mVar 0) (mVar 2)) (mCons (mOp qFdiv (mVar 1) (mVar 2)) (mNil))))
def f__law_part : Fn := runFn 4 2 b__law_part
def b__law_plus : SM :=
  sRet (mCall 2 f__law_part (mCons (mOp gAdd (mOp gMul (mOp gIx (mVar 0) (mC (.int 0))) (mOp gIx (mVar 1) (mC (.int 1)))) (mOp gMul (mOp gIx (mVar 1) (mC (.int 0))) (mOp gIx (mVar 0) (mC (.int 1))))) (mCons (mOp gMul (mOp gIx (mVar 0) (mC (.int 1))) (mOp gIx (mVar 1) (mC (.int 1)))) (mNil))))
def f__law_plus : Fn := runFn 2 2 b__law_plus
def b__law_minus : SM :=
  sRet (mCall 2 f__law_part (mCons (mOp qSub (mOp gMul (mOp gIx (mVar 0) (mC (.int 0))) (mOp gIx (mVar 1) (mC (.int 1)))) (mOp gMul (mOp gIx (mVar 1) (mC (.int 0))) (mOp gIx (mVar 0) (mC (.int 1))))) (mCons (mOp gMul (mOp gIx (mVar 0) (mC (.int 1))) (mOp gIx (mVar 1) (mC (.int 1)))) (mNil))))
def f__law_minus : Fn := runFn 2 2 b__law_minus
def b__law_times : SM :=
  sRet (mCall 2 f__law_part (mCons (mOp gMul (mOp gIx (mVar 0) (mC (.int 0))) (mOp gIx (mVar 1) (mC (.int 0)))) (mCons (mOp gMul (mOp gIx (mVar 0) (mC (.int 1))) (mOp gIx (mVar 1) (mC (.int 1)))) (mNil))))
def f__law_times : Fn := runFn 2 2 b__law_times
def b__law_over : SM :=
  sSeq (sIf (mBl (mOp qLt (mOp gIx (mVar 1) (mC (.int 0))) (mC (.int 0)))) (sRet (mCall 2 f__law_part (mCons (mOp qSub (mC (.int 0)) (mOp gMul (mOp gIx (mVar 0) (mC (.int 0))) (mOp gIx (mVar 1) (mC (.int 1))))) (mCons (mOp qSub (mC (.int 0)) (mOp gMul (mOp gIx (mVar 0) (mC (.int 1))) (mOp gIx (mVar 1) (mC (.int 0))))) (mNil))))) (sNil)) <|
  sRet (mCall 2 f__law_part (mCons (mOp gMul (mOp gIx (mVar 0) (mC (.int 0))) (mOp gIx (mVar 1) (mC (.int 1)))) (mCons (mOp gMul (mOp gIx (mVar 0) (mC (.int 1))) (mOp gIx (mVar 1) (mC (.int 0)))) (mNil))))
def f__law_over : Fn := runFn 2 2 b__law_over
def b__law_less : SM :=
  sRet (mOp qLt (mOp gMul (mOp gIx (mVar 0) (mC (.int 0))) (mOp gIx (mVar 1) (mC (.int 1)))) (mOp gMul (mOp gIx (mVar 1) (mC (.int 0))) (mOp gIx (mVar 0) (mC (.int 1)))))
def f__law_less : Fn := runFn 2 2 b__law_less
def b__law_sum : SM :=
  sSeq (sAsg (mTup (mCons (mC (.int 0)) (mCons (mC (.int 1)) (mNil)))) (tgN 1)) <|
  sSeq (sFor (mIt (mVar 0)) (tgN 2) (sAsg (mCall 2 f__law_plus (mCons (mVar 1) (mCons (mVar 2) (mNil)))) (tgN 1))) <|
  sRet (mVar 1)
def f__law_sum : Fn := runFn 3 1 b__law_sum
def b__law_piece : SM :=
  sSeq (sPar3 2 3 4 (mCons (mOp gAdd (mC (.int 1)) (mCall 2 f__law_draw (mCons (mVar 0) (mCons (mC (.int 24)) (mNil))))) (mCons (mKeep (mLst (mNil))) (mCons (mC (.int 0)) (mNil))))) <|
  sSeq (sFor (mItR1 (mCall 2 f__law_draw (mCons (mVar 0) (mCons (mOp gAdd (mVar 1) (mC (.int 1))) (mNil))))) (tgN 5) (sSeq (sAsg (mOp gAdd (mVar 4) (mCall 2 f__law_draw (mCons (mVar 0) (mCons (mOp gAdd (mOp qSub (mVar 2) (mVar 4)) (mC (.int 1))) (mNil))))) (tgN 6)) <|
  sSeq (sAsg (mIf (mBl (mOp qGt (mCall 2 f__law_draw (mCons (mVar 0) (mCons (mC (.int 4)) (mNil)))) (mC (.int 0)))) (mOp gAdd (mVar 6) (mCall 2 f__law_draw (mCons (mVar 0) (mCons (mOp gAdd (mOp qSub (mVar 2) (mVar 6)) (mC (.int 1))) (mNil))))) (mVar 6)) (tgN 7)) <|
  sSeq (sExpr (mAppend (mVar 3) (mTup (mCons (mCall 2 f__law_part (mCons (mVar 6) (mCons (mVar 2) (mNil)))) (mCons (mCall 2 f__law_part (mCons (mVar 7) (mCons (mVar 2) (mNil)))) (mNil)))))) <|
  sAsg (mVar 7) (tgN 4))) <|
  sRet (mTupOf (mVar 3))
def f__law_piece : Fn := runFn 8 2 b__law_piece
def b__law_taste : SM :=
  sSeq (sPar3 1 2 3 (mCons (mOp gAdd (mC (.int 1)) (mCall 2 f__law_draw (mCons (mVar 0) (mCons (mC (.int 6)) (mNil))))) (mCons (mC (.int 12)) (mCons (mC (.int 12)) (mNil))))) <|
  sSeq (sAsg (mOp gAdd (mKeep (mSorted (mSl (mCall 2 f__law_mixed (mCons (mVar 0) (mCons (mKeep (mRg2 (mC (.int 1)) (mVar 3))) (mNil)))) (mNoP) (mP (mOp qSub (mVar 1) (mC (.int 1))))))) (mKeep (mLst (mCons (mVar 3) (mNil))))) (tgN 4)) <|
  sSeq (sAsg (mKeep (mLst (mNil))) (tgN 5)) <|
  sSeq (sFor (mItR1 (mVar 1)) (tgN 6) (sSeq (sAsg (mIf (mBl (mOp (gEq false) (mVar 6) (mOp qSub (mVar 1) (mC (.int 1))))) (mVar 2) (mCall 2 f__law_draw (mCons (mVar 0) (mCons (mOp gAdd (mVar 2) (mC (.int 1))) (mNil))))) (tgN 7)) <|
  sSeq (sExpr (mAppend (mVar 5) (mTup (mCons (mCall 2 f__law_part (mCons (mOp gIx (mVar 4) (mVar 6)) (mCons (mVar 3) (mNil)))) (mCons (mCall 2 f__law_part (mCons (mVar 7) (mCons (mC (.int 12)) (mNil)))) (mNil)))))) <|
  sAsg (mOp qSub (mVar 2) (mVar 7)) (tgN 2))) <|
  sRet (mTupOf (mVar 5))
def f__law_taste : Fn := runFn 8 1 b__law_taste
def b__law_up_to : SM :=
  sSeq (sAsg (mTup (mCons (mTup (mCons (mC (.int 0)) (mCons (mC (.int 1)) (mNil)))) (mCons (mTup (mCons (mC (.int 0)) (mCons (mC (.int 1)) (mNil)))) (mNil)))) (tgTup 2 (tgCons (tgN 2) (tgCons (tgN 3) (tgNil))))) <|
  sSeq (sFor (mIt (mVar 0)) (tgTup 2 (tgCons (tgN 4) (tgCons (tgN 5) (tgNil)))) (sSeq (sIf (mNot (mTru (mCall 2 f__law_less (mCons (mVar 1) (mCons (mVar 4) (mNil)))))) (sAsg (mCall 2 f__law_plus (mCons (mVar 2) (mCons (mVar 5) (mNil)))) (tgN 2)) (sIf (mTru (mCall 2 f__law_less (mCons (mVar 3) (mCons (mVar 1) (mNil))))) (sAsg (mCall 2 f__law_plus (mCons (mVar 2) (mCons (mCall 2 f__law_times (mCons (mVar 5) (mCons (mCall 2 f__law_over (mCons (mCall 2 f__law_minus (mCons (mVar 1) (mCons (mVar 3) (mNil)))) (mCons (mCall 2 f__law_minus (mCons (mVar 4) (mCons (mVar 3) (mNil)))) (mNil)))) (mNil)))) (mNil)))) (tgN 2)) (sNil))) <|
  sAsg (mVar 4) (tgN 3))) <|
  sRet (mVar 2)
def f__law_up_to : Fn := runFn 6 2 b__law_up_to
def b__law_worth : SM :=
  sRet (mCall 1 f__law_sum (mCons (mKeep (mLc [3, 2] (mIt (mVar 1)) (tgTup 2 (tgCons (tgN 3) (tgCons (tgN 2) (tgNil)))) (mYes) (mCall 2 f__law_minus (mCons (mCall 2 f__law_up_to (mCons (mVar 0) (mCons (mVar 2) (mNil)))) (mCons (mCall 2 f__law_up_to (mCons (mVar 0) (mCons (mVar 3) (mNil)))) (mNil)))))) (mNil)))
def f__law_worth : Fn := runFn 4 2 b__law_worth
def b__law_mark : SM :=
  sSeq (sAsg (mTup (mCons (mC (.int 0)) (mCons (mC (.int 1)) (mNil)))) (tgN 3)) <|
  sSeq (sFor (mItR1 (mLen (mVar 1))) (tgN 4) (sSeq (sAsg (mOp gIx (mVar 1) (mVar 4)) (tgTup 2 (tgCons (tgN 5) (tgCons (tgN 6) (tgNil))))) <|
  sSeq (sAsg (mOp gAdd (mOp gAdd (mKeep (mLst (mCons (mVar 5) (mNil)))) (mKeep (mLc [12, 13] (mIt (mVar 0)) (tgTup 2 (tgCons (tgN 12) (tgCons (tgN 13) (tgNil)))) (mAnd (mTru (mCall 2 f__law_less (mCons (mVar 5) (mCons (mVar 12) (mNil))))) (mTru (mCall 2 f__law_less (mCons (mVar 12) (mCons (mVar 6) (mNil)))))) (mVar 12)))) (mKeep (mLst (mCons (mVar 6) (mNil))))) (tgN 7)) <|
  sSeq (sFor (mItR1 (mLen (mVar 7))) (tgN 8) (sSeq (sAsg (mCall 2 f__law_plus (mCons (mVar 3) (mCons (mCall 2 f__law_worth (mCons (mVar 0) (mCons (mTup (mCons (mTup (mCons (mVar 5) (mCons (mOp gIx (mVar 7) (mVar 8)) (mNil)))) (mNil))) (mNil)))) (mNil)))) (tgN 9)) <|
  sIf (mNot (mTru (mCall 2 f__law_less (mCons (mVar 9) (mCons (mVar 2) (mNil)))))) (sSeq (sIf (mBl (mOp (gEq false) (mVar 8) (mC (.int 0)))) (sRet (mTup (mCons (mVar 4) (mCons (mVar 5) (mNil))))) (sNil)) <|
  sSeq (sAsg (mCall 2 f__law_plus (mCons (mVar 3) (mCons (mCall 2 f__law_worth (mCons (mVar 0) (mCons (mTup (mCons (mTup (mCons (mVar 5) (mCons (mOp gIx (mVar 7) (mOp qSub (mVar 8) (mC (.int 1)))) (mNil)))) (mNil))) (mNil)))) (mNil)))) (tgN 10)) <|
  sSeq (sAsg (mCall 2 f__law_over (mCons (mCall 2 f__law_minus (mCons (mVar 2) (mCons (mVar 10) (mNil)))) (mCons (mCall 2 f__law_minus (mCons (mVar 9) (mCons (mVar 10) (mNil)))) (mNil)))) (tgN 11)) <|
  sRet (mTup (mCons (mVar 4) (mCons (mCall 2 f__law_plus (mCons (mOp gIx (mVar 7) (mOp qSub (mVar 8) (mC (.int 1)))) (mCons (mCall 2 f__law_times (mCons (mVar 11) (mCons (mCall 2 f__law_minus (mCons (mOp gIx (mVar 7) (mVar 8)) (mCons (mOp gIx (mVar 7) (mOp qSub (mVar 8) (mC (.int 1)))) (mNil)))) (mNil)))) (mNil)))) (mNil))))) (sNil))) <|
  sAsg (mCall 2 f__law_plus (mCons (mVar 3) (mCons (mCall 2 f__law_worth (mCons (mVar 0) (mCons (mTup (mCons (mTup (mCons (mVar 5) (mCons (mVar 6) (mNil)))) (mNil))) (mNil)))) (mNil)))) (tgN 3))) <|
  sRet (mC .non)
def f__law_mark : Fn := runFn 14 3 b__law_mark
def b__law_refusal : SM :=
  sSeq (sTry (sExpr (mCall 3 f_mark (mCons (mVar 0) (mCons (mVar 1) (mCons (mVar 2) (mNil)))))) [("NoTaste", some 3, sRet (mC (.str "taste"))), ("NoPiece", some 3, sRet (mC (.str "piece"))), ("NoAmount", some 3, sRet (mC (.str "amount"))), ("ShareError", none, sRet (mC (.str "other")))]) <|
  sRet (mC (.str "none"))
def f__law_refusal : Fn := runFn 4 3 b__law_refusal
def b_law_1 : SM :=
  sSeq (sAsg (mOp gIx (mVar 4) (mVar 9)) (tgTup 2 (tgCons (tgN 10) (tgCons (tgN 11) (tgNil))))) <|
  sSeq (sAsg (mIf (mBl (mOp (gEq false) (mVar 9) (mOp gIx (mVar 8) (mC (.int 0))))) (mOp gIx (mVar 8) (mC (.int 1))) (mVar 11)) (tgN 12)) <|
  sSeq (sAsg (mCall 2 f__law_plus (mCons (mVar 10) (mCons (mCall 2 f__law_times (mCons (mCall 2 f__law_part (mCons (mCall 2 f__law_draw (mCons (mVar 1) (mCons (mC (.int 6)) (mNil)))) (mCons (mC (.int 6)) (mNil)))) (mCons (mCall 2 f__law_minus (mCons (mVar 12) (mCons (mVar 10) (mNil)))) (mNil)))) (mNil)))) (tgN 13)) <|
  sIf (mAnd (mOr (mBl (mOp qLt (mVar 9) (mOp gIx (mVar 8) (mC (.int 0))))) (mTru (mCall 2 f__law_less (mCons (mVar 13) (mCons (mVar 12) (mNil)))))) (mNot (mTru (mCall 2 f__law_less (mCons (mCall 2 f_worth (mCons (mVar 3) (mCons (mOp gIx (mCall 3 f_cut_at (mCons (mVar 4) (mCons (mVar 9) (mCons (mVar 13) (mNil))))) (mC (.int 0))) (mNil)))) (mCons (mVar 7) (mNil))))))) (sRet (mC (.bl false))) (sNil)
def b_law_2 : SM :=
  sSeq (sAsg (mCall 3 f_mark (mCons (mVar 3) (mCons (mVar 4) (mCons (mVar 7) (mNil))))) (tgN 8)) <|
  sSeq (sIf (mNot (mTru (mCall 2 f__law_kept (mCons (mVar 8) (mCons (mCall 3 f__law_mark (mCons (mVar 3) (mCons (mVar 4) (mCons (mVar 7) (mNil))))) (mNil)))))) (sRet (mC (.bl false))) (sNil)) <|
  sSeq (sIf (mBl (mOp (gEq true) (mCall 2 f_worth (mCons (mVar 3) (mCons (mOp gIx (mCall 3 f_cut_at (mCons (mVar 4) (mCons (mOp gIx (mVar 8) (mC (.int 0))) (mCons (mOp gIx (mVar 8) (mC (.int 1))) (mNil))))) (mC (.int 0))) (mNil)))) (mVar 7))) (sRet (mC (.bl false))) (sNil)) <|
  sFor (mItR1 (mOp gAdd (mOp gIx (mVar 8) (mC (.int 0))) (mC (.int 1)))) (tgN 9) (b_law_1)
def b_law_3 : SM :=
  sIf (mBl (mOp (gEq true) (mCall 3 f__law_refusal (mCons (mVar 3) (mCons (mVar 4) (mCons (mVar 14) (mNil))))) (mC (.str "amount")))) (sRet (mC (.bl false))) (sNil)
def b_law_4 : SM :=
  sSeq (sAsg (mTup (mCons (mCall 1 f__law_taste (mCons (mVar 1) (mNil))) (mCons (mCall 2 f__law_piece (mCons (mVar 1) (mCons (mC (.int 5)) (mNil)))) (mNil)))) (tgTup 2 (tgCons (tgN 3) (tgCons (tgN 4) (tgNil))))) <|
  sSeq (sIf (mBl (mOp (gEq false) (mLen (mVar 4)) (mC (.int 0)))) (sSeq (sIf (mBl (mOp (gEq true) (mCall 3 f__law_refusal (mCons (mVar 3) (mCons (mVar 4) (mCons (mTup (mCons (mC (.int 0)) (mCons (mC (.int 1)) (mNil)))) (mNil))))) (mC (.str "piece")))) (sRet (mC (.bl false))) (sNil)) <|
  sAsg (mTup (mCons (mTup (mCons (mTup (mCons (mC (.int 0)) (mCons (mC (.int 1)) (mNil)))) (mCons (mTup (mCons (mC (.int 1)) (mCons (mC (.int 3)) (mNil)))) (mNil)))) (mCons (mTup (mCons (mTup (mCons (mC (.int 1)) (mCons (mC (.int 2)) (mNil)))) (mCons (mTup (mCons (mC (.int 1)) (mCons (mC (.int 2)) (mNil)))) (mNil)))) (mCons (mTup (mCons (mTup (mCons (mC (.int 1)) (mCons (mC (.int 2)) (mNil)))) (mCons (mTup (mCons (mC (.int 1)) (mCons (mC (.int 1)) (mNil)))) (mNil)))) (mNil))))) (tgN 4)) (sNil)) <|
  sSeq (sAsg (mCall 2 f__law_worth (mCons (mVar 3) (mCons (mVar 4) (mNil)))) (tgN 5)) <|
  sSeq (sSetF (mLc [15] (mItR1 (mOp gAdd (mLen (mVar 4)) (mC (.int 1)))) (tgN 15) (mYes) (mCall 2 f__law_worth (mCons (mVar 3) (mCons (mSl (mVar 4) (mNoP) (mP (mVar 15))) (mNil))))) 6) <|
  sSeq (sFor (mIt (mOp gAdd (mVar 6) (mKeep (mLst (mCons (mCall 2 f__law_times (mCons (mVar 5) (mCons (mCall 2 f__law_part (mCons (mCall 2 f__law_draw (mCons (mVar 1) (mCons (mC (.int 8)) (mNil)))) (mCons (mC (.int 7)) (mNil)))) (mNil)))) (mNil)))))) (tgN 7) (b_law_2)) <|
  sSeq (sFor (mItF (mLst (mCons (mCall 2 f__law_plus (mCons (mVar 5) (mCons (mTup (mCons (mC (.int 1)) (mCons (mC (.int 90)) (mNil)))) (mNil)))) (mCons (mTup (mCons (mNeg (mC (.int 1))) (mCons (mC (.int 90)) (mNil)))) (mCons (mC .non) (mCons (mC (.int 0)) (mCons (mTup (mCons (mC (.int 2)) (mCons (mC (.int 4)) (mNil)))) (mCons (mC (.str "0")) (mNil))))))))) (tgN 14) (b_law_3)) <|
  sIf (mOr (mBl (mOp (gEq true) (mCall 3 f__law_refusal (mCons (mC .non) (mCons (mVar 4) (mCons (mTup (mCons (mC (.int 0)) (mCons (mC (.int 1)) (mNil)))) (mNil))))) (mC (.str "taste")))) (mBl (mOp (gEq true) (mCall 3 f__law_refusal (mCons (mVar 3) (mCons (mKeep (mLst (mCons (mC .non) (mNil)))) (mCons (mC .non) (mNil))))) (mC (.str "piece"))))) (sRet (mC (.bl false))) (sNil)
def b_law : SM :=
  sSeq (sAsg (mCall 1 f__law_hand (mCons (mVar 0) (mNil))) (tgN 1)) <|
  sSeq (sFor (mItR1 (mC (.int 8))) (tgN 2) (b_law_4)) <|
  sRet (mC (.bl true))
def f_law : Fn := runFn 16 1 b_law
end Lw

namespace Lw
open PySem L2 Md
theorem l_part_of {n : Int} {d k : Nat} {μ : DM} (h : d ≠ 0) (hd : d < 2 ^ k) (hk : k < 9000) : f_part_of [.int n, .int d] μ = .ok (FR (Rat.normalize n d h)) μ := by
  have hg : 0 < Nat.gcd n.natAbs d := Nat.gcd_pos_of_pos_right _ (Nat.pos_of_ne_zero h)
  have hgd : Nat.gcd n.natAbs d < 2 ^ k := Nat.lt_of_le_of_lt (Nat.gcd_le_right _ (Nat.pos_of_ne_zero h)) hd
  have ha : (if n < 0 then -n else n).natAbs = n.natAbs := by split <;> omega
  obtain ⟨e1, e2⟩ := norm_num (n := n) h
  refine run_rt rfl ?_
  simp [b_part_of, ha, CDv_of hg hgd hk, FR, e1, e2]
theorem l_add {p q : Rat} {a b : Nat} {μ : DM} (hp : Sz a p) (hq : Sz b q) (hs : a + b < 8000) : f_add [FR p, FR q] μ = .ok (FR (p + q)) μ := by
  obtain ⟨c1, c2, c3⟩ := CMw_den hp hq (by omega)
  have hd := Sz.mulI (i := p.den) (j := q.den) (by simpa using hp.den) (by simpa using hq.den)
  refine run_rt rfl ?_
  by_cases h0 : p = 0
  · subst h0; simp [b_add, Rat.zero_add]
  have h0' : ¬ p.num = 0 := fun z => h0 (Rat.num_eq_zero.mp z)
  by_cases h1 : q = 0
  · subst h1; simp [b_add, h0', Rat.add_zero]
  have h1' : ¬ q.num = 0 := fun z => h1 (Rat.num_eq_zero.mp z)
  have e := l_part_of (n := p.num * q.den + q.num * p.den) (d := p.den * q.den) (k := a + b) (μ := μ) (Nat.mul_ne_zero p.den_nz q.den_nz) (by simpa [Int.natAbs_mul] using hd) (by omega)
  rw [← Rat.add_def] at e
  push_cast at e
  simp [b_add, h0', h1', c1, c2, c3, e]
theorem l_turned {q : Rat} {μ : DM} : f_turned [FR q] μ = .ok (FR (-q)) μ := by
  refine run_rt rfl ?_
  simp [b_turned, FR, Rat.neg_num, Rat.neg_den]
theorem l_take {p q : Rat} {a b : Nat} {μ : DM} (hp : Sz a p) (hq : Sz b q) (hs : a + b < 8000) : f_take [FR p, FR q] μ = .ok (FR (p - q)) μ := by
  refine run_rt rfl ?_
  simp [b_take, l_turned, l_add hp hq.neg hs, Rat.sub_eq_add_neg]
theorem l_is_at_most {p q : Rat} {a b : Nat} {μ : DM} (hp : Sz a p) (hq : Sz b q) (hs : a + b < 900000) : f_is_at_most [FR p, FR q] μ = .ok (.bl (decide (p ≤ q))) μ := by
  obtain ⟨c1, c2, c3⟩ := CMw_den hp hq (by omega)
  refine run_rt rfl ?_
  simp [b_is_at_most, c1, c2, Rat.le_iff]
theorem l_total {L : List Rat} {a : Nat} {μ : DM} (h : ∀ q ∈ L, Sz a q) (hs : (a + 1) * (L.length + 2) < 7000) : f_total [.tup (L.map FR)] μ = .ok (FR L.sum) μ := by
  refine run_rt rfl ?_
  obtain ⟨ρ', h1, x, k, w, h2, _, _, h3, _⟩ := for_ind (enc := FR) (s := (L.map FR, none)) (t := tgN 2) (b := sAsg (mCall 2 f_add (mCons (mVar 1) (mCons (mVar 2) (mNil)))) (tgN 1)) (μ := μ)
    (fun l ρ => ∃ (x : Rat) (k : Nat) (w : Option DV), ρ = [some (.tup (L.map FR)), some (FR x), w] ∧ Sz k x ∧ k + (a + 1) * l.length < 7000 ∧ x + l.sum = L.sum ∧ ∀ q ∈ l, Sz a q) rfl
    (fun q l ρ ⟨x, k, w, e, hx, hk, e2, hl⟩ => by
      subst e
      have hq := hl q (by simp)
      have hk' : k + (a + 1) * l.length + (a + 1) < 7000 := by simpa [Nat.mul_add, Nat.add_assoc] using hk
      refine ⟨_, _, rfl, ?_, x + q, k + a + 1, some (FR q), rfl, hx.add hq, by omega, ?_, fun r hr => hl r (by simp [hr])⟩
      · simp [l_add hx hq (by omega)]
      · rw [← e2, List.sum_cons, Rat.add_assoc])
    L [some (.tup (L.map FR)), some (FR 0), none] ⟨0, 1, none, rfl, Sz.zero, by simp [Nat.mul_add] at hs ⊢; omega, by simp [Rat.zero_add], h⟩
  subst h2
  simp [b_total]
  rw [FR_zero] at h1
  simp [h1]
  rw [← h3]
  simp [Rat.add_zero]
/-! ### the law's own -/
theorem l_lpart {n : Int} {d k l : Nat} {μ : DM} (h : d ≠ 0) (hn : n.natAbs < 2 ^ l) (hd : d < 2 ^ k) (hk : k < 9000) (hl : l < 900000) : f__law_part [.int n, .int d] μ = .ok (FR (Rat.normalize n d h)) μ := by
  have hg : 0 < Nat.gcd n.natAbs d := Nat.gcd_pos_of_pos_right _ (Nat.pos_of_ne_zero h)
  have hgd : Nat.gcd n.natAbs d < 2 ^ k := Nat.lt_of_le_of_lt (Nat.gcd_le_right _ (Nat.pos_of_ne_zero h)) hd
  have ha : (if n < 0 then -n else n) = ((n.natAbs : Nat) : Int) := by split <;> omega
  obtain ⟨e1, e2⟩ := norm_num (n := n) h
  have hw := while_inv (P := { nx := fun ρ μ' => ρ = [some (.int n), some (.int d), some (.int (Nat.gcd n.natAbs d : Nat)), some (.int 0)] ∧ μ' = μ })
    (fun m ρ μ' => ∃ a b : Nat, ρ = [some (.int n), some (.int d), some (.int a), some (.int b)] ∧ μ' = μ ∧ Nat.gcd a b = Nat.gcd n.natAbs d ∧ m = euM a b)
    (t := mBl (mOp qGt (mVar 3) (mC (.int 0)))) (b := sPar 2 3 (mCons (mVar 3) (mCons (mOp qMod (mInt (mVar 2)) (mVar 3)) (mNil))))
    (fun m ρ μ' ⟨a, b, e, e', g, hm⟩ => by
      subst e e' hm
      by_cases hb : 0 < b
      · have hb' : CNe (a : Int) (b : Int) := by unfold CNe; omega
        simp [hb, hb', fmod_nat]
        exact ⟨euM b (a % b), euM_lt hb, b, a % b, ⟨rfl, rfl⟩, by rw [← g, Nat.gcd_comm a b, Nat.gcd_rec b a, Nat.gcd_comm], rfl⟩
      · have : b = 0 := by omega
        subst this
        simp at g
        simp [g])
    WF (euM n.natAbs d) [some (.int n), some (.int d), some (.int n.natAbs), some (.int d)] μ
    (by have := euM_le hn hd; show _ < 1000000; omega) ⟨n.natAbs, d, rfl, rfl, rfl, rfl⟩
  generalize hr : sWhile (mBl (mOp qGt (mVar 3) (mC (.int 0)))) (sPar 2 3 (mCons (mVar 3) (mCons (mOp qMod (mInt (mVar 2)) (mVar 3)) (mNil)))) WF [some (.int n), some (.int d), some (.int n.natAbs), some (.int d)] μ = r at hw
  cases r <;> simp at hw
  obtain ⟨w1, w2⟩ := hw
  subst w1 w2
  refine run_rt rfl ?_
  simp only [b__law_part, x_seq]
  simp [ha] at hr ⊢
  simp [hr, CDv_of hg hgd hk, FR, e1, e2]
structure HOk (n : Nat) (C HD : DC) : Prop where
  ex : ∃ (cells : List Int) (i : Nat) (cur s cnt : Int), C = .lst (cells.map .int) ∧ (∀ c ∈ cells, 0 ≤ c) ∧ HD = .lst [.ref 1, .int i, .int cur, .int s, .int cnt] ∧ 0 ≤ cur ∧ 0 ≤ s ∧ s < 2147483647 ∧ 0 ≤ cnt ∧ cnt ≤ n
theorem HOk.mono {n m : Nat} {C HD : DC} (h : HOk n C HD) (hm : n ≤ m) : HOk m C HD := by
  obtain ⟨a, b, c, d, e, h1, h2, h3, h4, h5, h6, h7, h8⟩ := h.ex
  exact ⟨a, b, c, d, e, h1, h2, h3, h4, h5, h6, h7, by omega⟩
theorem fmod_lt {a m : Int} (hm : 0 < m) : 0 ≤ a.fmod m ∧ a.fmod m < m := ⟨Int.fmod_nonneg_of_pos a hm, Int.fmod_lt_of_pos a hm⟩
theorem CMw_lt {i j : Int} (hi : i.natAbs < 2 ^ 80) (hj : j.natAbs < 2 ^ 80) : CMw i j := CMw_of hi hj (by omega)
def drN (s c : Int) : Int := (((((s + 6007 * c) * 69621).fmod 2147483629 * (((s + 6007 * c) * 69621).fmod 2147483629 / 1013 + 48271)).fmod 2147483647) * (((((s + 6007 * c) * 69621).fmod 2147483629 * (((s + 6007 * c) * 69621).fmod 2147483629 / 1013 + 48271)).fmod 2147483647) / 2011 + 16807)).fmod 2147483587 / 32
theorem l_draw {n : Nat} {m : Int} {X C HD : DC} {rest : DM} (h : HOk n C HD) (hm : 0 < m) (hm2 : m < 2 ^ 62) (hn : n < 2 ^ 60) :
    ∃ d HD', f__law_draw [.ref 2, .int m] (X :: C :: HD :: rest) = .ok (.int d) (X :: C :: HD' :: rest) ∧ 0 ≤ d ∧ d < m ∧ HOk (n + 1) C HD' := by
  obtain ⟨cells, i, cur, s, cnt, rfl, hc, rfl, h4, h5, h6, h7, h8⟩ := h.ex
  have q1 : CMw s 48271 := CMw_lt (by omega) (by omega)
  have q2 : CMw 6007 (cnt + 1) := CMw_lt (by omega) (by omega)
  have cm : ∀ a : Int, CNe a 2147483647 ∧ CNe a 2147483629 ∧ CNe a 2147483587 ∧ CNe a m := fun a => ⟨by unfold CNe; omega, by unfold CNe; omega, by unfold CNe; omega, by unfold CNe; omega⟩
  have cd : ∀ a : Int, CDv a 1013 ∧ CDv a 2011 ∧ CDv a 32 ∧ CDv a m := fun a => ⟨CDv_of (n := 1013) (a := 62) (by omega) (by omega) (by omega), CDv_of (n := 2011) (a := 62) (by omega) (by omega) (by omega), CDv_of (n := 32) (a := 62) (by omega) (by omega) (by omega), by
    have := CDv_of (i := a) (n := m.toNat) (a := 62) (by omega) (by omega) (by omega)
    rwa [Int.toNat_of_nonneg (by omega)] at this⟩
  have cp : CPw 10 18 := by unfold CPw; omega
  have t1 : CMw (s + 6007 * (cnt + 1)) 69621 := CMw_lt (by omega) (by omega)
  have t1' : ∀ a : Int, CMw (a.fmod 2147483647 + 6007 * (cnt + 1)) 69621 := fun a => by
    have := fmod_lt (a := a) (m := 2147483647) (by omega)
    exact CMw_lt (by omega) (by omega)
  have t2 : ∀ a : Int, CMw (a.fmod 2147483629) (a.fmod 2147483629 / 1013 + 48271) := fun a => by
    have := fmod_lt (a := a) (m := 2147483629) (by omega)
    exact CMw_lt (by omega) (by omega)
  have t3 : ∀ a : Int, CMw (a.fmod 2147483647) (a.fmod 2147483647 / 2011 + 16807) := fun a => by
    have := fmod_lt (a := a) (m := 2147483647) (by omega)
    exact CMw_lt (by omega) (by omega)
  have e10 : (10 : Int) ^ (18 : Int).toNat = 1000000000000000000 := by decide
  by_cases hA : cur = 0 ∧ i < cells.length
  · obtain ⟨hA1, hA2⟩ := hA
    subst hA1
    have hcell : (cells.map DV.int)[i]? = some (.int cells[i]) := by simp [hA2]
    have hcp := hc cells[i] (List.getElem_mem _)
    have hs := fmod_lt (a := s * 48271 + cells[i] + 13) (m := 2147483647) (by omega)
    by_cases hB : 1000000000000000000 ≤ cells[i]
    · refine ⟨cells[i].fmod m, .lst [.ref 1, .int (i + 1), .int (cells[i] / m), .int ((s * 48271 + cells[i] + 13).fmod 2147483647), .int cnt], ?_, (fmod_lt hm).1, (fmod_lt hm).2, ?_⟩
      · refine run_rtL rfl (by simp) ?_
        have hp : 0 < cells[i] := by omega
        simp [b__law_draw, gIx, DV.seq, atI, ixN, hA2, hcell, q1, cm, cp, e10, hB, cd, hp]
      · exact ⟨cells, i + 1, _, _, _, rfl, hc, by push_cast; rfl, Int.ediv_nonneg hcp (by omega), hs.1, hs.2, h7, by omega⟩
    · refine ⟨(drN ((s * 48271 + cells[i] + 13).fmod 2147483647) (cnt + 1)).fmod m, .lst [.ref 1, .int (i + 1), .int 0, .int ((s * 48271 + cells[i] + 13).fmod 2147483647), .int (cnt + 1)], ?_, (fmod_lt hm).1, (fmod_lt hm).2, ?_⟩
      · refine run_rtL rfl (by simp) ?_
        simp [b__law_draw, gIx, DV.seq, atI, ixN, hA2, hcell, q1, q2, cm, cp, e10, hB, cd, t1', t2, t3, drN]
      · exact ⟨cells, i + 1, _, _, _, rfl, hc, by push_cast; rfl, by omega, hs.1, hs.2, by omega, by omega⟩
  · by_cases hB : 0 < cur
    · refine ⟨cur.fmod m, .lst [.ref 1, .int i, .int (cur / m), .int s, .int cnt], ?_, (fmod_lt hm).1, (fmod_lt hm).2, ?_⟩
      · refine run_rtL rfl (by simp) ?_
        have hp : ¬ cur = 0 := by omega
        simp [b__law_draw, gIx, DV.seq, atI, ixN, cm, cd, hp, hB]
      · exact ⟨cells, i, _, _, _, rfl, hc, rfl, Int.ediv_nonneg h4 (by omega), h5, h6, h7, by omega⟩
    · have hz : cur = 0 := by omega
      subst hz
      have hi : ¬ i < cells.length := fun z => hA ⟨rfl, z⟩
      refine ⟨(drN s (cnt + 1)).fmod m, .lst [.ref 1, .int i, .int 0, .int s, .int (cnt + 1)], ?_, (fmod_lt hm).1, (fmod_lt hm).2, ?_⟩
      · refine run_rtL rfl (by simp) ?_
        simp [b__law_draw, gIx, DV.seq, atI, ixN, hi, q2, cm, cd, t1, t2, t3, drN]
      · exact ⟨cells, i, _, _, _, rfl, hc, rfl, by omega, h5, h6, by omega, by omega⟩
theorem l_hand {ns : List Int} (h : ns.length ≤ 63) : ∃ X C HD, f__law_hand [.kl (ns.map .int)] [] = .ok (.ref 2) [X, C, HD] ∧ HOk 0 C HD := by
  have e1 : cutD (ns.map DV.int) none (some 63) = ns.map .int := by
    have := cut_to (xs := ns.map DV.int) (k := 63)
    rw [List.take_of_length_le (by simpa using h)] at this
    exact this
  have el := lc_map (μ0 := []) (μ := [.lst (ns.map .int)]) DV.int ns (fun z => DV.int (if z < 0 then -z else z)) (vs := [2]) (mi := mIt (mSl (mVar 0) (mNoP) (mP (mC (.int 63))))) (ρ := [some (.kl (ns.map .int)), none, none]) (t := tgN 2) (te := mAbs (mInt (mVar 2))) (c := some 0)
    (by simp [e1]) (by simp [okAt]) (by simp; omega) (fun z _ => ⟨_, rfl, by simp [wipeD]⟩)
  refine ⟨.lst (ns.map .int), .lst (ns.map fun z => DV.int (if z < 0 then -z else z)), .lst [.ref 1, .int 0, .int 0, .int (41 + 7 * ns.length), .int 0], ?_, ?_⟩
  · have hq : CMw 7 (ns.length : Int) := CMw_lt (by omega) (by omega)
    unfold f__law_hand runFn
    simp [b__law_hand, el, DV.seq, hq]
    unfold tidy
    rw [if_neg (fun z => by have := z.1; simp [DV.und] at this)]
  · exact ⟨ns.map fun z => if z < 0 then -z else z, 0, 0, _, 0, by simp [Function.comp_def], fun c hc => by
      obtain ⟨z, _, rfl⟩ := List.mem_map.mp hc
      split <;> omega, rfl, by omega, by omega, by omega, by omega, by omega⟩
theorem seq_step {P : EP} {s n : SM} {ρ ρ' : DE} {μ μ' : DM} (h : s ρ μ = .nx ρ' μ') (k : OkS P (n ρ' μ')) : OkS P (sSeq s n ρ μ) := by
  unfold sSeq
  rw [h]
  exact k
theorem seq_thn {P : EP} {s n : SM} {ρ : DE} {μ : DM} (h : OkS { P with nx := fun ρ μ => OkS P (n ρ μ) } (s ρ μ)) : OkS P (sSeq s n ρ μ) := by
  rw [x_seq, okS_thn]
  exact h
theorem go_nil {s : Src} {t : GM} {b : SM} {ρ : DE} {μ : DM} (hok : okAt s.2 s.1 μ = true) : sFor.go t b s [] ρ μ = .nx ρ μ := by
  simp [sFor.go, hok]
theorem go_cons {s : Src} {t : GM} {b : SM} {x : DV} {l : List DV} {ρ ρ1 ρ2 : DE} {μ μ2 : DM} (hok : okAt s.2 s.1 μ = true) (ht : t x ρ μ = some ρ1) (hb : b ρ1 μ = .nx ρ2 μ2) : sFor.go t b s (x :: l) ρ μ = sFor.go t b s l ρ2 μ2 := by
  rw [sFor.go]
  simp only [if_pos hok, ht, hb]
theorem tidy_hand {n : Nat} {X C HD HD' : DC} {rest t : DM} {v : DV} (hv : v.und (rest.length + 3) = true) (h : HOk n C HD') : tidy (X :: C :: HD :: rest) v (X :: C :: HD' :: (rest ++ t)) = .ok v (X :: C :: HD' :: rest) := by
  have e : X :: C :: HD' :: (rest ++ t) = (X :: C :: HD' :: rest) ++ t := rfl
  rw [e]
  obtain ⟨cells, i, cur, s, cnt, _, _, rfl, _⟩ := h.ex
  unfold tidy
  rw [if_pos]
  · simp
  · refine ⟨by simpa using hv, by simp, fun i hi => ?_⟩
    rw [List.getElem?_append_left (by simpa using hi)]
    match i with
    | 0 => exact .inl rfl
    | 1 => exact .inl rfl
    | 2 => right; simp [DC.und, DV.undL, DV.und]
    | i + 3 => exact .inl rfl
/-- a list that lies further back in the store -/
theorem st_get {X C H a : DC} {R T : DM} : (X :: C :: H :: (R ++ a :: T))[R.length + 3]? = some a := by simp
theorem st_set {X C H a b : DC} {R T : DM} : (X :: C :: H :: (R ++ a :: T)).set (R.length + 3) b = X :: C :: H :: (R ++ b :: T) := by simp
mutual
theorem rsW_pure {f : Nat → Option DV} : ∀ v : DV, v.pure = true → rsW f v = some v
  | .ref _, h => by cases h
  | .tup xs, h => by
    have := rsWL_pure (f := f) xs h
    simp only [rsW, this, Option.map_some]
  | .kl xs, h => by
    have := rsWL_pure (f := f) xs h
    simp only [rsW, this, Option.map_some]
  | .non, _ => rfl
  | .bl _, _ => rfl
  | .int _, _ => rfl
  | .str _, _ => rfl
theorem rsWL_pure {f : Nat → Option DV} : ∀ xs : List DV, DV.pureL xs = true → rsWL f xs = some xs
  | [], _ => rfl
  | x :: xs, h => by
    simp only [DV.pureL, Bool.and_eq_true] at h
    simp only [rsWL, rsW_pure x h.1, rsWL_pure xs h.2]
end
theorem rsv_pure {v : DV} {μ : DM} (h : v.pure = true) : rsv μ v = some v := rsW_pure v h
theorem rsv_lst {n : Nat} {xs : List DV} {μ : DM} (hn : μ[n]? = some (.lst xs)) (h : DV.pureL xs = true) : rsv μ (.ref n) = some (.kl xs) := by
  show rsR μ 4 n = _
  rw [rsR, hn]
  simp only [rsWL_pure xs h]
  rfl
theorem gEq_lst {neg : Bool} {a b : Nat} {xs ys : List DV} {μ : DM} (ha : μ[a]? = some (.lst xs)) (hb : μ[b]? = some (.lst ys)) (hx : DV.pureL xs = true) (hy : DV.pureL ys = true) (dx : DV.dpL xs ≤ 60) (dy : DV.dpL ys ≤ 60) :
    gEq neg (.ref a) (.ref b) μ = .ok (.bl (if neg then !dEqL xs ys else dEqL xs ys)) μ := by
  simp only [gEq, rsv_lst ha hx, rsv_lst hb hy]
  rw [if_pos ⟨by show DV.dpL xs + 1 ≤ 64; omega, by show DV.dpL ys + 1 ≤ 64; omega⟩]
  rfl
theorem gEq_pure {neg : Bool} {u v : DV} {μ : DM} (hx : u.pure = true) (hy : v.pure = true) (dx : u.dp ≤ 60) (dy : v.dp ≤ 60) :
    gEq neg u v μ = .ok (.bl (if neg then !dEq u v else dEq u v)) μ := by
  simp only [gEq, rsv_pure hx, rsv_pure hy]
  rw [if_pos ⟨by omega, by omega⟩]
/-! ### _law_kept -/
mutual
def dpt : DV → Nat
  | .tup xs => dptL xs + 1
  | .kl xs => dptL xs + 1
  | _ => 0
def dptL : List DV → Nat
  | [] => 0
  | x :: xs => max (dpt x) (dptL xs)
end
theorem dpt_mem : ∀ {xs : List DV} {x : DV}, x ∈ xs → dpt x ≤ dptL xs
  | y :: ys, x, h => by
    rcases List.mem_cons.mp h with h | h
    · subst h; simp only [dptL]; omega
    · have := dpt_mem h
      simp only [dptL]; omega
theorem pure_mem : ∀ {xs : List DV} {x : DV}, DV.pureL xs = true → x ∈ xs → x.pure = true
  | y :: ys, x, hp, h => by
    simp only [DV.pureL, Bool.and_eq_true] at hp
    rcases List.mem_cons.mp h with h | h
    · subst h; exact hp.1
    · exact pure_mem hp.2 h
/-- data of tuples alone -/
inductive Plain : Nat → DV → Prop
  | non {n : Nat} : Plain n .non
  | bl {n : Nat} {b : Bool} : Plain n (.bl b)
  | int {n : Nat} {i : Int} : Plain n (.int i)
  | str {n : Nat} {s : String} : Plain n (.str s)
  | tup {n : Nat} {xs : List DV} (hl : xs.length ≤ 1000000) (h : ∀ x ∈ xs, Plain n x) : Plain (n + 1) (.tup xs)
theorem l_kept_n : ∀ (n : Nat) {v : DV} {μ : DM}, Plain n v → f__law_kept_n (n + 1) [v, v] μ = .ok (.bl true) μ := by
  intro n
  induction n with
  | zero =>
    intro v μ h
    rw [f__law_kept_n]
    refine run_rt rfl ?_
    cases h <;> simp [b__law_kept, isOf, isTy, DV.ty, gIs]
    rename_i b
    cases b <;> simp
  | succ n ih =>
    intro v μ h
    rw [f__law_kept_n]
    refine run_rt rfl ?_
    cases h with
    | non => simp [b__law_kept, isOf, isTy, DV.ty, gIs]
    | bl => rename_i b; cases b <;> simp [b__law_kept, isOf, isTy, DV.ty, gIs]
    | int => simp [b__law_kept, isOf, isTy, DV.ty, gIs]
    | str => simp [b__law_kept, isOf, isTy, DV.ty, gIs]
    | tup hl h =>
      rename_i xs
      have el := lc_map (μ0 := μ) (μ := μ) (fun i : Nat => DV.int (i : Int)) (List.range xs.length) (fun i => DV.bl ((fun _ => true) i)) (vs := [2]) (mi := mItR1 (mLen (mVar 1))) (ρ := [some (.tup xs), some (.tup xs), none]) (t := tgN 2)
        (te := mCall 2 (f__law_kept_n (n + 1)) (mCons (mOp gIx (mVar 0) (mVar 2)) (mCons (mOp gIx (mVar 1) (mVar 2)) (mNil)))) (c := none)
        (by simp [rgS_0 hl]) rfl (by simp; omega) (fun i hi => ⟨_, rfl, by
            have hi' : i < xs.length := by simpa using hi
            have e := gIx_nat (μ := μ) (xs := xs) (k := i) (x := xs[i]) (by simp [hi'])
            simp [wipeD, e, ih (h xs[i] (List.getElem_mem _))]⟩)
      simp [b__law_kept, isOf, isTy, DV.ty, el]
theorem l_kept {n : Nat} {v : DV} {μ : DM} (h : Plain n v) (hn : n ≤ 23) : f__law_kept [v, v] μ = .ok (.bl true) μ := by
  have up : ∀ {n m : Nat} {v : DV}, Plain n v → n ≤ m → Plain m v := by
    intro n m v h
    induction h generalizing m with
    | tup hl _ ih => intro hm; obtain ⟨k, rfl⟩ : ∃ k, m = k + 1 := ⟨m - 1, by omega⟩; exact .tup hl fun x hx => ih x hx (by omega)
    | non => intro _; exact .non
    | bl => intro _; exact .bl
    | int => intro _; exact .int
    | str => intro _; exact .str
  exact l_kept_n 23 (up h hn)
theorem l_lplus {p q : Rat} {a b : Nat} {μ : DM} (hp : Sz a p) (hq : Sz b q) (hs : a + b < 8000) : f__law_plus [FR p, FR q] μ = .ok (FR (p + q)) μ := by
  obtain ⟨c1, c2, c3⟩ := CMw_den hp hq (by omega)
  have hd := Sz.mulI (i := p.den) (j := q.den) (by simpa using hp.den) (by simpa using hq.den)
  have hn : (p.num * q.den + q.num * p.den).natAbs < 2 ^ (a + b + 1) := Sz.addI (Sz.mulI hp.num (by simpa using hq.den)) (by rw [Nat.add_comm a b]; exact Sz.mulI hq.num (by simpa using hp.den))
  have e := l_lpart (n := p.num * q.den + q.num * p.den) (d := p.den * q.den) (k := a + b) (μ := μ) (Nat.mul_ne_zero p.den_nz q.den_nz) hn (by simpa [Int.natAbs_mul] using hd) (by omega) (by omega)
  rw [← Rat.add_def] at e
  push_cast at e
  refine run_rt rfl ?_
  simp [b__law_plus, c1, c2, c3, e]
theorem l_lminus {p q : Rat} {a b : Nat} {μ : DM} (hp : Sz a p) (hq : Sz b q) (hs : a + b < 8000) : f__law_minus [FR p, FR q] μ = .ok (FR (p - q)) μ := by
  obtain ⟨c1, c2, c3⟩ := CMw_den hp hq (by omega)
  have hd := Sz.mulI (i := p.den) (j := q.den) (by simpa using hp.den) (by simpa using hq.den)
  have hn : (p.num * q.den - q.num * p.den).natAbs < 2 ^ (a + b + 1) := by
    rw [Int.sub_eq_add_neg, ← Int.neg_mul]
    exact Sz.addI (Sz.mulI hp.num (by simpa using hq.den)) (by rw [Nat.add_comm a b]; exact Sz.mulI (by simpa using hq.num) (by simpa using hp.den))
  have e := l_lpart (n := p.num * q.den - q.num * p.den) (d := p.den * q.den) (k := a + b) (μ := μ) (Nat.mul_ne_zero p.den_nz q.den_nz) hn (by simpa [Int.natAbs_mul] using hd) (by omega) (by omega)
  rw [← Rat.sub_def] at e
  push_cast at e
  refine run_rt rfl ?_
  simp [b__law_minus, c1, c2, c3, e]
theorem l_lless {p q : Rat} {a b : Nat} {μ : DM} (hp : Sz a p) (hq : Sz b q) (hs : a + b < 8000) : f__law_less [FR p, FR q] μ = .ok (.bl (decide (p < q))) μ := by
  obtain ⟨c1, c2, c3⟩ := CMw_den hp hq (by omega)
  refine run_rt rfl ?_
  simp [b__law_less, c1, c2, Rat.lt_iff]
theorem l_lsum {L : List Rat} {a : Nat} {μ : DM} {n : Nat} (h : ∀ q ∈ L, Sz a q) (hs : (a + 1) * (L.length + 2) < 7000) (hm : μ[n]? = some (.lst (L.map FR))) : f__law_sum [.ref n] μ = .ok (FR L.sum) μ := by
  refine run_rt rfl ?_
  have hok : okAt (some n) (L.map FR) μ = true := by simp [okAt, hm]
  obtain ⟨ρ', h1, x, k, w, h2, _, _, h3, _⟩ := for_ind (enc := FR) (s := (L.map FR, some n)) (t := tgN 2) (b := sAsg (mCall 2 f__law_plus (mCons (mVar 1) (mCons (mVar 2) (mNil)))) (tgN 1)) (μ := μ)
    (fun l ρ => ∃ (x : Rat) (k : Nat) (w : Option DV), ρ = [some (.ref n), some (FR x), w] ∧ Sz k x ∧ k + (a + 1) * l.length < 7000 ∧ x + l.sum = L.sum ∧ ∀ q ∈ l, Sz a q) hok
    (fun q l ρ ⟨x, k, w, e, hx, hk, e2, hl⟩ => by
      subst e
      have hq := hl q (by simp)
      have hk' : k + (a + 1) * l.length + (a + 1) < 7000 := by simpa [Nat.mul_add, Nat.add_assoc] using hk
      refine ⟨_, _, rfl, ?_, x + q, k + a + 1, some (FR q), rfl, hx.add hq, by omega, ?_, fun r hr => hl r (by simp [hr])⟩
      · simp [l_lplus hx hq (by omega)]
      · rw [← e2, List.sum_cons, Rat.add_assoc])
    L [some (.ref n), some (FR 0), none] ⟨0, 1, none, rfl, Sz.zero, by simp [Nat.mul_add] at hs ⊢; omega, by simp [Rat.zero_add], h⟩
  subst h2
  rw [FR_zero] at h1
  simp [b__law_sum, hm, h1]
  rw [← h3]
  simp [Rat.add_zero]
theorem l_is_integer {i : Int} {μ : DM} : f_is_integer [.int i] μ = .ok (.bl true) μ := by
  refine run_rt rfl ?_
  simp [b_is_integer, isOf, isTy, DV.ty]
theorem beq_nn {a b : Nat} : ((a : Int) == (b : Int)) = decide (a = b) := by
  by_cases h : a = b
  · simp [h]
  · have : ¬ (a : Int) = (b : Int) := by omega
    simp [h, this]
theorem beq_n1 {a : Nat} : ((a : Int) == 1) = decide (a = 1) := beq_nn (b := 1)
theorem l_is_tuple_of {xs : List DV} {n : Nat} {μ : DM} : f_is_tuple_of [.tup xs, .int n] μ = .ok (.bl (decide (xs.length = n))) μ := by
  refine run_rt rfl ?_
  simp [b_is_tuple_of, isOf, isTy, DV.ty, beq_nn]
theorem l_is_tuple_no {v : DV} {n : Nat} {μ : DM} (h : v.ty ≠ "tuple") (hr : ∀ k, v ≠ .ref k) : f_is_tuple_of [v, .int n] μ = .ok (.bl false) μ := by
  refine run_rt rfl ?_
  cases v <;> first | (exact absurd rfl h) | (exact absurd rfl (hr _)) | simp [b_is_tuple_of, isOf, isTy, DV.ty]
theorem l_is_tuple_ref {k n : Nat} {μ : DM} (h : k < μ.length) : f_is_tuple_of [.ref k, .int n] μ = .ok (.bl false) μ := by
  refine run_rt rfl ?_
  simp [b_is_tuple_of, isOf, isTy, h]
/-- on two whole numbers, the lower one above 0 or not -/
theorem l_is_fraction2 {a b : Int} {μ : DM} : f_is_fraction [.tup [.int a, .int b]] μ = .ok (.bl (decide (0 < b ∧ Nat.gcd a.natAbs b.natAbs = 1))) μ := by
  refine run_rt rfl ?_
  have el := lc_map (μ0 := μ) (μ := μ) DV.int [a, b] (fun i => DV.bl ((fun _ => true) i)) (vs := [1]) (mi := mIt (mVar 0)) (ρ := [some (.tup [.int a, .int b]), none]) (t := tgN 1)
    (te := mCall 1 f_is_integer (mCons (mVar 1) (mNil))) (c := none) (by simp) rfl (by simp) (fun i hi => ⟨_, rfl, by simp [wipeD, l_is_integer]⟩)
  have e2 := l_is_tuple_of (xs := [.int a, .int b]) (n := 2) (μ := μ)
  have ha : (if a < 0 then -a else a).natAbs = a.natAbs := by split <;> omega
  have e3 := g_all (μ := μ) (f := fun _ : Int => true) (L := [a, b])
  simp only [List.map_cons, List.map_nil] at el e3
  simp at e2 e3
  by_cases hb : 0 < b
  · simp [b_is_fraction, e2, el, e3, ha, hb, beq_n1]
  · simp [b_is_fraction, e2, el, e3, hb]
theorem l_is_fraction {q : Rat} {μ : DM} : f_is_fraction [FR q] μ = .ok (.bl true) μ := by
  have := l_is_fraction2 (a := q.num) (b := q.den) (μ := μ)
  have h1 := q.reduced
  have h2 := q.den_pos
  unfold Nat.Coprime at h1
  rw [FR, this]
  simp [h1, h2]
theorem l_is_share {q : Rat} {μ : DM} : f_is_share [FR q] μ = .ok (.bl (decide (0 ≤ q ∧ q ≤ 1))) μ := by
  refine run_rt rfl ?_
  have h1 : (0 ≤ q) ↔ 0 ≤ q.num := Rat.num_nonneg.symm
  have h2 : (q ≤ 1) ↔ q.num ≤ q.den := by rw [Rat.le_iff]; simp
  by_cases h : 0 ≤ q.num
  · simp [b_is_share, l_is_fraction, h1, h2, h]
  · simp [b_is_share, l_is_fraction, h1, h2, h]
abbrev ST := Rat × Rat
def PR (x : ST) : DV := .tup [FR x.1, FR x.2]
def PC (L : List ST) : DV := .tup (L.map PR)
structure SP (k : Nat) (x : ST) : Prop where
  a : Sz k x.1
  b : Sz k x.2
def okSt (x : ST) : Bool := decide (0 ≤ x.1 ∧ x.1 ≤ x.2 ∧ x.2 ≤ 1)
theorem okSt_iff {x : ST} : okSt x = true ↔ 0 ≤ x.1 ∧ x.1 ≤ x.2 ∧ x.2 ≤ 1 := by simp [okSt]
def chB (L : List ST) : Bool := (List.range' 1 (L.length - 1)).all fun i => decide ((L.getD (i - 1) (0, 0)).2 ≤ (L.getD i (0, 0)).1)
def pcB (L : List ST) : Bool := decide (L.length ≤ 60) && L.all okSt && chB L
@[simp] theorem PR_ix0 {x : ST} {μ : DM} : gIx (PR x) (.int 0) μ = .ok (FR x.1) μ := gIx_0
@[simp] theorem PR_ix1 {x : ST} {μ : DM} : gIx (PR x) (.int 1) μ = .ok (FR x.2) μ := gIx_1
theorem l_is_stretch {x : ST} {k : Nat} {μ : DM} (h : SP k x) (hk : k < 100000) : f_is_stretch [PR x] μ = .ok (.bl (okSt x)) μ := by
  have e2 := l_is_tuple_of (xs := [FR x.1, FR x.2]) (n := 2) (μ := μ)
  simp at e2
  have e3 : f_is_tuple_of [PR x, .int 2] μ = .ok (.bl true) μ := e2
  have e4 := l_is_at_most (μ := μ) h.a h.b (by omega)
  refine run_rt rfl ?_
  by_cases h1 : 0 ≤ x.1 ∧ x.1 ≤ 1
  · by_cases h2 : 0 ≤ x.2 ∧ x.2 ≤ 1
    · simp [b_is_stretch, e3, e4, l_is_share, h1, h2, okSt]
    · simp [b_is_stretch, e3, e4, l_is_share, h1, h2, okSt]
      grind
  · simp [b_is_stretch, e3, e4, l_is_share, h1, okSt]
    grind
theorem PC_ix {L : List ST} {i : Nat} {μ : DM} (h : i < L.length) : gIx (PC L) (.int i) μ = .ok (PR L[i]) μ := gIx_nat (by simp [h])
theorem l_is_piece {L : List ST} {k : Nat} {μ : DM} (h : ∀ x ∈ L, SP k x) (hk : k < 100000) (hl : L.length ≤ 1000000) : f_is_piece [PC L] μ = .ok (.bl (pcB L)) μ := by
  refine run_rt rfl ?_
  have el := lc_map (μ0 := μ) (μ := μ) PR L (fun x => .bl (okSt x)) (vs := [2]) (mi := mIt (mVar 0)) (ρ := [some (PC L), none, none]) (t := tgN 2)
    (te := mCall 1 f_is_stretch (mCons (mVar 2) (mNil))) (c := none) (by simp [PC]) rfl (by simp; omega) (fun x hx => ⟨_, rfl, by simp [wipeD, l_is_stretch (h x hx) hk]⟩)
  have ha := g_all (μ := μ) (f := okSt) (L := L)
  have ec := lc_map (μ0 := μ) (μ := μ) (fun i : Nat => DV.int (i : Int)) (List.range' 1 (L.length - 1)) (fun i => .bl (decide ((L.getD (i - 1) (0, 0)).2 ≤ (L.getD i (0, 0)).1))) (vs := [1]) (mi := mItR2 (mC (.int 1)) (mLen (mVar 0))) (ρ := [some (PC L), none, none]) (t := tgN 1)
    (te := mCall 2 f_is_at_most (mCons (mOp gIx (mOp gIx (mVar 0) (mOp qSub (mVar 1) (mC (.int 1)))) (mC (.int 1))) (mCons (mOp gIx (mOp gIx (mVar 0) (mVar 1)) (mC (.int 0))) (mNil)))) (c := none)
    (by
      have := rgS_nat (μ := μ) (a := 1) (b := L.length) hl (by omega)
      simp at this
      simp [PC, this]) rfl (by simp; omega) (fun i hi => ⟨_, rfl, by
        have hi' : 1 ≤ i ∧ i < L.length := by simp at hi; omega
        have e1 := PC_ix (μ := μ) (L := L) (i := i) hi'.2
        have e0 := PC_ix (μ := μ) (L := L) (i := i - 1) (by omega)
        rw [show ((i - 1 : Nat) : Int) = (i : Int) - 1 from by omega] at e0
        have e4 := l_is_at_most (μ := μ) (h L[i - 1] (List.getElem_mem _)).b (h L[i] (List.getElem_mem _)).a (by omega)
        simp [wipeD, e0, e1, e4, hi'.2, show i - 1 < L.length by omega]⟩)
  have hc := g_all (μ := μ) (f := fun i : Nat => decide ((L.getD (i - 1) (0, 0)).2 ≤ (L.getD i (0, 0)).1)) (L := List.range' 1 (L.length - 1))
  simp only [PC] at el ec
  show b_is_piece [some (.tup (L.map PR)), none, none] μ = _
  by_cases h1 : L.length ≤ 60
  · have h1' : ¬ (60 : Int) < L.length := by omega
    cases h2 : L.all okSt with
    | false =>
      rw [h2] at ha
      simp [b_is_piece, el, ha, h1', pcB, h2, isOf, isTy, DV.ty, h1]
    | true =>
      rw [h2] at ha
      simp only [b_is_piece, x_seq, x_sIf, x_or, x_not, x_tru, x_isi, x_l1F, el, ec, DR.bind_ok, ha, hc, x_sRet]
      simp [el, ha, h1', pcB, h2, isOf, isTy, DV.ty, h1, ec, hc, chB]
  · have h1' : (60 : Int) < L.length := by omega
    simp [b_is_piece, h1', pcB, h1, isOf, isTy, DV.ty]
theorem chB_iff {L : List ST} (h : ∀ x ∈ L, x.1 ≤ x.2) : chB L = true ↔ L.Pairwise fun a b => a.2 ≤ b.1 := by
  rw [List.pairwise_iff_getElem]
  unfold chB
  rw [List.all_eq_true]
  constructor
  · intro c
    have step : ∀ i (hi : i + 1 < L.length), (L[i]'(by omega)).2 ≤ L[i + 1].1 := fun i hi => by
      have := c (i + 1) (by simp; omega)
      simpa [hi, show i < L.length by omega] using this
    have key : ∀ d i (hi : i + d + 1 < L.length), (L[i]'(by omega)).2 ≤ (L[i + d + 1]).1 := by
      intro d
      induction d with
      | zero => intro i hi; exact step i hi
      | succ d ih =>
        intro i hi
        have a1 := ih i (by omega)
        have a2 := step (i + d + 1) (by omega)
        have a3 := h (L[i + d + 1]) (List.getElem_mem _)
        have a4 : L[i + (d + 1) + 1] = L[i + d + 1 + 1] := rfl
        rw [a4]
        grind
    intro i j hi hj hij
    have := key (j - i - 1) i (by omega)
    have e : i + (j - i - 1) + 1 = j := by omega
    simpa [e] using this
  · intro c i hi
    simp at hi
    have := c (i - 1) i (by omega) (by omega) (by omega)
    simpa [show i - 1 < L.length by omega, show i < L.length by omega] using this
theorem pcB_iff {L : List ST} : pcB L = true ↔ L.length ≤ 60 ∧ (∀ x ∈ L, 0 ≤ x.1 ∧ x.1 ≤ x.2 ∧ x.2 ≤ 1) ∧ L.Pairwise fun a b => a.2 ≤ b.1 := by
  unfold pcB
  simp only [Bool.and_eq_true, decide_eq_true_eq, List.all_eq_true, okSt_iff]
  constructor
  · rintro ⟨⟨h1, h2⟩, h3⟩
    exact ⟨h1, h2, (chB_iff fun x hx => (h2 x hx).2.1).mp h3⟩
  · rintro ⟨h1, h2, h3⟩
    exact ⟨⟨h1, h2⟩, (chB_iff fun x hx => (h2 x hx).2.1).mpr h3⟩
def lexB (x y : ST) : Bool := if x.1 = y.1 then decide (x.2 ≤ y.2) else decide (x.1 ≤ y.1)
theorem l_need_ok {L : List ST} {k : Nat} {μ : DM} (h : ∀ x ∈ L, SP k x) (hk : k < 100000) (hl : L.length ≤ 1000000) (hp : pcB L = true) : f_need_piece [PC L] μ = .ok .non μ := by
  refine run_nx (ρ := [some (PC L)]) rfl ?_
  simp [b_need_piece, l_is_piece h hk hl, hp]
theorem l_need_no {v : DV} {μ : DM} (h : f_is_piece [v] μ = .ok (.bl false) μ) : f_need_piece [v] μ = .ex { cls := "NoPiece" } μ := by
  refine run_ex (ρ := [some v]) rfl ?_
  simp [b_need_piece, h]
theorem PC_pure {L : List ST} : (PC L).pure = true := by
  show DV.pureL (L.map PR) = true
  induction L with
  | nil => rfl
  | cons x l ih => rw [List.map_cons, DV.pureL, ih]; rfl
def PTI (A B : List ST) (μ : DM) (m : Nat) (ρ : DE) (μ' : DM) : Prop := ∃ (i j : Nat) (F : List ST), ρ = [some (PC A), some (PC B), some (.ref μ.length), some (.int i), some (.int j)] ∧ μ' = μ ++ [.lst (F.map PR)] ∧ i ≤ A.length ∧ j ≤ B.length ∧ F.length = i + j ∧ F ++ (A.drop i).merge (B.drop j) lexB = A.merge B lexB ∧ m = (A.length - i) + (B.length - j)
abbrev NoP : DX := { cls := "NoPiece" }
theorem merge_mem {A B : List ST} {x : ST} (h : x ∈ A.merge B lexB) : x ∈ A ∨ x ∈ B := by
  have := (List.merge_perm_append lexB (xs := A) (ys := B)).mem_iff.mp h
  simpa using this
theorem merge_len {A B : List ST} : (A.merge B lexB).length = A.length + B.length := by
  have := (List.merge_perm_append lexB (xs := A) (ys := B)).length_eq
  simpa using this
theorem l_totalR {L : List Rat} {a n : Nat} {μ : DM} (h : ∀ q ∈ L, Sz a q) (hs : (a + 1) * (L.length + 2) < 7000) (hm : μ[n]? = some (.lst (L.map FR))) : f_total [.ref n] μ = .ok (FR L.sum) μ := by
  refine run_rt rfl ?_
  have hok : okAt (some n) (L.map FR) μ = true := by simp [okAt, hm]
  obtain ⟨ρ', h1, x, k, w, h2, _, _, h3, _⟩ := for_ind (enc := FR) (s := (L.map FR, some n)) (t := tgN 2) (b := sAsg (mCall 2 f_add (mCons (mVar 1) (mCons (mVar 2) (mNil)))) (tgN 1)) (μ := μ)
    (fun l ρ => ∃ (x : Rat) (k : Nat) (w : Option DV), ρ = [some (.ref n), some (FR x), w] ∧ Sz k x ∧ k + (a + 1) * l.length < 7000 ∧ x + l.sum = L.sum ∧ ∀ q ∈ l, Sz a q) hok
    (fun q l ρ ⟨x, k, w, e, hx, hk, e2, hl⟩ => by
      subst e
      have hq := hl q (by simp)
      have hk' : k + (a + 1) * l.length + (a + 1) < 7000 := by simpa [Nat.mul_add, Nat.add_assoc] using hk
      refine ⟨_, _, rfl, ?_, x + q, k + a + 1, some (FR q), rfl, hx.add hq, by omega, ?_, fun r hr => hl r (by simp [hr])⟩
      · simp [l_add hx hq (by omega)]
      · rw [← e2, List.sum_cons, Rat.add_assoc])
    L [some (.ref n), some (FR 0), none] ⟨0, 1, none, rfl, Sz.zero, by simp [Nat.mul_add] at hs ⊢; omega, by simp [Rat.zero_add], h⟩
  subst h2
  rw [FR_zero] at h1
  simp [b_total, hm, h1]
  rw [← h3]
  simp [Rat.add_zero]
def lens (L : List ST) : List Rat := L.map fun x => x.2 - x.1
theorem lexB_iff {x y : ST} : lexB x y = true ↔ (x.1 = y.1 ∧ x.2 ≤ y.2) ∨ x.1 < y.1 := by
  unfold lexB
  split <;> simp <;> grind
theorem lex_trans (a b c : ST) : lexB a b = true → lexB b c = true → lexB a c = true := by
  simp only [lexB_iff]
  grind
theorem lex_total (a b : ST) : (lexB a b || lexB b a) = true := by
  rw [Bool.or_eq_true, lexB_iff, lexB_iff]
  grind
theorem lex_anti (a b : ST) (h1 : lexB a b = true) (h2 : lexB b a = true) : a = b := by
  rw [lexB_iff] at h1 h2
  have : a.1 = b.1 ∧ a.2 = b.2 := by grind
  exact Prod.ext this.1 this.2
abbrev LexS (L : List ST) : Prop := L.Pairwise fun a b => lexB a b = true
theorem lex_uni {L M : List ST} (hL : LexS L) (hM : LexS M) (hp : L.Perm M) : L = M := hp.eq_of_pairwise (fun a b _ _ => lex_anti a b) hL hM
theorem lex_merge {A B : List ST} (hA : LexS A) (hB : LexS B) : LexS (A.merge B lexB) := List.pairwise_merge lex_trans lex_total A B hA hB
theorem piece_lex {L : List ST} (h : ∀ x ∈ L, x.1 ≤ x.2) (hp : L.Pairwise fun a b => a.2 ≤ b.1) : LexS L := by
  induction hp with
  | nil => exact .nil
  | cons h1 h2 ih =>
    rename_i a l
    refine .cons (fun b hb => ?_) (ih fun x hx => h x (List.mem_cons_of_mem _ hx))
    have := h1 b hb
    have e1 := h a (by simp)
    have e2 := h b (List.mem_cons_of_mem _ hb)
    rw [lexB_iff]
    grind
/-- one more put in -/
def insL (F : List ST) (s : ST) : List ST := F.take (F.filter fun x => lexB x s).length ++ [s] ++ F.drop (F.filter fun x => lexB x s).length
theorem ins_perm {F : List ST} {s : ST} : (insL F s).Perm (s :: F) := by
  unfold insL
  rw [List.append_assoc]
  refine List.perm_append_comm_assoc _ _ _ |>.trans ?_
  rw [List.take_append_drop]
  exact .refl _
theorem ins_sorted : ∀ {F : List ST} {s : ST}, LexS F → LexS (insL F s) ∧ ∀ x ∈ F.take (F.filter fun x => lexB x s).length, lexB x s = true
  | [], s, _ => by simp [insL]
  | x :: F, s, h => by
    obtain ⟨h1, h2⟩ := List.pairwise_cons.mp h
    obtain ⟨i1, i2⟩ := ins_sorted (s := s) h2
    by_cases hx : lexB x s = true
    · have e : insL (x :: F) s = x :: insL F s := by simp [insL, List.filter_cons, hx]
      rw [e]
      refine ⟨.cons (fun y hy => ?_) i1, ?_⟩
      · rcases List.mem_cons.mp (ins_perm.mem_iff.mp hy) with r | r
        · subst r; exact hx
        · exact h1 y r
      · simp [List.filter_cons, hx]
        exact fun a b hm => i2 (a, b) hm
    · have hn : ∀ y ∈ x :: F, lexB y s = false := fun y hy => by
        rcases List.mem_cons.mp hy with r | r
        · subst r; simpa using hx
        · cases q : lexB y s with
          | false => rfl
          | true => exact absurd (lex_trans _ _ _ (h1 y r) q) hx
      have hf : ((x :: F).filter fun y => lexB y s) = [] := List.filter_eq_nil_iff.mpr fun y hy => by simp [hn y hy]
      have e : insL (x :: F) s = s :: x :: F := by simp [insL, hf]
      rw [e, hf]
      refine ⟨.cons (fun y hy => ?_) h, by simp⟩
      have := lex_total y s
      rw [hn y hy] at this
      simpa using this
def LJI (A B : List ST) (μ : DM) (l : List DV) (ρ : DE) (μ' : DM) : Prop := ∃ (D R F : List ST) (f : Nat) (T : DM) (w5 w6 w4 : Option DV), B = D ++ R ∧ l = R.map PR ∧ ρ = [some (PC A), some (PC B), some (.ref f), some (.ref (μ.length + 1)), w4, w5, w6] ∧ μ' = μ ++ [.lst (A.map PR), .lst (B.map PR)] ++ T ∧ μ'[f]? = some (.lst (F.map PR)) ∧ LexS F ∧ F.Perm (A ++ D)
def qn (a b : Nat) : Rat := mkRat a b
theorem qn_norm {a b : Nat} (h : b ≠ 0) : Rat.normalize (a : Int) b h = qn a b := Rat.normalize_eq_mkRat h
theorem qn_mono {a b c : Nat} (h : a ≤ c) : qn a b ≤ qn c b := by
  unfold qn
  rw [Rat.mkRat_eq_div, Rat.mkRat_eq_div, Rat.div_def, Rat.div_def]
  refine Rat.mul_le_mul_of_nonneg_right (by exact_mod_cast h) ?_
  by_cases hb : b = 0
  · subst hb
    simp
  · exact Rat.le_of_lt (Rat.inv_pos.mpr (by exact_mod_cast Nat.pos_of_ne_zero hb))
theorem qn_zero {b : Nat} : qn 0 b = 0 := by
  unfold qn
  exact Rat.zero_mkRat b
theorem qn_one {b : Nat} (h : b ≠ 0) : qn b b = 1 := by
  unfold qn
  rw [Rat.mkRat_eq_div, Rat.div_def]
  exact Rat.mul_inv_cancel _ (by exact_mod_cast h)
theorem qn_sz {a b k : Nat} (h : b ≠ 0) (ha : a < 2 ^ k) (hb : b < 2 ^ k) : Sz k (qn a b) := by
  rw [← qn_norm h]
  exact norm_sz h (by simpa using ha) hb
structure GoodL (b low : Nat) (L : List ST) : Prop where
  sp : ∀ x ∈ L, SP 5 x
  ok : ∀ x ∈ L, 0 ≤ x.1 ∧ x.1 ≤ x.2 ∧ x.2 ≤ qn low b
  pw : L.Pairwise fun a b => a.2 ≤ b.1
def LPI (n most : Nat) (X C : DC) (rest : DM) (l : List DV) (ρ : DE) (μ' : DM) : Prop := ∃ (b low : Nat) (HD' : DC) (L : List ST) (w5 w6 w7 : Option DV), ρ = [some (.ref 2), some (.int most), some (.int b), some (.ref (rest.length + 3)), some (.int low), w5, w6, w7] ∧
  μ' = X :: C :: HD' :: (rest ++ [.lst (L.map PR)]) ∧ HOk (n + 2 + 3 * L.length) C HD' ∧ low ≤ b ∧ 1 ≤ b ∧ b ≤ 24 ∧ L.length + l.length ≤ most ∧ GoodL b low L
theorem l_lpiece {n most : Nat} {X C HD : DC} {rest : DM} (h : HOk n C HD) (hm : most ≤ 20) (hn : n < 2 ^ 50) :
    ∃ L HD', f__law_piece [.ref 2, .int most] (X :: C :: HD :: rest) = .ok (PC L) (X :: C :: HD' :: rest) ∧ HOk (n + 100) C HD' ∧ L.length ≤ most ∧ (∀ x ∈ L, SP 5 x) ∧ pcB L = true := by
  obtain ⟨d1, H1, e1, p1, q1, h1⟩ := l_draw (X := X) (rest := rest) h (m := 24) (by omega) (by omega) (by omega)
  obtain ⟨d1, rfl⟩ := Int.eq_ofNat_of_zero_le p1
  obtain ⟨d2, H2, e2, p2, q2, h2⟩ := l_draw (X := X) (rest := rest ++ [.lst []]) h1 (m := (most : Int) + 1) (by omega) (by omega) (by omega)
  obtain ⟨d2, rfl⟩ := Int.eq_ofNat_of_zero_le p2
  have key := for_inv (P := { nx := fun ρ μ' => ∃ L HD' b w4 w5 w6 w7, ρ = [some (.ref 2), some (.int most), some (.int b), some (.ref (rest.length + 3)), w4, w5, w6, w7] ∧ μ' = X :: C :: HD' :: (rest ++ [.lst (L.map PR)]) ∧ HOk (n + 2 + 3 * L.length) C HD' ∧ L.length ≤ most ∧ (∀ x ∈ L, SP 5 x) ∧ pcB L = true }) (LPI n most X C rest)
    (s := ((List.range d2).map fun i : Nat => DV.int (i : Int), none)) (t := tgN 5)
    (b := sSeq (sAsg (mOp gAdd (mVar 4) (mCall 2 f__law_draw (mCons (mVar 0) (mCons (mOp gAdd (mOp qSub (mVar 2) (mVar 4)) (mC (.int 1))) (mNil))))) (tgN 6)) <|
      sSeq (sAsg (mIf (mBl (mOp qGt (mCall 2 f__law_draw (mCons (mVar 0) (mCons (mC (.int 4)) (mNil)))) (mC (.int 0)))) (mOp gAdd (mVar 6) (mCall 2 f__law_draw (mCons (mVar 0) (mCons (mOp gAdd (mOp qSub (mVar 2) (mVar 6)) (mC (.int 1))) (mNil))))) (mVar 6)) (tgN 7)) <|
      sSeq (sExpr (mAppend (mVar 3) (mTup (mCons (mCall 2 f__law_part (mCons (mVar 6) (mCons (mVar 2) (mNil)))) (mCons (mCall 2 f__law_part (mCons (mVar 7) (mCons (mVar 2) (mNil)))) (mNil)))))) <|
      sAsg (mVar 7) (tgN 4))
    (fun _ _ _ _ => rfl)
    (fun v l ρ μ' ⟨b, low, HD', L, w5, w6, w7, f1, f2, f3, f4, f5, f6, f7, f8⟩ => by
      subst f1 f2
      refine ⟨_, rfl, ?_⟩
      have f7' : L.length + (l.length + 1) ≤ most := by simpa using f7
      obtain ⟨a1, G1, g1, r1, r2, k1⟩ := l_draw (X := X) (rest := rest ++ [.lst (L.map PR)]) f3 (m := (b : Int) - low + 1) (by omega) (by omega) (by omega)
      obtain ⟨a1, rfl⟩ := Int.eq_ofNat_of_zero_le r1
      obtain ⟨a2, G2, g2, r3, r4, k2⟩ := l_draw (X := X) (rest := rest ++ [.lst (L.map PR)]) k1 (m := 4) (by omega) (by omega) (by omega)
      have hb0 : b ≠ 0 := by omega
      have lp : ∀ (a : Nat) (μ : DM), a ≤ b → f__law_part [.int (a : Int), .int (b : Int)] μ = .ok (FR (qn a b)) μ := fun a μ ha => by
        rw [l_lpart (k := 5) (l := 5) hb0 (by simp; omega) (by omega) (by omega) (by omega), qn_norm hb0]
      have hl : (DV.ref (rest.length + 3)).lst (X :: C :: G2 :: (rest ++ [.lst (L.map PR)])) = some (L.map PR) := lst_ref (by simp)
      have good : ∀ c : Nat, low + a1 ≤ c → c ≤ b → GoodL b c (L ++ [(qn (low + a1) b, qn c b)]) := fun c hc hcb => by
        refine ⟨fun x hx => ?_, fun x hx => ?_, ?_⟩
        · rcases List.mem_append.mp hx with hx | hx
          · exact f8.sp x hx
          · simp at hx; subst hx
            exact ⟨qn_sz hb0 (by omega) (by omega), qn_sz hb0 (by omega) (by omega)⟩
        · rcases List.mem_append.mp hx with hx | hx
          · obtain ⟨o1, o2, o3⟩ := f8.ok x hx
            exact ⟨o1, o2, Rat.le_trans o3 (qn_mono (by omega))⟩
          · simp at hx; subst hx
            refine ⟨?_, qn_mono hc, Rat.le_refl⟩
            rw [← qn_zero (b := b)]
            exact qn_mono (by omega)
        · refine List.pairwise_append.mpr ⟨f8.pw, by simp, fun x hx y hy => ?_⟩
          simp at hy; subst hy
          exact Rat.le_trans (f8.ok x hx).2.2 (qn_mono (by omega))
      have lpb := fun μ => lp (low + a1) μ (by omega)
      push_cast at lpb
      by_cases hz : 0 < a2
      · obtain ⟨a3, G3, g3, r5, r6, k3⟩ := l_draw (X := X) (rest := rest ++ [.lst (L.map PR)]) k2 (m := (b : Int) - (low + a1 : Nat) + 1) (by omega) (by omega) (by omega)
        obtain ⟨a3, rfl⟩ := Int.eq_ofNat_of_zero_le r5
        have hl3 : (DV.ref (rest.length + 3)).lst (X :: C :: G3 :: (rest ++ [.lst (L.map PR)])) = some (L.map PR) := lst_ref (by simp)
        have lpe := fun μ => lp (low + a1 + a3) μ (by omega)
        push_cast at lpe g3
        simp [g1, g2, g3, hz, hl3, lpb, lpe, show L.length < 16777216 by omega]
        exact ⟨b, low + a1 + a3, G3, L ++ [(qn (low + a1) b, qn (low + a1 + a3) b)], _, _, _, by push_cast; rfl, by simp [PR], k3.mono (by simp; omega), by omega, f5, f6, by simp; omega, good _ (by omega) (by omega)⟩
      · simp [g1, g2, hz, hl, lpb, show L.length < 16777216 by omega]
        exact ⟨b, low + a1, G2, L ++ [(qn (low + a1) b, qn (low + a1) b)], _, _, _, by push_cast; rfl, by simp [PR], k2.mono (by simp; omega), by omega, f5, f6, by simp; omega, good _ (by omega) (by omega)⟩)
    (fun ρ μ' ⟨b, low, HD', L, w5, w6, w7, f1, f2, f3, f4, f5, f6, f7, f8⟩ => by
      refine ⟨L, HD', b, _, w5, w6, w7, f1, f2, f3, by simpa using f7, f8.sp, ?_⟩
      refine pcB_iff.mpr ⟨by simp at f7; omega, fun x hx => ?_, f8.pw⟩
      obtain ⟨o1, o2, o3⟩ := f8.ok x hx
      refine ⟨o1, o2, Rat.le_trans o3 ?_⟩
      rw [← qn_one (b := b) (by omega)]
      exact qn_mono f4)
    ((List.range d2).map fun i : Nat => DV.int (i : Int)) [some (.ref 2), some (.int most), some (.int (1 + d1 : Nat)), some (.ref (rest.length + 3)), some (.int 0), none, none, none] (X :: C :: H2 :: (rest ++ [.lst []]))
    ⟨1 + d1, 0, H2, [], none, none, none, rfl, rfl, h2.mono (by simp), by omega, by omega, by omega, by simp; omega, ⟨by simp, by simp, by simp⟩⟩
  generalize hr : sFor.go _ _ _ _ _ _ = r at key
  cases r <;> simp at key
  obtain ⟨⟨b, w4, w5, w6, w7, rfl⟩, L, HD', rfl, hk, hl, hsp, hp⟩ := key
  refine ⟨L, HD', ?_, hk.mono (by omega), hl, fun x hx => hsp x.1 x.2 hx, hp⟩
  refine (?_ : _ = tidy (X :: C :: HD :: rest) (PC L) (X :: C :: HD' :: (rest ++ [.lst (L.map PR)]))).trans (tidy_hand (und_pure _ PC_pure) hk)
  unfold f__law_piece runFn
  have r0 := rgS_0 (μ := X :: C :: H2 :: (rest ++ [.lst []])) (b := d2) (by omega)
  have hs : (DV.ref (rest.length + 3)).seq (X :: C :: HD' :: (rest ++ [.lst (L.map PR)])) = some (L.map PR) := seq_ref (by simp)
  push_cast at hr
  simp [b__law_piece, e1, e2, r0, hr, hs]
  rfl
theorem bad_one {v : DV} {μ : DM} (h : f_is_stretch [v] μ = .ok (.bl false) μ) : f_is_piece [.tup [v]] μ = .ok (.bl false) μ := by
  refine run_rt rfl ?_
  have el := lc_map (μ0 := μ) (μ := μ) (fun v : DV => v) [v] (fun x => .bl ((fun _ => false) x)) (vs := [2]) (mi := mIt (mVar 0)) (ρ := [some (.tup [v]), none, none]) (t := tgN 2)
    (te := mCall 1 f_is_stretch (mCons (mVar 2) (mNil))) (c := none) (by simp) rfl (by simp) (fun x hx => ⟨_, rfl, by simp at hx; subst hx; simp [wipeD, h]⟩)
  have ha := g_all (μ := μ) (f := fun _ : DV => false) (L := [v])
  simp only [List.map_cons, List.map_nil] at el ha
  simp [b_is_piece, isOf, isTy, DV.ty, el, ha]
theorem bad_kind {v : DV} {μ : DM} (h : v.ty ≠ "tuple") (hr : ∀ k, v = .ref k → k < μ.length) : f_is_piece [v] μ = .ok (.bl false) μ := by
  refine run_rt rfl ?_
  cases v with
  | tup _ => exact absurd rfl h
  | ref k => simp [b_is_piece, isOf, isTy, DV.ty, hr k rfl]
  | _ => simp [b_is_piece, isOf, isTy, DV.ty]
theorem bad_st {v : DV} {μ : DM} (h : f_is_tuple_of [v, .int 2] μ = .ok (.bl false) μ) : f_is_stretch [v] μ = .ok (.bl false) μ := by
  refine run_rt rfl ?_
  simp [b_is_stretch, h]
theorem bad_st2 {x : Rat} {w : DV} {μ : DM} (h : f_is_fraction [w] μ = .ok (.bl false) μ) : f_is_stretch [.tup [FR x, w]] μ = .ok (.bl false) μ := by
  have e2 := l_is_tuple_of (xs := [FR x, w]) (n := 2) (μ := μ)
  simp at e2
  have e3 : f_is_share [w] μ = .ok (.bl false) μ := by
    refine run_rt rfl ?_
    simp [b_is_share, h]
  refine run_rt rfl ?_
  by_cases hx : 0 ≤ x ∧ x ≤ 1
  · simp [b_is_stretch, e2, e3, l_is_share, hx]
  · simp [b_is_stretch, e2, e3, l_is_share, hx]
theorem bad_bool {b : Bool} {i : Int} {μ : DM} : f_is_fraction [.tup [.bl b, .int i]] μ = .ok (.bl false) μ := by
  refine run_rt rfl ?_
  have ei : ∀ v : DV, v ∈ [DV.bl b, .int i] → f_is_integer [v] μ = .ok (.bl ((fun v : DV => match v with | .int _ => true | _ => false) v)) μ := fun v hv => by
    simp at hv
    rcases hv with rfl | rfl <;> refine run_rt rfl ?_ <;> simp [b_is_integer, isOf, isTy, DV.ty]
  have el := lc_map (μ0 := μ) (μ := μ) (fun v : DV => v) [.bl b, .int i] (fun v => DV.bl ((fun v : DV => match v with | .int _ => true | _ => false) v)) (vs := [1]) (mi := mIt (mVar 0)) (ρ := [some (.tup [.bl b, .int i]), none]) (t := tgN 1)
    (te := mCall 1 f_is_integer (mCons (mVar 1) (mNil))) (c := none) (by simp) rfl (by simp) (fun v hi => ⟨_, rfl, by simp [wipeD, ei v hi]⟩)
  have e2 := l_is_tuple_of (xs := [.bl b, .int i]) (n := 2) (μ := μ)
  have e3 := g_all (μ := μ) (f := fun v : DV => match v with | .int _ => true | _ => false) (L := [.bl b, .int i])
  simp only [List.map_cons, List.map_nil] at el e3
  simp at e2 e3
  simp [b_is_fraction, e2, el, e3]
theorem bad_pc {L : List ST} {μ : DM} (h : ∀ x ∈ L, SP 5 x) (hl : L.length ≤ 100) (hp : pcB L = false) : f_is_piece [PC L] μ = .ok (.bl false) μ := by
  rw [l_is_piece h (by omega) (by omega), hp]
/-- the fifteen -/
def hf : DV := .tup [.int 1, .int 2]
def on : DV := .tup [.int 1, .int 1]
def zr : DV := .tup [.int 0, .int 1]
def bads (k : Nat) : List DV := [.non, .ref k, .tup [.tup [hf, zr]], .tup [.tup [zr, on], .tup [hf, on]], .tup [.tup [zr, .tup [.int 3, .int 2]]], .tup [.tup [.tup [.int (-1), .int 2], hf]], .tup [.tup [zr, .tup [.int 2, .int 4]]], .tup [.tup [hf]]]
def bads2 (k : Nat) : List DV := [.tup [.tup [hf, hf, hf]], .tup [.ref k], .tup [.non], .tup [.tup [zr, .tup [.bl true, .int 1]]], .tup (List.replicate 61 [.tup [hf, hf]]).flatten, .int 1, .str "piece"]
theorem hf_eq : hf = FR (mkRat 1 2) := by decide +kernel
theorem sz_hf : Sz 5 (mkRat 1 2) := ⟨by decide +kernel, by decide +kernel⟩
theorem bads_bad {k m : Nat} {μ : DM} : ∀ v ∈ bads k ++ bads2 m, v.und μ.length = true → f_is_piece [v] μ = .ok (.bl false) μ := by
  intro v hv hu
  simp only [bads, bads2, List.cons_append, List.nil_append, List.mem_cons, List.not_mem_nil, or_false] at hv
  have s0 : Sz 5 0 := Sz.zero.mono (by omega)
  have s1 : Sz 5 1 := Sz.one.mono (by omega)
  rcases hv with rfl | rfl | rfl | rfl | rfl | rfl | rfl | rfl | rfl | rfl | rfl | rfl | rfl | rfl | rfl
  · exact bad_kind (by decide) (by simp)
  · exact bad_kind (by simp [DV.ty]) (by simpa [DV.und] using hu)
  · rw [show (DV.tup [.tup [hf, zr]]) = PC [(mkRat 1 2, 0)] from by decide +kernel]
    exact bad_pc (by simp; exact ⟨sz_hf, s0⟩) (by simp) (by decide +kernel)
  · rw [show (DV.tup [.tup [zr, on], .tup [hf, on]]) = PC [(0, 1), (mkRat 1 2, 1)] from by decide +kernel]
    exact bad_pc (by simp; exact ⟨⟨s0, s1⟩, sz_hf, s1⟩) (by simp) (by decide +kernel)
  · rw [show (DV.tup [.tup [zr, .tup [.int 3, .int 2]]]) = PC [(0, mkRat 3 2)] from by decide +kernel]
    exact bad_pc (by simp; exact ⟨s0, by decide +kernel, by decide +kernel⟩) (by simp) (by decide +kernel)
  · rw [show (DV.tup [.tup [.tup [.int (-1), .int 2], hf]]) = PC [(mkRat (-1) 2, mkRat 1 2)] from by decide +kernel]
    exact bad_pc (by simp; exact ⟨⟨by decide +kernel, by decide +kernel⟩, sz_hf⟩) (by simp) (by decide +kernel)
  · exact bad_one (bad_st2 (x := 0) (by rw [l_is_fraction2, show decide ((0 : Int) < 4 ∧ Nat.gcd (2 : Int).natAbs (4 : Int).natAbs = 1) = false from by decide +kernel]))
  · exact bad_one (bad_st (l_is_tuple_of (n := 2)))
  · exact bad_one (bad_st (l_is_tuple_of (n := 2)))
  · exact bad_one (bad_st (l_is_tuple_ref (n := 2) (by simpa [DV.und, DV.undL] using hu)))
  · exact bad_one (bad_st (l_is_tuple_no (n := 2) (by decide) (by simp)))
  · exact bad_one (bad_st2 (x := 0) bad_bool)
  · rw [show DV.tup (List.replicate 61 [DV.tup [hf, hf]]).flatten = PC (List.replicate 61 (mkRat 1 2, mkRat 1 2)) from by decide +kernel]
    exact bad_pc (fun x hx => by rw [(List.mem_replicate.mp hx).2]; exact ⟨sz_hf, sz_hf⟩) (by simp) (by simp [pcB])
  · exact bad_kind (by decide) (by simp)
  · exact bad_kind (by decide) (by simp)
theorem bads_und {k m n : Nat} (hk : k < n) (hm : m < n) : ∀ v ∈ bads k ++ bads2 m, v.und n = true := by
  intro v hv
  have hb : (DV.tup (List.replicate 61 [DV.tup [hf, hf]]).flatten).und n = true := und_pure _ (by decide +kernel)
  simp only [bads, bads2, List.cons_append, List.nil_append, List.mem_cons, List.not_mem_nil, or_false] at hv
  rcases hv with rfl | rfl | rfl | rfl | rfl | rfl | rfl | rfl | rfl | rfl | rfl | rfl | rfl | rfl | rfl <;> first | exact hb | simp [DV.und, DV.undL, hf, zr, on, hk, hm]
def npT (r : Nat) : DM := [.lst [.tup [zr, on]], .lst (bads (r + 3)), .lst [zr, on], .lst (bads2 (r + 5)), .lst (bads (r + 3) ++ bads2 (r + 5))]
theorem PR_plain {x : ST} {n : Nat} : Plain (n + 2) (PR x) := by
  refine .tup (by simp) fun v hv => ?_
  simp at hv
  rcases hv with rfl | rfl <;> exact .tup (by simp) (by simp; exact ⟨.int, .int⟩)
theorem PC_plain {L : List ST} (h : L.length ≤ 1000000) : Plain 3 (PC L) := by
  refine .tup (by simpa using h) fun v hv => ?_
  obtain ⟨x, _, rfl⟩ := List.mem_map.mp hv
  exact PR_plain
theorem FR_plain {q : Rat} : Plain 3 (FR q) := .tup (by simp) (by simp; exact ⟨.int, .int⟩)
def MI (W : List ST) (n : Nat) (X C : DC) (rest : DM) (l acc : List DV) (μ : DM) : Prop := ∃ (D R M : List ST) (HD : DC), W = D ++ R ∧ l = R.map PR ∧ acc = M.map PR ∧ M.Sublist D ∧ μ = X :: C :: HD :: rest ∧ HOk (n + D.length) C HD
theorem l_mine {n : Nat} {X C HD : DC} {rest : DM} {W : List ST} {v0 v2 v4 v5 v6 v7 v8 v9 v10 v11 v12 v13 v14 v15 : Option DV} (h : HOk n C HD) (hn : n < 2 ^ 50) (hW : W.length ≤ 1000) :
    ∃ (M : List ST) (HD' : DC), mLc [15] (mIt (mVar 3)) (tgN 15) (mBl (mOp (gEq false) (mCall 2 f__law_draw (mCons (mVar 1) (mCons (mC (.int 2)) (mNil)))) (mC (.int 0)))) (mVar 15) [v0, some (.ref 2), v2, some (PC W), v4, v5, v6, v7, v8, v9, v10, v11, v12, v13, v14, v15] (X :: C :: HD :: rest) = .ok (M.map PR) (X :: C :: HD' :: rest) ∧ M.Sublist W ∧ HOk (n + 1000) C HD' := by
  have key := lc_inv (Q := fun xs μ => ∃ (M : List ST) (HD' : DC), xs = M.map PR ∧ μ = X :: C :: HD' :: rest ∧ M.Sublist W ∧ HOk (n + 1000) C HD') (E := NoX) (MI W n X C rest) (s := (W.map PR, none)) (ρ := [v0, some (.ref 2), v2, some (PC W), v4, v5, v6, v7, v8, v9, v10, v11, v12, v13, v14, none])
    (t := tgN 15) (tt := mBl (mOp (gEq false) (mCall 2 f__law_draw (mCons (mVar 1) (mCons (mC (.int 2)) (mNil)))) (mC (.int 0)))) (te := mVar 15)
    (fun l acc μ ⟨D, R, M, H, e1, e2, e3, e4, e5, e6⟩ => by
      subst e2 e3
      have := e4.length_le
      have := congrArg List.length e1
      simp at this
      exact ⟨rfl, by simp; omega⟩)
    (fun x l acc μ ⟨D, R, M, H, e1, e2, e3, e4, e5, e6⟩ => by
      subst e3 e5
      cases R with
      | nil => cases e2
      | cons y R =>
        cases e2
        have hl := congrArg List.length e1
        simp at hl
        obtain ⟨d, H1, g, p, q, h1⟩ := l_draw (X := X) (rest := rest) e6 (m := 2) (by omega) (by omega) (by omega)
        refine ⟨_, rfl, ?_⟩
        by_cases hd : d = 0
        · simp [g, hd]
          exact ⟨D ++ [y], R, M ++ [y], H1, by simp [e1], rfl, by simp, e4.append (.refl _), rfl, h1.mono (by simp; omega)⟩
        · simp [g, hd]
          exact ⟨D ++ [y], R, M, H1, by simp [e1], rfl, rfl, e4.trans (List.sublist_append_left _ _), rfl, h1.mono (by simp; omega)⟩)
    (fun acc μ ⟨D, R, M, H, e1, e2, e3, e4, e5, e6⟩ => by
      have hR : R = [] := by cases R with
        | nil => rfl
        | cons _ _ => cases e2
      subst hR
      have : D = W := by simpa using e1.symm
      subst this
      exact ⟨M, H, e3, e5, e4, e6.mono (by omega)⟩)
    (W.map PR) [] (X :: C :: HD :: rest) ⟨[], W, [], HD, rfl, rfl, rfl, .refl _, rfl, h⟩
  obtain ⟨a, μ', ha, M, HD', rfl, rfl, hm, hk⟩ := key.ok
  refine ⟨M, HD', ?_, hm, hk⟩
  unfold mLc
  have : mIt (mVar 3) [v0, some (.ref 2), v2, some (PC W), v4, v5, v6, v7, v8, v9, v10, v11, v12, v13, v14, v15] (X :: C :: HD :: rest) = .ok (W.map PR, none) (X :: C :: HD :: rest) := by simp [PC]
  rw [this, DR.bind_ok]
  exact ha
theorem rsv_PR {x : ST} {μ : DM} : rsv μ (PR x) = some (PR x) := rfl
theorem rsWL_PR {f : Nat → Option DV} : ∀ {L : List ST}, rsWL f (L.map PR) = some (L.map PR)
  | [] => rfl
  | x :: L => by
    rw [List.map_cons, rsWL, rsWL_PR (L := L)]
    rfl
theorem rsv_refL {m : Nat} {L : List ST} {μ : DM} (h : μ[m]? = some (.lst (L.map PR))) : rsv μ (.ref m) = some (.kl (L.map PR)) := by
  show rsR μ 4 m = _
  rw [rsR, h]
  simp only [rsWL_PR]
  rfl
theorem PR_dEq {x y : ST} : dEq (PR x) (PR y) = decide (x = y) := by
  simp only [PR, dEq, dEqL, FR_dEq, Bool.and_true]
  by_cases h1 : x.1 = y.1 <;> by_cases h2 : x.2 = y.2 <;> simp [h1, h2, Prod.ext_iff]
theorem dpL_PR : ∀ {L : List ST}, DV.dpL (L.map PR) ≤ 2
  | [] => by simp [DV.dpL]
  | x :: L => by
    have := dpL_PR (L := L)
    rw [List.map_cons, DV.dpL]
    have : (PR x).dp = 2 := rfl
    omega
theorem PR_in {x : ST} {m : Nat} {M : List ST} {μ : DM} (h : μ[m]? = some (.lst (M.map PR))) : gIn true (PR x) (.ref m) μ = .ok (.bl (decide (x ∉ M))) μ := by
  have hd := dpL_PR (L := M)
  have e : ((M.map PR).any fun z => dEq z (PR x)) = decide (x ∈ M) := by
    rw [Bool.eq_iff_iff, List.any_eq_true, decide_eq_true_eq]
    constructor
    · rintro ⟨z, hz, e⟩
      obtain ⟨y, hy, rfl⟩ := List.mem_map.mp hz
      rw [PR_dEq, decide_eq_true_eq] at e
      exact e ▸ hy
    · intro hx
      exact ⟨PR x, List.mem_map.mpr ⟨x, hx, rfl⟩, by rw [PR_dEq]; simp⟩
  simp only [gIn, rsv_PR, rsv_refL h, e]
  rw [if_pos ⟨by show (2 : Nat) ≤ 64; omega, by show DV.dpL (M.map PR) + 1 ≤ 64; omega⟩]
  simp
/-- what the split leaves together -/
theorem split_sub {M : List ST} : ∀ {W N : List ST}, N.Sublist W → (∀ x ∈ N, x ∈ M) → ∃ S : List ST, S.Sublist W ∧ S.Perm (N ++ W.filter fun x => decide (x ∉ M)) := by
  intro W N h
  induction h with
  | slnil => intro _; exact ⟨[], .slnil, by simp⟩
  | cons a h ih =>
    rename_i N W
    intro hN
    obtain ⟨S, s1, s2⟩ := ih hN
    by_cases ha : a ∈ M
    · exact ⟨S, s1.cons a, by simpa [List.filter_cons, ha] using s2⟩
    · refine ⟨a :: S, s1.cons_cons a, ?_⟩
      simp only [List.filter_cons, ha, not_false_eq_true, decide_true, if_true]
      exact (s2.cons a).trans List.perm_middle.symm
  | cons_cons a h ih =>
    rename_i N W
    intro hN
    obtain ⟨S, s1, s2⟩ := ih fun x hx => hN x (by simp [hx])
    have ha : a ∈ M := hN a (by simp)
    refine ⟨a :: S, s1.cons_cons a, ?_⟩
    simpa [List.filter_cons, ha] using s2
theorem sub_pc {L S : List ST} (h : pcB L = true) (hs : S.Sublist L) : pcB S = true := by
  obtain ⟨h1, h2, h3⟩ := pcB_iff.mp h
  exact pcB_iff.mpr ⟨Nat.le_trans hs.length_le h1, fun x hx => h2 x (hs.subset hx), h3.sublist hs⟩
theorem pc_lex {L : List ST} (h : pcB L = true) : LexS L := by
  obtain ⟨h1, h2, h3⟩ := pcB_iff.mp h
  exact piece_lex (fun x hx => (h2 x hx).2.1) h3
theorem pcB_small {L : List ST} (hl : L.length ≤ 60) (h : ∀ x ∈ L, okSt x = true) : pcB L = chB L := by
  unfold pcB
  rw [decide_eq_true hl, List.all_eq_true.mpr h]
  rfl
theorem pc_ok {L : List ST} (h : pcB L = true) : ∀ x ∈ L, okSt x = true := fun x hx => okSt_iff.mpr ((pcB_iff.mp h).2.1 x hx)
/-! ## what is judged, by plain functions over data -/
def isI (v : DV) : Bool := match v with
  | .int _ => true
  | _ => false
theorem l_isI {v : DV} {μ : DM} (h : v.und μ.length = true) : f_is_integer [v] μ = .ok (.bl (isI v)) μ := by
  cases v with
  | ref k =>
    simp only [DV.und, decide_eq_true_eq] at h
    refine run_rt rfl ?_
    simp [b_is_integer, isOf, isTy, DV.ty, isI, h]
  | _ => refine run_rt rfl ?_; simp [b_is_integer, isOf, isTy, DV.ty, isI]
def isTup (v : DV) (n : Nat) : Bool := match v with
  | .tup xs => decide (xs.length = n)
  | _ => false
theorem l_isTup {v : DV} {n : Nat} {μ : DM} (h : v.und μ.length = true) : f_is_tuple_of [v, .int n] μ = .ok (.bl (isTup v n)) μ := by
  cases v with
  | tup xs => exact l_is_tuple_of
  | ref k => exact l_is_tuple_ref (by simpa [DV.und] using h)
  | _ => exact l_is_tuple_no (by simp [DV.ty]) (by simp)
def isFr (v : DV) : Bool := match v with
  | .tup [.int a, .int b] => decide (0 < b ∧ Nat.gcd a.natAbs b.natAbs = 1)
  | _ => false
theorem isFr_two {x y : DV} (h : isI x = false ∨ isI y = false) : isFr (.tup [x, y]) = false := by
  cases x <;> cases y <;> first | rfl | (simp [isI] at h)
theorem isFr_len {xs : List DV} (h : xs.length ≠ 2) : isFr (.tup xs) = false := by
  match xs, h with
  | [], _ => rfl
  | [_], _ => simp [isFr]
  | [_, _], h => exact absurd rfl h
  | _ :: _ :: _ :: _, _ => simp [isFr]
theorem und_mem {n : Nat} : ∀ {xs : List DV} {x : DV}, DV.undL n xs = true → x ∈ xs → x.und n = true
  | y :: ys, x, hp, h => by
    simp only [DV.undL, Bool.and_eq_true] at hp
    rcases List.mem_cons.mp h with h | h
    · subst h; exact hp.1
    · exact und_mem hp.2 h
theorem l_isFr {v : DV} {μ : DM} (h : v.und μ.length = true) : f_is_fraction [v] μ = .ok (.bl (isFr v)) μ := by
  have e := l_isTup (v := v) (n := 2) (μ := μ) h
  simp only [Int.cast_ofNat_Int] at e
  cases q : isTup v 2 with
  | false =>
    have : isFr v = false := by
      cases v with
      | tup xs => exact isFr_len (by simpa [isTup] using q)
      | _ => rfl
    rw [this]
    rw [q] at e
    refine run_rt rfl ?_
    simp [b_is_fraction, e]
  | true =>
    obtain ⟨x, y, rfl⟩ : ∃ x y, v = .tup [x, y] := by
      cases v with
      | tup xs =>
        simp [isTup] at q
        match xs, q with
        | [x, y], _ => exact ⟨x, y, rfl⟩
      | _ => simp [isTup] at q
    have ux : x.und μ.length = true := und_mem (xs := [x, y]) h (by simp)
    have uy : y.und μ.length = true := und_mem (xs := [x, y]) h (by simp)
    cases hx : isI x with
    | true =>
      cases hy : isI y with
      | true =>
        cases x <;> simp [isI] at hx
        cases y <;> simp [isI] at hy
        exact l_is_fraction2
      | false =>
        rw [isFr_two (.inr hy)]
        have el := lc_map (μ0 := μ) (μ := μ) id [x, y] (fun i => DV.bl (isI i)) (vs := [1]) (mi := mIt (mVar 0)) (ρ := [some (.tup [x, y]), none]) (t := tgN 1)
          (te := mCall 1 f_is_integer (mCons (mVar 1) (mNil))) (c := none) (by simp) rfl (by simp) (fun i hi => ⟨_, rfl, by
            simp only [List.mem_cons, List.not_mem_nil, or_false] at hi
            rcases hi with rfl | rfl
            · simp [wipeD, l_isI ux]
            · simp [wipeD, l_isI uy]⟩)
        have e3 := g_all (μ := μ) (f := fun v : DV => isI v) (L := [x, y])
        simp only [List.map_cons, List.map_nil, id] at el e3
        rw [q] at e
        refine run_rt rfl ?_
        rw [show ([x, y].all fun v => isI v) = false from by simp [hy]] at e3
        simp [b_is_fraction, e, el, e3]
    | false =>
      rw [isFr_two (.inl hx)]
      have el := lc_map (μ0 := μ) (μ := μ) id [x, y] (fun i => DV.bl (isI i)) (vs := [1]) (mi := mIt (mVar 0)) (ρ := [some (.tup [x, y]), none]) (t := tgN 1)
        (te := mCall 1 f_is_integer (mCons (mVar 1) (mNil))) (c := none) (by simp) rfl (by simp) (fun i hi => ⟨_, rfl, by
          simp only [List.mem_cons, List.not_mem_nil, or_false] at hi
          rcases hi with rfl | rfl
          · simp [wipeD, l_isI ux]
          · simp [wipeD, l_isI uy]⟩)
      have e3 := g_all (μ := μ) (f := fun v : DV => isI v) (L := [x, y])
      simp only [List.map_cons, List.map_nil, id] at el e3
      rw [q] at e
      refine run_rt rfl ?_
      rw [show ([x, y].all fun v => isI v) = false from by simp [hx]] at e3
      simp [b_is_fraction, e, el, e3]
theorem isFr_FR {q : Rat} : isFr (FR q) = true := by
  have h1 := q.reduced
  unfold Nat.Coprime at h1
  simp [isFr, FR, h1, q.den_pos]
/-- the fraction that data tell -/
def frQ (v : DV) : Rat := match v with
  | .tup [.int a, .int b] => mkRat a b.toNat
  | _ => 0
theorem frQ_FR {q : Rat} : frQ (FR q) = q := by
  simp [frQ, FR]
theorem isFr_eq {v : DV} (h : isFr v = true) : v = FR (frQ v) := by
  unfold isFr at h
  split at h
  · rename_i a b
    simp only [decide_eq_true_eq] at h
    obtain ⟨h1, h2⟩ := h
    obtain ⟨b, rfl⟩ := Int.eq_ofNat_of_zero_le (Int.le_of_lt h1)
    have hb : b ≠ 0 := by omega
    have e : mkRat a b = ⟨a, b, hb, by simpa using h2⟩ := Rat.ext (by
      rw [← Rat.normalize_eq_mkRat hb]
      have := (norm_num (n := a) hb).1
      rw [this]
      simp at h2
      simp [h2]) (by
      rw [← Rat.normalize_eq_mkRat hb]
      have := (norm_num (n := a) hb).2
      rw [this]
      simp at h2
      simp [h2])
    simp [frQ, e, FR]
  · cases h
def isRow (v : DV) (n : Nat) : Bool := match v with
  | .tup xs => decide (xs.length = n) && xs.all isFr
  | _ => false
/-! ### rows of fractions -/
def RW (L : List Rat) : DV := .tup (L.map FR)
def MX (M : List (List Rat)) : DV := .tup (M.map RW)
theorem isRow_RW {L : List Rat} {n : Nat} : isRow (RW L) n = decide (L.length = n) := by
  have : (L.map FR).all isFr = true := by
    rw [List.all_eq_true]
    intro x hx
    obtain ⟨q, _, rfl⟩ := List.mem_map.mp hx
    exact isFr_FR
  simp only [RW, isRow, List.length_map, this, Bool.and_true]
theorem isRow_eq {v : DV} {n : Nat} (h : isRow v n = true) : ∃ L : List Rat, v = RW L ∧ L.length = n := by
  cases v with
  | tup xs =>
    simp only [isRow, Bool.and_eq_true, decide_eq_true_eq, List.all_eq_true] at h
    refine ⟨xs.map frQ, ?_, by simpa using h.1⟩
    rw [RW, List.map_map]
    congr 1
    have : xs.map (FR ∘ frQ) = xs.map id := List.map_congr_left fun x hx => (isFr_eq (h.2 x hx)).symm
    rw [this, List.map_id]
  | _ => simp [isRow] at h
/-! ## draws within comprehensions, mixing -/
/-- two lists, place by place -/
inductive All2 {α β : Type} (R : α → β → Prop) : List α → List β → Prop
  | nil : All2 R [] []
  | cons {a : α} {b : β} {l : List α} {m : List β} (h : R a b) (t : All2 R l m) : All2 R (a :: l) (b :: m)
theorem All2.len {α β : Type} {R : α → β → Prop} {l : List α} {m : List β} (h : All2 R l m) : l.length = m.length := by
  induction h with
  | nil => rfl
  | cons _ _ ih => simp [ih]
theorem All2.mem {α β : Type} {R : α → β → Prop} {l : List α} {m : List β} (h : All2 R l m) : ∀ b ∈ m, ∃ a ∈ l, R a b := by
  induction h with
  | nil => intro b hb; cases hb
  | cons h _ ih =>
    intro b hb
    rcases List.mem_cons.mp hb with rfl | hb
    · exact ⟨_, by simp, h⟩
    · obtain ⟨a, ha, r⟩ := ih b hb
      exact ⟨a, by simp [ha], r⟩
/-- the values as those of one kind -/
theorem All2.enc {α β γ : Type} {R : α → β → Prop} {P : γ → Prop} {f : γ → β} {l : List α} {m : List β} (h : All2 R l m) (hr : ∀ a b, R a b → ∃ c, b = f c ∧ P c) : ∃ cs : List γ, m = cs.map f ∧ (∀ c ∈ cs, P c) := by
  induction h with
  | nil => exact ⟨[], rfl, by simp⟩
  | cons h _ ih =>
    obtain ⟨c, rfl, hc⟩ := hr _ _ h
    obtain ⟨cs, rfl, hcs⟩ := ih
    exact ⟨c :: cs, rfl, by simp; exact ⟨hc, hcs⟩⟩
/-- a comprehension each element of which draws -/
theorem lc_drawn_go {R : DV → DV → Prop} {c N : Nat} {X C : DC} {rest : DM} {s : Src} {ρ : DE} {t : GM} {te : EM} (hs : s.2 = none) :
    ∀ (l acc : List DV) (n : Nat) (HD : DC), (∀ x ∈ l, ∀ HD n, HOk n C HD → n ≤ N → ∃ ρ1 v HD', t x ρ (X :: C :: HD :: rest) = some ρ1 ∧ te ρ1 (X :: C :: HD :: rest) = .ok v (X :: C :: HD' :: rest) ∧ R x v ∧ HOk (n + c) C HD') →
      HOk n C HD → n + c * l.length ≤ N → acc.length + l.length ≤ LIM → ∃ ys HD', mLc.go t mYes te s ρ l acc (X :: C :: HD :: rest) = .ok (acc ++ ys) (X :: C :: HD' :: rest) ∧ All2 R l ys ∧ HOk (n + c * l.length) C HD'
  | [], acc, n, HD, _, hh, _, _ => ⟨[], HD, by simp [mLc.go, okAt, hs], .nil, by simpa using hh⟩
  | x :: l, acc, n, HD, h, hh, hn, hl => by
    have hn' : n + c + c * l.length ≤ N := by simpa [Nat.mul_add, Nat.add_assoc, Nat.add_comm c] using hn
    obtain ⟨ρ1, v, HD1, h1, h2, h3, h4⟩ := h x (by simp) HD n hh (by omega)
    obtain ⟨ys, HD2, g1, g2, g3⟩ := lc_drawn_go (R := R) (c := c) (N := N) (X := X) (C := C) (rest := rest) (ρ := ρ) (t := t) (te := te) hs l (acc ++ [v]) (n + c) HD1 (fun y hy => h y (List.mem_cons_of_mem _ hy)) h4 hn' (by simp at hl ⊢; omega)
    refine ⟨v :: ys, HD2, ?_, .cons h3 g2, ?_⟩
    · rw [mLc.go, if_pos ⟨by rw [hs]; rfl, by simp at hl; show _ < 16777216; omega⟩, h1]
      simp only [mYes, DR.noex_ok, DR.bind_ok, if_pos, h2, g1]
      simp
    · have e : n + c + c * l.length = n + c * (x :: l).length := by simp [Nat.mul_add]; omega
      rw [← e]; exact g3
theorem lc_drawn {R : DV → DV → Prop} (c N : Nat) {n : Nat} {X C HD : DC} {rest : DM} {vs : List Nat} {mi : IM} {ρ : DE} {t : GM} {te : EM} {l : List DV} (hi : mi ρ (X :: C :: HD :: rest) = .ok (l, none) (X :: C :: HD :: rest))
    (h : ∀ x ∈ l, ∀ HD n, HOk n C HD → n ≤ N → ∃ ρ1 v HD', t x (wipeD ρ vs) (X :: C :: HD :: rest) = some ρ1 ∧ te ρ1 (X :: C :: HD :: rest) = .ok v (X :: C :: HD' :: rest) ∧ R x v ∧ HOk (n + c) C HD')
    (hh : HOk n C HD) (hn : n + c * l.length ≤ N) (hl : l.length ≤ LIM) : ∃ ys HD', mLc vs mi t mYes te ρ (X :: C :: HD :: rest) = .ok ys (X :: C :: HD' :: rest) ∧ All2 R l ys ∧ HOk (n + c * l.length) C HD' := by
  obtain ⟨ys, HD', g1, g2, g3⟩ := lc_drawn_go (R := R) (c := c) (N := N) (X := X) (C := C) (rest := rest) (s := (l, none)) (ρ := wipeD ρ vs) (t := t) (te := te) rfl l [] n HD h hh hn (by simpa using hl)
  exact ⟨ys, HD', by unfold mLc; rw [hi, DR.bind_ok, g1, List.nil_append], g2, g3⟩
@[simp] theorem x_popAt {ρ : DE} {μ : DM} {mo mi : EM} : mPopAt mo mi ρ μ = (mo ρ μ).bind fun u μ => match u.lst μ with
  | none => .bad
  | some _ => (mi ρ μ).bind fun v μ => match u, v with
    | .ref n, .int i => match μ[n]? with
      | some (.lst xs) => match ixN xs.length i with
        | some k => match xs[k]? with
          | some y => if xs.length ≤ LIM then .ok y (μ.set n (.lst (xs.eraseIdx k))) else .bad
          | none => .bad
        | none => .bad
      | none => .bad
    | _, _ => .bad := rfl
theorem perm_cons_erase {α : Type} {l : List α} {k : Nat} (h : k < l.length) : l.Perm (l[k] :: l.eraseIdx k) := by
  induction l generalizing k with
  | nil => simp at h
  | cons x l ih =>
    cases k with
    | zero => exact .refl _
    | succ k =>
      simp only [List.length_cons, Nat.add_lt_add_iff_right] at h
      simp only [List.getElem_cons_succ, List.eraseIdx_cons_succ]
      exact (List.Perm.cons x (ih h)).trans (.swap _ _ _)
def MixQ (n : Nat) (X C : DC) (rest : DM) (xs : List DV) (w : DV) (μ : DM) : Prop := ∃ ys HD', w = .ref (rest.length + 4) ∧ μ = X :: C :: HD' :: (rest ++ [.lst [], .lst ys]) ∧ ys.Perm xs ∧ HOk (n + xs.length) C HD'
def MixI (n : Nat) (X C : DC) (rest : DM) (v : DV) (xs : List DV) (m : Nat) (ρ : DE) (μ : DM) : Prop := ∃ zs ys HD', m = zs.length ∧ ρ = [some (.ref 2), some v, some (.ref (rest.length + 3)), some (.ref (rest.length + 4))] ∧ μ = X :: C :: HD' :: (rest ++ [.lst zs, .lst ys]) ∧ (ys ++ zs).Perm xs ∧ HOk (n + ys.length) C HD'
/-- a mixed list: left over is an empty one, then what was found -/
theorem l_mixed {n : Nat} {X C HD : DC} {rest : DM} {v : DV} {xs : List DV} (hv : v.seq (X :: C :: HD :: rest) = some xs) (hh : HOk n C HD) (hn : n < 2 ^ 50) (hl : xs.length ≤ 100000) :
    ∃ ys HD', f__law_mixed [.ref 2, v] (X :: C :: HD :: rest) = .ok (.ref (rest.length + 4)) (X :: C :: HD' :: (rest ++ [.lst [], .lst ys])) ∧ ys.Perm xs ∧ HOk (n + xs.length) C HD' := by
  suffices hs : OkE (MixQ n X C rest xs) NoX (f__law_mixed [.ref 2, v] (X :: C :: HD :: rest)) by
    obtain ⟨w, μ, e, ys, HD', rfl, rfl, p, h'⟩ := hs.ok
    exact ⟨ys, HD', e, p, h'⟩
  refine okE_run rfl ?_
  refine seq_step (ρ' := [some (.ref 2), some v, some (.ref (rest.length + 3)), some (.ref (rest.length + 4))]) (μ' := X :: C :: HD :: (rest ++ [.lst xs, .lst []])) (by simp [hv]) ?_
  refine seq_thn ?_
  refine while_inv (MixI n X C rest v xs) (fun m ρ μ ⟨zs, ys, HD', e1, e2, e3, e4, e5⟩ => ?_) WF xs.length _ _ (by show _ < 1000000; omega) ⟨xs, [], HD, rfl, rfl, rfl, by simp, by simpa using hh⟩
  subst e1 e2 e3
  have hlen := e4.length_eq
  simp only [List.length_append] at hlen
  have s1 : (DV.ref (rest.length + 3)).seq (X :: C :: HD' :: (rest ++ [.lst zs, .lst ys])) = some zs := seq_ref (by simp)
  by_cases hz : zs.length = 0
  · have hz' : zs = [] := List.length_eq_zero_iff.mp hz
    subst hz'
    have el : mLen (mVar 2) [some (.ref 2), some v, some (.ref (rest.length + 3)), some (.ref (rest.length + 4))] (X :: C :: HD' :: (rest ++ [.lst [], .lst ys])) = .ok (.int 0) (X :: C :: HD' :: (rest ++ [.lst [], .lst ys])) := by simp [s1]
    simp only [x_bl, x_op, el, DR.bind_ok, x_c]
    simp
    unfold tidy
    rw [if_neg (fun z => by have := z.1; simp [DV.und] at this; omega)]
    exact ⟨ys, HD', rfl, rfl, by simpa using e4, e5.mono (by simp at hlen; omega)⟩
  · obtain ⟨d, H1, d1, d2, d3, d4⟩ := l_draw (X := X) (rest := rest ++ [.lst zs, .lst ys]) e5 (m := zs.length) (by omega) (by omega) (by omega)
    obtain ⟨d, rfl⟩ := Int.eq_ofNat_of_zero_le d2
    have hd : d < zs.length := by omega
    have g1 : (DV.ref (rest.length + 3)).lst (X :: C :: HD' :: (rest ++ [.lst zs, .lst ys])) = some zs := lst_ref (by simp)
    have g2 : (DV.ref (rest.length + 4)).lst (X :: C :: HD' :: (rest ++ [.lst zs, .lst ys])) = some ys := lst_ref (by simp)
    have hp : 0 < zs.length := by omega
    simp [s1, hp, g1, g2, d1, ixN_nat hd, hd, show zs.length ≤ 16777216 by omega, show ys.length < 16777216 by omega]
    refine ⟨zs.length - 1, by omega, zs.eraseIdx d, ys ++ [zs[d]], H1, by simp [List.length_eraseIdx, hd], rfl, ?_, ?_, ?_⟩
    · simp
    · refine List.Perm.trans ?_ e4
      rw [List.append_assoc]
      exact (perm_cons_erase hd).symm.append_left ys
    · exact d4.mono (by simp; omega)
theorem l_product {p q : Rat} {a b : Nat} {μ : DM} (hp : Sz a p) (hq : Sz b q) (hs : a + b < 8000) : f_product [FR p, FR q] μ = .ok (FR (p * q)) μ := by
  obtain ⟨c1, c2, c3⟩ := CMw_den hp hq (by omega)
  have c4 : CMw p.num q.num := CMw_of hp.num hq.num (by omega)
  have hd := Sz.mulI (i := p.den) (j := q.den) (by simpa using hp.den) (by simpa using hq.den)
  refine run_rt rfl ?_
  by_cases h0 : p = 0
  · subst h0; simp [b_product, Rat.zero_mul, FR_zero]
  have h0' : ¬ p.num = 0 := fun z => h0 (Rat.num_eq_zero.mp z)
  by_cases h1 : q = 0
  · subst h1; simp [b_product, h0', Rat.mul_zero, FR_zero]
  have h1' : ¬ q.num = 0 := fun z => h1 (Rat.num_eq_zero.mp z)
  have e := l_part_of (n := p.num * q.num) (d := p.den * q.den) (k := a + b) (μ := μ) (Nat.mul_ne_zero p.den_nz q.den_nz) (by simpa [Int.natAbs_mul] using hd) (by omega)
  rw [← Rat.mul_def] at e
  push_cast at e
  simp [b_product, h0', h1', c4, c3, e]
theorem l_ltimes {p q : Rat} {a b : Nat} {μ : DM} (hp : Sz a p) (hq : Sz b q) (hs : a + b < 8000) : f__law_times [FR p, FR q] μ = .ok (FR (p * q)) μ := by
  obtain ⟨c1, c2, c3⟩ := CMw_den hp hq (by omega)
  have c4 : CMw p.num q.num := CMw_of hp.num hq.num (by omega)
  have hd := Sz.mulI (i := p.den) (j := q.den) (by simpa using hp.den) (by simpa using hq.den)
  have e := l_lpart (n := p.num * q.num) (d := p.den * q.den) (k := a + b) (l := a + b) (μ := μ) (Nat.mul_ne_zero p.den_nz q.den_nz) (Sz.mulI hp.num hq.num) (by simpa [Int.natAbs_mul] using hd) (by omega) (by omega)
  rw [← Rat.mul_def] at e
  push_cast at e
  refine run_rt rfl ?_
  simp [b__law_times, c4, c3, e]
theorem sum_szL {a : Nat} : ∀ {L : List Rat}, (∀ q ∈ L, Sz a q) → Sz ((a + 1) * L.length + 1) L.sum
  | [], _ => Sz.zero
  | q :: L, h => by
    rw [List.sum_cons]
    exact ((h q (by simp)).add (sum_szL fun r hr => h r (by simp [hr]))).mono (by simp [Nat.mul_add]; omega)
def dotQ (a b : List Rat) : Rat := ((a.zip b).map fun z => z.1 * z.2).sum
def formQ (F T : List (List Rat)) : Rat := ((F.zip T).map fun z => dotQ z.1 z.2).sum
theorem sum_filter0 {γ : Type} (f : γ → Rat) (p : γ → Bool) : ∀ {L : List γ}, (∀ x ∈ L, p x = false → f x = 0) → ((L.filter p).map f).sum = (L.map f).sum
  | [], _ => rfl
  | x :: L, h => by
    have ih := sum_filter0 f p (L := L) fun y hy => h y (List.mem_cons_of_mem _ hy)
    cases hp : p x with
    | true => simp [List.filter_cons, hp, ih]
    | false =>
      have := h x (by simp) hp
      simp [List.filter_cons, hp, ih, this, Rat.zero_add]
theorem zipFR {a b : List Rat} : ((a.map FR).zip (b.map FR)).map (fun z => DV.tup [z.1, z.2]) = (a.zip b).map fun z => DV.tup [FR z.1, FR z.2] := by
  rw [List.zip_map, List.map_map]
  rfl
theorem zip_mem1 {α β : Type} {a : List α} {b : List β} {z : α × β} (h : z ∈ a.zip b) : z.1 ∈ a ∧ z.2 ∈ b := ⟨(List.of_mem_zip (a := z.1) (b := z.2) h).1, (List.of_mem_zip (a := z.1) (b := z.2) h).2⟩
theorem pureL_map {γ : Type} {f : γ → DV} (h : ∀ x, (f x).pure = true) : ∀ L : List γ, DV.pureL (L.map f) = true
  | [] => rfl
  | x :: L => by simp only [List.map_cons, DV.pureL, h x, pureL_map h L, Bool.and_true]
theorem pureL_app : ∀ {a b : List DV}, DV.pureL a = true → DV.pureL b = true → DV.pureL (a ++ b) = true
  | [], _, _, h => h
  | x :: a, b, h, h2 => by
    simp only [List.cons_append, DV.pureL, Bool.and_eq_true] at h ⊢
    exact ⟨h.1, pureL_app h.2 h2⟩
theorem RW_pure {L : List Rat} : (RW L).pure = true := pureL_map (f := FR) (fun _ => rfl) L
theorem MX_pure {M : List (List Rat)} : (MX M).pure = true := pureL_map (f := RW) (fun _ => RW_pure) M
def isForm (v : DV) : Bool := match v with
  | .tup xs => decide (1 ≤ xs.length ∧ xs.length ≤ 4) && (match xs with
    | .tup ys :: _ => decide (ys.length ≠ 0) && xs.all fun r => isRow r ys.length
    | _ => false)
  | _ => false
def rowQ (v : DV) : List Rat := match v with
  | .tup xs => xs.map frQ
  | _ => []
@[simp] theorem rowQ_RW {L : List Rat} : rowQ (RW L) = L := by
  simp [rowQ, RW, Function.comp_def, frQ_FR]
def okRow (L : List Rat) : Bool := L.all (fun q => decide (0 ≤ q)) && decide (L.sum = 1)
def isTable (v : DV) (s m : Nat) : Bool := match v with
  | .tup xs => decide (xs.length = s) && xs.all (fun r => isRow r m) && xs.all fun r => okRow (rowQ r)
  | _ => false
theorem FR_eq1 {q : Rat} {μ : DM} {neg : Bool} : gEq neg (FR q) (.tup [.int 1, .int 1]) μ = .ok (.bl (if neg then !decide (q = 1) else decide (q = 1))) μ := by
  rw [← FR_one]
  exact FR_eq
theorem intsOf_map {γ : Type} (f : γ → Int) : ∀ L : List γ, intsOf (L.map fun x => .int (f x)) = some (L.map f)
  | [] => rfl
  | x :: L => by simp [intsOf, intsOf_map f L]
theorem dotQ_sz {a b : List Rat} {k l : Nat} (ha : ∀ q ∈ a, Sz k q) (hb : ∀ q ∈ b, Sz l q) : Sz ((k + l + 1) * min a.length b.length + 1) (dotQ a b) := by
  have h := sum_szL (L := (a.zip b).map fun z => z.1 * z.2) (a := k + l) (fun q hq => by
    obtain ⟨z, hz, rfl⟩ := List.mem_map.mp hq
    obtain ⟨m1, m2⟩ := zip_mem1 hz
    exact (ha _ m1).mul (hb _ m2))
  simpa [dotQ] using h
theorem rperm_sum {l m : List Rat} (h : l.Perm m) : l.sum = m.sum := by
  induction h with
  | nil => rfl
  | cons _ _ ih => simp [ih]
  | swap a b l => simp only [List.sum_cons]; grind
  | trans _ _ i j => exact i.trans j
theorem perm_FR {ys : List DV} {P : List Rat} (h : ys.Perm (P.map FR)) : ∃ Q : List Rat, ys = Q.map FR ∧ Q.Perm P := by
  refine ⟨ys.map frQ, ?_, ?_⟩
  · have : ys.map (FR ∘ frQ) = ys.map id := List.map_congr_left fun x hx => by
      obtain ⟨q, _, rfl⟩ := List.mem_map.mp (h.mem_iff.mp hx)
      simp [frQ_FR]
    rw [List.map_map, this, List.map_id]
  · have := h.map frQ
    rw [List.map_map, show frQ ∘ FR = id from by funext q; simp [frQ_FR], List.map_id] at this
    exact this
theorem qn_add {a b d : Nat} : qn a d + qn b d = qn (a + b) d := by
  unfold qn
  rw [Rat.mkRat_eq_div, Rat.mkRat_eq_div, Rat.mkRat_eq_div, Rat.div_def, Rat.div_def, Rat.div_def, ← Rat.add_mul]
  congr 1
  push_cast
  rfl
theorem qn_sum {d : Nat} (hd : d ≠ 0) : ∀ P : List Nat, (P.map fun p => qn p d).sum = qn P.sum d
  | [] => qn_zero.symm
  | p :: P => by rw [List.map_cons, List.sum_cons, List.sum_cons, qn_sum hd P, qn_add]
theorem qn_pos {a d : Nat} : 0 ≤ qn a d := by
  rw [← qn_zero (b := d)]
  exact qn_mono (by omega)
theorem l_lpartn {a b : Nat} {μ : DM} (hb : b ≠ 0) (ha : a < 2 ^ 60) (hb2 : b < 2 ^ 60) : f__law_part [.int a, .int b] μ = .ok (FR (qn a b)) μ := by
  have e := l_lpart (n := (a : Int)) (d := b) (k := 60) (l := 60) (μ := μ) hb (by simpa using ha) hb2 (by omega) (by omega)
  rw [qn_norm] at e
  exact e
def R1 (n m : Nat) (X C : DC) (rest : DM) (l : List DV) (ρ : DE) (μ : DM) : Prop := ∃ (HD : DC) (P : List Nat) (i left : Nat) (w4 w5 : Option DV),
  l = (List.range' i (m - i)).map (fun i : Nat => DV.int (i : Int)) ∧ i ≤ m ∧ ρ = [some (.ref 2), some (.int m), some (.int left), some (.ref (rest.length + 3)), w4, w5] ∧
  μ = X :: C :: HD :: (rest ++ [.lst (P.map fun p => FR (qn p 12))]) ∧ P.length = i ∧ P.sum + left = 12 ∧ (i = m → left = 0) ∧ HOk (n + i) C HD
theorem mem_le_sum : ∀ {P : List Nat} {p : Nat}, p ∈ P → p ≤ P.sum
  | q :: P, p, h => by
    rcases List.mem_cons.mp h with rfl | h
    · simp
    · have := mem_le_sum h
      simp; omega
def R1Q (n m : Nat) (X C : DC) (rest : DM) (w : DV) (μ : DM) : Prop := ∃ L HD', w = RW L ∧ μ = X :: C :: HD' :: rest ∧ L.length = m ∧ okRow L = true ∧ (∀ q ∈ L, Sz 4 q) ∧ HOk (n + 2 * m) C HD'
theorem okS_wr {P : EP} {r : SR} {ρ : DE} {μ : DM} (h : r = .nx ρ μ) (k : P.nx ρ μ) : OkS P r := by
  rw [h]; exact k
theorem cut_to1 {xs : List DV} {k : Nat} (h : 1 ≤ k) : cutD xs none (some ((k : Int) - 1)) = xs.take (k - 1) := by
  rw [show (k : Int) - 1 = ((k - 1 : Nat) : Int) by omega, cut_to]
theorem cut_to_1 {xs : List DV} : cutD xs none (some 1) = xs.take 1 := cut_to (k := 1)
theorem cut_fr_1 {xs : List DV} : cutD xs (some 1) none = xs.drop 1 := cut_from (k := 1)
theorem cut_fr_2 {xs : List DV} : cutD xs (some 2) none = xs.drop 2 := cut_from (k := 2)
theorem asg_eq {m : EM} {i : Nat} {ρ : DE} {μ μ' : DM} {v : DV} (h : m ρ μ = .ok v μ') (hi : i < ρ.length) : sAsg m (tgN i) ρ μ = .nx (ρ.set i (some v)) μ' := by
  simp [h, hi]
theorem if_f {t : BM} {a : SM} {ρ : DE} {μ μ' : DM} (h : t ρ μ = .ok false μ') : sIf t a sNil ρ μ = .nx ρ μ' := by simp [h]
theorem if_or {t u : BM} {a : SM} {ρ : DE} {μ μ1 μ2 : DM} (h : t ρ μ = .ok false μ1) (h2 : u ρ μ1 = .ok false μ2) : sIf (mOr t u) a sNil ρ μ = .nx ρ μ2 := by simp [h, h2]
theorem le_sumQ {q : Rat} : ∀ {L : List Rat}, (∀ p ∈ L, 0 ≤ p) → q ∈ L → q ≤ L.sum
  | p :: L, h, hq => by
    have h0 : 0 ≤ L.sum := by
      have : ∀ M : List Rat, (∀ p ∈ M, 0 ≤ p) → 0 ≤ M.sum := by
        intro M hM
        induction M with
        | nil => exact Rat.le_refl
        | cons a M ih =>
          have h1 := hM a (by simp)
          have h2 := ih fun x hx => hM x (by simp [hx])
          rw [List.sum_cons]; grind
      exact this L fun x hx => h x (by simp [hx])
    have hp := h p (by simp)
    rw [List.sum_cons]
    rcases List.mem_cons.mp hq with rfl | hq
    · grind
    · have := le_sumQ (fun x hx => h x (by simp [hx])) hq
      grind
theorem RW_inj' {a b : List Rat} (h : RW a = RW b) : a = b := by
  simp only [RW, DV.tup.injEq] at h
  have := congrArg (List.map frQ) h
  simpa [Function.comp_def, frQ_FR] using this
theorem MX_seq' {M : List (List Rat)} {μ : DM} : (MX M).seq μ = some (M.map RW) := rfl
theorem RW_seq' {L : List Rat} {μ : DM} : (RW L).seq μ = some (L.map FR) := rfl
theorem ne_one {μ : DM} {s : String} : gEq true (.ref μ.length) (.ref (μ.length + 1)) (μ ++ [.lst [.str s], .lst [.str s]]) = .ok (.bl false) (μ ++ [.lst [.str s], .lst [.str s]]) := by
  rw [gEq_lst (xs := [.str s]) (ys := [.str s]) (by simp) (by simp) rfl rfl (by simp [DV.dpL, DV.dp]) (by simp [DV.dpL, DV.dp])]
  simp [dEqL, dEq]
/-- a list told, beside the one that is due -/
theorem te_one {m : EM} {ρ : DE} {μ μ0 : DM} {s : String} (h : m ρ μ0 = .ok (.ref μ.length) (μ ++ [.lst [.str s]])) : mBl (mOp (gEq true) m (mKeep (mLst (mCons (mC (.str s)) (mNil))))) ρ μ0 = .ok false (μ ++ [.lst [.str s], .lst [.str s]]) := by
  simp only [x_bl, x_op, h, DR.bind_ok]
  simp [ne_one]
/-! ## comprehensions that draw and leave new lists behind -/
theorem lc_drawnG_go {R : DV → DV → Prop} {c N : Nat} {X C : DC} {s : Src} {ρ : DE} {t : GM} {te : EM} (hs : s.2 = none) :
    ∀ (l acc : List DV) (n : Nat) (HD : DC) (rest : DM), (∀ x ∈ l, ∀ HD n rest, HOk n C HD → n ≤ N → ∃ ρ1 v HD' T, t x ρ (X :: C :: HD :: rest) = some ρ1 ∧ te ρ1 (X :: C :: HD :: rest) = .ok v (X :: C :: HD' :: (rest ++ T)) ∧ R x v ∧ HOk (n + c) C HD') →
      HOk n C HD → n + c * l.length ≤ N → acc.length + l.length ≤ LIM → ∃ ys HD' T, mLc.go t mYes te s ρ l acc (X :: C :: HD :: rest) = .ok (acc ++ ys) (X :: C :: HD' :: (rest ++ T)) ∧ All2 R l ys ∧ HOk (n + c * l.length) C HD'
  | [], acc, n, HD, rest, _, hh, _, _ => ⟨[], HD, [], by simp [mLc.go, okAt, hs], .nil, by simpa using hh⟩
  | x :: l, acc, n, HD, rest, h, hh, hn, hl => by
    have hn' : n + c + c * l.length ≤ N := by simpa [Nat.mul_add, Nat.add_assoc, Nat.add_comm c] using hn
    obtain ⟨ρ1, v, HD1, T1, h1, h2, h3, h4⟩ := h x (by simp) HD n rest hh (by omega)
    obtain ⟨ys, HD2, T2, g1, g2, g3⟩ := lc_drawnG_go (R := R) (c := c) (N := N) (X := X) (C := C) (ρ := ρ) (t := t) (te := te) hs l (acc ++ [v]) (n + c) HD1 (rest ++ T1) (fun y hy => h y (List.mem_cons_of_mem _ hy)) h4 hn' (by simp at hl ⊢; omega)
    refine ⟨v :: ys, HD2, T1 ++ T2, ?_, .cons h3 g2, ?_⟩
    · rw [mLc.go, if_pos ⟨by rw [hs]; rfl, by simp at hl; show _ < 16777216; omega⟩, h1]
      simp only [mYes, DR.noex_ok, DR.bind_ok, if_pos, h2, g1]
      simp
    · have e : n + c + c * l.length = n + c * (x :: l).length := by simp [Nat.mul_add]; omega
      rw [← e]; exact g3
theorem lc_drawnG {R : DV → DV → Prop} (c N : Nat) {n : Nat} {X C HD : DC} {rest : DM} {vs : List Nat} {mi : IM} {ρ : DE} {t : GM} {te : EM} {l : List DV} {μ0 : DM} (hi : mi ρ μ0 = .ok (l, none) (X :: C :: HD :: rest))
    (h : ∀ x ∈ l, ∀ HD n rest, HOk n C HD → n ≤ N → ∃ ρ1 v HD' T, t x (wipeD ρ vs) (X :: C :: HD :: rest) = some ρ1 ∧ te ρ1 (X :: C :: HD :: rest) = .ok v (X :: C :: HD' :: (rest ++ T)) ∧ R x v ∧ HOk (n + c) C HD')
    (hh : HOk n C HD) (hn : n + c * l.length ≤ N) (hl : l.length ≤ LIM) : ∃ ys HD' T, mLc vs mi t mYes te ρ μ0 = .ok ys (X :: C :: HD' :: (rest ++ T)) ∧ All2 R l ys ∧ HOk (n + c * l.length) C HD' := by
  obtain ⟨ys, HD', T, g1, g2, g3⟩ := lc_drawnG_go (R := R) (c := c) (N := N) (X := X) (C := C) (s := (l, none)) (ρ := wipeD ρ vs) (t := t) (te := te) rfl l [] n HD rest h hh hn (by simpa using hl)
  exact ⟨ys, HD', T, by unfold mLc; rw [hi, DR.bind_ok, g1, List.nil_append], g2, g3⟩
theorem lc_drawn0 {R : DV → DV → Prop} (c N : Nat) {n : Nat} {X C HD : DC} {rest : DM} {vs : List Nat} {mi : IM} {ρ : DE} {t : GM} {te : EM} {l : List DV} {μ0 : DM} (hi : mi ρ μ0 = .ok (l, none) (X :: C :: HD :: rest))
    (h : ∀ x ∈ l, ∀ HD n, HOk n C HD → n ≤ N → ∃ ρ1 v HD', t x (wipeD ρ vs) (X :: C :: HD :: rest) = some ρ1 ∧ te ρ1 (X :: C :: HD :: rest) = .ok v (X :: C :: HD' :: rest) ∧ R x v ∧ HOk (n + c) C HD')
    (hh : HOk n C HD) (hn : n + c * l.length ≤ N) (hl : l.length ≤ LIM) : ∃ ys HD', mLc vs mi t mYes te ρ μ0 = .ok ys (X :: C :: HD' :: rest) ∧ All2 R l ys ∧ HOk (n + c * l.length) C HD' := by
  obtain ⟨ys, HD', g1, g2, g3⟩ := lc_drawn_go (R := R) (c := c) (N := N) (X := X) (C := C) (rest := rest) (s := (l, none)) (ρ := wipeD ρ vs) (t := t) (te := te) rfl l [] n HD h hh hn (by simpa using hl)
  exact ⟨ys, HD', by unfold mLc; rw [hi, DR.bind_ok, g1, List.nil_append], g2, g3⟩
/-- a function of the hand: what it made new goes -/
theorem run_hand {N n k : Nat} {b : SM} {ds : List DV} {X C HD HD' : DC} {rest t : DM} {v : DV} (hn : ds.length = n) (hv : v.und (rest.length + 3) = true) (hh : HOk k C HD') (h : b (ds.map some ++ List.replicate (N - n) none) (X :: C :: HD :: rest) = .rt v (X :: C :: HD' :: (rest ++ t))) : runFn N n b ds (X :: C :: HD :: rest) = .ok v (X :: C :: HD' :: rest) := by
  unfold runFn
  rw [if_pos hn, h]
  exact tidy_hand hv hh
/-- a walk whose body leaves all as it was, but for its own name -/
theorem for_each {s : Src} {t : GM} {b : SM} {μ : DM} (E : Option DV → DE) (hok : okAt s.2 s.1 μ = true) (ht : ∀ x w, t x (E w) μ = some (E (some x))) : ∀ (l : List DV) (w : Option DV), (∀ x ∈ l, b (E (some x)) μ = .nx (E (some x)) μ) → ∃ w', sFor.go t b s l (E w) μ = .nx (E w') μ
  | [], w, _ => ⟨w, go_nil hok⟩
  | x :: l, w, h => by
    obtain ⟨w', e⟩ := for_each E hok ht l (some x) fun y hy => h y (by simp [hy])
    exact ⟨w', by rw [go_cons hok (ht x w) (h x (by simp)), e]⟩
/-- the same, new lists being left behind -/
theorem for_eachG {s : Src} {t : GM} {b : SM} {X C HD : DC} (E : Option DV → DE) (hs : s.2 = none) (ht : ∀ x w μ, t x (E w) μ = some (E (some x))) : ∀ (l : List DV) (w : Option DV) (rest : DM), (∀ x ∈ l, ∀ rest, ∃ T, b (E (some x)) (X :: C :: HD :: rest) = .nx (E (some x)) (X :: C :: HD :: (rest ++ T))) → ∃ w' T, sFor.go t b s l (E w) (X :: C :: HD :: rest) = .nx (E w') (X :: C :: HD :: (rest ++ T))
  | [], w, rest, _ => ⟨w, [], by rw [go_nil (by rw [hs]; rfl), List.append_nil]⟩
  | x :: l, w, rest, h => by
    obtain ⟨T1, e1⟩ := h x (by simp) rest
    obtain ⟨w', T2, e⟩ := for_eachG E hs ht l (some x) (rest ++ T1) fun y hy => h y (by simp [hy])
    exact ⟨w', T1 ++ T2, by rw [go_cons (by rw [hs]; rfl) (ht x w _) e1, e, List.append_assoc]⟩
/-! ## the one by the other -/
theorem den_div (p : Rat) : p = (p.num : Rat) / (p.den : Rat) := by
  have h := Rat.num_divInt_den p
  rw [Rat.divInt_eq_div] at h
  exact_mod_cast h.symm
theorem divInt_div {p q : Rat} (h : q ≠ 0) : Rat.divInt (p.num * q.den) (p.den * q.num) = p / q := by
  have e1 := den_div p
  have e2 := den_div q
  have h1 : (p.den : Rat) ≠ 0 := by
    have := p.den_nz
    simpa using this
  have h2 : (q.den : Rat) ≠ 0 := by
    have := q.den_nz
    simpa using this
  have h3 : (q.num : Rat) ≠ 0 := by
    have : ¬ q.num = 0 := fun z => h (Rat.num_eq_zero.mp z)
    simpa using this
  have e3 : p / q = ((p.num : Rat) / (p.den : Rat)) / ((q.num : Rat) / (q.den : Rat)) := by rw [← e1, ← e2]
  rw [Rat.divInt_eq_div, e3]
  push_cast
  generalize (p.num : Rat) = a at *
  generalize (p.den : Rat) = b at *
  generalize (q.num : Rat) = c at *
  generalize (q.den : Rat) = d at *
  grind
theorem divInt_posD {a : Int} {d : Nat} (h : d ≠ 0) : Rat.normalize a d h = Rat.divInt a d := by
  rw [Rat.normalize_eq_mkRat, Rat.divInt_ofNat]
theorem sz_divp {p q : Rat} {a b : Nat} (hp : Sz a p) (hq : Sz b q) (h : 0 < q) : Sz (a + b) (p / q) := by
  have hq0 : q ≠ 0 := by grind
  have hn : 0 < q.num := by rw [Rat.lt_iff] at h; simpa using h
  obtain ⟨d, hd⟩ : ∃ d : Nat, q.num = (d : Int) := ⟨q.num.natAbs, by omega⟩
  have hd0 : p.den * d ≠ 0 := Nat.mul_ne_zero p.den_nz (by omega)
  rw [← divInt_div hq0, hd, show (p.den : Int) * (d : Int) = ((p.den * d : Nat) : Int) by simp, ← divInt_posD hd0]
  refine norm_sz hd0 (Sz.mulI hp.num (by simpa using hq.den)) ?_
  have h1 := hq.num
  rw [hd] at h1
  simp at h1
  have := Sz.mulI (i := p.den) (j := d) (by simpa using hp.den) (by simpa using h1)
  simpa [Int.natAbs_mul] using this
theorem l_ratiop {p q : Rat} {a b : Nat} {μ : DM} (hp : Sz a p) (hq : Sz b q) (hs : a + b < 8000) (h : 0 < q) : f_ratio [FR p, FR q] μ = .ok (FR (p / q)) μ := by
  have hq0 : q ≠ 0 := by grind
  have hn : 0 < q.num := by rw [Rat.lt_iff] at h; simpa using h
  obtain ⟨d, hd⟩ : ∃ d : Nat, q.num = (d : Int) := ⟨q.num.natAbs, by omega⟩
  have hd0 : p.den * d ≠ 0 := Nat.mul_ne_zero p.den_nz (by omega)
  have h1 := hq.num
  rw [hd] at h1
  simp at h1
  have hm := Sz.mulI (i := p.den) (j := d) (by simpa using hp.den) (by simpa using h1)
  have e := l_part_of (n := p.num * q.den) (d := p.den * d) (k := a + b) (μ := μ) hd0 (by simpa [Int.natAbs_mul] using hm) (by omega)
  rw [divInt_posD] at e
  push_cast at e
  have ed := divInt_div (p := p) hq0
  rw [hd] at ed
  rw [ed] at e
  have c1 : CMw p.num q.den := CMw_of hp.num (by simpa using hq.den) (by omega)
  have c2 : CMw p.den d := CMw_of (by simpa using hp.den) (by simpa using h1) (by omega)
  refine run_rt rfl ?_
  simp [b_ratio, hd, c1, c2, e]
  intro z
  omega
theorem l_loverp {p q : Rat} {a b : Nat} {μ : DM} (hp : Sz a p) (hq : Sz b q) (hs : a + b < 8000) (h : 0 < q) : f__law_over [FR p, FR q] μ = .ok (FR (p / q)) μ := by
  have hq0 : q ≠ 0 := by grind
  have hn : 0 < q.num := by rw [Rat.lt_iff] at h; simpa using h
  obtain ⟨d, hd⟩ : ∃ d : Nat, q.num = (d : Int) := ⟨q.num.natAbs, by omega⟩
  have hd0 : p.den * d ≠ 0 := Nat.mul_ne_zero p.den_nz (by omega)
  have h1 := hq.num
  rw [hd] at h1
  simp at h1
  have hm := Sz.mulI (i := p.den) (j := d) (by simpa using hp.den) (by simpa using h1)
  have e := l_lpart (n := p.num * q.den) (d := p.den * d) (k := a + b) (l := a + b) (μ := μ) hd0 (Sz.mulI hp.num (by simpa using hq.den)) (by simpa [Int.natAbs_mul] using hm) (by omega) (by omega)
  rw [divInt_posD] at e
  push_cast at e
  have ed := divInt_div (p := p) hq0
  rw [hd] at ed
  rw [ed] at e
  have c1 : CMw p.num q.den := CMw_of hp.num (by simpa using hq.den) (by omega)
  have c2 : CMw p.den d := CMw_of (by simpa using hp.den) (by simpa using h1) (by omega)
  refine run_rt rfl ?_
  simp [b__law_over, hd, c1, c2, e]
  intro z
  omega
theorem l_is_below {p q : Rat} {a b : Nat} {μ : DM} (hp : Sz a p) (hq : Sz b q) (hs : a + b < 900000) : f_is_below [FR p, FR q] μ = .ok (.bl (decide (p < q))) μ := by
  obtain ⟨c1, c2, c3⟩ := CMw_den hp hq (by omega)
  refine run_rt rfl ?_
  simp [b_is_below, c1, c2, Rat.lt_iff]
/-! ## tastes: rows of (end, worth) -/
def upGo (x : Rat) : List ST → Rat → Rat → Rat
  | [], f, _ => f
  | (e, p) :: T, f, l => upGo x T (if e ≤ x then f + p else if l < x then f + p * ((x - l) / (e - l)) else f) e
def upQ (T : List ST) (x : Rat) : Rat := upGo x T 0 0
theorem upGo_sz {x : Rat} {kx : Nat} (hx : Sz kx x) : ∀ {T : List ST} {f l : Rat} {k : Nat}, (∀ s ∈ T, SP 5 s) → Sz 5 l → Sz k f → Sz (k + (kx + 30) * T.length) (upGo x T f l)
  | [], f, l, k, _, _, hf => by simpa [upGo] using hf
  | (e, p) :: T, f, l, k, h, hl, hf => by
    have hs := h (e, p) (by simp)
    have he : Sz 5 e := hs.a
    have hp : Sz 5 p := hs.b
    have h' : ∀ s ∈ T, SP 5 s := fun s hs => h s (by simp [hs])
    have key : Sz (k + (kx + 30)) (if e ≤ x then f + p else if l < x then f + p * ((x - l) / (e - l)) else f) := by
      split
      · exact (hf.add hp).mono (by omega)
      · rename_i h1
        split
        · rename_i h2
          have hpos : 0 < e - l := by grind
          exact (hf.add (hp.mul (sz_divp (hx.sub hl) (he.sub hl) hpos))).mono (by omega)
        · exact hf.mono (by omega)
    have := upGo_sz hx h' he key
    rw [upGo]
    refine this.mono ?_
    simp only [List.length_cons, Nat.mul_add]
    omega
theorem upQ_sz {T : List ST} {x : Rat} {kx : Nat} (hx : Sz kx x) (h : ∀ s ∈ T, SP 5 s) : Sz (1 + (kx + 30) * T.length) (upQ T x) := upGo_sz hx h (Sz.zero.mono (by omega)) Sz.zero
theorem l_upto {T : List ST} {x : Rat} {kx : Nat} {μ : DM} (h : ∀ s ∈ T, SP 5 s) (hx : Sz kx x) (hb : (kx + 30) * (T.length + 2) < 7000) : f_worth_up_to [PC T, FR x] μ = .ok (FR (upQ T x)) μ := by
  refine run_rt rfl ?_
  have hk : kx + 30 ≤ (kx + 30) * (T.length + 2) := Nat.le_mul_of_pos_right _ (by omega)
  obtain ⟨ρ', h1, f, l, k, w4, w5, h2, _, _, _, h3, _⟩ := for_ind (enc := PR) (s := (T.map PR, none)) (t := tgTup 2 (tgCons (tgN 4) (tgCons (tgN 5) (tgNil)))) (b := (sSeq (sIf (mTru (mCall 2 f_is_at_most (mCons (mVar 4) (mCons (mVar 1) (mNil))))) (sAsg (mCall 2 f_add (mCons (mVar 2) (mCons (mVar 5) (mNil)))) (tgN 2)) (sIf (mTru (mCall 2 f_is_below (mCons (mVar 3) (mCons (mVar 1) (mNil))))) (sAsg (mCall 2 f_add (mCons (mVar 2) (mCons (mCall 2 f_product (mCons (mVar 5) (mCons (mCall 2 f_ratio (mCons (mCall 2 f_take (mCons (mVar 1) (mCons (mVar 3) (mNil)))) (mCons (mCall 2 f_take (mCons (mVar 4) (mCons (mVar 3) (mNil)))) (mNil)))) (mNil)))) (mNil)))) (tgN 2)) (sNil))) <|
  sAsg (mVar 4) (tgN 3))) (μ := μ)
    (fun L ρ => ∃ (f l : Rat) (k : Nat) (w4 w5 : Option DV), ρ = [some (PC T), some (FR x), some (FR f), some (FR l), w4, w5] ∧ Sz k f ∧ k + (kx + 30) * L.length < 6950 ∧ Sz 5 l ∧ upGo x L f l = upQ T x ∧ ∀ s ∈ L, SP 5 s) rfl
    (fun s L ρ ⟨f, l, k, w4, w5, e, hf, hk2, hl, e2, hL⟩ => by
      subst e
      obtain ⟨e, p⟩ := s
      have hs := hL (e, p) (by simp)
      have he : Sz 5 e := hs.a
      have hp : Sz 5 p := hs.b
      have hk' : k + (kx + 30) * L.length + (kx + 30) < 6950 := by simpa [Nat.mul_add, Nat.add_assoc] using hk2
      have a1 := l_is_at_most (μ := μ) he hx (by omega)
      have a2 := l_is_below (μ := μ) hl hx (by omega)
      rw [upGo] at e2
      by_cases c1 : e ≤ x
      · have a3 := l_add (μ := μ) hf hp (by omega)
        rw [if_pos c1] at e2
        refine ⟨_, [some (PC T), some (FR x), some (FR (f + p)), some (FR e), some (FR e), some (FR p)], by simp [PR]; rfl, ?_, f + p, e, k + 5 + 1, _, _, rfl, hf.add hp, by omega, he, e2, fun r hr => hL r (by simp [hr])⟩
        simp [a1, c1, a3]
      · rw [if_neg c1] at e2
        by_cases c2 : l < x
        · have hpos : 0 < e - l := by grind
          have b1 := l_take (μ := μ) hx hl (by omega)
          have b2 := l_take (μ := μ) he hl (by omega)
          have b3 := l_ratiop (μ := μ) (hx.sub hl) (he.sub hl) (by omega) hpos
          have z3 := sz_divp (hx.sub hl) (he.sub hl) hpos
          have b4 := l_product (μ := μ) hp z3 (by omega)
          have z4 := hp.mul z3
          have b5 := l_add (μ := μ) hf z4 (by omega)
          have z5 := hf.add z4
          rw [if_pos c2] at e2
          refine ⟨_, [some (PC T), some (FR x), some (FR (f + p * ((x - l) / (e - l)))), some (FR e), some (FR e), some (FR p)], by simp [PR]; rfl, ?_, _, e, _, _, _, rfl, z5, by omega, he, e2, fun r hr => hL r (by simp [hr])⟩
          simp [a1, c1, a2, c2, b1, b2, b3, b4, b5]
        · rw [if_neg c2] at e2
          refine ⟨_, [some (PC T), some (FR x), some (FR f), some (FR e), some (FR e), some (FR p)], by simp [PR]; rfl, ?_, f, e, k, _, _, rfl, hf, by omega, he, e2, fun r hr => hL r (by simp [hr])⟩
          simp [a1, c1, a2, c2])
    T [some (PC T), some (FR x), some (FR 0), some (FR 0), none, none] ⟨0, 0, 1, none, none, rfl, Sz.zero, by simp [Nat.mul_add] at hb ⊢; omega, Sz.zero.mono (by omega), rfl, h⟩
  subst h2
  show b_worth_up_to [some (.tup (T.map PR)), some (FR x), none, none, none, none] μ = _
  have h1' : sFor.go (tgTup 2 (tgCons (tgN 4) (tgCons (tgN 5) (tgNil)))) _ (T.map PR, none) (T.map PR) [some (.tup (T.map PR)), some (FR x), some (.tup [.int 0, .int 1]), some (.tup [.int 0, .int 1]), none, none] μ = _ := h1
  simp [b_worth_up_to, h1']
  have e9 : f = upQ T x := by simpa [upGo] using h3
  rw [e9]
theorem l_lupto {T : List ST} {x : Rat} {kx : Nat} {μ : DM} (h : ∀ s ∈ T, SP 5 s) (hx : Sz kx x) (hb : (kx + 30) * (T.length + 2) < 7000) : f__law_up_to [PC T, FR x] μ = .ok (FR (upQ T x)) μ := by
  refine run_rt rfl ?_
  have hk : kx + 30 ≤ (kx + 30) * (T.length + 2) := Nat.le_mul_of_pos_right _ (by omega)
  obtain ⟨ρ', h1, f, l, k, w4, w5, h2, _, _, _, h3, _⟩ := for_ind (enc := PR) (s := (T.map PR, none)) (t := tgTup 2 (tgCons (tgN 4) (tgCons (tgN 5) (tgNil)))) (b := (sSeq (sIf (mNot (mTru (mCall 2 f__law_less (mCons (mVar 1) (mCons (mVar 4) (mNil)))))) (sAsg (mCall 2 f__law_plus (mCons (mVar 2) (mCons (mVar 5) (mNil)))) (tgN 2)) (sIf (mTru (mCall 2 f__law_less (mCons (mVar 3) (mCons (mVar 1) (mNil))))) (sAsg (mCall 2 f__law_plus (mCons (mVar 2) (mCons (mCall 2 f__law_times (mCons (mVar 5) (mCons (mCall 2 f__law_over (mCons (mCall 2 f__law_minus (mCons (mVar 1) (mCons (mVar 3) (mNil)))) (mCons (mCall 2 f__law_minus (mCons (mVar 4) (mCons (mVar 3) (mNil)))) (mNil)))) (mNil)))) (mNil)))) (tgN 2)) (sNil))) <|
  sAsg (mVar 4) (tgN 3))) (μ := μ)
    (fun L ρ => ∃ (f l : Rat) (k : Nat) (w4 w5 : Option DV), ρ = [some (PC T), some (FR x), some (FR f), some (FR l), w4, w5] ∧ Sz k f ∧ k + (kx + 30) * L.length < 6950 ∧ Sz 5 l ∧ upGo x L f l = upQ T x ∧ ∀ s ∈ L, SP 5 s) rfl
    (fun s L ρ ⟨f, l, k, w4, w5, e, hf, hk2, hl, e2, hL⟩ => by
      subst e
      obtain ⟨e, p⟩ := s
      have hs := hL (e, p) (by simp)
      have he : Sz 5 e := hs.a
      have hp : Sz 5 p := hs.b
      have hk' : k + (kx + 30) * L.length + (kx + 30) < 6950 := by simpa [Nat.mul_add, Nat.add_assoc] using hk2
      have a1 := l_lless (μ := μ) hx he (by omega)
      have a2 := l_lless (μ := μ) hl hx (by omega)
      rw [upGo] at e2
      by_cases c1 : e ≤ x
      · have a3 := l_lplus (μ := μ) hf hp (by omega)
        rw [if_pos c1] at e2
        have c1' : ¬ x < e := by grind
        refine ⟨_, [some (PC T), some (FR x), some (FR (f + p)), some (FR e), some (FR e), some (FR p)], by simp [PR]; rfl, ?_, f + p, e, k + 5 + 1, _, _, rfl, hf.add hp, by omega, he, e2, fun r hr => hL r (by simp [hr])⟩
        simp [a1, c1', a3]
      · rw [if_neg c1] at e2
        have c1' : x < e := by grind
        by_cases c2 : l < x
        · have hpos : 0 < e - l := by grind
          have b1 := l_lminus (μ := μ) hx hl (by omega)
          have b2 := l_lminus (μ := μ) he hl (by omega)
          have b3 := l_loverp (μ := μ) (hx.sub hl) (he.sub hl) (by omega) hpos
          have z3 := sz_divp (hx.sub hl) (he.sub hl) hpos
          have b4 := l_ltimes (μ := μ) hp z3 (by omega)
          have z4 := hp.mul z3
          have b5 := l_lplus (μ := μ) hf z4 (by omega)
          have z5 := hf.add z4
          rw [if_pos c2] at e2
          refine ⟨_, [some (PC T), some (FR x), some (FR (f + p * ((x - l) / (e - l)))), some (FR e), some (FR e), some (FR p)], by simp [PR]; rfl, ?_, _, e, _, _, _, rfl, z5, by omega, he, e2, fun r hr => hL r (by simp [hr])⟩
          simp [a1, c1', a2, c2, b1, b2, b3, b4, b5]
        · rw [if_neg c2] at e2
          refine ⟨_, [some (PC T), some (FR x), some (FR f), some (FR e), some (FR e), some (FR p)], by simp [PR]; rfl, ?_, f, e, k, _, _, rfl, hf, by omega, he, e2, fun r hr => hL r (by simp [hr])⟩
          simp [a1, c1', a2, c2])
    T [some (PC T), some (FR x), some (FR 0), some (FR 0), none, none] ⟨0, 0, 1, none, none, rfl, Sz.zero, by simp [Nat.mul_add] at hb ⊢; omega, Sz.zero.mono (by omega), rfl, h⟩
  subst h2
  show b__law_up_to [some (.tup (T.map PR)), some (FR x), none, none, none, none] μ = _
  have h1' : sFor.go (tgTup 2 (tgCons (tgN 4) (tgCons (tgN 5) (tgNil)))) _ (T.map PR, none) (T.map PR) [some (.tup (T.map PR)), some (FR x), some (.tup [.int 0, .int 1]), some (.tup [.int 0, .int 1]), none, none] μ = _ := h1
  simp [b__law_up_to, h1']
  have e9 : f = upQ T x := by simpa [upGo] using h3
  rw [e9]
def btwQ (T : List ST) (s : ST) : Rat := upQ T s.2 - upQ T s.1
def worQ (T P : List ST) : Rat := (P.map (btwQ T)).sum
/-- sizes that tastes and pieces have -/
structure TOk (T : List ST) : Prop where
  l : T.length ≤ 6
  z : ∀ s ∈ T, SP 5 s
structure POk (P : List ST) : Prop where
  l : P.length ≤ 6
  z : ∀ s ∈ P, SP 13 s
theorem up_sz {T : List ST} (h : TOk T) {x : Rat} (hx : Sz 13 x) : Sz 259 (upQ T x) := by
  refine (upQ_sz hx h.z).mono ?_
  have := Nat.mul_le_mul_left (13 + 30) h.l
  omega
theorem btw_sz {T : List ST} (h : TOk T) {s : ST} (hs : SP 13 s) : Sz 519 (btwQ T s) := (up_sz h hs.b).sub (up_sz h hs.a)
theorem l_up {T : List ST} {x : Rat} {μ : DM} (h : TOk T) (hx : Sz 13 x) : f_worth_up_to [PC T, FR x] μ = .ok (FR (upQ T x)) μ := l_upto h.z hx (by
  have := Nat.mul_le_mul_left (13 + 30) (show T.length + 2 ≤ 14 by have := h.l; omega)
  omega)
theorem l_lup {T : List ST} {x : Rat} {μ : DM} (h : TOk T) (hx : Sz 13 x) : f__law_up_to [PC T, FR x] μ = .ok (FR (upQ T x)) μ := l_lupto h.z hx (by
  have := Nat.mul_le_mul_left (13 + 30) (show T.length + 2 ≤ 14 by have := h.l; omega)
  omega)
theorem l_btwn {T : List ST} {s : ST} {μ : DM} (h : TOk T) (hs : SP 13 s) : f_worth_between [PC T, PR s] μ = .ok (FR (btwQ T s)) μ := by
  refine run_rt rfl ?_
  have e1 := l_up (μ := μ) h hs.b
  have e2 := l_up (μ := μ) h hs.a
  have e3 := l_take (μ := μ) (up_sz h hs.b) (up_sz h hs.a) (by omega)
  simp [b_worth_between, e1, e2, e3, btwQ]
theorem wor_bd {P : List ST} (h : POk P) : (519 + 1) * (P.length + 2) < 7000 := by
  have := Nat.mul_le_mul_left (519 + 1) (show P.length + 2 ≤ 8 by have := h.l; omega)
  omega
theorem btws_sz {T P : List ST} (h : TOk T) (hP : POk P) : ∀ q ∈ P.map (btwQ T), Sz 519 q := fun q hq => by
  obtain ⟨s, hs, rfl⟩ := List.mem_map.mp hq
  exact btw_sz h (hP.z s hs)
theorem wor_sz {T P : List ST} (h : TOk T) (hP : POk P) : Sz 3200 (worQ T P) := by
  have := sum_szL (btws_sz h hP)
  refine this.mono ?_
  have := Nat.mul_le_mul_left (519 + 1) hP.l
  rw [List.length_map]
  omega
theorem l_wof {T P : List ST} {μ : DM} (h : TOk T) (hP : POk P) : f_worth_of [PC T, PC P] μ = .ok (FR (worQ T P)) μ := by
  have hl := hP.l
  have el := lc_map (μ0 := μ) (μ := μ) PR P (fun s => FR (btwQ T s)) (vs := [2]) (mi := mIt (mVar 1)) (ρ := [some (PC T), some (PC P), none]) (t := tgN 2)
    (te := mCall 2 f_worth_between (mCons (mVar 0) (mCons (mVar 2) (mNil)))) (c := none) (by simp [PC]) rfl (by simp; omega) (fun s hs => ⟨_, rfl, by simp [wipeD, l_btwn h (hP.z s hs)]⟩)
  have et := l_totalR (L := P.map (btwQ T)) (a := 519) (n := μ.length) (μ := μ ++ [.lst (P.map fun s => FR (btwQ T s))]) (btws_sz h hP) (by rw [List.length_map]; exact wor_bd hP) (by simp [Function.comp_def])
  refine run_rtA (t := [.lst (P.map fun s => FR (btwQ T s))]) rfl rfl ?_
  show b_worth_of [some (PC T), some (PC P), none] μ = _
  unfold b_worth_of
  simp only [x_sRet, x_call, x_cons, x_keep, el, DR.bind_ok, x_nil, st_ok]
  simp only [List.length_singleton, List.length_cons, List.length_nil, Nat.zero_add, if_pos, et, st_ok]
  rfl
theorem l_lwof {T P : List ST} {μ : DM} (h : TOk T) (hP : POk P) : f__law_worth [PC T, PC P] μ = .ok (FR (worQ T P)) μ := by
  have hl := hP.l
  have el := lc_map (μ0 := μ) (μ := μ) PR P (fun s => FR (btwQ T s)) (vs := [3, 2]) (mi := mIt (mVar 1)) (ρ := [some (PC T), some (PC P), none, none]) (t := tgTup 2 (tgCons (tgN 3) (tgCons (tgN 2) (tgNil))))
    (te := mCall 2 f__law_minus (mCons (mCall 2 f__law_up_to (mCons (mVar 0) (mCons (mVar 2) (mNil)))) (mCons (mCall 2 f__law_up_to (mCons (mVar 0) (mCons (mVar 3) (mNil)))) (mNil)))) (c := none) (by simp [PC]) rfl (by simp; omega) (fun s hs => ⟨[some (PC T), some (PC P), some (FR s.2), some (FR s.1)], by simp [PR, wipeD], by
      have z := hP.z s hs
      have e1 := l_lup (μ := μ) h z.b
      have e2 := l_lup (μ := μ) h z.a
      have e3 := l_lminus (μ := μ) (up_sz h z.b) (up_sz h z.a) (by omega)
      simp [e1, e2, e3, btwQ]⟩)
  have et := l_lsum (L := P.map (btwQ T)) (a := 519) (n := μ.length) (μ := μ ++ [.lst (P.map fun s => FR (btwQ T s))]) (btws_sz h hP) (by rw [List.length_map]; exact wor_bd hP) (by simp [Function.comp_def])
  refine run_rtA (t := [.lst (P.map fun s => FR (btwQ T s))]) rfl rfl ?_
  show b__law_worth [some (PC T), some (PC P), none, none] μ = _
  unfold b__law_worth
  simp only [x_sRet, x_call, x_cons, x_keep, el, DR.bind_ok, x_nil, st_ok]
  simp only [List.length_singleton, List.length_cons, List.length_nil, Nat.zero_add, if_pos, et, st_ok]
  rfl
/-! ## what is a taste -/
def isShr (v : DV) : Bool := isFr v && decide (0 ≤ frQ v ∧ frQ v ≤ 1)
theorem l_isShr {v : DV} {μ : DM} (h : v.und μ.length = true) : f_is_share [v] μ = .ok (.bl (isShr v)) μ := by
  cases q : isFr v with
  | true =>
    obtain ⟨x, rfl⟩ : ∃ x, v = FR x := ⟨_, isFr_eq q⟩
    rw [l_is_share]
    simp [isShr, isFr_FR, frQ_FR]
  | false =>
    have e := l_isFr h
    rw [q] at e
    refine run_rt rfl ?_
    simp [b_is_share, e, isShr, q]
def isPr (v : DV) : Bool := match v with
  | .tup [a, b] => isShr a && isShr b
  | _ => false
def prQ (v : DV) : ST := match v with
  | .tup [a, b] => (frQ a, frQ b)
  | _ => (0, 0)
def ascB : Rat → List Rat → Bool
  | _, [] => true
  | l, e :: E => decide (l < e) && ascB e E
def okTaste (T : List ST) : Bool := ascB 0 (T.map (·.1)) && decide ((T.map (·.1)).getLastD 0 = 1) && decide ((T.map (·.2)).sum = 1)
def isTaste (v : DV) : Bool := match v with
  | .tup xs => decide (1 ≤ xs.length ∧ xs.length ≤ 60) && xs.all isPr && okTaste (xs.map prQ)
  | _ => false
theorem isPr_len {xs : List DV} (h : xs.length ≠ 2) : isPr (.tup xs) = false := by
  match xs, h with
  | [], _ => rfl
  | [_], _ => rfl
  | [_, _], h => exact absurd rfl h
  | _ :: _ :: _ :: _, _ => rfl
theorem isPr_eq {v : DV} (h : isPr v = true) : v = PR (prQ v) ∧ 0 ≤ (prQ v).1 ∧ (prQ v).1 ≤ 1 ∧ 0 ≤ (prQ v).2 ∧ (prQ v).2 ≤ 1 := by
  unfold isPr at h
  split at h
  · rename_i a b
    simp only [isShr, Bool.and_eq_true, decide_eq_true_eq] at h
    exact ⟨by simp only [PR, prQ]; rw [← isFr_eq h.1.1, ← isFr_eq h.2.1], h.1.2.1, h.1.2.2, h.2.2.1, h.2.2.2⟩
  · cases h
theorem prQ_PR {s : ST} : prQ (PR s) = s := by simp [prQ, PR, frQ_FR]
theorem ascB_ix : ∀ {E : List Rat} {l : Rat}, ascB l E = ((List.range' 1 E.length).all fun i => decide ((l :: E).getD (i - 1) 0 < (l :: E).getD i 0))
  | [], _ => rfl
  | e :: E, l => by
    rw [ascB, ascB_ix (E := E) (l := e), List.length_cons, List.range'_succ, List.all_cons, show 1 + 1 = 1 + 1 from rfl]
    congr 1
    rw [show (List.range' (1 + 1) E.length) = (List.range' 1 E.length).map (· + 1) from by
      apply List.ext_getElem
      · simp
      · intro i h1 h2; simp; omega]
    rw [List.all_map, Bool.eq_iff_iff, List.all_eq_true, List.all_eq_true]
    constructor
    · intro h i hi
      have := h i hi
      have h1 := (List.mem_range'_1.mp hi).1
      obtain ⟨j, rfl⟩ : ∃ j, i = j + 1 := ⟨i - 1, by omega⟩
      simpa using this
    · intro h i hi
      have := h i hi
      have h1 := (List.mem_range'_1.mp hi).1
      obtain ⟨j, rfl⟩ : ∃ j, i = j + 1 := ⟨i - 1, by omega⟩
      simpa using this
theorem l_isPr {v : DV} {μ : DM} {ρ : DE} (h : v.und μ.length = true) (hv : ρ[5]? = some (some v)) : mAndV (mCall 2 f_is_tuple_of (mCons (mVar 5) (mCons (mC (.int 2)) (mNil)))) (mAndV (mCall 1 f_is_share (mCons (mOp gIx (mVar 5) (mC (.int 0))) (mNil))) (mCall 1 f_is_share (mCons (mOp gIx (mVar 5) (mC (.int 1))) (mNil)))) ρ μ = .ok (.bl (isPr v)) μ := by
  have e := l_isTup (v := v) (n := 2) (μ := μ) h
  simp only [Int.cast_ofNat_Int] at e
  cases q : isTup v 2 with
  | false =>
    have : isPr v = false := by
      cases v with
      | tup xs => exact isPr_len (by simpa [isTup] using q)
      | _ => rfl
    rw [q] at e
    simp [hv, e, this]
  | true =>
    obtain ⟨a, b, rfl⟩ : ∃ x y, v = .tup [x, y] := by
      cases v with
      | tup xs =>
        simp [isTup] at q
        match xs, q with
        | [x, y], _ => exact ⟨x, y, rfl⟩
      | _ => simp [isTup] at q
    have ua : a.und μ.length = true := und_mem (xs := [a, b]) h (by simp)
    have ub : b.und μ.length = true := und_mem (xs := [a, b]) h (by simp)
    rw [q] at e
    cases qa : isShr a with
    | true => simp [hv, e, l_isShr ua, l_isShr ub, qa, isPr]
    | false => simp [hv, e, l_isShr ua, qa, isPr]
theorem getLastD_FR {E : List Rat} : ∀ {q : Rat}, (FR q :: E.map FR).getLast? = some (FR (E.getLastD q)) := by
  induction E with
  | nil => intro q; rfl
  | cons e E ih => intro q; rw [List.map_cons, List.getLast?_cons_cons, ih, List.getLastD_cons]
theorem l_isTaste {v : DV} {μ : DM} (h : v.und μ.length = true) (hz : ∀ xs, v = .tup xs → ∀ x ∈ xs, isPr x = true → SP 5 (prQ x)) : f_is_taste [v] μ = .ok (.bl (isTaste v)) μ := by
  cases v with
  | ref k => refine run_rt rfl ?_; simp [DV.und] at h; simp [b_is_taste, isOf, isTy, DV.ty, isTaste, h]
  | tup xs =>
    by_cases hl : 1 ≤ xs.length ∧ xs.length ≤ 60
    · have c1 : (1 : Int) ≤ xs.length := by omega
      have c2 : (xs.length : Int) ≤ 60 := by omega
      have el := lc_map (μ0 := μ) (μ := μ) id xs (fun i => DV.bl (isPr i)) (vs := [5]) (mi := mIt (mVar 0)) (ρ := [some (.tup xs), none, none, none, none, none, none]) (t := tgN 5)
        (te := mAndV (mCall 2 f_is_tuple_of (mCons (mVar 5) (mCons (mC (.int 2)) (mNil)))) (mAndV (mCall 1 f_is_share (mCons (mOp gIx (mVar 5) (mC (.int 0))) (mNil))) (mCall 1 f_is_share (mCons (mOp gIx (mVar 5) (mC (.int 1))) (mNil))))) (c := none) (by simp) rfl (by simp; omega) (fun i hi => ⟨_, rfl, l_isPr (und_mem (xs := xs) h hi) rfl⟩)
      have e3 := g_all (μ := μ) (f := fun v : DV => isPr v) (L := xs)
      cases q : xs.all (fun v => isPr v) with
      | false =>
        refine run_rt rfl ?_
        simp [b_is_taste, isOf, isTy, DV.ty, c1, c2, el, e3, q, isTaste, hl, -List.all_eq_false]
      | true =>
        obtain ⟨T, hT⟩ : ∃ T : List ST, T = xs.map prQ := ⟨_, rfl⟩
        have ex : xs = T.map PR := by
          rw [hT, List.map_map]
          have : xs.map (PR ∘ prQ) = xs.map id := List.map_congr_left fun x hx => (isPr_eq (List.all_eq_true.mp q x hx)).1.symm
          rw [this, List.map_id]
        have zT : ∀ s ∈ T, SP 5 s := by
          intro s hs
          rw [hT] at hs
          obtain ⟨x, hx, rfl⟩ := List.mem_map.mp hs
          exact hz xs rfl x hx (List.all_eq_true.mp q x hx)
        have lT : T.length = xs.length := by rw [hT, List.length_map]
        have eT : isTaste (.tup xs) = okTaste T := by
          simp only [isTaste, decide_eq_true hl, q, Bool.true_and, ← hT]
        rw [eT]
        obtain ⟨E, hE⟩ : ∃ E : List Rat, E = T.map (·.1) := ⟨_, rfl⟩
        have lE : E.length = T.length := by rw [hE, List.length_map]
        have zE : ∀ q ∈ (0 :: E), Sz 5 q := by
          intro q hq
          rcases List.mem_cons.mp hq with rfl | hq
          · exact Sz.zero.mono (by omega)
          · rw [hE] at hq
            obtain ⟨s, hs, rfl⟩ := List.mem_map.mp hq
            exact (zT s hs).a
        have ee := fun μ => lc_map (μ0 := μ) (μ := μ) PR T (fun s => FR s.1) (vs := [4, 2]) (mi := mIt (mVar 0)) (ρ := [some (.tup xs), none, none, none, none, none, none]) (t := tgTup 2 (tgCons (tgN 4) (tgCons (tgN 2) (tgNil))))
          (te := mVar 4) (c := none) (by simp [ex]) rfl (by simp; omega) (fun s hs => ⟨[some (.tup xs), none, some (FR s.2), none, some (FR s.1), none, none], by simp [PR, wipeD], by simp⟩)
        obtain ⟨N, hN⟩ : ∃ N : DM, N = μ ++ [.lst [FR 0], .lst (E.map FR), .lst (FR 0 :: E.map FR)] := ⟨_, rfl⟩
        have gN : N[μ.length + 2]? = some (.lst (FR 0 :: E.map FR)) := by
          rw [hN, List.getElem?_append_right (by omega), Nat.add_sub_cancel_left]; rfl
        have sN : (DV.ref (μ.length + 2)).seq N = some (FR 0 :: E.map FR) := seq_ref gN
        have eb := lc_map (μ0 := N) (μ := N) (fun i : Nat => DV.int (i : Int)) (List.range' 1 E.length) (fun i => .bl (decide ((0 :: E).getD (i - 1) 0 < (0 :: E).getD i 0))) (vs := [3]) (mi := mItR2 (mC (.int 1)) (mLen (mVar 1))) (ρ := [some (.tup xs), some (.ref (μ.length + 2)), none, none, none, none, none]) (t := tgN 3)
          (te := mCall 2 f_is_below (mCons (mOp gIx (mVar 1) (mOp qSub (mVar 3) (mC (.int 1)))) (mCons (mOp gIx (mVar 1) (mVar 3)) (mNil)))) (c := none)
          (by
            have := rgS_nat (μ := N) (a := 1) (b := E.length + 1) (by omega) (by omega)
            simp at this
            simp [sN, this]) rfl (by simp; omega) (fun i hi => by
            have h1 := List.mem_range'_1.mp hi
            obtain ⟨j, rfl⟩ : ∃ j, i = j + 1 := ⟨i - 1, by omega⟩
            have hj : j < (0 :: E).length := by simp; omega
            have hj1 : j + 1 < (0 :: E).length := by simp; omega
            have g1 : gIx (.ref (μ.length + 2)) (.int j) N = .ok (FR ((0 :: E)[j])) N := gIx_refn gN (by
              rw [show FR 0 :: E.map FR = (0 :: E).map FR from rfl, List.getElem?_map, List.getElem?_eq_getElem hj]; rfl)
            have g2 : gIx (.ref (μ.length + 2)) (.int ((j + 1 : Nat) : Int)) N = .ok (FR ((0 :: E)[j + 1])) N := gIx_refn gN (by
              rw [show FR 0 :: E.map FR = (0 :: E).map FR from rfl, List.getElem?_map, List.getElem?_eq_getElem hj1]; rfl)
            have lb := l_is_below (μ := N) (zE _ (List.getElem_mem hj)) (zE _ (List.getElem_mem hj1)) (by omega)
            refine ⟨_, rfl, ?_⟩
            have e9 : (((j + 1 : Nat) : Int) - 1) = (j : Int) := by omega
            have em1 : ∀ μ', mVar 1 [some (.tup xs), some (.ref (μ.length + 2)), none, some (.int ((j + 1 : Nat) : Int)), none, none, none] μ' = .ok (.ref (μ.length + 2)) μ' := fun _ => x_var rfl
            have em3 : ∀ μ', mVar 3 [some (.tup xs), some (.ref (μ.length + 2)), none, some (.int ((j + 1 : Nat) : Int)), none, none, none] μ' = .ok (.int ((j + 1 : Nat) : Int)) μ' := fun _ => x_var rfl
            simp only [x_call, x_cons, x_nil, x_op, x_c, wipeD, List.set_cons_zero, List.set_cons_succ, em1, em3, DR.bind_ok, gI_int, CT_true, if_true, DR.noex_ok, e9, g1, g2, List.length_cons, List.length_nil, Nat.zero_add, Nat.reduceAdd, lb]
            simp [List.getD_eq_getElem?_getD, List.getElem?_eq_getElem hj]
            rw [List.getElem?_eq_getElem (show j < E.length by omega)]
            rfl)
        have e5 := g_all (μ := N) (f := fun i : Nat => decide ((0 :: E).getD (i - 1) 0 < (0 :: E).getD i 0)) (L := List.range' 1 E.length)
        rw [← ascB_ix] at e5
        have glast : gIx (.ref (μ.length + 2)) (.int (-1)) N = .ok (FR (E.getLastD 0)) N := gIx_ref gN (by
          have := getLastD_FR (E := E) (q := 0)
          rw [List.getLast?_eq_getElem?] at this
          unfold atI ixN
          rw [if_neg (by omega), if_pos (by simp; omega)]
          simp only [List.length_cons, List.length_map] at this ⊢
          rw [show ((-1 : Int) + ((E.length + 1 : Nat) : Int)).toNat = E.length + 1 - 1 by omega]
          exact this)
        have ep := lc_map (μ0 := N) (μ := N) PR T (fun s => FR s.2) (vs := [2, 6]) (mi := mIt (mVar 0)) (ρ := [some (.tup xs), some (.ref (μ.length + 2)), none, none, none, none, none]) (t := tgTup 2 (tgCons (tgN 2) (tgCons (tgN 6) (tgNil))))
          (te := mVar 6) (c := none) (by simp [ex]) rfl (by simp; omega) (fun s hs => ⟨[some (.tup xs), some (.ref (μ.length + 2)), some (FR s.1), none, none, none, some (FR s.2)], by simp [PR, wipeD], by simp⟩)
        have et := l_totalR (L := T.map (·.2)) (a := 5) (n := N.length) (μ := N ++ [.lst (T.map fun s => FR s.2)]) (fun q hq => by
          obtain ⟨s, hs, rfl⟩ := List.mem_map.mp hq
          exact (zT s hs).b) (by rw [List.length_map]; omega) (by simp [Function.comp_def])
        have s1 : mOp gAdd (mKeep (mLst (mCons (mC (.tup [.int 0, .int 1])) (mNil)))) (mKeep (mLc [4, 2] (mIt (mVar 0)) (tgTup 2 (tgCons (tgN 4) (tgCons (tgN 2) (tgNil)))) (mYes) (mVar 4))) [some (.tup xs), none, none, none, none, none, none] μ = .ok (.ref (μ.length + 2)) N := by
          have k1 : mKeep (mLst (mCons (mC (.tup [.int 0, .int 1])) (mNil))) [some (.tup xs), none, none, none, none, none, none] μ = .ok (.ref μ.length) (μ ++ [.lst [FR 0]]) := by simp [FR_zero]
          have k2 : mKeep (mLc [4, 2] (mIt (mVar 0)) (tgTup 2 (tgCons (tgN 4) (tgCons (tgN 2) (tgNil)))) (mYes) (mVar 4)) [some (.tup xs), none, none, none, none, none, none] (μ ++ [.lst [FR 0]]) = .ok (.ref (μ.length + 1)) (μ ++ [.lst [FR 0], .lst (E.map FR)]) := by
            rw [x_keep, ee, DR.bind_ok, hE]
            simp [Function.comp_def]
          have g1 : (DV.ref μ.length).lst (μ ++ [.lst [FR 0], .lst (E.map FR)]) = some [FR 0] := lst_ref (by simp)
          have g2 : (DV.ref (μ.length + 1)).lst (μ ++ [.lst [FR 0], .lst (E.map FR)]) = some (E.map FR) := lst_ref (by simp)
          rw [x_op, k1]
          simp only [DR.bind_ok, k2]
          simp only [gAdd, g1, g2]
          rw [if_pos (by simp; omega), hN]
          simp
        have main : ∃ t, b_is_taste [some (.tup xs), none, none, none, none, none, none] μ = .rt (.bl (okTaste T)) (μ ++ t) := by
          unfold b_is_taste
          have f1 : sIf (mOr (mNot (mTru (mIsi "tuple" (mVar 0)))) (mNot (mBl (mChain qLe qLe (mC (.int 1)) (mLen (mVar 0)) (mC (.int 60)))))) (sRet (mC (.bl false))) (sNil) [some (.tup xs), none, none, none, none, none, none] μ = .nx [some (.tup xs), none, none, none, none, none, none] μ := by simp [isOf, isTy, DV.ty, c1, c2]
          have f2 : sIf (mNot (mTru (mL1F gAll (mLc [5] (mIt (mVar 0)) (tgN 5) (mYes) (mAndV (mCall 2 f_is_tuple_of (mCons (mVar 5) (mCons (mC (.int 2)) (mNil)))) (mAndV (mCall 1 f_is_share (mCons (mOp gIx (mVar 5) (mC (.int 0))) (mNil))) (mCall 1 f_is_share (mCons (mOp gIx (mVar 5) (mC (.int 1))) (mNil))))))))) (sRet (mC (.bl false))) (sNil) [some (.tup xs), none, none, none, none, none, none] μ = .nx [some (.tup xs), none, none, none, none, none, none] μ := by
            simp [el, e3, q, -List.all_eq_true]
          rw [x_seq, f1, thn_nx, x_seq, f2, thn_nx, x_seq, asg_eq s1 (by simp), thn_nx]
          show ∃ t, (sSeq _ _ [some (.tup xs), some (.ref (μ.length + 2)), none, none, none, none, none] N) = _
          rw [x_seq]
          cases q5 : ascB 0 E with
          | false =>
            rw [q5] at e5
            refine ⟨[.lst [FR 0], .lst (E.map FR), .lst (FR 0 :: E.map FR)], ?_⟩
            simp only [x_sIf, x_not, x_tru, x_l1F, eb, DR.bind_ok, e5]
            simp [okTaste, ← hE, q5, hN]
          | true =>
            rw [q5] at e5
            have f3 : sIf (mNot (mTru (mL1F gAll (mLc [3] (mItR2 (mC (.int 1)) (mLen (mVar 1))) (tgN 3) (mYes) (mCall 2 f_is_below (mCons (mOp gIx (mVar 1) (mOp qSub (mVar 3) (mC (.int 1)))) (mCons (mOp gIx (mVar 1) (mVar 3)) (mNil)))))))) (sRet (mC (.bl false))) (sNil) [some (.tup xs), some (.ref (μ.length + 2)), none, none, none, none, none] N = .nx [some (.tup xs), some (.ref (μ.length + 2)), none, none, none, none, none] N := by
              simp only [x_sIf, x_not, x_tru, x_l1F, eb, DR.bind_ok, e5]
              simp
            rw [f3, thn_nx]
            by_cases q6 : E.getLastD 0 = 1
            · have q6' : E.getLast?.getD 0 = 1 := by simpa using q6
              refine ⟨[.lst [FR 0], .lst (E.map FR), .lst (FR 0 :: E.map FR), .lst (T.map fun s => FR s.2)], ?_⟩
              have h6 : mBl (mOp (gEq false) (mOp gIx (mVar 1) (mNeg (mC (.int 1)))) (mC (.tup [.int 1, .int 1]))) [some (.tup xs), some (.ref (μ.length + 2)), none, none, none, none, none] N = .ok true N := by
                simp [glast, FR_eq1, q6']
              have h7 : mOp (gEq false) (mCall 1 f_total (mCons (mKeep (mLc [2, 6] (mIt (mVar 0)) (tgTup 2 (tgCons (tgN 2) (tgCons (tgN 6) (tgNil)))) (mYes) (mVar 6))) (mNil))) (mC (.tup [.int 1, .int 1])) [some (.tup xs), some (.ref (μ.length + 2)), none, none, none, none, none] N = .ok (.bl (decide ((T.map (·.2)).sum = 1))) (N ++ [.lst (T.map fun s => FR s.2)]) := by
                simp only [x_op, x_call, x_cons, x_keep, ep, x_nil, DR.bind_ok]
                simp [et, FR_eq1]
              rw [x_sRet, x_andV, h6]
              simp only [DR.bind_ok, if_true, h7, st_ok]
              simp [okTaste, ← hE, q5, q6', hN]
            · have q6' : ¬ E.getLast?.getD 0 = 1 := by simpa using q6
              refine ⟨[.lst [FR 0], .lst (E.map FR), .lst (FR 0 :: E.map FR)], ?_⟩
              have h6 : mBl (mOp (gEq false) (mOp gIx (mVar 1) (mNeg (mC (.int 1)))) (mC (.tup [.int 1, .int 1]))) [some (.tup xs), some (.ref (μ.length + 2)), none, none, none, none, none] N = .ok false N := by
                simp [glast, FR_eq1, q6']
              rw [x_sRet, x_andV, h6]
              simp [okTaste, ← hE, q5, q6', hN]
        obtain ⟨t, ht⟩ := main
        exact run_rtA (t := t) rfl rfl ht
    · have e : isTaste (.tup xs) = false := by simp only [isTaste, decide_eq_false hl, Bool.false_and]
      rw [e]
      refine run_rt rfl ?_
      by_cases c1 : (1 : Int) ≤ xs.length
      · have c2 : ¬ (xs.length : Int) ≤ 60 := fun z => hl ⟨by omega, by omega⟩
        simp [b_is_taste, isOf, isTy, DV.ty, c1, c2]
      · simp [b_is_taste, isOf, isTy, DV.ty, c1]
  | _ => refine run_rt rfl ?_; simp [b_is_taste, isOf, isTy, DV.ty, isTaste]
/-! ## a drawn taste -/
def tasteOf (E P : List Nat) : List ST := (E.zip P).map fun z => (qn z.1 12, qn z.2 12)
theorem qn_lt {a b d : Nat} (hd : d ≠ 0) (h : a < b) : qn a d < qn b d := by
  unfold qn
  rw [Rat.mkRat_eq_div, Rat.mkRat_eq_div]
  have h1 : (0 : Rat) < (d : Rat) := by
    have : (0 : Rat) < ((d : Nat) : Rat) := Rat.natCast_pos.mpr (by omega)
    exact this
  have h2 : ((a : Int) : Rat) < ((b : Int) : Rat) := Rat.intCast_lt_intCast.mpr (by omega)
  rw [Rat.div_lt_iff h1, Rat.div_mul_cancel (by grind)]
  exact h2
theorem asc_nat : ∀ {E : List Nat} {l : Nat}, (l :: E).Pairwise (· < ·) → ascB (qn l 12) (E.map fun e => qn e 12) = true
  | [], _, _ => rfl
  | e :: E, l, h => by
    obtain ⟨h1, h2⟩ := List.pairwise_cons.mp h
    rw [List.map_cons, ascB, asc_nat h2, Bool.and_true, decide_eq_true_eq]
    exact qn_lt (by omega) (h1 e (by simp))
structure DT (E P : List Nat) (m : Nat) : Prop where
  le : E.length = m
  lp : P.length = m
  asc : (0 :: E).Pairwise (· < ·)
  last : E.getLastD 0 = 12
  sum : P.sum = 12
theorem DT.ok {E P : List Nat} {m : Nat} (h : DT E P m) : okTaste (tasteOf E P) = true := by
  have e1 : (tasteOf E P).map (·.1) = E.map fun e => qn e 12 := by
    unfold tasteOf
    rw [List.map_map]
    have : ((fun x : ST => x.1) ∘ fun z : Nat × Nat => (qn z.1 12, qn z.2 12)) = (fun e => qn e 12) ∘ Prod.fst := rfl
    rw [this, ← List.map_map, List.map_fst_zip (by rw [h.le, h.lp]; omega)]
  have e2 : (tasteOf E P).map (·.2) = P.map fun e => qn e 12 := by
    unfold tasteOf
    rw [List.map_map]
    have : ((fun x : ST => x.2) ∘ fun z : Nat × Nat => (qn z.1 12, qn z.2 12)) = (fun e => qn e 12) ∘ Prod.snd := rfl
    rw [this, ← List.map_map, List.map_snd_zip (by rw [h.le, h.lp]; omega)]
  have e3 : (E.map fun e => qn e 12).getLastD 0 = 1 := by
    rw [show (0 : Rat) = qn 0 12 from qn_zero.symm, List.getLastD_eq_getLast?, List.getLast?_map]
    have := h.last
    rw [List.getLastD_eq_getLast?] at this
    cases q : E.getLast? with
    | none => rw [q] at this; simp at this
    | some e => rw [q] at this; simp at this; subst this; simp; decide +kernel
  have e4 := asc_nat h.asc
  rw [qn_zero] at e4
  simp only [okTaste, e1, e2, e3, e4, qn_sum (d := 12) (by omega), h.sum, Bool.true_and, decide_true, Bool.and_eq_true, decide_eq_true_eq]
  decide +kernel
theorem asc_le {E : List Nat} : ∀ {l : Nat}, (l :: E).Pairwise (· < ·) → ∀ e ∈ E, e ≤ E.getLastD l := by
  induction E with
  | nil => intro l _ e he; cases he
  | cons a E ih =>
    intro l h e he
    obtain ⟨h1, h2⟩ := List.pairwise_cons.mp h
    rw [List.getLastD_cons]
    rcases List.mem_cons.mp he with rfl | he
    · cases E with
      | nil => simp
      | cons b E =>
        have := ih h2 b (by simp)
        have h3 := (List.pairwise_cons.mp h2).1 b (by simp)
        omega
    · exact ih h2 e he
theorem DT.sp {E P : List Nat} {m : Nat} (h : DT E P m) : ∀ s ∈ tasteOf E P, SP 5 s := by
  intro s hs
  unfold tasteOf at hs
  obtain ⟨z, hz, rfl⟩ := List.mem_map.mp hs
  have h1 := (List.of_mem_zip (a := z.1) (b := z.2) hz).1
  have h2 := (List.of_mem_zip (a := z.1) (b := z.2) hz).2
  have a1 := asc_le h.asc z.1 h1
  rw [h.last] at a1
  have a2 : z.2 ≤ P.sum := mem_le_sum h2
  rw [h.sum] at a2
  exact ⟨qn_sz (a := z.1) (b := 12) (k := 5) (by omega) (by omega) (by omega), qn_sz (a := z.2) (b := 12) (k := 5) (by omega) (by omega) (by omega)⟩
theorem DT.tok {E P : List Nat} {m : Nat} (h : DT E P m) (hm : m ≤ 6) : TOk (tasteOf E P) := ⟨by simp [tasteOf, h.le, h.lp]; omega, h.sp⟩
theorem isPr_PR {s : ST} (h : 0 ≤ s.1 ∧ s.1 ≤ 1 ∧ 0 ≤ s.2 ∧ s.2 ≤ 1) : isPr (PR s) = true := by
  simp [isPr, PR, isShr, isFr_FR, frQ_FR, h]
theorem qn_le1 {a d : Nat} (hd : d ≠ 0) (h : a ≤ d) : qn a d ≤ 1 := by
  rw [← qn_one hd]; exact qn_mono h
theorem DT.taste {E P : List Nat} {m : Nat} (h : DT E P m) (h1 : 1 ≤ m) (hm : m ≤ 6) : isTaste (PC (tasteOf E P)) = true := by
  have hl : (tasteOf E P).length = m := by simp [tasteOf, h.le, h.lp]
  have ha : ((tasteOf E P).map PR).all isPr = true := by
    rw [List.all_eq_true]
    intro x hx
    obtain ⟨s, hs, rfl⟩ := List.mem_map.mp hx
    unfold tasteOf at hs
    obtain ⟨z, hz, rfl⟩ := List.mem_map.mp hs
    have h1 := (List.of_mem_zip (a := z.1) (b := z.2) hz).1
    have h2 := (List.of_mem_zip (a := z.1) (b := z.2) hz).2
    have a1 := asc_le h.asc z.1 h1
    rw [h.last] at a1
    have a2 : z.2 ≤ P.sum := mem_le_sum h2
    rw [h.sum] at a2
    exact isPr_PR ⟨qn_pos, qn_le1 (by omega) a1, qn_pos, qn_le1 (by omega) a2⟩
  have hp : ((tasteOf E P).map PR).map prQ = tasteOf E P := by
    rw [List.map_map, show prQ ∘ PR = id from by funext s; exact prQ_PR, List.map_id]
  simp only [PC, isTaste, List.length_map, hl, ha, hp, h.ok, Bool.and_true, decide_eq_true_eq]
  omega
theorem l_taste_ok {E P : List Nat} {m : Nat} {μ : DM} (h : DT E P m) (h1 : 1 ≤ m) (hm : m ≤ 6) : f_is_taste [PC (tasteOf E P)] μ = .ok (.bl true) μ := by
  have hu : (PC (tasteOf E P)).und μ.length = true := und_pure _ PC_pure
  rw [l_isTaste hu (fun xs e x hx _ => by
    cases e
    obtain ⟨s, hs, rfl⟩ := List.mem_map.mp hx
    rw [prQ_PR]
    exact h.sp s hs), h.taste h1 hm]
/-! ### the ends: some of the numbers from 1 to 11, ascending, and 12 -/
theorem ends_ok {ys : List Int} {k : Nat} (hp : ys.Perm ((List.range' 1 11).map fun i : Nat => (i : Int))) (hk : k ≤ 5) :
    ∃ E : List Nat, srtD (ys.take k) = E.map (fun e : Nat => (e : Int)) ∧ E.length = k ∧ (0 :: (E ++ [12])).Pairwise (· < ·) := by
  have hs := srtD_srt (ys.take k)
  have hpm := srtD_perm (ys.take k)
  have hnd : ys.Nodup := hp.nodup_iff.mpr (by decide)
  have hnd2 : (srtD (ys.take k)).Nodup := hpm.nodup_iff.mpr (hnd.sublist (List.take_sublist _ _))
  have hm : ∀ x ∈ srtD (ys.take k), 1 ≤ x ∧ x ≤ 11 := by
    intro x hx
    have h1 := hp.mem_iff.mp (List.mem_of_mem_take (hpm.mem_iff.mp hx))
    obtain ⟨i, hi, rfl⟩ := List.mem_map.mp h1
    have := List.mem_range'_1.mp hi
    omega
  have hl : (srtD (ys.take k)).length = k := by
    rw [hpm.length_eq, List.length_take]
    have := hp.length_eq
    simp at this
    omega
  generalize srtD (ys.take k) = S at *
  refine ⟨S.map Int.toNat, ?_, by simpa using hl, ?_⟩
  · rw [List.map_map]
    have : S.map ((fun e : Nat => (e : Int)) ∘ Int.toNat) = S.map id := List.map_congr_left fun x hx => by
      have := hm x hx
      simp; omega
    rw [this, List.map_id]
  · have hlt : S.Pairwise (· < ·) := by
      have := List.Pairwise.and hs hnd2
      exact this.imp fun ⟨a, b⟩ => by omega
    refine .cons (fun x hx => ?_) (List.pairwise_append.mpr ⟨?_, by simp, ?_⟩)
    · rcases List.mem_append.mp hx with hx | hx
      · obtain ⟨y, hy, rfl⟩ := List.mem_map.mp hx
        have := hm y hy
        omega
      · simp at hx; omega
    · rw [List.pairwise_map]
      exact hlt.imp_of_mem fun {a b} ha hb h => by
        have := hm a ha
        have := hm b hb
        omega
    · intro x hx y hy
      obtain ⟨z, hz, rfl⟩ := List.mem_map.mp hx
      have := hm z hz
      simp at hy
      omega
def DTI (n m : Nat) (X C : DC) (R : DM) (E : List Nat) (k : Nat) (l : List DV) (ρ : DE) (μ : DM) : Prop := ∃ (HD : DC) (P : List Nat) (i left : Nat) (w6 w7 : Option DV),
  l = (List.range' i (m - i)).map (fun i : Nat => DV.int (i : Int)) ∧ i ≤ m ∧ ρ = [some (.ref 2), some (.int m), some (.int left), some (.int 12), some (.ref (k + 9)), some (.ref (k + 10)), w6, w7] ∧
  μ = X :: C :: HD :: (R ++ [.lst (E.map fun e : Nat => DV.int (e : Int)), .lst ((tasteOf E P).map PR)]) ∧ P.length = i ∧ P.sum + left = 12 ∧ (i = m → left = 0) ∧ HOk (n + i) C HD
def DTQ (n : Nat) (X C : DC) (rest : DM) (w : DV) (μ : DM) : Prop := ∃ E P m HD', w = PC (tasteOf E P) ∧ μ = X :: C :: HD' :: rest ∧ DT E P m ∧ 1 ≤ m ∧ m ≤ 6 ∧ HOk (n + 20) C HD'
theorem tasteOf_app {E P : List Nat} {p : Nat} (h : P.length < E.length) : tasteOf E (P ++ [p]) = tasteOf E P ++ [(qn (E.getD P.length 0) 12, qn p 12)] := by
  unfold tasteOf
  apply List.ext_getElem
  · simp; omega
  · intro i h1 h2
    simp at h1 h2
    by_cases hi : i < P.length
    · rw [List.getElem_append_left (by simp; omega)]
      simp [List.getElem_append_left hi]
    · have : i = P.length := by omega
      subst this
      rw [List.getElem_append_right (by simp; omega)]
      simp [List.getD_eq_getElem?_getD, h]
theorem l_ltaste {n : Nat} {X C HD : DC} {rest : DM} (hh : HOk n C HD) (hn : n < 2 ^ 49) :
    ∃ E P m HD', f__law_taste [.ref 2] (X :: C :: HD :: rest) = .ok (PC (tasteOf E P)) (X :: C :: HD' :: rest) ∧ DT E P m ∧ 1 ≤ m ∧ m ≤ 6 ∧ HOk (n + 20) C HD' := by
  suffices hs : OkE (DTQ n X C rest) NoX (f__law_taste [.ref 2] (X :: C :: HD :: rest)) by
    obtain ⟨w, μ, e, E, P, m, HD', rfl, rfl, a⟩ := hs.ok
    exact ⟨E, P, m, HD', e, a⟩
  obtain ⟨d1, H1, a1, a2, a3, a4⟩ := l_draw (X := X) (rest := rest) hh (m := 6) (by omega) (by omega) (by omega)
  obtain ⟨m, hm⟩ : ∃ m : Nat, 1 + d1 = (m : Int) := ⟨(1 + d1).toNat, by omega⟩
  have m1 : 1 ≤ m := by omega
  have m6 : m ≤ 6 := by omega
  refine okE_run rfl ?_
  refine seq_step (ρ' := [some (.ref 2), some (.int m), some (.int 12), some (.int 12), none, none, none, none]) (μ' := X :: C :: H1 :: rest) (by simp [a1, hm]) ?_
  have r11 : List.map (fun i : Nat => DV.int (i : Int)) (List.range' 1 11) = ((List.range' 1 11).map fun i : Nat => (i : Int)).map DV.int := by rw [List.map_map]; rfl
  obtain ⟨ys, H2, y1, y2, y3⟩ := l_mixed (X := X) (HD := H1) (rest := rest ++ [.lst ((List.range' 1 11).map fun i : Nat => DV.int (i : Int))]) (v := .ref (rest.length + 3)) (xs := (List.range' 1 11).map fun i : Nat => DV.int (i : Int)) (seq_ref (by simp)) a4 (by omega) (by simp)
  obtain ⟨zs, rfl, hz⟩ : ∃ zs : List Int, ys = zs.map DV.int ∧ zs.Perm ((List.range' 1 11).map fun i : Nat => (i : Int)) := by
    rw [r11] at y2
    refine ⟨ys.map (fun v => match v with | .int i => i | _ => 0), ?_, ?_⟩
    · rw [List.map_map]
      have : ys.map (DV.int ∘ fun v => match v with | .int i => i | _ => 0) = ys.map id := List.map_congr_left fun x hx => by
        obtain ⟨i, _, rfl⟩ := List.mem_map.mp (y2.mem_iff.mp hx)
        rfl
      rw [this, List.map_id]
    · have := y2.map (fun v : DV => match v with | .int i => i | _ => 0)
      rw [List.map_map] at this
      exact this.trans (by rw [show ((fun v : DV => match v with | .int i => i | _ => 0) ∘ DV.int) = id from rfl, List.map_id])
  obtain ⟨E0, e1, e2, e3⟩ := ends_ok hz (k := m - 1) (by omega)
  have cut : cutD (zs.map DV.int) none (some ((m : Int) - 1)) = (zs.take (m - 1)).map DV.int := by rw [cut_to1 m1, List.map_take]
  have io : intsOf ((zs.take (m - 1)).map DV.int) = some (zs.take (m - 1)) := by
    have := intsOf_map (fun i : Int => i) (zs.take (m - 1))
    simpa using this
  have r1 : ∀ μ, mRg2 (mC (.int 1)) (mVar 3) [some (.ref 2), some (.int m), some (.int 12), some (.int 12), none, none, none, none] μ = .ok ((List.range' 1 11).map fun i : Nat => DV.int (i : Int)) μ := by
    intro μ
    have ev : ∀ μ, mVar 3 [some (.ref 2), some (.int m), some (.int 12), some (.int 12), none, none, none, none] μ = .ok (.int 12) μ := fun _ => x_var rfl
    have hr : RgO 1 12 := RgO_nat (a := 1) (b := 12) (by omega) (by omega)
    unfold mRg2
    simp only [x_c, DR.bind_ok, ev]
    rw [if_pos hr]
    exact congrArg (fun z => DR.ok z μ) (rgD_nat (a := 1) (b := 12))
  simp only [List.length_append, List.length_singleton, List.append_assoc, List.cons_append, List.nil_append] at y1
  have e9 : rest.length + 1 + 4 = rest.length + 5 := by omega
  rw [e9] at y1
  obtain ⟨R, hR⟩ : ∃ R : DM, R = rest ++ [.lst ((List.range' 1 11).map fun i : Nat => DV.int (i : Int)), .lst [], .lst (zs.map DV.int), .lst ((zs.take (m - 1)).map DV.int), .lst (E0.map fun e : Nat => DV.int (e : Int)), .lst [.int 12]] := ⟨_, rfl⟩
  have hend : E0.map (fun e : Nat => DV.int (e : Int)) ++ [.int 12] = (E0 ++ [12]).map (fun e : Nat => DV.int (e : Int)) := by simp
  have lE : (E0 ++ [12]).length = m := by simp; omega
  refine seq_step (ρ' := [some (.ref 2), some (.int m), some (.int 12), some (.int 12), some (.ref (rest.length + 9)), none, none, none]) (μ' := X :: C :: H2 :: (R ++ [.lst ((E0 ++ [12]).map fun e : Nat => DV.int (e : Int))])) (by
    have k1 : mCall 2 f__law_mixed (mCons (mVar 0) (mCons (mKeep (mRg2 (mC (.int 1)) (mVar 3))) (mNil))) [some (.ref 2), some (.int m), some (.int 12), some (.int 12), none, none, none, none] (X :: C :: H1 :: rest) = .ok (.ref (rest.length + 5)) (X :: C :: H2 :: (rest ++ [.lst ((List.range' 1 11).map fun i : Nat => DV.int (i : Int)), .lst [], .lst (zs.map DV.int)])) := by
      have ev : ∀ μ, mVar 0 [some (.ref 2), some (.int m), some (.int 12), some (.int 12), none, none, none, none] μ = .ok (.ref 2) μ := fun _ => x_var rfl
      simp only [x_call, x_cons, x_nil, x_keep, r1, ev, DR.bind_ok]
      simpa using y1
    have k2 : mSl (mCall 2 f__law_mixed (mCons (mVar 0) (mCons (mKeep (mRg2 (mC (.int 1)) (mVar 3))) (mNil)))) (mNoP) (mP (mOp qSub (mVar 1) (mC (.int 1)))) [some (.ref 2), some (.int m), some (.int 12), some (.int 12), none, none, none, none] (X :: C :: H1 :: rest) = .ok (.ref (rest.length + 6)) (X :: C :: H2 :: (rest ++ [.lst ((List.range' 1 11).map fun i : Nat => DV.int (i : Int)), .lst [], .lst (zs.map DV.int), .lst ((zs.take (m - 1)).map DV.int)])) := by
      rw [x_sl, k1]
      simp [cut]
    have g3 : (X :: C :: H2 :: (rest ++ [.lst ((List.range' 1 11).map fun i : Nat => DV.int (i : Int)), .lst [], .lst (zs.map DV.int), .lst ((zs.take (m - 1)).map DV.int)]))[rest.length + 6]? = some (.lst ((zs.take (m - 1)).map DV.int)) := by simp
    have k3 : mKeep (mSorted (mSl (mCall 2 f__law_mixed (mCons (mVar 0) (mCons (mKeep (mRg2 (mC (.int 1)) (mVar 3))) (mNil)))) (mNoP) (mP (mOp qSub (mVar 1) (mC (.int 1)))))) [some (.ref 2), some (.int m), some (.int 12), some (.int 12), none, none, none, none] (X :: C :: H1 :: rest) = .ok (.ref (rest.length + 7)) (X :: C :: H2 :: (rest ++ [.lst ((List.range' 1 11).map fun i : Nat => DV.int (i : Int)), .lst [], .lst (zs.map DV.int), .lst ((zs.take (m - 1)).map DV.int), .lst (E0.map fun e : Nat => DV.int (e : Int))])) := by
      rw [x_keep]
      unfold mSorted
      rw [k2]
      simp only [DR.bind_ok, DV.lsq, g3, io, e1, List.map_map]
      simp [Function.comp_def]
    have k4 : mKeep (mLst (mCons (mVar 3) (mNil))) [some (.ref 2), some (.int m), some (.int 12), some (.int 12), none, none, none, none] (X :: C :: H2 :: (rest ++ [.lst ((List.range' 1 11).map fun i : Nat => DV.int (i : Int)), .lst [], .lst (zs.map DV.int), .lst ((zs.take (m - 1)).map DV.int), .lst (E0.map fun e : Nat => DV.int (e : Int))])) = .ok (.ref (rest.length + 8)) (X :: C :: H2 :: R) := by
      rw [hR]; simp
    have g1 : (DV.ref (rest.length + 7)).lst (X :: C :: H2 :: R) = some (E0.map fun e : Nat => DV.int (e : Int)) := lst_ref (by rw [hR]; simp)
    have g2 : (DV.ref (rest.length + 8)).lst (X :: C :: H2 :: R) = some [.int 12] := lst_ref (by rw [hR]; simp)
    have lR : R.length = rest.length + 6 := by rw [hR]; simp
    refine asg_eq (v := .ref (rest.length + 9)) (i := 4) ?_ (by simp)
    rw [x_op, k3]
    simp only [DR.bind_ok, k4]
    simp only [gAdd, g1, g2]
    rw [if_pos (by simp; omega), hend]
    simp [lR]) ?_
  have lR : R.length = rest.length + 6 := by rw [hR]; simp
  refine seq_step (ρ' := [some (.ref 2), some (.int m), some (.int 12), some (.int 12), some (.ref (rest.length + 9)), some (.ref (rest.length + 10)), none, none]) (μ' := X :: C :: H2 :: (R ++ [.lst ((E0 ++ [12]).map fun e : Nat => DV.int (e : Int)), .lst []])) (by simp [lR]) ?_
  generalize hE : E0 ++ [12] = E at *
  have hlast : E.getLastD 0 = 12 := by rw [← hE]; simp
  have hE12 : ∀ e ∈ E, e ≤ 12 := by
    have := asc_le e3
    rw [hlast] at this
    exact this
  refine seq_thn ?_
  have r6 := rgS_0 (μ := X :: C :: H2 :: (R ++ [.lst (E.map fun e : Nat => DV.int (e : Int)), .lst []])) (b := m) (by omega)
  have ev : mVar 1 [some (.ref 2), some (.int m), some (.int 12), some (.int 12), some (.ref (rest.length + 9)), some (.ref (rest.length + 10)), none, none] (X :: C :: H2 :: (R ++ [.lst (E.map fun e : Nat => DV.int (e : Int)), .lst []])) = .ok (.int m) (X :: C :: H2 :: (R ++ [.lst (E.map fun e : Nat => DV.int (e : Int)), .lst []])) := x_var rfl
  rw [x_for, x_rg1, ev]
  simp only [DR.bind_ok, r6, st_ok]
  refine for_inv (DTI (n + 12) m X C R E rest.length) (fun _ _ _ _ => rfl) (fun v l ρ μ ⟨HD, P, i, left, w6, w7, f1, f2, f3, f4, f5, f6, f7, f8⟩ => ?_) (fun ρ μ ⟨HD, P, i, left, w6, w7, f1, f2, f3, f4, f5, f6, f7, f8⟩ => ?_) _ _ _
    ⟨H2, [], 0, 12, none, none, by rw [List.range_eq_range', Nat.sub_zero], by omega, rfl, by simp [tasteOf], rfl, rfl, by omega, y3.mono (by simp)⟩
  · subst f3 f4
    have hi : i < m := by
      rcases Nat.lt_or_ge i m with h | h
      · exact h
      · rw [show m - i = 0 by omega] at f1
        cases f1
    rw [show m - i = (m - (i + 1)) + 1 by omega, List.range'_succ, List.map_cons] at f1
    obtain ⟨rfl, rfl⟩ := List.cons.inj f1
    obtain ⟨d, H3, d1, d2, d3, d4⟩ := l_draw (X := X) (rest := R ++ [.lst (E.map fun e : Nat => DV.int (e : Int)), .lst ((tasteOf E P).map PR)]) f8 (m := (left : Int) + 1) (by omega) (by omega) (by omega)
    obtain ⟨d, rfl⟩ := Int.eq_ofNat_of_zero_le d2
    have hiE : i < E.length := by omega
    have go : ∀ (p : Nat) (H' : DC), p ≤ left → (i + 1 = m → p = left) → HOk (n + 12 + (i + 1)) C H' →
        OkS { nx := DTI (n + 12) m X C R E rest.length (List.map (fun i : Nat => DV.int (i : Int)) (List.range' (i + 1) (m - (i + 1)))), ct := DTI (n + 12) m X C R E rest.length (List.map (fun i : Nat => DV.int (i : Int)) (List.range' (i + 1) (m - (i + 1)))) }
          ((sSeq (sExpr (mAppend (mVar 5) (mTup (mCons (mCall 2 f__law_part (mCons (mOp gIx (mVar 4) (mVar 6)) (mCons (mVar 3) (mNil)))) (mCons (mCall 2 f__law_part (mCons (mVar 7) (mCons (mC (.int 12)) (mNil)))) (mNil)))))) <| sAsg (mOp qSub (mVar 2) (mVar 7)) (tgN 2)) [some (.ref 2), some (.int m), some (.int left), some (.int 12), some (.ref (rest.length + 9)), some (.ref (rest.length + 10)), some (.int i), some (.int p)] (X :: C :: H' :: (R ++ [.lst (E.map fun e : Nat => DV.int (e : Int)), .lst ((tasteOf E P).map PR)]))) := by
      intro p H' hp hp2 h'
      have ep := fun μ => l_lpartn (a := p) (b := 12) (μ := μ) (by omega) (by omega) (by omega)
      have hEi := hE12 E[i] (List.getElem_mem _)
      have ee := fun μ => l_lpartn (a := E[i]) (b := 12) (μ := μ) (by omega) (by omega) (by omega)
      simp only [Int.cast_ofNat_Int] at ep ee
      have g2 : (DV.ref (rest.length + 10)).lst (X :: C :: H' :: (R ++ [.lst (E.map fun e : Nat => DV.int (e : Int)), .lst ((tasteOf E P).map PR)])) = some ((tasteOf E P).map PR) := lst_ref (by simp [lR])
      have g3 : gIx (.ref (rest.length + 9)) (.int i) (X :: C :: H' :: (R ++ [.lst (E.map fun e : Nat => DV.int (e : Int)), .lst ((tasteOf E P).map PR)])) = .ok (.int (E[i] : Nat)) (X :: C :: H' :: (R ++ [.lst (E.map fun e : Nat => DV.int (e : Int)), .lst ((tasteOf E P).map PR)])) := gIx_refn (xs := E.map fun e : Nat => DV.int (e : Int)) (by simp [lR]) (by simp [hiE])
      have g4 : (X :: C :: H' :: (R ++ [.lst (E.map fun e : Nat => DV.int (e : Int)), .lst ((tasteOf E P).map PR)]))[rest.length + 10]? = some (.lst ((tasteOf E P).map PR)) := by simp [lR]
      have lt : (tasteOf E P).length = i := by simp [tasteOf]; omega
      have eset : (R ++ [DC.lst (E.map fun e : Nat => DV.int (e : Int)), DC.lst ((tasteOf E P).map PR)]).set (rest.length + 7) (DC.lst ((tasteOf E P).map PR ++ [DV.tup [FR (qn E[i] 12), FR (qn p 12)]])) = R ++ [DC.lst (E.map fun e : Nat => DV.int (e : Int)), DC.lst ((tasteOf E (P ++ [p])).map PR)] := by
        rw [tasteOf_app (by omega), show rest.length + 7 = R.length + 1 by omega]
        simp [PR, List.getD_eq_getElem?_getD, f5, hiE]
      simp [g2, g3, g4, ep, ee, lt, show i < 16777216 by omega]
      rw [eset]
      exact ⟨H', P ++ [p], i + 1, left - p, _, _, rfl, by omega, by rw [show (left : Int) - p = ((left - p : Nat) : Int) by omega], rfl, by simp [f5], by simp; omega, fun z => by have := hp2 z; omega, h'⟩
    refine ⟨_, rfl, ?_⟩
    by_cases hl : i + 1 = m
    · refine seq_step (ρ' := [some (.ref 2), some (.int m), some (.int left), some (.int 12), some (.ref (rest.length + 9)), some (.ref (rest.length + 10)), some (.int i), some (.int left)]) (μ' := X :: C :: HD :: (R ++ [.lst (E.map fun e : Nat => DV.int (e : Int)), .lst ((tasteOf E P).map PR)])) (by
        have : (i : Int) = (m : Int) - 1 := by omega
        simp [this]) ?_
      exact (go left HD (Nat.le_refl _) (fun _ => rfl) (f8.mono (by omega))).mono (fun _ _ z => z) (fun _ _ z => z.elim) (fun _ _ _ z => z.elim) (fun _ _ z => z.elim) (fun _ _ z => z)
    · refine seq_step (ρ' := [some (.ref 2), some (.int m), some (.int left), some (.int 12), some (.ref (rest.length + 9)), some (.ref (rest.length + 10)), some (.int i), some (.int d)]) (μ' := X :: C :: H3 :: (R ++ [.lst (E.map fun e : Nat => DV.int (e : Int)), .lst ((tasteOf E P).map PR)])) (by
        have : ¬ (i : Int) = (m : Int) - 1 := by omega
        have t : ((i : Int) == (m : Int) - 1) = false := by simpa using this
        simp [t, d1]) ?_
      exact (go d H3 (by omega) (fun z => absurd z hl) (d4.mono (by omega))).mono (fun _ _ z => z) (fun _ _ z => z.elim) (fun _ _ _ z => z.elim) (fun _ _ z => z.elim) (fun _ _ z => z)
  · subst f3 f4
    have him : i = m := by
      rcases Nat.lt_or_ge i m with h | h
      · rw [show m - i = (m - (i + 1)) + 1 by omega, List.range'_succ, List.map_cons] at f1
        cases f1
      · omega
    subst him
    have hl0 := f7 rfl
    subst hl0
    have s2 : (DV.ref (rest.length + 10)).seq (X :: C :: HD :: (R ++ [.lst (E.map fun e : Nat => DV.int (e : Int)), .lst ((tasteOf E P).map PR)])) = some ((tasteOf E P).map PR) := seq_ref (by simp [lR])
    simp [s2]
    show OkE _ _ (tidy _ (PC (tasteOf E P)) _)
    have e0 : ∀ H0, tidy (X :: C :: H0 :: rest) (PC (tasteOf E P)) (X :: C :: HD :: (R ++ [.lst (E.map fun e : Nat => DV.int (e : Int)), .lst ((tasteOf E P).map PR)])) = .ok (PC (tasteOf E P)) (X :: C :: HD :: rest) := fun H0 => by
      rw [hR, List.append_assoc]
      exact tidy_hand (und_pure _ PC_pure) f8
    rw [e0]
    exact ⟨E, P, i, HD, rfl, rfl, ⟨by omega, f5, e3, hlast, by omega⟩, by omega, m6, f8.mono (by omega)⟩
/-! ## a piece cut in two -/
theorem cut_from1 {xs : List DV} {k : Nat} : cutD xs (some ((k : Int) + 1)) none = xs.drop (k + 1) := by
  have := cut_from (xs := xs) (k := k + 1)
  rw [Int.natCast_add] at this
  exact this
def cutL (L : List ST) (j : Nat) (x : Rat) : List ST := L.take j ++ [((L.getD j (0, 0)).1, x)]
def cutR (L : List ST) (j : Nat) (x : Rat) : List ST := (x, (L.getD j (0, 0)).2) :: L.drop (j + 1)
theorem PC_ixg {L : List ST} {i : Nat} {μ : DM} (h : i < L.length) : gIx (.tup (L.map PR)) (.int i) μ = .ok (PR (L.getD i (0, 0))) μ := by
  have := PC_ix (μ := μ) h
  rw [List.getD_eq_getElem?_getD, List.getElem?_eq_getElem h]
  exact this
theorem split_at {L : List ST} {j : Nat} (hj : j < L.length) : ∃ A B s, L = A ++ s :: B ∧ L.take j = A ∧ L.drop (j + 1) = B ∧ L.getD j (0, 0) = s := by
  refine ⟨L.take j, L.drop (j + 1), L.getD j (0, 0), ?_, rfl, rfl, rfl⟩
  rw [List.getD_eq_getElem?_getD, List.getElem?_eq_getElem hj]
  have := List.take_append_drop j L
  rw [List.drop_eq_getElem_cons hj] at this
  exact this.symm
theorem two_pc {A B : List ST} {s : ST} {x : Rat} (h : pcB (A ++ s :: B) = true) (h1 : s.1 ≤ x) (h2 : x ≤ s.2) :
    pcB (A ++ [(s.1, x)]) = true ∧ pcB ((x, s.2) :: B) = true ∧ (A.length + B.length + 2 ≤ 60 → pcB (A ++ [(s.1, x), (x, s.2)] ++ B) = true) := by
  obtain ⟨g1, g2, g3⟩ := pcB_iff.mp h
  have gs := g2 s (by simp)
  have gA := fun y (hy : y ∈ A) => g2 y (by simp [hy])
  have gB := fun y (hy : y ∈ B) => g2 y (by simp [hy])
  obtain ⟨p1, p2, p3⟩ := List.pairwise_append.mp g3
  obtain ⟨p4, p5⟩ := List.pairwise_cons.mp p2
  have pA := fun y (hy : y ∈ A) => p3 y hy s (by simp)
  have pAB := fun y (hy : y ∈ A) z (hz : z ∈ B) => p3 y hy z (by simp [hz])
  simp at g1
  refine ⟨pcB_iff.mpr ⟨by simp; omega, ?_, ?_⟩, pcB_iff.mpr ⟨by simp; omega, ?_, ?_⟩, fun hl => pcB_iff.mpr ⟨by simp; omega, ?_, ?_⟩⟩
  · intro y hy
    rcases List.mem_append.mp hy with hy | hy
    · exact gA y hy
    · simp at hy; subst hy; simp; grind
  · refine List.pairwise_append.mpr ⟨p1, by simp, fun y hy z hz => ?_⟩
    simp at hz; subst hz
    exact pA y hy
  · intro y hy
    rcases List.mem_cons.mp hy with hy | hy
    · subst hy; simp; grind
    · exact gB y hy
  · exact .cons (fun z hz => p4 z hz) p5
  · intro y hy
    simp only [List.mem_append, List.mem_cons, List.not_mem_nil, or_false] at hy
    rcases hy with (hy | hy | hy) | hy
    · exact gA y hy
    · subst hy; simp; grind
    · subst hy; simp; grind
    · exact gB y hy
  · rw [List.append_assoc]
    refine List.pairwise_append.mpr ⟨p1, .cons (fun z hz => ?_) (.cons (fun z hz => p4 z hz) p5), fun y hy z hz => ?_⟩
    · rcases List.mem_cons.mp hz with hz | hz
      · subst hz; exact Rat.le_refl
      · exact Rat.le_trans h2 (p4 z hz)
    · simp only [List.cons_append, List.nil_append, List.mem_cons] at hz
      rcases hz with hz | hz | hz
      · subst hz; exact pA y hy
      · subst hz; exact Rat.le_trans (pA y hy) h1
      · exact pAB y hy z hz
theorem cutLR_pc {L : List ST} {j : Nat} {x : Rat} (hj : j < L.length) (h : pcB L = true) (h1 : (L.getD j (0, 0)).1 ≤ x) (h2 : x ≤ (L.getD j (0, 0)).2) : pcB (cutL L j x) = true ∧ pcB (cutR L j x) = true := by
  obtain ⟨A, B, s, e, eA, eB, es⟩ := split_at hj
  unfold cutL cutR
  rw [eA, eB, es]
  rw [es] at h1 h2
  subst e
  obtain ⟨q1, q2, _⟩ := two_pc h h1 h2
  exact ⟨q1, q2⟩
theorem cutLR_mem {L : List ST} {j : Nat} {x : Rat} (hj : j < L.length) {P : ST → Prop} (h : ∀ s ∈ L, P s) (h1 : P ((L.getD j (0, 0)).1, x)) (h2 : P (x, (L.getD j (0, 0)).2)) : (∀ s ∈ cutL L j x, P s) ∧ ∀ s ∈ cutR L j x, P s := by
  constructor
  · intro s hs
    rcases List.mem_append.mp hs with hs | hs
    · exact h s (List.mem_of_mem_take hs)
    · simp at hs; subst hs; simpa using h1
  · intro s hs
    rcases List.mem_cons.mp hs with hs | hs
    · subst hs; exact h2
    · exact h s (List.mem_of_mem_drop hs)
theorem cutLR_len {L : List ST} {j : Nat} {x : Rat} (hj : j < L.length) : (cutL L j x).length = j + 1 ∧ (cutR L j x).length = L.length - j := by
  simp [cutL, cutR]
  omega
/-! ## what tastes tell -/
def GT (T : List ST) : Prop := ∃ E P m, T = tasteOf E P ∧ DT E P m ∧ 1 ≤ m ∧ m ≤ 6
theorem GT.tok {T : List ST} (h : GT T) : TOk T := by
  obtain ⟨E, P, m, rfl, hd, h1, h2⟩ := h
  exact hd.tok h2
theorem GT.is {T : List ST} (h : GT T) : isTaste (PC T) = true := by
  obtain ⟨E, P, m, rfl, hd, h1, h2⟩ := h
  exact hd.taste h1 h2
theorem l_gt {T : List ST} {μ : DM} (h : GT T) : f_is_taste [PC T] μ = .ok (.bl true) μ := by
  obtain ⟨E, P, m, rfl, hd, h1, h2⟩ := h
  exact l_taste_ok hd h1 h2
theorem upGo_one : ∀ {T : List ST} {f l : Rat}, (∀ s ∈ T, s.1 ≤ 1) → upGo 1 T f l = f + (T.map (·.2)).sum
  | [], f, l, _ => by simp [upGo, Rat.add_zero]
  | (e, p) :: T, f, l, h => by
    have he : e ≤ 1 := h (e, p) (by simp)
    rw [upGo, if_pos he, upGo_one fun s hs => h s (by simp [hs])]
    simp only [List.map_cons, List.sum_cons, Rat.add_assoc]
theorem upGo_zero : ∀ {T : List ST} {f l : Rat}, 0 ≤ l → ascB l (T.map (·.1)) = true → upGo 0 T f l = f
  | [], f, l, _, _ => rfl
  | (e, p) :: T, f, l, hl, h => by
    simp only [List.map_cons, ascB, Bool.and_eq_true, decide_eq_true_eq] at h
    rw [upGo, if_neg (by grind), if_neg (by grind), upGo_zero (by grind) h.2]
theorem GT.whole {T : List ST} (h : GT T) : worQ T [(0, 1)] = 1 := by
  obtain ⟨E, P, m, rfl, hd, h1, h2⟩ := h
  have ho := hd.ok
  simp only [okTaste, Bool.and_eq_true, decide_eq_true_eq] at ho
  have hle : ∀ s ∈ tasteOf E P, s.1 ≤ 1 := by
    intro s hs
    unfold tasteOf at hs
    obtain ⟨z, hz, rfl⟩ := List.mem_map.mp hs
    have a1 := asc_le hd.asc z.1 (List.of_mem_zip (a := z.1) (b := z.2) hz).1
    rw [hd.last] at a1
    exact qn_le1 (by omega) a1
  simp only [worQ, List.map_cons, List.map_nil, List.sum_cons, List.sum_nil, btwQ, upQ]
  rw [upGo_one hle, upGo_zero Rat.le_refl ho.1.1, ho.2]
  grind
theorem worQ_nil {T : List ST} : worQ T [] = 0 := rfl
theorem wor_cut {T L : List ST} {j : Nat} {x : Rat} (hj : j < L.length) : worQ T (cutL L j x) + worQ T (cutR L j x) = worQ T L := by
  obtain ⟨A, B, s, e, eA, eB, es⟩ := split_at hj
  unfold cutL cutR
  rw [eA, eB, es, e]
  simp only [worQ, List.map_append, List.map_cons, List.map_nil, List.sum_append, List.sum_cons, List.sum_nil, btwQ]
  grind
/-! ### worth, worths -/
abbrev NoT : DX := { cls := "NoTaste" }
abbrev NoTs : DX := { cls := "NoTastes" }
theorem l_need_t {T : List ST} {μ : DM} (h : GT T) : f_need_taste [PC T] μ = .ok .non μ := by
  refine run_nx (ρ := [some (PC T)]) rfl ?_
  simp [b_need_taste, l_gt h]
theorem l_need_tx {v : DV} {μ : DM} (h : f_is_taste [v] μ = .ok (.bl false) μ) : f_need_taste [v] μ = .ex NoT μ := by
  refine run_ex (ρ := [some v]) rfl ?_
  simp [b_need_taste, h]
theorem SP_mono {k l : Nat} {x : ST} (h : SP k x) (hl : k ≤ l) : SP l x := ⟨h.a.mono hl, h.b.mono hl⟩
theorem l_worth {T P : List ST} {μ : DM} (h : GT T) (hP : POk P) (hp : pcB P = true) : f_worth [PC T, PC P] μ = .ok (FR (worQ T P)) μ := by
  have e1 := l_need_t (μ := μ) h
  have e2 := l_need_ok (μ := μ) hP.z (by omega) (by have := hP.l; omega) hp
  have e3 := l_wof (μ := μ) h.tok hP
  refine run_rt rfl ?_
  simp [b_worth, e1, e2, e3]
theorem l_worth_t {v w : DV} {μ : DM} (h : f_is_taste [v] μ = .ok (.bl false) μ) : f_worth [v, w] μ = .ex NoT μ := by
  refine run_ex (ρ := [some v, some w]) rfl ?_
  simp [b_worth, l_need_tx h]
theorem l_worth_p {T : List ST} {w : DV} {μ : DM} (h : GT T) (hw : f_is_piece [w] μ = .ok (.bl false) μ) : f_worth [PC T, w] μ = .ex { cls := "NoPiece" } μ := by
  have e1 := l_need_t (μ := μ) h
  refine run_ex (ρ := [some (PC T), some w]) rfl ?_
  simp [b_worth, e1, l_need_no hw]
end Lw

namespace Lw
open PySem L2 Md
/-! ## what is worth up to a point, as a sum -/
def upT (e p l x : Rat) : Rat := if e ≤ x then p else if l < x then p * ((x - l) / (e - l)) else 0
def upR (x : Rat) : List ST → Rat → Rat
  | [], _ => 0
  | (e, p) :: T, l => upT e p l x + upR x T e
theorem upGo_R {x : Rat} : ∀ {T : List ST} {f l : Rat}, upGo x T f l = f + upR x T l
  | [], f, l => by simp [upGo, upR, Rat.add_zero]
  | (e, p) :: T, f, l => by
    rw [upGo, upGo_R, upR, upT]
    split
    · grind
    · split <;> grind
theorem upQ_R {x : Rat} {T : List ST} : upQ T x = upR x T 0 := by
  rw [upQ, upGo_R, Rat.zero_add]
/-- ends that ascend, worths that are not below nought -/
def NT (T : List ST) (l : Rat) : Prop := ascB l (T.map (·.1)) = true ∧ ∀ s ∈ T, 0 ≤ s.2
theorem NT.hd {e p l : Rat} {T : List ST} (h : NT ((e, p) :: T) l) : l < e ∧ 0 ≤ p ∧ NT T e := by
  obtain ⟨h1, h2⟩ := h
  simp only [List.map_cons, ascB, Bool.and_eq_true, decide_eq_true_eq] at h1
  exact ⟨h1.1, h2 (e, p) (by simp), h1.2, fun s hs => h2 s (by simp [hs])⟩
theorem div_le1 {a b : Rat} (hb : 0 < b) (h : a ≤ b) : a / b ≤ 1 := by
  have : ¬ (1 < a / b) := fun z => by
    rw [Rat.lt_div_iff hb] at z
    grind
  grind
theorem div_nn {a b : Rat} (hb : 0 < b) (h : 0 ≤ a) : 0 ≤ a / b := by
  have : ¬ (a / b < 0) := fun z => by
    rw [Rat.div_lt_iff hb] at z
    grind
  grind
theorem div_pos' {a b : Rat} (hb : 0 < b) (h : 0 < a) : 0 < a / b := by
  rw [Rat.lt_div_iff hb]; grind
theorem div_mono {a c b : Rat} (hb : 0 < b) (h : a ≤ c) : a / b ≤ c / b := by
  have : ¬ (c / b < a / b) := fun z => by
    rw [Rat.div_lt_iff hb, Rat.div_mul_cancel (by grind)] at z
    grind
  grind
theorem div_smono {a c b : Rat} (hb : 0 < b) (h : a < c) : a / b < c / b := by
  rw [Rat.div_lt_iff hb, Rat.div_mul_cancel (by grind)]; exact h
theorem mul_le1 {p t : Rat} (hp : 0 ≤ p) (ht : t ≤ 1) : p * t ≤ p := by
  have := Rat.mul_le_mul_of_nonneg_left ht hp
  grind
theorem upT_nn {e p l x : Rat} (hl : l < e) (hp : 0 ≤ p) : 0 ≤ upT e p l x := by
  unfold upT
  split
  · exact hp
  · split
    · exact Rat.mul_nonneg hp (div_nn (by grind) (by grind))
    · exact Rat.le_refl
theorem upT_le {e p l x : Rat} (hl : l < e) (hp : 0 ≤ p) : upT e p l x ≤ p := by
  unfold upT
  split
  · exact Rat.le_refl
  · split
    · exact mul_le1 hp (div_le1 (by grind) (by grind))
    · exact hp
theorem upT_mono {e p l x y : Rat} (hl : l < e) (hp : 0 ≤ p) (h : x ≤ y) : upT e p l x ≤ upT e p l y := by
  by_cases h1 : e ≤ y
  · have : upT e p l y = p := by unfold upT; rw [if_pos h1]
    rw [this]
    exact upT_le hl hp
  · by_cases h2 : l < x
    · have e1 : upT e p l x = p * ((x - l) / (e - l)) := by unfold upT; rw [if_neg (by grind), if_pos h2]
      have e2 : upT e p l y = p * ((y - l) / (e - l)) := by unfold upT; rw [if_neg h1, if_pos (by grind)]
      rw [e1, e2]
      exact Rat.mul_le_mul_of_nonneg_left (div_mono (by grind) (by grind)) hp
    · have e1 : upT e p l x = 0 := by unfold upT; rw [if_neg (by grind), if_neg h2]
      rw [e1]
      exact upT_nn hl hp
theorem upR_mono {x y : Rat} (h : x ≤ y) : ∀ {T : List ST} {l : Rat}, NT T l → upR x T l ≤ upR y T l
  | [], _, _ => Rat.le_refl
  | (e, p) :: T, l, hn => by
    obtain ⟨h1, h2, h3⟩ := hn.hd
    have a := upT_mono h1 h2 h
    have b := upR_mono h h3
    rw [upR, upR]
    grind
theorem upR_zero {x : Rat} : ∀ {T : List ST} {l : Rat}, NT T l → x ≤ l → upR x T l = 0
  | [], _, _, _ => rfl
  | (e, p) :: T, l, hn, h => by
    obtain ⟨h1, h2, h3⟩ := hn.hd
    rw [upR, upR_zero h3 (by grind)]
    unfold upT
    rw [if_neg (by grind), if_neg (by grind), Rat.add_zero]
theorem upR_le {x : Rat} : ∀ {T : List ST} {l : Rat}, NT T l → upR x T l ≤ (T.map (·.2)).sum
  | [], _, _ => Rat.le_refl
  | (e, p) :: T, l, hn => by
    obtain ⟨h1, h2, h3⟩ := hn.hd
    have a := upT_le (x := x) h1 h2
    have b := upR_le (x := x) h3
    rw [upR, List.map_cons, List.sum_cons]
    grind
/-! ### straight between ends -/
theorem upT_lin {e p l u v y : Rat} (hl : l < e) (huv : u < v) (h1 : u ≤ y) (h2 : y ≤ v) (he : ¬ (u < e ∧ e < v)) (hl2 : ¬ (u < l ∧ l < v)) : upT e p l y = upT e p l u + (upT e p l v - upT e p l u) * ((y - u) / (v - u)) := by
  have hvu : v - u ≠ 0 := by grind
  by_cases c1 : e ≤ u
  · have : ∀ z, u ≤ z → upT e p l z = p := fun z hz => by unfold upT; rw [if_pos (by grind)]
    rw [this y h1, this u Rat.le_refl, this v (by grind)]
    grind
  · have hev : v ≤ e := by grind
    by_cases c2 : v ≤ l
    · have : ∀ z, z ≤ v → upT e p l z = 0 := fun z hz => by unfold upT; rw [if_neg (by grind), if_neg (by grind)]
      rw [this y h2, this u (by grind), this v Rat.le_refl]
      grind
    · have hlu : l ≤ u := by grind
      have hel : e - l ≠ 0 := by grind
      have key : ∀ z, u ≤ z → z ≤ v → upT e p l z = p * ((z - l) / (e - l)) := by
        intro z hz1 hz2
        unfold upT
        split
        · have : z = e := by grind
          subst this
          grind
        · split
          · rfl
          · have : z = l := by grind
            subst this
            grind
      rw [key y h1 h2, key u Rat.le_refl (by grind), key v (by grind) Rat.le_refl]
      grind
theorem upR_lin {u v y : Rat} (huv : u < v) (h1 : u ≤ y) (h2 : y ≤ v) : ∀ {T : List ST} {l : Rat}, NT T l → (∀ s ∈ T, ¬ (u < s.1 ∧ s.1 < v)) → ¬ (u < l ∧ l < v) → upR y T l = upR u T l + (upR v T l - upR u T l) * ((y - u) / (v - u))
  | [], _, _, _, _ => by simp [upR]; grind
  | (e, p) :: T, l, hn, he, hl => by
    obtain ⟨g1, g2, g3⟩ := hn.hd
    have a := upT_lin (p := p) g1 huv h1 h2 (he (e, p) (by simp)) hl
    have b := upR_lin huv h1 h2 g3 (fun s hs => he s (by simp [hs])) (he (e, p) (by simp))
    rw [upR, upR, upR, a, b]
    grind
/-! ### the least point -/
def fpGo (due : Rat) : List ST → Rat → Rat → Rat
  | [], _, _ => 1
  | (e, p) :: T, f, b => if 0 < p ∧ due ≤ f + p then b + (e - b) * ((due - f) / p) else fpGo due T (f + p) e
theorem fp_ok {due : Rat} : ∀ {T : List ST} {f b : Rat}, NT T b → f < due → due ≤ f + (T.map (·.2)).sum → b < fpGo due T f b ∧ f + upR (fpGo due T f b) T b = due ∧ ∀ y, y < fpGo due T f b → f + upR y T b < due
  | [], f, b, _, h1, h2 => by simp at h2; grind
  | (e, p) :: T, f, b, hn, h1, h2 => by
    obtain ⟨g1, g2, g3⟩ := hn.hd
    rw [fpGo]
    by_cases c : 0 < p ∧ due ≤ f + p
    · rw [if_pos c]
      obtain ⟨c1, c2⟩ := c
      obtain ⟨t, ht⟩ : ∃ t, t = (due - f) / p := ⟨_, rfl⟩
      have t0 : 0 < t := by rw [ht]; exact div_pos' c1 (by grind)
      have t1 : t ≤ 1 := by rw [ht]; exact div_le1 c1 (by grind)
      have tp : p * t = due - f := by rw [ht]; grind
      rw [← ht]
      have q0 : 0 < (e - b) * t := Rat.mul_pos (by grind) t0
      have q1 : (e - b) * t ≤ e - b := mul_le1 (by grind) t1
      have z : ∀ y, y ≤ e → upR y T e = 0 := fun y hy => upR_zero g3 hy
      refine ⟨by grind, ?_, fun y hy => ?_⟩
      · rw [upR, z _ (by grind), Rat.add_zero]
        unfold upT
        split
        · have he : (e - b) * t = e - b := by grind
          have : t = 1 := by
            have hne : e - b ≠ 0 := by grind
            grind
          subst this
          grind
        · rw [if_pos (by grind)]
          have hne : e - b ≠ 0 := by grind
          have : (b + (e - b) * t - b) / (e - b) = t := by grind
          rw [this]
          grind
      · rw [upR, z y (by grind), Rat.add_zero]
        unfold upT
        rw [if_neg (by grind)]
        split
        · have : (y - b) / (e - b) < t := by
            rw [Rat.div_lt_iff (by grind)]
            grind
          have := Rat.mul_lt_mul_of_pos_left this c1
          grind
        · grind
    · rw [if_neg c]
      have h3 : f + p < due := by
        by_cases hp : 0 < p
        · have : ¬ due ≤ f + p := fun z => c ⟨hp, z⟩
          grind
        · grind
      rw [List.map_cons, List.sum_cons] at h2
      obtain ⟨k1, k2, k3⟩ := fp_ok (due := due) g3 h3 (by grind)
      refine ⟨by grind, ?_, fun y hy => ?_⟩
      · rw [upR]
        have : upT e p b (fpGo due T (f + p) e) = p := by unfold upT; rw [if_pos (by grind)]
        rw [this]
        grind
      · have := k3 y hy
        have h4 := upT_le (x := y) g1 g2
        rw [upR]
        grind
end Lw

namespace Lw
open PySem L2 Md
theorem upGo_past {x f l : Rat} {T : List ST} (h : NT T l) (hx : x ≤ l) : upGo x T f l = f := by
  rw [upGo_R, upR_zero h hx, Rat.add_zero]
theorem upGo_sz2 {x : Rat} {kx : Nat} (hx : Sz kx x) : ∀ {T : List ST} {f l : Rat} {k : Nat}, NT T l → (∀ s ∈ T, SP 5 s) → Sz 5 l → Sz k f → Sz (k + 6 * T.length + kx + 23) (upGo x T f l)
  | [], f, l, k, _, _, _, hf => hf.mono (by simp; omega)
  | (e, p) :: T, f, l, k, hn, h, hl, hf => by
    obtain ⟨g1, g2, g3⟩ := hn.hd
    have hs := h (e, p) (by simp)
    have he : Sz 5 e := hs.a
    have hp : Sz 5 p := hs.b
    have h' : ∀ s ∈ T, SP 5 s := fun s hs => h s (by simp [hs])
    rw [upGo]
    by_cases c1 : e ≤ x
    · rw [if_pos c1]
      exact (upGo_sz2 hx g3 h' he (hf.add hp)).mono (by simp; omega)
    · rw [if_neg c1]
      by_cases c2 : l < x
      · rw [if_pos c2, upGo_past g3 (by grind)]
        have hpos : 0 < e - l := by grind
        exact (hf.add (hp.mul (sz_divp (hx.sub hl) (he.sub hl) hpos))).mono (by omega)
      · rw [if_neg c2, upGo_past g3 (by grind)]
        exact hf.mono (by omega)
structure TG (T : List ST) : Prop where
  l : T.length ≤ 6
  z : ∀ s ∈ T, SP 5 s
  n : NT T 0
  s : (T.map (·.2)).sum = 1
  e : ∀ s ∈ T, s.1 ≤ 1
theorem up2_sz {T : List ST} (h : TG T) {x : Rat} {kx : Nat} (hx : Sz kx x) : Sz (kx + 60) (upQ T x) := by
  refine (upGo_sz2 hx h.n h.z (Sz.zero.mono (by omega)) Sz.zero).mono ?_
  have := h.l
  omega
theorem l_up2 {T : List ST} {x : Rat} {kx : Nat} {μ : DM} (h : TG T) (hx : Sz kx x) (hk : kx ≤ 3500) : f_worth_up_to [PC T, FR x] μ = .ok (FR (upQ T x)) μ := by
  refine run_rt rfl ?_
  have hl6 := h.l
  obtain ⟨ρ', h1, f, l, w4, w5, h2, _, _, _, _, h3⟩ := for_ind (enc := PR) (s := (T.map PR, none)) (t := tgTup 2 (tgCons (tgN 4) (tgCons (tgN 5) (tgNil)))) (b := (sSeq (sIf (mTru (mCall 2 f_is_at_most (mCons (mVar 4) (mCons (mVar 1) (mNil))))) (sAsg (mCall 2 f_add (mCons (mVar 2) (mCons (mVar 5) (mNil)))) (tgN 2)) (sIf (mTru (mCall 2 f_is_below (mCons (mVar 3) (mCons (mVar 1) (mNil))))) (sAsg (mCall 2 f_add (mCons (mVar 2) (mCons (mCall 2 f_product (mCons (mVar 5) (mCons (mCall 2 f_ratio (mCons (mCall 2 f_take (mCons (mVar 1) (mCons (mVar 3) (mNil)))) (mCons (mCall 2 f_take (mCons (mVar 4) (mCons (mVar 3) (mNil)))) (mNil)))) (mNil)))) (mNil)))) (tgN 2)) (sNil))) <|
  sAsg (mVar 4) (tgN 3))) (μ := μ)
    (fun L ρ => ∃ (f l : Rat) (w4 w5 : Option DV), ρ = [some (PC T), some (FR x), some (FR f), some (FR l), w4, w5] ∧ ((x ≤ l ∧ Sz (kx + 60) f) ∨ ∃ k, Sz k f ∧ k + 6 * L.length ≤ 37) ∧ NT L l ∧ (∀ s ∈ L, SP 5 s) ∧ Sz 5 l ∧ upGo x L f l = upQ T x) rfl
    (fun s L ρ ⟨f, l, w4, w5, e, hf, hn, hL, hl, e2⟩ => by
      subst e
      obtain ⟨e, p⟩ := s
      obtain ⟨g1, g2, g3⟩ := hn.hd
      have hs := hL (e, p) (by simp)
      have he : Sz 5 e := hs.a
      have hp : Sz 5 p := hs.b
      have a1 := l_is_at_most (μ := μ) he hx (by omega)
      have a2 := l_is_below (μ := μ) hl hx (by omega)
      have hL' : ∀ s ∈ L, SP 5 s := fun r hr => hL r (by simp [hr])
      rw [upGo] at e2
      by_cases c1 : e ≤ x
      · rcases hf with ⟨hf, _⟩ | ⟨k, hf, hk2⟩
        · exact absurd (Rat.le_trans c1 hf) (by grind)
        · simp at hk2
          have a3 := l_add (μ := μ) hf hp (by omega)
          rw [if_pos c1] at e2
          refine ⟨_, [some (PC T), some (FR x), some (FR (f + p)), some (FR e), some (FR e), some (FR p)], by simp [PR]; rfl, ?_, f + p, e, _, _, rfl, .inr ⟨_, hf.add hp, by omega⟩, g3, hL', he, e2⟩
          simp [a1, c1, a3]
      · rw [if_neg c1] at e2
        by_cases c2 : l < x
        · rcases hf with ⟨hf, _⟩ | ⟨k, hf, hk2⟩
          · exact absurd hf (by grind)
          · simp at hk2
            have hpos : 0 < e - l := by grind
            have b1 := l_take (μ := μ) hx hl (by omega)
            have b2 := l_take (μ := μ) he hl (by omega)
            have b3 := l_ratiop (μ := μ) (hx.sub hl) (he.sub hl) (by omega) hpos
            have z3 := sz_divp (hx.sub hl) (he.sub hl) hpos
            have b4 := l_product (μ := μ) hp z3 (by omega)
            have z4 := hp.mul z3
            have b5 := l_add (μ := μ) hf z4 (by omega)
            have z5 := hf.add z4
            rw [if_pos c2] at e2
            refine ⟨_, [some (PC T), some (FR x), some (FR (f + p * ((x - l) / (e - l)))), some (FR e), some (FR e), some (FR p)], by simp [PR]; rfl, ?_, _, e, _, _, rfl, .inl ⟨by grind, z5.mono (by omega)⟩, g3, hL', he, e2⟩
            simp [a1, c1, a2, c2, b1, b2, b3, b4, b5]
        · rw [if_neg c2] at e2
          refine ⟨_, [some (PC T), some (FR x), some (FR f), some (FR e), some (FR e), some (FR p)], by simp [PR]; rfl, ?_, f, e, _, _, rfl, .inl ⟨by grind, ?_⟩, g3, hL', he, e2⟩
          · simp [a1, c1, a2, c2]
          · rcases hf with ⟨_, hf⟩ | ⟨k, hf, hk2⟩
            · exact hf
            · exact hf.mono (by omega))
    T [some (PC T), some (FR x), some (FR 0), some (FR 0), none, none] ⟨0, 0, none, none, rfl, .inr ⟨1, Sz.zero, by omega⟩, h.n, h.z, Sz.zero.mono (by omega), rfl⟩
  subst h2
  show b_worth_up_to [some (.tup (T.map PR)), some (FR x), none, none, none, none] μ = _
  have h1' : sFor.go (tgTup 2 (tgCons (tgN 4) (tgCons (tgN 5) (tgNil)))) _ (T.map PR, none) (T.map PR) [some (.tup (T.map PR)), some (FR x), some (.tup [.int 0, .int 1]), some (.tup [.int 0, .int 1]), none, none] μ = _ := h1
  simp [b_worth_up_to, h1']
  have e9 : f = upQ T x := by simpa [upGo] using h3
  rw [e9]
theorem l_lup2 {T : List ST} {x : Rat} {kx : Nat} {μ : DM} (h : TG T) (hx : Sz kx x) (hk : kx ≤ 3500) : f__law_up_to [PC T, FR x] μ = .ok (FR (upQ T x)) μ := by
  refine run_rt rfl ?_
  have hl6 := h.l
  obtain ⟨ρ', h1, f, l, w4, w5, h2, _, _, _, _, h3⟩ := for_ind (enc := PR) (s := (T.map PR, none)) (t := tgTup 2 (tgCons (tgN 4) (tgCons (tgN 5) (tgNil)))) (b := (sSeq (sIf (mNot (mTru (mCall 2 f__law_less (mCons (mVar 1) (mCons (mVar 4) (mNil)))))) (sAsg (mCall 2 f__law_plus (mCons (mVar 2) (mCons (mVar 5) (mNil)))) (tgN 2)) (sIf (mTru (mCall 2 f__law_less (mCons (mVar 3) (mCons (mVar 1) (mNil))))) (sAsg (mCall 2 f__law_plus (mCons (mVar 2) (mCons (mCall 2 f__law_times (mCons (mVar 5) (mCons (mCall 2 f__law_over (mCons (mCall 2 f__law_minus (mCons (mVar 1) (mCons (mVar 3) (mNil)))) (mCons (mCall 2 f__law_minus (mCons (mVar 4) (mCons (mVar 3) (mNil)))) (mNil)))) (mNil)))) (mNil)))) (tgN 2)) (sNil))) <|
  sAsg (mVar 4) (tgN 3))) (μ := μ)
    (fun L ρ => ∃ (f l : Rat) (w4 w5 : Option DV), ρ = [some (PC T), some (FR x), some (FR f), some (FR l), w4, w5] ∧ ((x ≤ l ∧ Sz (kx + 60) f) ∨ ∃ k, Sz k f ∧ k + 6 * L.length ≤ 37) ∧ NT L l ∧ (∀ s ∈ L, SP 5 s) ∧ Sz 5 l ∧ upGo x L f l = upQ T x) rfl
    (fun s L ρ ⟨f, l, w4, w5, e, hf, hn, hL, hl, e2⟩ => by
      subst e
      obtain ⟨e, p⟩ := s
      obtain ⟨g1, g2, g3⟩ := hn.hd
      have hs := hL (e, p) (by simp)
      have he : Sz 5 e := hs.a
      have hp : Sz 5 p := hs.b
      have a1 := l_lless (μ := μ) hx he (by omega)
      have a2 := l_lless (μ := μ) hl hx (by omega)
      have hL' : ∀ s ∈ L, SP 5 s := fun r hr => hL r (by simp [hr])
      rw [upGo] at e2
      by_cases c1 : e ≤ x
      · have c1' : ¬ x < e := by grind
        rcases hf with ⟨hf, _⟩ | ⟨k, hf, hk2⟩
        · exact absurd (Rat.le_trans c1 hf) (by grind)
        · simp at hk2
          have a3 := l_lplus (μ := μ) hf hp (by omega)
          rw [if_pos c1] at e2
          refine ⟨_, [some (PC T), some (FR x), some (FR (f + p)), some (FR e), some (FR e), some (FR p)], by simp [PR]; rfl, ?_, f + p, e, _, _, rfl, .inr ⟨_, hf.add hp, by omega⟩, g3, hL', he, e2⟩
          simp [a1, c1', a3]
      · rw [if_neg c1] at e2
        have c1' : x < e := by grind
        by_cases c2 : l < x
        · rcases hf with ⟨hf, _⟩ | ⟨k, hf, hk2⟩
          · exact absurd hf (by grind)
          · simp at hk2
            have hpos : 0 < e - l := by grind
            have b1 := l_lminus (μ := μ) hx hl (by omega)
            have b2 := l_lminus (μ := μ) he hl (by omega)
            have b3 := l_loverp (μ := μ) (hx.sub hl) (he.sub hl) (by omega) hpos
            have z3 := sz_divp (hx.sub hl) (he.sub hl) hpos
            have b4 := l_ltimes (μ := μ) hp z3 (by omega)
            have z4 := hp.mul z3
            have b5 := l_lplus (μ := μ) hf z4 (by omega)
            have z5 := hf.add z4
            rw [if_pos c2] at e2
            refine ⟨_, [some (PC T), some (FR x), some (FR (f + p * ((x - l) / (e - l)))), some (FR e), some (FR e), some (FR p)], by simp [PR]; rfl, ?_, _, e, _, _, rfl, .inl ⟨by grind, z5.mono (by omega)⟩, g3, hL', he, e2⟩
            simp [a1, c1', a2, c2, b1, b2, b3, b4, b5]
        · rw [if_neg c2] at e2
          refine ⟨_, [some (PC T), some (FR x), some (FR f), some (FR e), some (FR e), some (FR p)], by simp [PR]; rfl, ?_, f, e, _, _, rfl, .inl ⟨by grind, ?_⟩, g3, hL', he, e2⟩
          · simp [a1, c1', a2, c2]
          · rcases hf with ⟨_, hf⟩ | ⟨k, hf, hk2⟩
            · exact hf
            · exact hf.mono (by omega))
    T [some (PC T), some (FR x), some (FR 0), some (FR 0), none, none] ⟨0, 0, none, none, rfl, .inr ⟨1, Sz.zero, by omega⟩, h.n, h.z, Sz.zero.mono (by omega), rfl⟩
  subst h2
  show b__law_up_to [some (.tup (T.map PR)), some (FR x), none, none, none, none] μ = _
  have h1' : sFor.go (tgTup 2 (tgCons (tgN 4) (tgCons (tgN 5) (tgNil)))) _ (T.map PR, none) (T.map PR) [some (.tup (T.map PR)), some (FR x), some (.tup [.int 0, .int 1]), some (.tup [.int 0, .int 1]), none, none] μ = _ := h1
  simp [b__law_up_to, h1']
  have e9 : f = upQ T x := by simpa [upGo] using h3
  rw [e9]
/-! ### sums with small beginnings -/
theorem l_totP {L : List Rat} {a K n : Nat} {μ : DM} (h : ∀ q ∈ L, Sz a q) (hp : ∀ i, Sz K (L.take i).sum) (hs : K + a < 8000) (hm : μ[n]? = some (.lst (L.map FR))) : f_total [.ref n] μ = .ok (FR L.sum) μ := by
  refine run_rt rfl ?_
  have hok : okAt (some n) (L.map FR) μ = true := by simp [okAt, hm]
  obtain ⟨ρ', h1, i, w, h2, h4, h5⟩ := for_ind (enc := FR) (s := (L.map FR, some n)) (t := tgN 2) (b := sAsg (mCall 2 f_add (mCons (mVar 1) (mCons (mVar 2) (mNil)))) (tgN 1)) (μ := μ)
    (fun l ρ => ∃ (i : Nat) (w : Option DV), ρ = [some (.ref n), some (FR (L.take i).sum), w] ∧ l = L.drop i ∧ i ≤ L.length) hok
    (fun q l ρ ⟨i, w, e, e2, hi⟩ => by
      subst e
      have hi' : i < L.length := by
        rcases Nat.lt_or_ge i L.length with h | h
        · exact h
        · rw [List.drop_of_length_le h] at e2; cases e2
      rw [List.drop_eq_getElem_cons hi'] at e2
      obtain ⟨rfl, rfl⟩ := List.cons.inj e2
      have es : (L.take i).sum + L[i] = (L.take (i + 1)).sum := by
        rw [List.take_succ_eq_append_getElem hi', List.sum_append, List.sum_cons, List.sum_nil, Rat.add_zero]
      have e9 := l_add (μ := μ) (hp i) (h L[i] (List.getElem_mem _)) (by omega)
      rw [es] at e9
      exact ⟨_, _, rfl, by simp [e9], i + 1, some (FR L[i]), rfl, rfl, by omega⟩)
    L [some (.ref n), some (FR 0), none] ⟨0, none, rfl, rfl, by omega⟩
  have hi : i = L.length := by
    rcases Nat.lt_or_ge i L.length with hlt | hlt
    · rw [List.drop_eq_getElem_cons hlt] at h4; cases h4
    · omega
  subst h2 hi
  rw [FR_zero, List.take_length] at h1
  simp [b_total, hm, h1]
theorem l_lsumP {L : List Rat} {a K n : Nat} {μ : DM} (h : ∀ q ∈ L, Sz a q) (hp : ∀ i, Sz K (L.take i).sum) (hs : K + a < 8000) (hm : μ[n]? = some (.lst (L.map FR))) : f__law_sum [.ref n] μ = .ok (FR L.sum) μ := by
  refine run_rt rfl ?_
  have hok : okAt (some n) (L.map FR) μ = true := by simp [okAt, hm]
  obtain ⟨ρ', h1, i, w, h2, h4, h5⟩ := for_ind (enc := FR) (s := (L.map FR, some n)) (t := tgN 2) (b := sAsg (mCall 2 f__law_plus (mCons (mVar 1) (mCons (mVar 2) (mNil)))) (tgN 1)) (μ := μ)
    (fun l ρ => ∃ (i : Nat) (w : Option DV), ρ = [some (.ref n), some (FR (L.take i).sum), w] ∧ l = L.drop i ∧ i ≤ L.length) hok
    (fun q l ρ ⟨i, w, e, e2, hi⟩ => by
      subst e
      have hi' : i < L.length := by
        rcases Nat.lt_or_ge i L.length with h | h
        · exact h
        · rw [List.drop_of_length_le h] at e2; cases e2
      rw [List.drop_eq_getElem_cons hi'] at e2
      obtain ⟨rfl, rfl⟩ := List.cons.inj e2
      have es : (L.take i).sum + L[i] = (L.take (i + 1)).sum := by
        rw [List.take_succ_eq_append_getElem hi', List.sum_append, List.sum_cons, List.sum_nil, Rat.add_zero]
      have e9 := l_lplus (μ := μ) (hp i) (h L[i] (List.getElem_mem _)) (by omega)
      rw [es] at e9
      exact ⟨_, _, rfl, by simp [e9], i + 1, some (FR L[i]), rfl, rfl, by omega⟩)
    L [some (.ref n), some (FR 0), none] ⟨0, none, rfl, rfl, by omega⟩
  have hi : i = L.length := by
    rcases Nat.lt_or_ge i L.length with hlt | hlt
    · rw [List.drop_eq_getElem_cons hlt] at h4; cases h4
    · omega
  subst h2 hi
  rw [FR_zero, List.take_length] at h1
  simp [b__law_sum, hm, h1]
/-- pieces the points of which are within ks, the beginnings' worths within K -/
structure PB (T P : List ST) (ks K : Nat) : Prop where
  l : P.length ≤ 100
  z : ∀ s ∈ P, SP ks s
  p : ∀ i, Sz K (worQ T (P.take i))
  b : ks ≤ 3000 ∧ K + (ks + ks) < 7800
theorem btw2_sz {T : List ST} (h : TG T) {s : ST} {ks : Nat} (hs : SP ks s) : Sz (ks + ks + 121) (btwQ T s) := ((up2_sz h hs.b).sub (up2_sz h hs.a)).mono (by omega)
theorem PB.tk {T P : List ST} {ks K : Nat} (h : PB T P ks K) : ∀ i, Sz K ((P.map (btwQ T)).take i).sum := fun i => by
  have := h.p i
  rw [worQ, List.map_take] at this
  exact this
theorem l_btwn2 {T : List ST} {s : ST} {ks : Nat} {μ : DM} (h : TG T) (hs : SP ks s) (hk : ks ≤ 3000) : f_worth_between [PC T, PR s] μ = .ok (FR (btwQ T s)) μ := by
  refine run_rt rfl ?_
  have e1 := l_up2 (μ := μ) h hs.b (by omega)
  have e2 := l_up2 (μ := μ) h hs.a (by omega)
  have e3 := l_take (μ := μ) (up2_sz h hs.b) (up2_sz h hs.a) (by omega)
  simp [b_worth_between, e1, e2, e3, btwQ]
theorem l_wof2 {T P : List ST} {ks K : Nat} {μ : DM} (h : TG T) (hP : PB T P ks K) : f_worth_of [PC T, PC P] μ = .ok (FR (worQ T P)) μ := by
  have hl := hP.l
  have hb := hP.b
  have el := lc_map (μ0 := μ) (μ := μ) PR P (fun s => FR (btwQ T s)) (vs := [2]) (mi := mIt (mVar 1)) (ρ := [some (PC T), some (PC P), none]) (t := tgN 2)
    (te := mCall 2 f_worth_between (mCons (mVar 0) (mCons (mVar 2) (mNil)))) (c := none) (by simp [PC]) rfl (by simp; omega) (fun s hs => ⟨_, rfl, by simp [wipeD, l_btwn2 h (hP.z s hs) hb.1]⟩)
  have et := l_totP (L := P.map (btwQ T)) (a := ks + ks + 121) (K := K) (n := μ.length) (μ := μ ++ [.lst (P.map fun s => FR (btwQ T s))]) (fun q hq => by
    obtain ⟨s, hs, rfl⟩ := List.mem_map.mp hq
    exact btw2_sz h (hP.z s hs)) hP.tk (by omega) (by simp [Function.comp_def])
  refine run_rtA (t := [.lst (P.map fun s => FR (btwQ T s))]) rfl rfl ?_
  show b_worth_of [some (PC T), some (PC P), none] μ = _
  unfold b_worth_of
  simp only [x_sRet, x_call, x_cons, x_keep, el, DR.bind_ok, x_nil, st_ok]
  simp only [List.length_singleton, List.length_cons, List.length_nil, Nat.zero_add, if_pos, et, st_ok]
  rfl
theorem l_lwof2 {T P : List ST} {ks K : Nat} {μ : DM} (h : TG T) (hP : PB T P ks K) : f__law_worth [PC T, PC P] μ = .ok (FR (worQ T P)) μ := by
  have hl := hP.l
  have hb := hP.b
  have el := lc_map (μ0 := μ) (μ := μ) PR P (fun s => FR (btwQ T s)) (vs := [3, 2]) (mi := mIt (mVar 1)) (ρ := [some (PC T), some (PC P), none, none]) (t := tgTup 2 (tgCons (tgN 3) (tgCons (tgN 2) (tgNil))))
    (te := mCall 2 f__law_minus (mCons (mCall 2 f__law_up_to (mCons (mVar 0) (mCons (mVar 2) (mNil)))) (mCons (mCall 2 f__law_up_to (mCons (mVar 0) (mCons (mVar 3) (mNil)))) (mNil)))) (c := none) (by simp [PC]) rfl (by simp; omega) (fun s hs => ⟨[some (PC T), some (PC P), some (FR s.2), some (FR s.1)], by simp [PR, wipeD], by
      have z := hP.z s hs
      have e1 := l_lup2 (μ := μ) h z.b (by omega)
      have e2 := l_lup2 (μ := μ) h z.a (by omega)
      have e3 := l_lminus (μ := μ) (up2_sz h z.b) (up2_sz h z.a) (by omega)
      simp [e1, e2, e3, btwQ]⟩)
  have et := l_lsumP (L := P.map (btwQ T)) (a := ks + ks + 121) (K := K) (n := μ.length) (μ := μ ++ [.lst (P.map fun s => FR (btwQ T s))]) (fun q hq => by
    obtain ⟨s, hs, rfl⟩ := List.mem_map.mp hq
    exact btw2_sz h (hP.z s hs)) hP.tk (by omega) (by simp [Function.comp_def])
  refine run_rtA (t := [.lst (P.map fun s => FR (btwQ T s))]) rfl rfl ?_
  show b__law_worth [some (PC T), some (PC P), none, none] μ = _
  unfold b__law_worth
  simp only [x_sRet, x_call, x_cons, x_keep, el, DR.bind_ok, x_nil, st_ok]
  simp only [List.length_singleton, List.length_cons, List.length_nil, Nat.zero_add, if_pos, et, st_ok]
  rfl
end Lw

namespace Lw
open PySem L2 Md
theorem l_betw {i a b : Int} {μ : DM} : f_is_between [.int i, .int a, .int b] μ = .ok (.bl (decide (a ≤ i ∧ i ≤ b))) μ := by
  refine run_rt rfl ?_
  by_cases h : a ≤ i
  · simp [b_is_between, l_is_integer, h]
  · simp [b_is_between, l_is_integer, h]
theorem l_pointB {L : List ST} {j : Nat} {x : Rat} {k l : Nat} {μ : DM} (hj : j < L.length) (hL : SP k (L.getD j (0, 0))) (hx : Sz l x) (hk : k + l < 900000) :
    f_is_point_of [PC L, .int j, FR x] μ = .ok (.bl (decide ((L.getD j (0, 0)).1 ≤ x ∧ x ≤ (L.getD j (0, 0)).2))) μ := by
  have e := l_betw (i := (j : Int)) (a := 0) (b := (L.length : Int) - 1) (μ := μ)
  rw [decide_eq_true (show 0 ≤ (j : Int) ∧ (j : Int) ≤ (L.length : Int) - 1 by omega)] at e
  have e1 := PC_ixg (μ := μ) hj
  generalize L.getD j (0, 0) = q at e1 hL
  have a1 := l_is_at_most (μ := μ) hL.a hx (by omega)
  have a2 := l_is_at_most (μ := μ) hx hL.b (by omega)
  refine run_rt rfl ?_
  show b_is_point_of [some (.tup (L.map PR)), some (.int j), some (FR x)] μ = _
  by_cases h1 : q.1 ≤ x
  · simp [b_is_point_of, e, l_is_fraction, e1, a1, a2, h1]
  · simp [b_is_point_of, e, l_is_fraction, e1, a1, a2, h1]
theorem l_partedB {L : List ST} {j : Nat} {x : Rat} {μ : DM} (hj : j < L.length) (hl : L.length ≤ 1000) : f_parted [PC L, .int j, FR x] μ = .ok (.tup [PC (cutL L j x), PC (cutR L j x)]) μ := by
  have e1 := PC_ixg (μ := μ) hj
  refine run_rt rfl ?_
  show b_parted [some (.tup (L.map PR)), some (.int j), some (FR x), none, none] μ = _
  generalize hq : L.getD j (0, 0) = q at e1
  have e2 : gIx (.tup (L.map PR)) (.int j) μ = .ok (.tup [FR q.1, FR q.2]) μ := e1
  simp [b_parted, e2, cut_to, cut_from1, show min j L.length ≤ 16777215 by omega, show 1 + (L.length - (j + 1)) ≤ 16777216 by omega]
  simp [PC, cutL, cutR, PR] at hq ⊢
  simp [hq]
theorem l_cutB {L : List ST} {j : Nat} {x : Rat} {k l : Nat} {μ : DM} (h : ∀ x ∈ L, SP k x) (hk : k < 1000) (hp : pcB L = true) (hj : j < L.length) (hx : Sz l x) (hl : l < 100000) (h1 : (L.getD j (0, 0)).1 ≤ x) (h2 : x ≤ (L.getD j (0, 0)).2) :
    f_cut_at [PC L, .int j, FR x] μ = .ok (.tup [PC (cutL L j x), PC (cutR L j x)]) μ := by
  have hl0 := (pcB_iff.mp hp).1
  have n1 := l_need_ok (μ := μ) h (by omega) (by omega) hp
  have e := l_pointB (μ := μ) hj (h _ (by rw [List.getD_eq_getElem?_getD, List.getElem?_eq_getElem hj]; exact List.getElem_mem _)) hx (by omega)
  rw [decide_eq_true ⟨h1, h2⟩] at e
  refine run_rt rfl ?_
  simp [b_cut_at, n1, e, l_partedB hj (by omega)]
end Lw

namespace Lw
open PySem L2 Md
abbrev gS (P : List ST) (j : Nat) : ST := P.getD j (0, 0)
structure MK (T P : List ST) (am : Rat) (j : Nat) (x : Rat) : Prop where
  hj : j < P.length
  lo : (gS P j).1 ≤ x
  hi : x ≤ (gS P j).2
  eq : worQ T (P.take j) + (upQ T x - upQ T (gS P j).1) = am
  lst : ∀ y, (gS P j).1 ≤ y → y < x → worQ T (P.take j) + (upQ T y - upQ T (gS P j).1) < am
  fst : ∀ i, i < j → worQ T (P.take (i + 1)) < am
theorem upQ_mono {T : List ST} (h : TG T) {x y : Rat} (hxy : x ≤ y) : upQ T x ≤ upQ T y := by
  rw [upQ_R, upQ_R]; exact upR_mono hxy h.n
theorem upQ_nn {T : List ST} (h : TG T) {x : Rat} : 0 ≤ upQ T x := by
  have h1 := upQ_mono h (show min x 0 ≤ x by grind)
  have h2 : upQ T (min x 0) = 0 := by rw [upQ_R, upR_zero h.n (by grind)]
  grind
theorem upQ_le {T : List ST} (h : TG T) {x : Rat} : upQ T x ≤ 1 := by
  rw [upQ_R, ← h.s]; exact upR_le h.n
theorem gS_mem {P : List ST} {j : Nat} (hj : j < P.length) : gS P j ∈ P := by
  rw [gS, List.getD_eq_getElem?_getD, List.getElem?_eq_getElem hj]; exact List.getElem_mem _
theorem wor_succ {T P : List ST} {j : Nat} (hj : j < P.length) : worQ T (P.take (j + 1)) = worQ T (P.take j) + btwQ T (gS P j) := by
  rw [List.take_succ_eq_append_getElem hj]
  simp only [worQ, List.map_append, List.sum_append, List.map_cons, List.map_nil, List.sum_cons, List.sum_nil, Rat.add_zero, gS, List.getD_eq_getElem?_getD, List.getElem?_eq_getElem hj, Option.getD_some]
theorem MK.uni {T P : List ST} {am x y : Rat} {i j : Nat} (hT : TG T) (h : MK T P am i x) (g : MK T P am j y) : i = j ∧ x = y := by
  have key : ∀ {i j : Nat} {x y : Rat}, MK T P am i x → MK T P am j y → ¬ i < j := by
    intro i j x y h g hij
    have h1 := g.fst i hij
    rw [wor_succ h.hj, btwQ] at h1
    have h2 := h.eq
    have h3 := upQ_mono hT h.hi
    grind
  have e : i = j := by
    have a := key h g
    have b := key g h
    omega
  subst e
  refine ⟨rfl, ?_⟩
  have e1 := h.eq
  have e2 := g.eq
  by_cases c : x < y
  · have := g.lst x h.lo c
    grind
  · by_cases d : y < x
    · have := h.lst y g.lo d
      grind
    · grind
theorem MK.sz {T P : List ST} {am x : Rat} {j k : Nat} (h : MK T P am j x) (hx : Sz k x) : Sz k x := hx
/-! ### the least point -/
theorem FR_eq0 {q : Rat} {μ : DM} {neg : Bool} : gEq neg (FR q) (.tup [.int 0, .int 1]) μ = .ok (.bl (if neg then !decide (q = 0) else decide (q = 0))) μ := by
  rw [← FR_zero]
  exact FR_eq
def fpQ (T : List ST) (low a : Rat) : Rat := if a = 0 then low else fpGo (upQ T low + a) T 0 0
theorem fpGo_sz {due : Rat} {kd : Nat} (hd : Sz kd due) : ∀ {T : List ST} {f b : Rat} {k : Nat}, NT T b → (∀ s ∈ T, SP 5 s) → Sz 5 b → Sz k f → f < due → Sz (kd + k + 6 * T.length + 23) (fpGo due T f b)
  | [], f, b, k, _, _, _, _, _ => Sz.one.mono (by omega)
  | (e, p) :: T, f, b, k, hn, h, hb, hf, hfd => by
    obtain ⟨g1, g2, g3⟩ := hn.hd
    have hs := h (e, p) (by simp)
    have he : Sz 5 e := hs.a
    have hp : Sz 5 p := hs.b
    rw [fpGo]
    split
    · rename_i c
      exact (hb.add ((he.sub hb).mul (sz_divp (hd.sub hf) hp c.1))).mono (by omega)
    · rename_i c
      have h3 : f + p < due := by
        by_cases hp : 0 < p
        · have : ¬ due ≤ f + p := fun z => c ⟨hp, z⟩
          grind
        · grind
      exact (fpGo_sz hd g3 (fun s hs => h s (by simp [hs])) he (hf.add hp) h3).mono (by simp; omega)
theorem l_first {T : List ST} {low a : Rat} {ka : Nat} {μ : DM} (h : TG T) (hl : Sz 5 low) (ha : Sz ka a) (hk : ka ≤ 3000) (h0 : 0 ≤ a) (h1 : upQ T low + a ≤ 1) : f_first_point [PC T, FR low, FR a] μ = .ok (FR (fpQ T low a)) μ := by
  have hl6 := h.l
  refine run_rt rfl ?_
  show b_first_point [some (.tup (T.map PR)), some (FR low), some (FR a), none, none, none, none, none] μ = _
  by_cases c0 : a = 0
  · simp [b_first_point, FR_eq0, c0, fpQ]
  · have hu := l_up2 (μ := μ) h hl (by omega)
    have hu' : f_worth_up_to [.tup (T.map PR), FR low] μ = .ok (FR (upQ T low)) μ := hu
    have hus := up2_sz h hl
    have had := l_add (μ := μ) hus ha (by omega)
    have hds := hus.add ha
    have hnn := upQ_nn h (x := low)
    have hsm := h.s
    rw [show fpQ T low a = fpGo (upQ T low + a) T 0 0 from if_neg c0]
    generalize upQ T low + a = due at *
    have hd0 : 0 < due ∨ due ≤ 0 := by grind
    have hkd : (5 + 60) + ka + 1 = ka + 66 := by omega
    rw [hkd] at hds
    unfold b_first_point
    have f1 : sIf (mBl (mOp (gEq false) (mVar 2) (mC (.tup [.int 0, .int 1])))) (sRet (mVar 1)) (sNil) [some (.tup (T.map PR)), some (FR low), some (FR a), none, none, none, none, none] μ = .nx [some (.tup (T.map PR)), some (FR low), some (FR a), none, none, none, none, none] μ := by
      simp [FR_eq0, c0]
    have f2 : sAsg (mCall 2 f_add (mCons (mCall 2 f_worth_up_to (mCons (mVar 0) (mCons (mVar 1) (mNil)))) (mCons (mVar 2) (mNil)))) (tgN 3) [some (.tup (T.map PR)), some (FR low), some (FR a), none, none, none, none, none] μ = .nx [some (.tup (T.map PR)), some (FR low), some (FR a), some (FR due), none, none, none, none] μ := by
      simp [hu', had]
    have f3 : sPar 4 5 (mCons (mC (.tup [.int 0, .int 1])) (mCons (mC (.tup [.int 0, .int 1])) (mNil))) [some (.tup (T.map PR)), some (FR low), some (FR a), some (FR due), none, none, none, none] μ = .nx [some (.tup (T.map PR)), some (FR low), some (FR a), some (FR due), some (FR 0), some (FR 0), none, none] μ := by
      simp [FR_zero]
    rw [x_seq, f1, thn_nx, x_seq, f2, thn_nx, x_seq, f3, thn_nx]
    have hlt : 0 < due := by
      rcases hd0 with h | h
      · exact h
      · exfalso
        have e1 : FR due = FR due := rfl
        have : ¬ a ≤ 0 := by grind
        have hz : due = upQ T low + a := by
          have := had
          have e := l_add (μ := μ) hus ha (by omega)
          rw [e] at this
          simp only [DR.ok.injEq, and_true] at this
          exact (FR_inj.mp this).symm
        grind
    have hle : due ≤ 0 + (T.map (·.2)).sum := by
      rw [hsm, Rat.zero_add]; exact h1
    suffices hs : OkS { rt := fun v μ' => v = FR (fpGo due T 0 0) ∧ μ' = μ } (sSeq (sFor (mIt (mVar 0)) (tgTup 2 (tgCons (tgN 6) (tgCons (tgN 7) (tgNil)))) (sSeq (sIf (mAnd (mBl (mOp qGt (mOp gIx (mVar 7) (mC (.int 0))) (mC (.int 0)))) (mTru (mCall 2 f_is_at_most (mCons (mVar 3) (mCons (mCall 2 f_add (mCons (mVar 4) (mCons (mVar 7) (mNil)))) (mNil)))))) (sRet (mCall 2 f_add (mCons (mVar 5) (mCons (mCall 2 f_product (mCons (mCall 2 f_take (mCons (mVar 6) (mCons (mVar 5) (mNil)))) (mCons (mCall 2 f_ratio (mCons (mCall 2 f_take (mCons (mVar 3) (mCons (mVar 4) (mNil)))) (mCons (mVar 7) (mNil)))) (mNil)))) (mNil))))) (sNil)) <|
  sSeq (sAsg (mCall 2 f_add (mCons (mVar 4) (mCons (mVar 7) (mNil)))) (tgN 4)) <|
  sAsg (mVar 6) (tgN 5))) (sRet (mC (.tup [.int 1, .int 1]))) [some (.tup (T.map PR)), some (FR low), some (FR a), some (FR due), some (FR 0), some (FR 0), none, none] μ) by
      generalize hr : sSeq _ _ _ μ = r at hs
      cases r with
      | rt v μ' => obtain ⟨rfl, rfl⟩ := hs; rfl
      | _ => exact hs.elim
    refine seq_thn ?_
    have ei : mIt (mVar 0) [some (.tup (T.map PR)), some (FR low), some (FR a), some (FR due), some (FR 0), some (FR 0), none, none] μ = .ok (T.map PR, none) μ := by simp
    rw [x_for, ei]
    simp only [st_ok]
    refine for_inv (fun l ρ μ' => ∃ (L : List ST) (f b : Rat) (k : Nat) (w6 w7 : Option DV), l = L.map PR ∧ ρ = [some (.tup (T.map PR)), some (FR low), some (FR a), some (FR due), some (FR f), some (FR b), w6, w7] ∧ μ' = μ ∧ NT L b ∧ (∀ s ∈ L, SP 5 s) ∧ Sz 5 b ∧ Sz k f ∧ k + 6 * L.length ≤ 37 ∧ f < due ∧ due ≤ f + (L.map (·.2)).sum ∧ fpGo due L f b = fpGo due T 0 0) (fun _ _ _ _ => rfl)
      (fun v l ρ μ' ⟨L, f, b, k, w6, w7, e1, e2, e3, hn, hL, hb, hf, hk6, c1, c2, e4⟩ => ?_) (fun ρ μ' ⟨L, f, b, k, w6, w7, e1, e2, e3, hn, hL, hb, hf, hk6, c1, c2, e4⟩ => ?_) _ _ _
      ⟨T, 0, 0, 1, none, none, rfl, rfl, rfl, h.n, h.z, Sz.zero.mono (by omega), Sz.zero, by omega, hlt, hle, rfl⟩
    · subst e2 e3
      obtain ⟨s, L, rfl⟩ : ∃ s L', L = s :: L' := by
        cases L with
        | nil => cases e1
        | cons s L => exact ⟨s, L, rfl⟩
      obtain ⟨e, p⟩ := s
      simp only [List.map_cons, List.cons.injEq] at e1
      obtain ⟨rfl, rfl⟩ := e1
      obtain ⟨g1, g2, g3⟩ := hn.hd
      have hs := hL (e, p) (by simp)
      have he : Sz 5 e := hs.a
      have hp : Sz 5 p := hs.b
      have a1 := l_add (μ := μ') hf hp (by omega)
      have a2 := l_is_at_most (μ := μ') hds (hf.add hp) (by omega)
      refine ⟨[some (.tup (T.map PR)), some (FR low), some (FR a), some (FR due), some (FR f), some (FR b), some (FR e), some (FR p)], by simp [PR], ?_⟩
      have pn : (0 < p.num) ↔ 0 < p := by rw [Rat.lt_iff]; simp
      by_cases c : 0 < p ∧ due ≤ f + p
      · have q1 : 0 < p.num := pn.mpr c.1
        have b1 := l_take (μ := μ') he hb (by omega)
        have b2 := l_take (μ := μ') hds hf (by omega)
        have b3 := l_ratiop (μ := μ') (hds.sub hf) hp (by omega) c.1
        have z3 := sz_divp (hds.sub hf) hp c.1
        have b4 := l_product (μ := μ') (he.sub hb) z3 (by omega)
        have b5 := l_add (μ := μ') hb ((he.sub hb).mul z3) (by omega)
        rw [fpGo, if_pos c] at e4
        rw [e4] at b5
        simp [q1, a1, a2, c.2, b1, b2, b3, b4, b5]
      · rw [fpGo, if_neg c] at e4
        have h3 : f + p < due := by
          by_cases hp : 0 < p
          · have : ¬ due ≤ f + p := fun z => c ⟨hp, z⟩
            grind
          · grind
        rw [List.map_cons, List.sum_cons] at c2
        have fin : (∃ (L' : List ST) (f' b' : Rat) (k' : Nat) (w6 w7 : Option DV), L.map PR = L'.map PR ∧ [some (DV.tup (T.map PR)), some (FR low), some (FR a), some (FR due), some (FR (f + p)), some (FR e), some (FR e), some (FR p)] = [some (DV.tup (T.map PR)), some (FR low), some (FR a), some (FR due), some (FR f'), some (FR b'), w6, w7] ∧ μ' = μ' ∧ NT L' b' ∧ (∀ s ∈ L', SP 5 s) ∧ Sz 5 b' ∧ Sz k' f' ∧ k' + 6 * L'.length ≤ 37 ∧ f' < due ∧ due ≤ f' + (L'.map (·.2)).sum ∧ fpGo due L' f' b' = fpGo due T 0 0) :=
          ⟨L, f + p, e, k + 5 + 1, some (FR e), some (FR p), rfl, rfl, rfl, g3, fun s hs => hL s (by simp [hs]), he, hf.add hp, by simp at hk6; omega, h3, by grind, e4⟩
        by_cases q : 0 < p
        · have q1 : 0 < p.num := pn.mpr q
          have q2 : ¬ due ≤ f + p := fun z => c ⟨q, z⟩
          refine okS_wr (ρ := [some (.tup (T.map PR)), some (FR low), some (FR a), some (FR due), some (FR (f + p)), some (FR e), some (FR e), some (FR p)]) (μ := μ') (by simp [q1, a1, a2, q2]) fin
        · have q1 : ¬ 0 < p.num := fun z => q (pn.mp z)
          refine okS_wr (ρ := [some (.tup (T.map PR)), some (FR low), some (FR a), some (FR due), some (FR (f + p)), some (FR e), some (FR e), some (FR p)]) (μ := μ') (by simp [q1, a1]) fin
    · exfalso
      cases L with
      | nil => simp at c2; grind
      | cons s L => cases e1
end Lw

namespace Lw
open PySem L2 Md
theorem MK.of {T P : List ST} {am : Rat} {j : Nat} (hT : TG T) (hj : j < P.length) (hs : (gS P j).1 ≤ (gS P j).2) (h1 : worQ T (P.take j) ≤ am) (h2 : am ≤ worQ T (P.take (j + 1))) (hf : ∀ i, i < j → worQ T (P.take (i + 1)) < am) :
    MK T P am j (fpQ T (gS P j).1 (am - worQ T (P.take j))) := by
  rw [wor_succ hj, btwQ] at h2
  obtain ⟨ah, hah⟩ : ∃ ah, ah = worQ T (P.take j) := ⟨_, rfl⟩
  rw [← hah] at h1 h2 ⊢
  by_cases c : am - ah = 0
  · have e : fpQ T (gS P j).1 (am - ah) = (gS P j).1 := if_pos c
    rw [e]
    exact ⟨hj, Rat.le_refl, hs, by grind, fun y a b => by grind, hf⟩
  · have e : fpQ T (gS P j).1 (am - ah) = fpGo (upQ T (gS P j).1 + (am - ah)) T 0 0 := if_neg c
    rw [e]
    have nn := upQ_nn hT (x := (gS P j).1)
    have le1 := upQ_le hT (x := (gS P j).2)
    obtain ⟨k1, k2, k3⟩ := fp_ok (due := upQ T (gS P j).1 + (am - ah)) hT.n (f := 0) (by grind) (by rw [hT.s]; grind)
    simp only [Rat.zero_add, ← upQ_R] at k2 k3
    generalize fpGo (upQ T (gS P j).1 + (am - ah)) T 0 0 = x at *
    have lo : (gS P j).1 ≤ x := by
      by_cases z : x ≤ (gS P j).1
      · have := upQ_mono hT z
        grind
      · grind
    have hi : x ≤ (gS P j).2 := by
      by_cases z : (gS P j).2 < x
      · have := k3 _ z
        grind
      · grind
    exact ⟨hj, lo, hi, by grind, fun y _ b => by have := k3 y b; grind, hf⟩
structure PG5 (P : List ST) : Prop where
  l : P.length ≤ 6
  z : ∀ s ∈ P, SP 5 s
  p : pcB P = true
theorem PG5.le {P : List ST} (h : PG5 P) {s : ST} (hs : s ∈ P) : s.1 ≤ s.2 := ((pcB_iff.mp h.p).2.1 s hs).2.1
theorem pre_sz {T P : List ST} (hT : TG T) (h : PG5 P) (i : Nat) : Sz 800 (worQ T (P.take i)) := by
  have := sum_szL (L := (P.take i).map (btwQ T)) (a := 131) (fun q hq => by
    obtain ⟨s, hs, rfl⟩ := List.mem_map.mp hq
    exact btw2_sz hT (h.z s (List.mem_of_mem_take hs)))
  refine this.mono ?_
  rw [List.length_map, List.length_take]
  have h1 : min i P.length ≤ 6 := by have := h.l; omega
  have := Nat.mul_le_mul_left (131 + 1) h1
  omega
theorem fpQ_sz {T : List ST} {low a : Rat} {ka : Nat} (h : TG T) (hl : Sz 5 low) (ha : Sz ka a) (h0 : 0 ≤ a) : Sz (ka + 130) (fpQ T low a) := by
  unfold fpQ
  split
  · exact hl.mono (by omega)
  · have nn := upQ_nn h (x := low)
    have := fpGo_sz ((up2_sz h hl).add ha) h.n h.z (Sz.zero.mono (by omega)) Sz.zero (by grind)
    have hl6 := h.l
    exact this.mono (by omega)
theorem l_markof {T P : List ST} {am : Rat} {ka : Nat} {μ : DM} (hT : TG T) (hP : PG5 P) (ha : Sz ka am) (hk : ka ≤ 900) (h0 : 0 ≤ am) (h1 : am ≤ worQ T P) (hne : P ≠ []) :
    ∃ j x, f_mark_of [PC T, PC P, FR am] μ = .ok (.tup [.int (j : Nat), FR x]) μ ∧ MK T P am j x ∧ Sz (ka + 931) x := by
  suffices hs : OkE (fun v μ' => ∃ j x, v = .tup [.int (j : Nat), FR x] ∧ μ' = μ ∧ MK T P am j x ∧ Sz (ka + 931) x) NoX (f_mark_of [PC T, PC P, FR am] μ) by
    obtain ⟨v, μ', e, j, x, rfl, rfl, a, b⟩ := hs.ok
    exact ⟨j, x, e, a, b⟩
  refine okE_run rfl ?_
  refine seq_step (ρ' := [some (PC T), some (PC P), some (FR am), some (FR 0), none, none, none]) (μ' := μ) (by simp [FR_zero]) ?_
  refine seq_thn ?_
  have ei : mEnum (mVar 1) [some (PC T), some (PC P), some (FR am), some (FR 0), none, none, none] μ = .ok (enD 0 (P.map PR), none) μ := by
    unfold mEnum
    rw [x_var (v := .tup (P.map PR)) rfl]
    rfl
  rw [x_for, ei]
  simp only [st_ok]
  refine for_inv (fun l ρ μ' => ∃ (j : Nat) (w4 w5 w6 : Option DV), l = enD j ((P.drop j).map PR) ∧ j ≤ P.length ∧ ρ = [some (PC T), some (PC P), some (FR am), some (FR (worQ T (P.take j))), w4, w5, w6] ∧ μ' = μ ∧ worQ T (P.take j) ≤ am ∧ ∀ i, i < j → worQ T (P.take (i + 1)) < am) (fun _ _ _ _ => rfl)
    (fun v l ρ μ' ⟨j, w4, w5, w6, e1, e2, e3, e4, c1, c2⟩ => ?_) (fun ρ μ' ⟨j, w4, w5, w6, e1, e2, e3, e4, c1, c2⟩ => ?_) _ _ _
    ⟨0, none, none, none, rfl, by omega, rfl, rfl, h0, fun i hi => by omega⟩
  · subst e3 e4
    have hj : j < P.length := by
      rcases Nat.lt_or_ge j P.length with h | h
      · exact h
      · rw [List.drop_of_length_le h] at e1; cases e1
    rw [List.drop_eq_getElem_cons hj, List.map_cons, enD] at e1
    obtain ⟨rfl, rfl⟩ := List.cons.inj e1
    have es : P[j] = gS P j := by rw [gS, List.getD_eq_getElem?_getD, List.getElem?_eq_getElem hj]; rfl
    rw [es]
    have mem := gS_mem hj
    have zs := hP.z _ mem
    have ls := hP.le mem
    have b1 := l_btwn2 (μ := μ') hT zs (by omega)
    have zp := pre_sz hT hP j
    have zb := btw2_sz hT zs
    have b2 := l_add (μ := μ') zp zb (by omega)
    rw [← wor_succ hj] at b2
    have b3 := l_is_at_most (μ := μ') ha (pre_sz hT hP (j + 1)) (by omega)
    refine ⟨[some (PC T), some (PC P), some (FR am), some (FR (worQ T (P.take j))), some (.int j), some (PR (gS P j)), w6], by simp, ?_⟩
    by_cases c : am ≤ worQ T (P.take (j + 1))
    · have mk := MK.of hT hj ls c1 c c2
      have b4 := l_take (μ := μ') ha zp (by omega)
      have za := ha.sub zp
      have a0 : 0 ≤ am - worQ T (P.take j) := by grind
      have a1 : upQ T (gS P j).1 + (am - worQ T (P.take j)) ≤ 1 := by
        have c' := c
        rw [wor_succ hj, btwQ] at c'
        have := upQ_le hT (x := (gS P j).2)
        grind
      have b5 := l_first (μ := μ') hT zs.a za (by omega) a0 a1
      have zx := fpQ_sz hT zs.a za a0
      have zx' := zx.mono (l := ka + 931) (by omega)
      clear zx a1 zb zs ls mem es
      generalize fpQ T (gS P j).1 (am - worQ T (P.take j)) = x at *
      generalize gS P j = s at *
      simp only [x_seq]
      simp [b1, b2, b3, c, b4, b5]
      rw [tidy_same]
      exact ⟨j, _, rfl, rfl, mk, zx'⟩
    · clear zb zs ls mem es
      generalize gS P j = s at *
      refine okS_wr (ρ := [some (PC T), some (PC P), some (FR am), some (FR (worQ T (P.take (j + 1)))), some (.int j), some (PR s), some (FR (btwQ T s))]) (μ := μ') (by simp [b1, b2, b3, c]) ?_
      refine ⟨j + 1, _, _, _, rfl, hj, rfl, rfl, by grind, fun i hi => ?_⟩
      rcases Nat.lt_or_ge i j with h | h
      · exact c2 i h
      · have : i = j := by omega
        subst this
        grind
  · exfalso
    have hj : j = P.length := by
      rcases Nat.lt_or_ge j P.length with h | h
      · rw [List.drop_eq_getElem_cons h, List.map_cons, enD] at e1; cases e1
      · omega
    have : 0 < P.length := List.length_pos_iff.mpr hne
    have := c2 (j - 1) (by omega)
    rw [show j - 1 + 1 = P.length by omega, List.take_length] at this
    grind
abbrev NoA : DX := { cls := "NoAmount" }
theorem PG5.pb {T P : List ST} (hT : TG T) (h : PG5 P) : PB T P 5 800 := ⟨by have := h.l; omega, h.z, pre_sz hT h, by omega⟩
theorem l_mark {T P : List ST} {am : Rat} {ka : Nat} {μ : DM} (hg : f_is_taste [PC T] μ = .ok (.bl true) μ) (hT : TG T) (hP : PG5 P) (ha : Sz ka am) (hk : ka ≤ 900) (h0 : 0 ≤ am) (h1 : am ≤ worQ T P) (hne : P ≠ []) :
    ∃ j x, f_mark [PC T, PC P, FR am] μ = .ok (.tup [.int (j : Nat), FR x]) μ ∧ MK T P am j x ∧ Sz (ka + 931) x := by
  obtain ⟨j, x, e, mk, zx⟩ := l_markof (μ := μ) hT hP ha hk h0 h1 hne
  refine ⟨j, x, ?_, mk, zx⟩
  have e1 : f_need_taste [PC T] μ = .ok .non μ := by
    refine run_nx (ρ := [some (PC T)]) rfl ?_
    simp [b_need_taste, hg]
  have e2 := l_is_piece (μ := μ) hP.z (by omega) (by have := hP.l; omega)
  rw [hP.p] at e2
  have e3 := l_wof2 (μ := μ) hT (hP.pb hT)
  have zw := pre_sz hT hP P.length
  rw [List.take_length] at zw
  have e4 := l_is_at_most (μ := μ) ha zw (by omega)
  rw [decide_eq_true h1] at e4
  have sP : (PC P).seq μ = some (P.map PR) := rfl
  have n0 : ¬ am.num < 0 := by
    have := Rat.num_nonneg.mpr h0
    omega
  refine run_rt rfl ?_
  simp [b_mark, e1, e2, sP, hne, l_is_fraction, n0, e3, e4, e]
end Lw

namespace Lw
open PySem L2 Md
theorem asc_pw : ∀ {E : List Rat} {l : Rat}, ascB l E = true → (l :: E).Pairwise (· < ·)
  | [], l, _ => by simp
  | e :: E, l, h => by
    simp only [ascB, Bool.and_eq_true, decide_eq_true_eq] at h
    have ih := asc_pw h.2
    refine .cons (fun y hy => ?_) ih
    rcases List.mem_cons.mp hy with rfl | hy
    · exact h.1
    · have := (List.pairwise_cons.mp ih).1 y hy
      grind
def plF (T : List ST) (s : ST) : List Rat := (T.filter fun t => decide (s.1 < t.1 ∧ t.1 < s.2)).map (·.1)
def plQ (T : List ST) (s : ST) : List Rat := s.1 :: (plF T s ++ [s.2])
theorem plF_mem {T : List ST} {s : ST} {e : Rat} (h : e ∈ plF T s) : (∃ t ∈ T, t.1 = e) ∧ s.1 < e ∧ e < s.2 := by
  obtain ⟨t, ht, rfl⟩ := List.mem_map.mp h
  have := List.mem_filter.mp ht
  simp only [decide_eq_true_eq] at this
  exact ⟨⟨t, this.1, rfl⟩, this.2⟩
theorem plQ_pw {T : List ST} {s : ST} (hT : TG T) (hs : s.1 ≤ s.2) : (plQ T s).Pairwise (· ≤ ·) := by
  have h1 := (List.pairwise_cons.mp (asc_pw hT.n.1)).2
  have h2 : (plF T s).Pairwise (· < ·) := h1.sublist (List.Sublist.map _ List.filter_sublist)
  refine .cons (fun y hy => ?_) (List.pairwise_append.mpr ⟨h2.imp fun h => by grind, by simp, fun a ha b hb => ?_⟩)
  · rcases List.mem_append.mp hy with hy | hy
    · have := (plF_mem hy).2.1; grind
    · simp at hy; subst hy; exact hs
  · simp at hb; subst hb
    have := (plF_mem ha).2.2; grind
theorem plQ_bd {T : List ST} {s : ST} (hs : s.1 ≤ s.2) : ∀ p ∈ plQ T s, s.1 ≤ p ∧ p ≤ s.2 := by
  intro p hp
  rcases List.mem_cons.mp hp with rfl | hp
  · exact ⟨Rat.le_refl, hs⟩
  · rcases List.mem_append.mp hp with hp | hp
    · have := (plF_mem hp).2; grind
    · simp at hp; subst hp; exact ⟨hs, Rat.le_refl⟩
theorem plQ_sz {T : List ST} {s : ST} (hT : TG T) (hs : SP 5 s) : ∀ p ∈ plQ T s, Sz 5 p := by
  intro p hp
  rcases List.mem_cons.mp hp with rfl | hp
  · exact hs.a
  · rcases List.mem_append.mp hp with hp | hp
    · obtain ⟨t, ht, rfl⟩ := (plF_mem hp).1
      exact (hT.z t ht).a
    · simp at hp; subst hp; exact hs.b
/-- no end lies strictly between two that follow each other -/
theorem plQ_gap {T : List ST} {s : ST} (hT : TG T) (hs : s.1 ≤ s.2) {a : Nat} (ha : a + 1 < (plQ T s).length) : ∀ t ∈ T, ¬ ((plQ T s)[a] < t.1 ∧ t.1 < (plQ T s)[a + 1]) := by
  intro t ht ⟨h1, h2⟩
  have b1 := plQ_bd (T := T) hs _ (List.getElem_mem (l := plQ T s) (n := a) (by omega))
  have b2 := plQ_bd (T := T) hs _ (List.getElem_mem (l := plQ T s) (n := a + 1) ha)
  have hm : t.1 ∈ plQ T s := by
    refine List.mem_cons_of_mem _ (List.mem_append_left _ (List.mem_map.mpr ⟨t, List.mem_filter.mpr ⟨ht, ?_⟩, rfl⟩))
    simp only [decide_eq_true_eq]
    exact ⟨by grind, by grind⟩
  obtain ⟨m, hm1, hm2⟩ := List.getElem_of_mem hm
  have pw := List.pairwise_iff_getElem.mp (plQ_pw hT hs)
  rcases Nat.lt_or_ge a m with h | h
  · have : (plQ T s)[a + 1] ≤ (plQ T s)[m] := by
      rcases Nat.lt_or_ge (a + 1) m with h' | h'
      · exact pw (a + 1) m ha hm1 h'
      · have : m = a + 1 := by omega
        subst this; exact Rat.le_refl
    grind
  · have : (plQ T s)[m] ≤ (plQ T s)[a] := by
      rcases Nat.lt_or_ge m a with h' | h'
      · exact pw m a hm1 (by omega) h'
      · have : m = a := by omega
        subst this; exact Rat.le_refl
    grind
theorem MK.lin {T P : List ST} {am u v : Rat} {i : Nat} (hT : TG T) (hi : i < P.length) (h0 : 0 ≤ u) (hu : (gS P i).1 ≤ u) (hv : v ≤ (gS P i).2) (huv : u ≤ v) (hg : ∀ t ∈ T, ¬ (u < t.1 ∧ t.1 < v))
    (c1 : worQ T (P.take i) + (upQ T u - upQ T (gS P i).1) < am) (c2 : am ≤ worQ T (P.take i) + (upQ T v - upQ T (gS P i).1)) (hf : ∀ k, k < i → worQ T (P.take (k + 1)) < am) :
    0 < (worQ T (P.take i) + (upQ T v - upQ T (gS P i).1)) - (worQ T (P.take i) + (upQ T u - upQ T (gS P i).1)) ∧
    MK T P am i (u + (am - (worQ T (P.take i) + (upQ T u - upQ T (gS P i).1))) / ((worQ T (P.take i) + (upQ T v - upQ T (gS P i).1)) - (worQ T (P.take i) + (upQ T u - upQ T (gS P i).1))) * (v - u)) := by
  obtain ⟨ah, hah⟩ : ∃ ah, ah = worQ T (P.take i) := ⟨_, rfl⟩
  rw [← hah] at c1 c2 ⊢
  obtain ⟨s, hs⟩ : ∃ s, s = gS P i := ⟨_, rfl⟩
  rw [← hs] at c1 c2 hu hv ⊢
  have huv' : u < v := by
    by_cases z : v ≤ u
    · have := upQ_mono hT z; grind
    · grind
  have hlin : ∀ y, u ≤ y → y ≤ v → upQ T y = upQ T u + (upQ T v - upQ T u) * ((y - u) / (v - u)) := fun y a b => by
    rw [upQ_R, upQ_R, upQ_R]
    exact upR_lin huv' a b hT.n hg (by grind)
  obtain ⟨D, hD⟩ : ∃ D, D = upQ T v - upQ T u := ⟨_, rfl⟩
  have D0 : 0 < D := by grind
  have eD : (ah + (upQ T v - upQ T s.1)) - (ah + (upQ T u - upQ T s.1)) = D := by grind
  rw [eD]
  obtain ⟨t, ht⟩ : ∃ t, t = (am - (ah + (upQ T u - upQ T s.1))) / D := ⟨_, rfl⟩
  rw [← ht]
  have t0 : 0 < t := by rw [ht]; exact div_pos' D0 (by grind)
  have t1 : t ≤ 1 := by rw [ht]; exact div_le1 D0 (by grind)
  have tD : D * t = am - (ah + (upQ T u - upQ T s.1)) := by rw [ht]; grind
  have w0 : 0 < t * (v - u) := Rat.mul_pos t0 (by grind)
  have w1 : (v - u) * t ≤ v - u := mul_le1 (by grind) t1
  have hne : v - u ≠ 0 := by grind
  have ex : (u + t * (v - u) - u) / (v - u) = t := by grind
  have eU := hlin (u + t * (v - u)) (by grind) (by grind)
  rw [ex, ← hD] at eU
  refine ⟨D0, hi, by rw [← hs]; grind, by rw [← hs]; grind, by rw [← hs, ← hah]; grind, fun y a b => ?_, hf⟩
  rw [← hs] at a ⊢
  rw [← hah]
  by_cases z : y ≤ u
  · have := upQ_mono hT z
    grind
  · have e2 := hlin y (by grind) (by grind)
    have lt : (y - u) / (v - u) < t := by
      rw [Rat.div_lt_iff (by grind)]
      grind
    have := Rat.mul_lt_mul_of_pos_left lt D0
    rw [← hD] at e2
    grind
theorem l_w1 {T : List ST} {u v : Rat} {μ : DM} (hT : TG T) (hu : Sz 5 u) (hv : Sz 5 v) : f__law_worth [PC T, .tup [.tup [FR u, FR v]]] μ = .ok (FR (upQ T v - upQ T u)) μ := by
  have zb := btw2_sz hT (s := (u, v)) ⟨hu, hv⟩
  have e := l_lwof2 (P := [(u, v)]) (ks := 5) (K := 200) (μ := μ) hT ⟨by simp, by simp; exact ⟨hu, hv⟩, fun i => by
    cases i with
    | zero => exact Sz.zero.mono (by omega)
    | succ i => simp only [List.take_succ_cons, List.take_nil, worQ, List.map_cons, List.map_nil, List.sum_cons, List.sum_nil, Rat.add_zero]; exact zb.mono (by omega), by omega⟩
  have e2 : worQ T [(u, v)] = upQ T v - upQ T u := by simp [worQ, btwQ, Rat.add_zero]
  rw [e2] at e
  exact e
end Lw

namespace Lw
open PySem L2 Md
def inB : SM := (sSeq (sAsg (mCall 2 f__law_plus (mCons (mVar 3) (mCons (mCall 2 f__law_worth (mCons (mVar 0) (mCons (mTup (mCons (mTup (mCons (mVar 5) (mCons (mOp gIx (mVar 7) (mVar 8)) (mNil)))) (mNil))) (mNil)))) (mNil)))) (tgN 9)) <|
  sIf (mNot (mTru (mCall 2 f__law_less (mCons (mVar 9) (mCons (mVar 2) (mNil)))))) (sSeq (sIf (mBl (mOp (gEq false) (mVar 8) (mC (.int 0)))) (sRet (mTup (mCons (mVar 4) (mCons (mVar 5) (mNil))))) (sNil)) <|
  sSeq (sAsg (mCall 2 f__law_plus (mCons (mVar 3) (mCons (mCall 2 f__law_worth (mCons (mVar 0) (mCons (mTup (mCons (mTup (mCons (mVar 5) (mCons (mOp gIx (mVar 7) (mOp qSub (mVar 8) (mC (.int 1)))) (mNil)))) (mNil))) (mNil)))) (mNil)))) (tgN 10)) <|
  sSeq (sAsg (mCall 2 f__law_over (mCons (mCall 2 f__law_minus (mCons (mVar 2) (mCons (mVar 10) (mNil)))) (mCons (mCall 2 f__law_minus (mCons (mVar 9) (mCons (mVar 10) (mNil)))) (mNil)))) (tgN 11)) <|
  sRet (mTup (mCons (mVar 4) (mCons (mCall 2 f__law_plus (mCons (mOp gIx (mVar 7) (mOp qSub (mVar 8) (mC (.int 1)))) (mCons (mCall 2 f__law_times (mCons (mVar 11) (mCons (mCall 2 f__law_minus (mCons (mOp gIx (mVar 7) (mVar 8)) (mCons (mOp gIx (mVar 7) (mOp qSub (mVar 8) (mC (.int 1)))) (mNil)))) (mNil)))) (mNil)))) (mNil))))) (sNil))
abbrev E14 (T P : List ST) (am ah : Rat) (i : Nat) (s : ST) (k : Nat) (w8 w9 w10 w11 w12 w13 : Option DV) : DE := [some (PC T), some (PC P), some (FR am), some (FR ah), some (.int i), some (FR s.1), some (FR s.2), some (.ref k), w8, w9, w10, w11, w12, w13]
theorem l_inB {T P : List ST} {am x : Rat} {i j k a ka : Nat} {w9 w10 w11 w12 w13 : Option DV} {μ : DM} (hT : TG T) (hP : PG5 P) (ha : Sz ka am) (hk : ka ≤ 900) (mk : MK T P am j x) (hi : i < P.length) (hm : μ[k]? = some (.lst ((plQ T (gS P i)).map FR)))
    (c1 : worQ T (P.take i) ≤ am) (cf : ∀ m, m < i → worQ T (P.take (m + 1)) < am) (hal : a < (plQ T (gS P i)).length) (hb : ∀ m, m + 1 = a → ∀ h : m < (plQ T (gS P i)).length, worQ T (P.take i) + (upQ T (plQ T (gS P i))[m] - upQ T (gS P i).1) < am) :
    OkS { nx := fun ρ μ' => μ' = μ ∧ (∃ w9 w10 w11, ρ = E14 T P am (worQ T (P.take i)) i (gS P i) k (some (.int a)) w9 w10 w11 w12 w13) ∧ worQ T (P.take i) + (upQ T (plQ T (gS P i))[a] - upQ T (gS P i).1) < am, rt := fun v μ' => v = .tup [.int j, FR x] ∧ μ' = μ } (inB (E14 T P am (worQ T (P.take i)) i (gS P i) k (some (.int a)) w9 w10 w11 w12 w13) μ) := by
  have mem := gS_mem hi
  have zs := hP.z _ mem
  have ls := hP.le mem
  have zah := pre_sz hT hP i
  have szs := plQ_sz hT zs
  have bds := plQ_bd (T := T) ls
  have o0 := ((pcB_iff.mp hP.p).2.1 _ mem).1
  have g1 : gIx (.ref k) (.int a) μ = .ok (FR (plQ T (gS P i))[a]) μ := gIx_refn hm (by rw [List.getElem?_map, List.getElem?_eq_getElem hal]; rfl)
  have zp := szs _ (List.getElem_mem hal)
  have w1 := l_w1 (μ := μ) hT zs.a zp
  have zw : ∀ p : Rat, Sz 5 p → Sz 131 (upQ T p - upQ T (gS P i).1) := fun p hp => btw2_sz hT (s := ((gS P i).1, p)) ⟨zs.a, hp⟩
  have p1 := l_lplus (μ := μ) zah (zw _ zp) (by omega)
  have zh := zah.add (zw _ zp)
  have q1 := l_lless (μ := μ) zh ha (by omega)
  unfold inB
  refine seq_step (ρ' := E14 T P am (worQ T (P.take i)) i (gS P i) k (some (.int a)) (some (FR (worQ T (P.take i) + (upQ T (plQ T (gS P i))[a] - upQ T (gS P i).1)))) w10 w11 w12 w13) (μ' := μ) (by
    clear mk c1 cf hb o0 bds szs mem zs ls
    generalize gS P i = s at *
    simp [g1, w1, p1]) ?_
  by_cases c : worQ T (P.take i) + (upQ T (plQ T (gS P i))[a] - upQ T (gS P i).1) < am
  · refine okS_wr (ρ := E14 T P am (worQ T (P.take i)) i (gS P i) k (some (.int a)) (some (FR (worQ T (P.take i) + (upQ T (plQ T (gS P i))[a] - upQ T (gS P i).1)))) w10 w11 w12 w13) (μ := μ) (by
      clear mk c1 cf hb o0 bds szs mem zs ls
      generalize gS P i = s at *
      simp [q1, c]) ⟨rfl, ⟨_, _, _, rfl⟩, c⟩
  · cases a with
    | zero =>
      have e0 : (plQ T (gS P i))[0] = (gS P i).1 := rfl
      have hm0 : MK T P am i (gS P i).1 := by
        rw [e0] at c
        exact ⟨hi, Rat.le_refl, ls, by grind, fun y a b => by grind, cf⟩
      obtain ⟨rfl, ex⟩ := hm0.uni hT mk
      subst ex
      clear mk c1 cf hb o0 bds szs mem zs ls hm0
      generalize gS P i = s at *
      simp [q1, c]
    | succ m =>
      have hml : m < (plQ T (gS P i)).length := by omega
      have cm := hb m rfl hml
      have b1 := bds _ (List.getElem_mem hml)
      have b2 := bds _ (List.getElem_mem hal)
      have pw := List.pairwise_iff_getElem.mp (plQ_pw hT ls) m (m + 1) hml hal (by omega)
      obtain ⟨D0, lin⟩ := MK.lin hT hi (by grind) b1.1 b2.2 pw (plQ_gap hT ls hal) cm (by grind) cf
      obtain ⟨rfl, ex⟩ := lin.uni hT mk
      have g2 : gIx (.ref k) (.int m) μ = .ok (FR (plQ T (gS P i))[m]) μ := gIx_refn hm (by rw [List.getElem?_map, List.getElem?_eq_getElem hml]; rfl)
      have zu := szs _ (List.getElem_mem hml)
      have w2 := l_w1 (μ := μ) hT zs.a zu
      have p2 := l_lplus (μ := μ) zah (zw _ zu) (by omega)
      have zb := zah.add (zw _ zu)
      have m1 := l_lminus (μ := μ) ha zb (by omega)
      have m2 := l_lminus (μ := μ) zh zb (by omega)
      have d1 := l_loverp (μ := μ) (ha.sub zb) (zh.sub zb) (by omega) D0
      have zd := sz_divp (ha.sub zb) (zh.sub zb) D0
      have m3 := l_lminus (μ := μ) zp zu (by omega)
      have t1 := l_ltimes (μ := μ) zd (zp.sub zu) (by omega)
      have p3 := l_lplus (μ := μ) zu (zd.mul (zp.sub zu)) (by omega)
      rw [ex] at p3
      have e9 : (((m + 1 : Nat) : Int) - 1) = (m : Int) := by omega
      have ne0 : (((m + 1 : Nat) : Int) == 0) = false := by
        have : ¬ ((m + 1 : Nat) : Int) = 0 := by omega
        simpa using this
      clear mk c1 cf hb o0 bds szs mem zs ls lin b1 b2 pw cm zw
      generalize (plQ T (gS P i))[m] = u at *
      generalize (plQ T (gS P i))[m + 1] = v at *
      generalize gS P i = s at *
      generalize ((m + 1 : Nat) : Int) = am1 at *
      simp [q1, c, ne0, g1, g2, e9, w2, p2, m1, m2, d1, m3, t1, p3]
theorem l_lmark {T P : List ST} {am x : Rat} {j ka : Nat} {μ : DM} (hT : TG T) (hP : PG5 P) (ha : Sz ka am) (hk : ka ≤ 900) (h0 : 0 ≤ am) (mk : MK T P am j x) : f__law_mark [PC T, PC P, FR am] μ = .ok (.tup [.int j, FR x]) μ := by
  have hl6 := hP.l
  have hl6T := hT.l
  suffices hs : OkE (fun v μ' => v = .tup [.int j, FR x] ∧ μ' = μ) NoX (f__law_mark [PC T, PC P, FR am] μ) by
    obtain ⟨v, μ', e, rfl, rfl⟩ := hs.ok
    exact e
  refine okE_run rfl ?_
  have post : ∀ (v : DV) (μ' : DM), (v = .tup [.int j, FR x] ∧ ∃ t, μ' = μ ++ t) → OkE (fun v μ' => v = .tup [.int j, FR x] ∧ μ' = μ) NoX (tidy μ v μ') := by
    rintro v μ' ⟨rfl, t, rfl⟩
    rw [tidy_app rfl]
    exact ⟨rfl, rfl⟩
  suffices hs : OkS { rt := fun v μ' => v = .tup [.int j, FR x] ∧ ∃ t, μ' = μ ++ t } (b__law_mark ([PC T, PC P, FR am].map some ++ List.replicate (14 - 3) none) μ) from
    hs.mono (fun _ _ z => z.elim) post (fun _ _ _ z => z.elim) (fun _ _ z => z.elim) (fun _ _ z => z.elim)
  refine seq_step (ρ' := [some (PC T), some (PC P), some (FR am), some (FR 0), none, none, none, none, none, none, none, none, none, none]) (μ' := μ) (by simp [FR_zero]) ?_
  refine seq_thn ?_
  have sP : ∀ μ, (PC P).seq μ = some (P.map PR) := fun _ => rfl
  have rl := rgS_0 (μ := μ) (b := P.length) (by omega)
  have el : mLen (mVar 1) [some (PC T), some (PC P), some (FR am), some (FR 0), none, none, none, none, none, none, none, none, none, none] μ = .ok (.int P.length) μ := by simp [sP]
  rw [x_for, x_rg1, el]
  simp only [DR.bind_ok, rl, st_ok]
  refine for_inv (fun l ρ μ' => ∃ (i : Nat) (t : DM) (w4 w5 w6 w7 w8 w9 w10 w11 w12 w13 : Option DV), l = (List.range' i (P.length - i)).map (fun i : Nat => DV.int (i : Int)) ∧ i ≤ P.length ∧ ρ = [some (PC T), some (PC P), some (FR am), some (FR (worQ T (P.take i))), w4, w5, w6, w7, w8, w9, w10, w11, w12, w13] ∧ μ' = μ ++ t ∧ worQ T (P.take i) ≤ am ∧ ∀ m, m < i → worQ T (P.take (m + 1)) < am) (fun _ _ _ _ => rfl)
    (fun v l ρ μ' ⟨i, t, w4, w5, w6, w7, w8, w9, w10, w11, w12, w13, e1, e2, e3, e4, c1, c2⟩ => ?_) (fun ρ μ' ⟨i, t, w4, w5, w6, w7, w8, w9, w10, w11, w12, w13, e1, e2, e3, e4, c1, c2⟩ => ?_) _ _ _
    ⟨0, [], none, none, none, none, none, none, none, none, none, none, by rw [List.range_eq_range', Nat.sub_zero], by omega, rfl, by simp, h0, fun m hm => by omega⟩
  · subst e3 e4
    have hi : i < P.length := by
      rcases Nat.lt_or_ge i P.length with h | h
      · exact h
      · rw [show P.length - i = 0 by omega] at e1; cases e1
    rw [show P.length - i = (P.length - (i + 1)) + 1 by omega, List.range'_succ, List.map_cons] at e1
    obtain ⟨rfl, rfl⟩ := List.cons.inj e1
    refine ⟨_, rfl, ?_⟩
    generalize hM : μ ++ t = M
    have mem := gS_mem hi
    have zs := hP.z _ mem
    have ls := hP.le mem
    have g0 := PC_ixg (μ := M) hi
    obtain ⟨N, hN⟩ : ∃ N : DM, N = M ++ [.lst [FR (gS P i).1], .lst ((plF T (gS P i)).map FR), .lst (FR (gS P i).1 :: (plF T (gS P i)).map FR), .lst [FR (gS P i).2], .lst ((plQ T (gS P i)).map FR)] := ⟨_, rfl⟩
    have hNl : N[M.length + 4]? = some (.lst ((plQ T (gS P i)).map FR)) := by
      rw [hN, List.getElem?_append_right (by omega), Nat.add_sub_cancel_left]; rfl
    have lpl : (plQ T (gS P i)).length ≤ 10 := by
      have : (plF T (gS P i)).length ≤ T.length := by
        unfold plF; rw [List.length_map]; exact List.length_filter_le _ _
      have e : (plQ T (gS P i)).length = (plF T (gS P i)).length + 2 := by simp [plQ]
      omega
    have hsz := plQ_sz hT zs
    have z1 := hsz _ (show (gS P i).1 ∈ plQ T (gS P i) by simp [plQ])
    have step1 : sAsg (mOp gIx (mVar 1) (mVar 4)) (tgTup 2 (tgCons (tgN 5) (tgCons (tgN 6) (tgNil)))) [some (PC T), some (PC P), some (FR am), some (FR (worQ T (P.take i))), some (.int i), w5, w6, w7, w8, w9, w10, w11, w12, w13] M = .nx [some (PC T), some (PC P), some (FR am), some (FR (worQ T (P.take i))), some (.int i), some (FR (gS P i).1), some (FR (gS P i).2), w7, w8, w9, w10, w11, w12, w13] M := by
      have g0' : gIx (PC P) (.int i) M = .ok (.tup [FR (gS P i).1, FR (gS P i).2]) M := g0
      generalize gS P i = s at *
      simp [g0']
    refine seq_step step1 ?_
    have lcE := lc_eq (μ0 := M ++ [.lst [FR (gS P i).1]]) (μ := M ++ [.lst [FR (gS P i).1]]) PR T (fun u => decide ((gS P i).1 < u.1 ∧ u.1 < (gS P i).2)) (fun u => FR u.1) (vs := [12, 13]) (mi := mIt (mVar 0)) (ρ := [some (PC T), some (PC P), some (FR am), some (FR (worQ T (P.take i))), some (.int i), some (FR (gS P i).1), some (FR (gS P i).2), w7, w8, w9, w10, w11, w12, w13]) (t := tgTup 2 (tgCons (tgN 12) (tgCons (tgN 13) (tgNil))))
      (tt := mAnd (mTru (mCall 2 f__law_less (mCons (mVar 5) (mCons (mVar 12) (mNil))))) (mTru (mCall 2 f__law_less (mCons (mVar 12) (mCons (mVar 6) (mNil)))))) (te := mVar 12) (c := none) (by simp [PC]) rfl (by show _ ≤ 16777216; omega) (fun u hu => by
        have zu := hT.z u hu
        have b1 := l_lless (μ := M ++ [.lst [FR (gS P i).1]]) zs.a zu.a (by omega)
        have b2 := l_lless (μ := M ++ [.lst [FR (gS P i).1]]) zu.a zs.b (by omega)
        generalize gS P i = s at *
        refine ⟨[some (PC T), some (PC P), some (FR am), some (FR (worQ T (P.take i))), some (.int i), some (FR s.1), some (FR s.2), w7, w8, w9, w10, w11, some (FR u.1), some (FR u.2)], by simp [PR, wipeD], ?_, fun _ => by simp⟩
        by_cases q : s.1 < u.1
        · simp [b1, b2, q]
        · simp [b1, b2, q])
    have step2 : sAsg (mOp gAdd (mOp gAdd (mKeep (mLst (mCons (mVar 5) (mNil)))) (mKeep (mLc [12, 13] (mIt (mVar 0)) (tgTup 2 (tgCons (tgN 12) (tgCons (tgN 13) (tgNil)))) (mAnd (mTru (mCall 2 f__law_less (mCons (mVar 5) (mCons (mVar 12) (mNil))))) (mTru (mCall 2 f__law_less (mCons (mVar 12) (mCons (mVar 6) (mNil)))))) (mVar 12)))) (mKeep (mLst (mCons (mVar 6) (mNil))))) (tgN 7) [some (PC T), some (PC P), some (FR am), some (FR (worQ T (P.take i))), some (.int i), some (FR (gS P i).1), some (FR (gS P i).2), w7, w8, w9, w10, w11, w12, w13] M = .nx (E14 T P am (worQ T (P.take i)) i (gS P i) (M.length + 4) w8 w9 w10 w11 w12 w13) N := by
      have eF : (T.filter fun u => decide ((gS P i).1 < u.1 ∧ u.1 < (gS P i).2)).map (fun u => FR u.1) = (plF T (gS P i)).map FR := by
        rw [plF, List.map_map]; rfl
      rw [eF] at lcE
      have lF : (plF T (gS P i)).length ≤ 10 := by
        have e : (plQ T (gS P i)).length = (plF T (gS P i)).length + 2 := by simp [plQ]
        omega
      have ePl : (plQ T (gS P i)).map FR = FR (gS P i).1 :: (plF T (gS P i)).map FR ++ [FR (gS P i).2] := by simp [plQ]
      rw [ePl] at hN
      clear hsz z1 hNl lpl mem zs ls step1 g0 eF ePl mk
      generalize plF T (gS P i) = F at *
      generalize gS P i = s at *
      refine asg_eq (v := .ref (M.length + 4)) (i := 7) ?_ (by simp)
      have k1 : mKeep (mLst (mCons (mVar 5) (mNil))) [some (PC T), some (PC P), some (FR am), some (FR (worQ T (P.take i))), some (.int i), some (FR s.1), some (FR s.2), w7, w8, w9, w10, w11, w12, w13] M = .ok (.ref M.length) (M ++ [.lst [FR s.1]]) := by simp
      have k2 : mKeep (mLc [12, 13] (mIt (mVar 0)) (tgTup 2 (tgCons (tgN 12) (tgCons (tgN 13) (tgNil)))) (mAnd (mTru (mCall 2 f__law_less (mCons (mVar 5) (mCons (mVar 12) (mNil))))) (mTru (mCall 2 f__law_less (mCons (mVar 12) (mCons (mVar 6) (mNil)))))) (mVar 12)) [some (PC T), some (PC P), some (FR am), some (FR (worQ T (P.take i))), some (.int i), some (FR s.1), some (FR s.2), w7, w8, w9, w10, w11, w12, w13] (M ++ [.lst [FR s.1]]) = .ok (.ref (M.length + 1)) (M ++ [.lst [FR s.1], .lst (F.map FR)]) := by
        rw [x_keep, lcE]
        simp
      have g1 : (DV.ref M.length).lst (M ++ [.lst [FR s.1], .lst (F.map FR)]) = some [FR s.1] := lst_ref (by simp)
      have g2 : (DV.ref (M.length + 1)).lst (M ++ [.lst [FR s.1], .lst (F.map FR)]) = some (F.map FR) := lst_ref (by simp)
      have ga : gAdd (.ref M.length) (.ref (M.length + 1)) (M ++ [.lst [FR s.1], .lst (F.map FR)]) = .ok (.ref (M.length + 2)) (M ++ [.lst [FR s.1], .lst (F.map FR), .lst (FR s.1 :: F.map FR)]) := by
        simp only [gAdd, g1, g2]
        rw [if_pos (by simp; omega)]
        simp
      have k3 : mKeep (mLst (mCons (mVar 6) (mNil))) [some (PC T), some (PC P), some (FR am), some (FR (worQ T (P.take i))), some (.int i), some (FR s.1), some (FR s.2), w7, w8, w9, w10, w11, w12, w13] (M ++ [.lst [FR s.1], .lst (F.map FR), .lst (FR s.1 :: F.map FR)]) = .ok (.ref (M.length + 3)) (M ++ [.lst [FR s.1], .lst (F.map FR), .lst (FR s.1 :: F.map FR), .lst [FR s.2]]) := by simp
      have g3 : (DV.ref (M.length + 2)).lst (M ++ [.lst [FR s.1], .lst (F.map FR), .lst (FR s.1 :: F.map FR), .lst [FR s.2]]) = some (FR s.1 :: F.map FR) := lst_ref (by simp)
      have g4 : (DV.ref (M.length + 3)).lst (M ++ [.lst [FR s.1], .lst (F.map FR), .lst (FR s.1 :: F.map FR), .lst [FR s.2]]) = some [FR s.2] := lst_ref (by simp)
      have gb : gAdd (.ref (M.length + 2)) (.ref (M.length + 3)) (M ++ [.lst [FR s.1], .lst (F.map FR), .lst (FR s.1 :: F.map FR), .lst [FR s.2]]) = .ok (.ref (M.length + 4)) N := by
        simp only [gAdd, g3, g4]
        rw [if_pos (by simp; omega), hN]
        simp
      have k4 : mOp gAdd (mKeep (mLst (mCons (mVar 5) (mNil)))) (mKeep (mLc [12, 13] (mIt (mVar 0)) (tgTup 2 (tgCons (tgN 12) (tgCons (tgN 13) (tgNil)))) (mAnd (mTru (mCall 2 f__law_less (mCons (mVar 5) (mCons (mVar 12) (mNil))))) (mTru (mCall 2 f__law_less (mCons (mVar 12) (mCons (mVar 6) (mNil)))))) (mVar 12))) [some (PC T), some (PC P), some (FR am), some (FR (worQ T (P.take i))), some (.int i), some (FR s.1), some (FR s.2), w7, w8, w9, w10, w11, w12, w13] M = .ok (.ref (M.length + 2)) (M ++ [.lst [FR s.1], .lst (F.map FR), .lst (FR s.1 :: F.map FR)]) := by
        rw [x_op, k1]
        simp only [DR.bind_ok, k2, ga, DR.noex_ok]
      rw [x_op, k4]
      simp only [DR.bind_ok, k3, gb, DR.noex_ok]
    refine seq_step step2 ?_
    refine seq_thn ?_
    have rl2 := rgS_0 (μ := N) (b := (plQ T (gS P i)).length) (by omega)
    have el2 : mLen (mVar 7) (E14 T P am (worQ T (P.take i)) i (gS P i) (M.length + 4) w8 w9 w10 w11 w12 w13) N = .ok (.int (plQ T (gS P i)).length) N := by
      rw [x_len, x_var (v := .ref (M.length + 4)) rfl]
      simp only [DR.bind_ok, seq_ref hNl, List.length_map]
    rw [x_for, x_rg1, el2]
    simp only [DR.bind_ok, rl2, st_ok]
    refine for_inv (fun l ρ μ' => ∃ (a : Nat) (w8 w9 w10 w11 : Option DV), l = (List.range' a ((plQ T (gS P i)).length - a)).map (fun i : Nat => DV.int (i : Int)) ∧ a ≤ (plQ T (gS P i)).length ∧ ρ = E14 T P am (worQ T (P.take i)) i (gS P i) (M.length + 4) w8 w9 w10 w11 w12 w13 ∧ μ' = N ∧ ∀ m, m + 1 = a → ∀ h : m < (plQ T (gS P i)).length, worQ T (P.take i) + (upQ T (plQ T (gS P i))[m] - upQ T (gS P i).1) < am) (fun _ _ _ _ => rfl)
      (fun v l ρ μ' ⟨a, w8, w9, w10, w11, e1, e2, e3, e4, d1⟩ => ?_) (fun ρ μ' ⟨a, w8, w9, w10, w11, e1, e2, e3, e4, d1⟩ => ?_) _ _ _
      ⟨0, w8, w9, w10, w11, by rw [List.range_eq_range', Nat.sub_zero], by omega, rfl, rfl, fun m hm => by omega⟩
    · subst e3 e4
      have hal : a < (plQ T (gS P i)).length := by
        rcases Nat.lt_or_ge a (plQ T (gS P i)).length with h | h
        · exact h
        · rw [show (plQ T (gS P i)).length - a = 0 by omega] at e1; cases e1
      rw [show (plQ T (gS P i)).length - a = ((plQ T (gS P i)).length - (a + 1)) + 1 by omega, List.range'_succ, List.map_cons] at e1
      obtain ⟨rfl, rfl⟩ := List.cons.inj e1
      refine ⟨_, rfl, ?_⟩
      refine (l_inB (w9 := w9) (w10 := w10) (w11 := w11) (w12 := w12) (w13 := w13) hT hP ha hk mk hi hNl c1 c2 hal d1).mono ?_ ?_ (fun _ _ _ z => z.elim) (fun _ _ z => z.elim) (fun _ _ z => z.elim)
      · rintro ρ μ' ⟨rfl, ⟨u9, u10, u11, rfl⟩, d2⟩
        exact ⟨a + 1, _, u9, u10, u11, rfl, hal, rfl, rfl, fun m hm h => by
          have : m = a := by omega
          subst this
          exact d2⟩
      · rintro v μ' ⟨rfl, rfl⟩
        exact ⟨rfl, t ++ [.lst [FR (gS P i).1], .lst ((plF T (gS P i)).map FR), .lst (FR (gS P i).1 :: (plF T (gS P i)).map FR), .lst [FR (gS P i).2], .lst ((plQ T (gS P i)).map FR)], by rw [hN, ← hM, List.append_assoc]⟩
    · subst e3 e4
      have hal : a = (plQ T (gS P i)).length := by
        rcases Nat.lt_or_ge a (plQ T (gS P i)).length with h | h
        · rw [show (plQ T (gS P i)).length - a = ((plQ T (gS P i)).length - (a + 1)) + 1 by omega, List.range'_succ, List.map_cons] at e1; cases e1
        · omega
      have hlast := d1 ((plQ T (gS P i)).length - 1) (by simp [plQ] at hal ⊢; omega) (by simp [plQ])
      have elast : (plQ T (gS P i))[(plQ T (gS P i)).length - 1]'(by simp [plQ]) = (gS P i).2 := by simp [plQ]
      rw [elast] at hlast
      have zah := pre_sz hT hP i
      have zb := btw2_sz hT zs
      have w1 := l_w1 (μ := μ') hT zs.a zs.b
      have p1 := l_lplus (μ := μ') zah zb (by omega)
      rw [← wor_succ hi] at p1
      have hlt : worQ T (P.take (i + 1)) < am := by rw [wor_succ hi, btwQ]; exact hlast
      refine okS_wr (ρ := E14 T P am (worQ T (P.take (i + 1))) i (gS P i) (M.length + 4) w8 w9 w10 w11 w12 w13) (μ := μ') (by
        clear hsz z1 hNl lpl mem ls step1 step2 mk lcE hN rl2 el2 elast hlast d1 hal e1
        unfold btwQ at p1
        generalize gS P i = s at *
        simp [w1, p1]) ?_
      exact ⟨i + 1, t ++ [.lst [FR (gS P i).1], .lst ((plF T (gS P i)).map FR), .lst (FR (gS P i).1 :: (plF T (gS P i)).map FR), .lst [FR (gS P i).2], .lst ((plQ T (gS P i)).map FR)], _, _, _, _, _, _, _, _, _, _, rfl, hi, rfl, by rw [hN, ← hM, List.append_assoc], by grind, fun m hm => by
        rcases Nat.lt_or_ge m i with h | h
        · exact c2 m h
        · have : m = i := by omega
          subst this
          exact hlt⟩
  · exfalso
    have hi : i = P.length := by
      rcases Nat.lt_or_ge i P.length with h | h
      · rw [show P.length - i = (P.length - (i + 1)) + 1 by omega, List.range'_succ, List.map_cons] at e1; cases e1
      · omega
    have h1 := c2 j (by have := mk.hj; omega)
    rw [wor_succ mk.hj, btwQ] at h1
    have h2 := mk.eq
    have h3 := upQ_mono hT mk.hi
    grind
end Lw

namespace Lw
open PySem L2 Md
theorem GT.tg {T : List ST} (h : GT T) : TG T := by
  have hk := h.tok
  obtain ⟨E, P, m, rfl, hd, h1, h2⟩ := h
  have ho := hd.ok
  simp only [okTaste, Bool.and_eq_true, decide_eq_true_eq] at ho
  refine ⟨hk.l, hk.z, ⟨ho.1.1, fun s hs => ?_⟩, ho.2, fun s hs => ?_⟩
  · unfold tasteOf at hs
    obtain ⟨z, hz, rfl⟩ := List.mem_map.mp hs
    exact qn_pos
  · unfold tasteOf at hs
    obtain ⟨z, hz, rfl⟩ := List.mem_map.mp hs
    have a1 := asc_le hd.asc z.1 (List.of_mem_zip (a := z.1) (b := z.2) hz).1
    rw [hd.last] at a1
    exact qn_le1 (by omega) a1
theorem wor_cutL {T P : List ST} {j : Nat} {x : Rat} : worQ T (cutL P j x) = worQ T (P.take j) + (upQ T x - upQ T (gS P j).1) := by
  simp only [cutL, worQ, List.map_append, List.sum_append, List.map_cons, List.map_nil, List.sum_cons, List.sum_nil, Rat.add_zero, btwQ]
theorem btw_nn {T : List ST} (hT : TG T) {s : ST} (h : s.1 ≤ s.2) : 0 ≤ btwQ T s := by
  have := upQ_mono hT h
  unfold btwQ; grind
theorem wor_nn {T : List ST} (hT : TG T) : ∀ {P : List ST}, (∀ s ∈ P, s.1 ≤ s.2) → 0 ≤ worQ T P
  | [], _ => Rat.le_refl
  | s :: P, h => by
    have h1 := btw_nn hT (h s (by simp))
    have h2 := wor_nn hT (P := P) fun t ht => h t (by simp [ht])
    have : worQ T (s :: P) = btwQ T s + worQ T P := rfl
    rw [this]; grind
theorem wor_pre {T P : List ST} (hT : TG T) (h : ∀ s ∈ P, s.1 ≤ s.2) (i : Nat) : 0 ≤ worQ T (P.take i) ∧ worQ T (P.take i) ≤ worQ T P := by
  refine ⟨wor_nn hT fun s hs => h s (List.mem_of_mem_take hs), ?_⟩
  have e : worQ T P = worQ T (P.take i) + worQ T (P.drop i) := by
    rw [worQ, worQ, worQ, ← List.sum_append, ← List.map_append, List.take_append_drop]
  have := wor_nn hT (P := P.drop i) fun s hs => h s (List.mem_of_mem_drop hs)
  rw [e]; grind
/-- the left part of a piece is a piece within bounds -/
theorem left_pb {T P : List ST} {j ks K : Nat} {x : Rat} (hT : TG T) (hP : PG5 P) (hj : j < P.length) (hx : Sz ks x) (h5 : 5 ≤ ks) (hK : 800 ≤ K) (hl : Sz K (worQ T (cutL P j x))) (hb : ks ≤ 3000 ∧ K + (ks + ks) < 7800) : PB T (cutL P j x) ks K := by
  have hm := hP.z _ (gS_mem hj)
  refine ⟨?_, fun s hs => ?_, fun i => ?_, hb⟩
  · have := hP.l; simp [cutL]; omega
  · rcases List.mem_append.mp hs with hs | hs
    · exact SP_mono (hP.z s (List.mem_of_mem_take hs)) h5
    · simp at hs; subst hs; exact ⟨hm.a.mono h5, hx⟩
  · rcases Nat.lt_or_ge j i with h | h
    · rw [List.take_of_length_le (by simp [cutL]; omega)]
      exact hl
    · have : (cutL P j x).take i = P.take i := by
        unfold cutL
        rw [List.take_append_of_le_length (by simp; omega), List.take_take, Nat.min_eq_left h]
      rw [this]
      exact (pre_sz hT hP i).mono hK
theorem l_worth2 {T P : List ST} {ks K : Nat} {μ : DM} (hg : f_is_taste [PC T] μ = .ok (.bl true) μ) (hT : TG T) (hP : PB T P ks K) (hp : pcB P = true) : f_worth [PC T, PC P] μ = .ok (FR (worQ T P)) μ := by
  have e1 : f_need_taste [PC T] μ = .ok .non μ := by
    refine run_nx (ρ := [some (PC T)]) rfl ?_
    simp [b_need_taste, hg]
  have e2 := l_need_ok (μ := μ) hP.z (by have := hP.b; omega) (by have := hP.l; omega) hp
  have e3 := l_wof2 (μ := μ) hT hP
  refine run_rt rfl ?_
  simp [b_worth, e1, e2, e3]
theorem left_worth {T P : List ST} {j kx : Nat} {x : Rat} {μ : DM} (hg : f_is_taste [PC T] μ = .ok (.bl true) μ) (hT : TG T) (hP : PG5 P) (hj : j < P.length) (hx : Sz kx x) (hk : kx ≤ 1760) (h1 : (gS P j).1 ≤ x) (h2 : x ≤ (gS P j).2) {K : Nat} (hK : 800 ≤ K) (hK2 : K ≤ 2800) (hl : Sz K (worQ T (cutL P j x))) :
    f_cut_at [PC P, .int j, FR x] μ = .ok (.tup [PC (cutL P j x), PC (cutR P j x)]) μ ∧ f_worth [PC T, PC (cutL P j x)] μ = .ok (FR (worQ T (cutL P j x))) μ := by
  refine ⟨l_cutB hP.z (by omega) hP.p hj hx (by omega) h1 h2, l_worth2 hg hT (left_pb hT hP hj (hx.mono (l := kx + 5) (by omega)) (by omega) hK hl (by omega)) (cutLR_pc hj hP.p h1 h2).1⟩
/-! ### what is refused -/
theorem rfa {v u w : DV} {μ : DM} (h : f_mark [v, u, w] μ = .ex NoA μ) : f__law_refusal [v, u, w] μ = .ok (.str "amount") μ := by
  refine run_rt rfl ?_
  simp [b__law_refusal, sTry, h, hdl, subC, onS, offS]
theorem rfp {v u w : DV} {μ : DM} (h : f_mark [v, u, w] μ = .ex { cls := "NoPiece" } μ) : f__law_refusal [v, u, w] μ = .ok (.str "piece") μ := by
  refine run_rt rfl ?_
  simp [b__law_refusal, sTry, h, hdl, subC, onS, offS]
theorem rft {v u w : DV} {μ : DM} (h : f_mark [v, u, w] μ = .ex { cls := "NoTaste" } μ) : f__law_refusal [v, u, w] μ = .ok (.str "taste") μ := by
  refine run_rt rfl ?_
  simp [b__law_refusal, sTry, h, hdl, subC, onS, offS]
theorem need_t {v : DV} {μ : DM} (hg : f_is_taste [v] μ = .ok (.bl true) μ) : f_need_taste [v] μ = .ok .non μ := by
  refine run_nx (ρ := [some v]) rfl ?_
  simp [b_need_taste, hg]
theorem mk_t {v u w : DV} {μ : DM} (h : f_is_taste [v] μ = .ok (.bl false) μ) : f_mark [v, u, w] μ = .ex { cls := "NoTaste" } μ := by
  refine run_ex (ρ := [some v, some u, some w]) rfl ?_
  simp [b_mark, l_need_tx h]
theorem mk_p {v u w : DV} {μ : DM} (hg : f_is_taste [v] μ = .ok (.bl true) μ) (h : f_is_piece [u] μ = .ok (.bl false) μ) : f_mark [v, u, w] μ = .ex { cls := "NoPiece" } μ := by
  refine run_ex (ρ := [some v, some u, some w]) rfl ?_
  simp [b_mark, need_t hg, h]
theorem mk_p0 {v w : DV} {μ : DM} (hg : f_is_taste [v] μ = .ok (.bl true) μ) : f_mark [v, .tup [], w] μ = .ex { cls := "NoPiece" } μ := by
  have e := l_is_piece (L := []) (k := 5) (μ := μ) (by simp) (by omega) (by simp)
  have e' : f_is_piece [.tup []] μ = .ok (.bl true) μ := e
  refine run_ex (ρ := [some v, some (.tup []), some w]) rfl ?_
  simp [b_mark, need_t hg, e']
theorem mk_a {T P : List ST} {w : DV} {μ : DM} (hg : f_is_taste [PC T] μ = .ok (.bl true) μ) (hT : TG T) (hP : PG5 P) (hne : P ≠ []) (hw : w.und μ.length = true) (hb : isFr w = false ∨ ∃ q k, w = FR q ∧ Sz k q ∧ k ≤ 1000 ∧ (q < 0 ∨ worQ T P < q)) : f_mark [PC T, PC P, w] μ = .ex NoA μ := by
  have e2 := l_is_piece (μ := μ) hP.z (by omega) (by have := hP.l; omega)
  rw [hP.p] at e2
  have sP : (PC P).seq μ = some (P.map PR) := rfl
  have e1 := need_t hg
  refine run_ex (ρ := [some (PC T), some (PC P), some w]) rfl ?_
  rcases hb with hb | ⟨q, k, rfl, hz, hk, hq⟩
  · have e3 := l_isFr hw
    rw [hb] at e3
    simp [b_mark, e1, e2, sP, hne, e3]
  · by_cases hn : q < 0
    · have : q.num < 0 := by rw [Rat.lt_iff] at hn; simpa using hn
      simp [b_mark, e1, e2, sP, hne, l_is_fraction, this]
    · have n0 : ¬ q.num < 0 := by
        have : 0 ≤ q := by grind
        have := Rat.num_nonneg.mpr this
        omega
      have hq' : ¬ q ≤ worQ T P := by
        rcases hq with h | h
        · exact absurd h hn
        · grind
      have e3 := l_wof2 (μ := μ) hT (hP.pb hT)
      have zw := pre_sz hT hP P.length
      rw [List.take_length] at zw
      have e4 := l_is_at_most (μ := μ) hz zw (by omega)
      rw [decide_eq_false hq'] at e4
      simp [b_mark, e1, e2, sP, hne, l_is_fraction, n0, e3, e4]
end Lw

namespace Lw
open PySem L2 Md
abbrev W16 (scr : DV) (v2 : Option DV) (T P : List ST) (v5 v6 v7 v8 v9 v10 v11 v12 v13 v14 v15 : Option DV) : DE := [some scr, some (.ref 2), v2, some (PC T), some (PC P), v5, v6, v7, v8, v9, v10, v11, v12, v13, v14, v15]
theorem l_b1 {n : Nat} {X C HD : DC} {rest : DM} {scr : DV} {T P : List ST} {am x : Rat} {j i ka : Nat} {v2 v5 v6 v10 v11 v12 v13 v14 v15 : Option DV} (hh : HOk n C HD) (hn : n < 2 ^ 50) (hg : ∀ μ, f_is_taste [PC T] μ = .ok (.bl true) μ) (hT : TG T) (hP : PG5 P) (ha : Sz ka am) (hk : ka ≤ 810) (mk : MK T P am j x) (hx : Sz 1745 x) (hij : i ≤ j) :
    ∃ HD' w10 w11 w12 w13, b_law_1 (W16 scr v2 T P v5 v6 (some (FR am)) (some (.tup [.int j, FR x])) (some (.int i)) v10 v11 v12 v13 v14 v15) (X :: C :: HD :: rest) = .nx (W16 scr v2 T P v5 v6 (some (FR am)) (some (.tup [.int j, FR x])) (some (.int i)) w10 w11 w12 w13 v14 v15) (X :: C :: HD' :: rest) ∧ HOk (n + 1) C HD' := by
  have hi : i < P.length := by have := mk.hj; omega
  have mem := gS_mem hi
  have zs := hP.z _ mem
  have ls := hP.le mem
  obtain ⟨d, H1, d1, d2, d3, d4⟩ := l_draw (X := X) (rest := rest) hh (m := 6) (by omega) (by omega) (by omega)
  obtain ⟨d, rfl⟩ := Int.eq_ofNat_of_zero_le d2
  have sc : Sz 3 (qn d 6) := qn_sz (by omega) (by omega) (by omega)
  have c0 : 0 ≤ qn d 6 := qn_pos
  have c1 : qn d 6 ≤ 1 := qn_le1 (by omega) (by omega)
  have ec := fun μ => l_lpartn (a := d) (b := 6) (μ := μ) (by omega) (by omega) (by omega)
  simp only [Int.cast_ofNat_Int] at ec
  obtain ⟨e, he⟩ : ∃ e : Rat, e = if i = j then x else (gS P i).2 := ⟨_, rfl⟩
  have eb : (gS P i).1 ≤ e ∧ e ≤ (gS P i).2 ∧ Sz 1745 e := by
    by_cases h : i = j
    · subst h; rw [he, if_pos rfl]; exact ⟨mk.lo, mk.hi, hx⟩
    · rw [he, if_neg h]; exact ⟨ls, Rat.le_refl, zs.b.mono (by omega)⟩
  have em := fun μ => l_lminus (μ := μ) eb.2.2 zs.a (by omega)
  have sm := eb.2.2.sub zs.a
  have et := fun μ => l_ltimes (μ := μ) sc sm (by omega)
  have ep := fun μ => l_lplus (μ := μ) zs.a (sc.mul sm) (by omega)
  have zy := zs.a.add (sc.mul sm)
  have w0 : 0 ≤ e - (gS P i).1 := by have := eb.1; grind
  have y1 : (gS P i).1 ≤ (gS P i).1 + qn d 6 * (e - (gS P i).1) := by
    have := Rat.mul_nonneg c0 w0; grind
  have y2 : (gS P i).1 + qn d 6 * (e - (gS P i).1) ≤ e := by
    have := Rat.mul_le_mul_of_nonneg_right c1 w0
    grind
  generalize qn d 6 = c at *
  generalize (gS P i).1 + c * (e - (gS P i).1) = y at *
  have zu := (up2_sz hT zy).sub (up2_sz hT zs.a)
  have zl : Sz 2800 (worQ T (cutL P i y)) := by
    rw [wor_cutL]
    exact ((pre_sz hT hP i).add zu).mono (by omega)
  obtain ⟨k1, k2⟩ := left_worth (μ := X :: C :: H1 :: rest) (hg _) hT hP hi zy (by omega) y1 (Rat.le_trans y2 eb.2.1) (K := 2800) (by omega) (by omega) zl
  have e1 := fun μ => PC_ixg (L := P) (μ := μ) hi
  have q1 := l_lless (μ := X :: C :: H1 :: rest) zy eb.2.2 (by omega)
  have q2 := l_lless (μ := X :: C :: H1 :: rest) zl ha (by omega)
  have lt : (i < j ∨ y < e) → worQ T (cutL P i y) < am := by
    intro h
    rw [wor_cutL]
    by_cases h2 : i = j
    · subst h2
      rw [if_pos rfl] at he
      subst he
      rcases h with h | h
      · omega
      · exact mk.lst y y1 h
    · have h3 := mk.fst i (by omega)
      rw [wor_succ hi, btwQ] at h3
      have := upQ_mono hT (Rat.le_trans y2 eb.2.1)
      grind
  refine ⟨H1, some (FR (gS P i).1), some (FR (gS P i).2), some (FR e), some (FR y), ?_, d4⟩
  have s1 : sAsg (mOp gIx (mVar 4) (mVar 9)) (tgTup 2 (tgCons (tgN 10) (tgCons (tgN 11) (tgNil)))) (W16 scr v2 T P v5 v6 (some (FR am)) (some (.tup [.int j, FR x])) (some (.int i)) v10 v11 v12 v13 v14 v15) (X :: C :: HD :: rest) = .nx (W16 scr v2 T P v5 v6 (some (FR am)) (some (.tup [.int j, FR x])) (some (.int i)) (some (FR (gS P i).1)) (some (FR (gS P i).2)) v12 v13 v14 v15) (X :: C :: HD :: rest) := by
    have g0' : gIx (PC P) (.int i) (X :: C :: HD :: rest) = .ok (.tup [FR (gS P i).1, FR (gS P i).2]) (X :: C :: HD :: rest) := e1 _
    generalize gS P i = s at *
    simp [g0']
  have s2 : sAsg (mIf (mBl (mOp (gEq false) (mVar 9) (mOp gIx (mVar 8) (mC (.int 0))))) (mOp gIx (mVar 8) (mC (.int 1))) (mVar 11)) (tgN 12) (W16 scr v2 T P v5 v6 (some (FR am)) (some (.tup [.int j, FR x])) (some (.int i)) (some (FR (gS P i).1)) (some (FR (gS P i).2)) v12 v13 v14 v15) (X :: C :: HD :: rest) = .nx (W16 scr v2 T P v5 v6 (some (FR am)) (some (.tup [.int j, FR x])) (some (.int i)) (some (FR (gS P i).1)) (some (FR (gS P i).2)) (some (FR e)) v13 v14 v15) (X :: C :: HD :: rest) := by
    clear s1 e1 lt k1 k2 q1 q2 zl zu ep et em
    generalize gS P i = s at *
    by_cases h : i = j
    · subst h
      rw [if_pos rfl] at he
      subst he
      simp
    · rw [if_neg h] at he
      subst he
      simp [h]
      intro z
      omega
  have s3 : sAsg (mCall 2 f__law_plus (mCons (mVar 10) (mCons (mCall 2 f__law_times (mCons (mCall 2 f__law_part (mCons (mCall 2 f__law_draw (mCons (mVar 1) (mCons (mC (.int 6)) (mNil)))) (mCons (mC (.int 6)) (mNil)))) (mCons (mCall 2 f__law_minus (mCons (mVar 12) (mCons (mVar 10) (mNil)))) (mNil)))) (mNil)))) (tgN 13) (W16 scr v2 T P v5 v6 (some (FR am)) (some (.tup [.int j, FR x])) (some (.int i)) (some (FR (gS P i).1)) (some (FR (gS P i).2)) (some (FR e)) v13 v14 v15) (X :: C :: HD :: rest) = .nx (W16 scr v2 T P v5 v6 (some (FR am)) (some (.tup [.int j, FR x])) (some (.int i)) (some (FR (gS P i).1)) (some (FR (gS P i).2)) (some (FR e)) (some (FR y)) v14 v15) (X :: C :: H1 :: rest) := by
    clear s1 s2 e1 lt k1 k2 q1 q2 zl zu he
    generalize gS P i = s at *
    simp [d1, ec, em, et, ep]
  unfold b_law_1
  rw [x_seq, s1, thn_nx, x_seq, s2, thn_nx, x_seq, s3, thn_nx]
  clear s1 s2 s3 e1 zl zu ep et em
  generalize gS P i = s at *
  generalize cutL P i y = A at *
  generalize cutR P i y = B at *
  by_cases h : i < j
  · have l1 := lt (.inl h)
    simp [h, k1, k2, q2, l1]
  · by_cases h2 : y < e
    · have l1 := lt (.inr h2)
      simp [h, q1, h2, k1, k2, q2, l1]
    · simp [h, q1, h2]
def I2B (n k : Nat) (X C : DC) (rest : DM) (E : Option DV → Option DV → Option DV → Option DV → Option DV → DE) (l : List DV) (ρ : DE) (μ : DM) : Prop := ∃ (HD : DC) (i : Nat) (w9 w10 w11 w12 w13 : Option DV), l = (List.range' i (k - i)).map (fun i : Nat => DV.int (i : Int)) ∧ i ≤ k ∧ ρ = E w9 w10 w11 w12 w13 ∧ μ = X :: C :: HD :: rest ∧ HOk (n + i) C HD
theorem l_b2 {n : Nat} {X C HD : DC} {rest : DM} {scr : DV} {T P : List ST} {am : Rat} {ka : Nat} {v2 v5 v6 v8 v9 v10 v11 v12 v13 v14 v15 : Option DV} (hh : HOk n C HD) (hn : n < 2 ^ 49) (hg : ∀ μ, f_is_taste [PC T] μ = .ok (.bl true) μ) (hT : TG T) (hP : PG5 P) (hne : P ≠ []) (ha : Sz ka am) (hk : ka ≤ 810) (h0 : 0 ≤ am) (h1 : am ≤ worQ T P) :
    OkS { nx := fun ρ μ => ∃ (HD' : DC) (w8 w9 w10 w11 w12 w13 : Option DV), ρ = W16 scr v2 T P v5 v6 (some (FR am)) w8 w9 w10 w11 w12 w13 v14 v15 ∧ μ = X :: C :: HD' :: rest ∧ HOk (n + 7) C HD' } (b_law_2 (W16 scr v2 T P v5 v6 (some (FR am)) v8 v9 v10 v11 v12 v13 v14 v15) (X :: C :: HD :: rest)) := by
  obtain ⟨j, x, e1, mk, hx⟩ := l_mark (μ := X :: C :: HD :: rest) (hg _) hT hP ha (by omega) h0 h1 hne
  have hx' : Sz 1745 x := hx.mono (by omega)
  have hj := mk.hj
  have e2 := l_lmark (μ := X :: C :: HD :: rest) hT hP ha (by omega) h0 mk
  have ew : worQ T (cutL P j x) = am := by rw [wor_cutL]; exact mk.eq
  obtain ⟨k1, k2⟩ := left_worth (μ := X :: C :: HD :: rest) (hg _) hT hP hj hx' (by omega) mk.lo mk.hi (K := 810) (by omega) (by omega) (by rw [ew]; exact ha.mono hk)
  rw [ew] at k2
  have ek := l_kept (n := 4) (v := .tup [.int j, FR x]) (μ := X :: C :: HD :: rest) (.tup (by simp) (fun v hv => by
    simp at hv
    rcases hv with rfl | rfl
    · exact .int
    · exact FR_plain)) (by omega)
  unfold b_law_2
  refine seq_step (ρ' := W16 scr v2 T P v5 v6 (some (FR am)) (some (.tup [.int j, FR x])) v9 v10 v11 v12 v13 v14 v15) (μ' := X :: C :: HD :: rest) (by simp [e1]) ?_
  refine seq_step (ρ' := W16 scr v2 T P v5 v6 (some (FR am)) (some (.tup [.int j, FR x])) v9 v10 v11 v12 v13 v14 v15) (μ' := X :: C :: HD :: rest) (by simp [e2, ek]) ?_
  refine seq_step (ρ' := W16 scr v2 T P v5 v6 (some (FR am)) (some (.tup [.int j, FR x])) v9 v10 v11 v12 v13 v14 v15) (μ' := X :: C :: HD :: rest) (by
    clear ew
    generalize cutL P j x = A at *
    generalize cutR P j x = B at *
    simp [k1, k2]) ?_
  have rl := rgS_0 (μ := X :: C :: HD :: rest) (b := j + 1) (by have := hP.l; omega)
  push_cast at rl
  have ei : mItR1 (mOp gAdd (mOp gIx (mVar 8) (mC (.int 0))) (mC (.int 1))) (W16 scr v2 T P v5 v6 (some (FR am)) (some (.tup [.int j, FR x])) v9 v10 v11 v12 v13 v14 v15) (X :: C :: HD :: rest) = .ok ((List.range (j + 1)).map fun i : Nat => DV.int (i : Int), none) (X :: C :: HD :: rest) := by
    simp [rl]
  rw [x_for, ei]
  simp only [st_ok]
  refine for_inv (I2B n (j + 1) X C rest fun w9 w10 w11 w12 w13 => W16 scr v2 T P v5 v6 (some (FR am)) (some (.tup [.int j, FR x])) w9 w10 w11 w12 w13 v14 v15) (fun _ _ _ _ => rfl) (fun v l ρ μ ⟨HD, i, w9, w10, w11, w12, w13, f1, f2, f3, f4, f5⟩ => ?_) (fun ρ μ ⟨HD, i, w9, w10, w11, w12, w13, f1, f2, f3, f4, f5⟩ => ?_) _ _ _
    ⟨HD, 0, v9, v10, v11, v12, v13, by rw [List.range_eq_range', Nat.sub_zero], by omega, rfl, rfl, hh⟩
  · subst f3 f4
    have hi : i < j + 1 := by
      rcases Nat.lt_or_ge i (j + 1) with h | h
      · exact h
      · rw [show j + 1 - i = 0 by omega] at f1; cases f1
    rw [show j + 1 - i = (j + 1 - (i + 1)) + 1 by omega, List.range'_succ, List.map_cons] at f1
    obtain ⟨rfl, rfl⟩ := List.cons.inj f1
    have := hP.l
    obtain ⟨H', u10, u11, u12, u13, eb, hb⟩ := l_b1 (X := X) (rest := rest) (scr := scr) (v2 := v2) (v5 := v5) (v6 := v6) (v10 := w10) (v11 := w11) (v12 := w12) (v13 := w13) (v14 := v14) (v15 := v15) f5 (by omega) hg hT hP ha hk mk hx' (show i ≤ j by omega)
    refine ⟨_, rfl, okS_wr eb ?_⟩
    exact ⟨H', i + 1, _, u10, u11, u12, u13, rfl, hi, rfl, rfl, hb⟩
  · subst f3 f4
    have := hP.l
    exact ⟨HD, _, w9, w10, w11, w12, w13, rfl, rfl, f5.mono (by omega)⟩
def P3 : List ST := [(0, mkRat 1 3), (mkRat 1 2, mkRat 1 2), (mkRat 1 2, 1)]
theorem P3_eq : PC P3 = .tup [.tup [.tup [.int 0, .int 1], .tup [.int 1, .int 3]], .tup [.tup [.int 1, .int 2], .tup [.int 1, .int 2]], .tup [.tup [.int 1, .int 2], .tup [.int 1, .int 1]]] := by decide +kernel
theorem P3_ok : PG5 P3 := ⟨by simp [P3], by
  intro s hs
  simp only [P3, List.mem_cons, List.not_mem_nil, or_false] at hs
  rcases hs with rfl | rfl | rfl
  · exact ⟨⟨by decide +kernel, by decide +kernel⟩, ⟨by decide +kernel, by decide +kernel⟩⟩
  · exact ⟨⟨by decide +kernel, by decide +kernel⟩, ⟨by decide +kernel, by decide +kernel⟩⟩
  · exact ⟨⟨by decide +kernel, by decide +kernel⟩, ⟨by decide +kernel, by decide +kernel⟩⟩, by decide +kernel⟩
theorem l_b3 {X C HD : DC} {rest : DM} {scr : DV} {T P : List ST} {v2 v5 v6 v7 v8 v9 v10 v11 v12 v13 v15 : Option DV} {w : DV} (hg : ∀ μ, f_is_taste [PC T] μ = .ok (.bl true) μ) (hT : TG T) (hP : PG5 P) (hne : P ≠ []) (hw : ∀ n, w.und n = true) (hb : isFr w = false ∨ ∃ q k, w = FR q ∧ Sz k q ∧ k ≤ 1000 ∧ (q < 0 ∨ worQ T P < q)) :
    b_law_3 (W16 scr v2 T P v5 v6 v7 v8 v9 v10 v11 v12 v13 (some w) v15) (X :: C :: HD :: rest) = .nx (W16 scr v2 T P v5 v6 v7 v8 v9 v10 v11 v12 v13 (some w) v15) (X :: C :: HD :: rest) := by
  have e := rfa (mk_a (μ := X :: C :: HD :: rest) (hg _) hT hP hne (hw _) hb)
  simp [b_law_3, e]
def I4B (n : Nat) (X C : DC) (rest : DM) (Q : Rat → Prop) (E : Option DV → Option DV → Option DV → Option DV → Option DV → Option DV → Option DV → DE) (l : List DV) (ρ : DE) (μ : DM) : Prop := ∃ (HD : DC) (L : List Rat) (k : Nat) (w7 w8 w9 w10 w11 w12 w13 : Option DV), l = L.map FR ∧ (∀ q ∈ L, Q q) ∧ k + L.length ≤ 10 ∧ ρ = E w7 w8 w9 w10 w11 w12 w13 ∧ μ = X :: C :: HD :: rest ∧ HOk (n + 7 * k) C HD
theorem l_b4 {n : Nat} {X C HD : DC} {rest : DM} {scr : DV} {v2 v3 v4 v5 v6 v7 v8 v9 v10 v11 v12 v13 v14 v15 : Option DV} (hh : HOk n C HD) (hn : n < 2 ^ 28) :
    OkS { nx := fun ρ μ => ∃ (HD' : DC) (rest' : DM) (w3 w4 w5 w6 w7 w8 w9 w10 w11 w12 w13 w14 : Option DV), ρ = [some scr, some (.ref 2), v2, w3, w4, w5, w6, w7, w8, w9, w10, w11, w12, w13, w14, v15] ∧ μ = X :: C :: HD' :: rest' ∧ HOk (n + 250) C HD' } (b_law_4 [some scr, some (.ref 2), v2, v3, v4, v5, v6, v7, v8, v9, v10, v11, v12, v13, v14, v15] (X :: C :: HD :: rest)) := by
  obtain ⟨E0, P0, m, H1, t1, hd, m1, m6, t4⟩ := l_ltaste (X := X) (rest := rest) hh (by omega)
  have gt : GT (tasteOf E0 P0) := ⟨E0, P0, m, rfl, hd, m1, m6⟩
  generalize tasteOf E0 P0 = T at *
  obtain ⟨P, H2, p1, p2, p3, p4, p5⟩ := l_lpiece (most := 5) (X := X) (rest := rest) t4 (by omega) (by omega)
  simp only [Int.cast_ofNat_Int] at p1
  have hg : ∀ μ, f_is_taste [PC T] μ = .ok (.bl true) μ := fun μ => l_gt gt
  have hT := gt.tg
  unfold b_law_4
  refine seq_step (ρ' := W16 scr v2 T P v5 v6 v7 v8 v9 v10 v11 v12 v13 v14 v15) (μ' := X :: C :: H2 :: rest) (by simp [t1, p1]) ?_
  obtain ⟨P', hP', hne, e4⟩ : ∃ P', PG5 P' ∧ P' ≠ [] ∧ sIf (mBl (mOp (gEq false) (mLen (mVar 4)) (mC (.int 0)))) (sSeq (sIf (mBl (mOp (gEq true) (mCall 3 f__law_refusal (mCons (mVar 3) (mCons (mVar 4) (mCons (mTup (mCons (mC (.int 0)) (mCons (mC (.int 1)) (mNil)))) (mNil))))) (mC (.str "piece")))) (sRet (mC (.bl false))) (sNil)) <|
  sAsg (mTup (mCons (mTup (mCons (mTup (mCons (mC (.int 0)) (mCons (mC (.int 1)) (mNil)))) (mCons (mTup (mCons (mC (.int 1)) (mCons (mC (.int 3)) (mNil)))) (mNil)))) (mCons (mTup (mCons (mTup (mCons (mC (.int 1)) (mCons (mC (.int 2)) (mNil)))) (mCons (mTup (mCons (mC (.int 1)) (mCons (mC (.int 2)) (mNil)))) (mNil)))) (mCons (mTup (mCons (mTup (mCons (mC (.int 1)) (mCons (mC (.int 2)) (mNil)))) (mCons (mTup (mCons (mC (.int 1)) (mCons (mC (.int 1)) (mNil)))) (mNil)))) (mNil))))) (tgN 4)) (sNil) (W16 scr v2 T P v5 v6 v7 v8 v9 v10 v11 v12 v13 v14 v15) (X :: C :: H2 :: rest) = .nx (W16 scr v2 T P' v5 v6 v7 v8 v9 v10 v11 v12 v13 v14 v15) (X :: C :: H2 :: rest) := by
    have sP : ∀ P μ, (PC P).seq μ = some (P.map PR) := fun _ _ => rfl
    by_cases h : P = []
    · subst h
      refine ⟨P3, P3_ok, by simp [P3], ?_⟩
      have e := rfp (mk_p0 (w := .tup [.int 0, .int 1]) (hg (X :: C :: H2 :: rest)))
      have q0 : PC [] = .tup [] := rfl
      simp [P3_eq, q0, e]
    · refine ⟨P, ⟨by omega, p4, p5⟩, h, ?_⟩
      simp [sP, h]
  refine seq_step e4 ?_
  clear e4 p1 t1
  have hle : ∀ s ∈ P', s.1 ≤ s.2 := fun s hs => hP'.le hs
  have ew := fun μ => l_lwof2 (μ := μ) hT (hP'.pb hT)
  have zw := pre_sz hT hP' P'.length
  rw [List.take_length] at zw
  have hl := hP'.l
  refine seq_step (ρ' := W16 scr v2 T P' (some (FR (worQ T P'))) v6 v7 v8 v9 v10 v11 v12 v13 v14 v15) (μ' := X :: C :: H2 :: rest) (by simp [ew]) ?_
  have sP : ∀ P μ, (PC P).seq μ = some (P.map PR) := fun _ _ => rfl
  have rl := rgS_0 (μ := X :: C :: H2 :: rest) (b := P'.length + 1) (by omega)
  push_cast at rl
  have eh := lc_map (μ0 := X :: C :: H2 :: rest) (μ := X :: C :: H2 :: rest) (fun i : Nat => DV.int (i : Int)) (List.range (P'.length + 1)) (fun i => FR (worQ T (P'.take i))) (vs := [15]) (mi := mItR1 (mOp gAdd (mLen (mVar 4)) (mC (.int 1)))) (ρ := W16 scr v2 T P' (some (FR (worQ T P'))) v6 v7 v8 v9 v10 v11 v12 v13 v14 v15) (t := tgN 15)
    (te := mCall 2 f__law_worth (mCons (mVar 3) (mCons (mSl (mVar 4) (mNoP) (mP (mVar 15))) (mNil)))) (c := none) (by simp [sP, rl]) rfl (by simp; omega) (fun i hi => ⟨_, rfl, by
      have e := l_lwof2 (P := P'.take i) (ks := 5) (K := 800) (μ := X :: C :: H2 :: rest) hT ⟨by simp; omega, fun s hs => hP'.z s (List.mem_of_mem_take hs), fun k => by rw [List.take_take]; exact pre_sz hT hP' _, by omega⟩
      have em : ∀ w, mVar 4 (W16 scr v2 T P' (some (FR (worQ T P'))) v6 v7 v8 v9 v10 v11 v12 v13 v14 w) (X :: C :: H2 :: rest) = .ok (.tup (P'.map PR)) (X :: C :: H2 :: rest) := fun _ => x_var rfl
      have em3 : ∀ w, mVar 3 (W16 scr v2 T P' (some (FR (worQ T P'))) v6 v7 v8 v9 v10 v11 v12 v13 v14 w) (X :: C :: H2 :: rest) = .ok (PC T) (X :: C :: H2 :: rest) := fun _ => x_var rfl
      have ec : cutD (P'.map PR) none (some (i : Int)) = (P'.take i).map PR := by rw [cut_to, List.map_take]
      have em15 : mVar 15 (W16 scr v2 T P' (some (FR (worQ T P'))) v6 v7 v8 v9 v10 v11 v12 v13 v14 (some (.int i))) (X :: C :: H2 :: rest) = .ok (.int i) (X :: C :: H2 :: rest) := x_var rfl
      show mCall 2 f__law_worth _ (W16 scr v2 T P' (some (FR (worQ T P'))) v6 v7 v8 v9 v10 v11 v12 v13 v14 (some (.int i))) _ = _
      simp only [x_call, x_cons, x_nil, x_sl, x_noP, x_P, em, em3, em15, DR.bind_ok, ec]
      exact e⟩)
  refine seq_step (ρ' := W16 scr v2 T P' (some (FR (worQ T P'))) (some (.ref (rest.length + 3))) v7 v8 v9 v10 v11 v12 v13 v14 v15) (μ' := X :: C :: H2 :: (rest ++ [.lst ((List.range (P'.length + 1)).map fun i => FR (worQ T (P'.take i)))])) (by simp only [x_sSetF, eh, st_ok]; simp) ?_
  refine seq_thn ?_
  obtain ⟨d, H3, d1, d2, d3, d4⟩ := l_draw (X := X) (rest := rest ++ [.lst ((List.range (P'.length + 1)).map fun i => FR (worQ T (P'.take i)))]) p2 (m := 8) (by omega) (by omega) (by omega)
  obtain ⟨d, rfl⟩ := Int.eq_ofNat_of_zero_le d2
  have sc : Sz 3 (qn d 7) := qn_sz (by omega) (by omega) (by omega)
  have c0 : 0 ≤ qn d 7 := qn_pos
  have c1 : qn d 7 ≤ 1 := qn_le1 (by omega) (by omega)
  have ec := fun μ => l_lpartn (a := d) (b := 7) (μ := μ) (by omega) (by omega) (by omega)
  simp only [Int.cast_ofNat_Int] at ec
  have et := fun μ => l_ltimes (μ := μ) zw sc (by omega)
  obtain ⟨AM, hAM⟩ : ∃ AM : List Rat, AM = ((List.range (P'.length + 1)).map fun i => worQ T (P'.take i)) ++ [worQ T P' * qn d 7] := ⟨_, rfl⟩
  have eAM : (List.range (P'.length + 1)).map (fun i => FR (worQ T (P'.take i))) ++ [FR (worQ T P' * qn d 7)] = AM.map FR := by rw [hAM]; simp
  have hAMl : AM.length = P'.length + 2 := by rw [hAM]; simp
  have hAMq : ∀ q ∈ AM, Sz 810 q ∧ 0 ≤ q ∧ q ≤ worQ T P' := by
    intro q hq
    rw [hAM] at hq
    rcases List.mem_append.mp hq with hq | hq
    · obtain ⟨i, _, rfl⟩ := List.mem_map.mp hq
      exact ⟨(pre_sz hT hP' i).mono (by omega), wor_pre hT hle i⟩
    · simp at hq; subst hq
      have nn := (wor_pre hT hle P'.length).1
      rw [List.take_length] at nn
      exact ⟨(zw.mul sc).mono (by omega), Rat.mul_nonneg nn c0, mul_le1 nn c1⟩
  have ei : mIt (mOp gAdd (mVar 6) (mKeep (mLst (mCons (mCall 2 f__law_times (mCons (mVar 5) (mCons (mCall 2 f__law_part (mCons (mCall 2 f__law_draw (mCons (mVar 1) (mCons (mC (.int 8)) (mNil)))) (mCons (mC (.int 7)) (mNil)))) (mNil)))) (mNil))))) (W16 scr v2 T P' (some (FR (worQ T P'))) (some (.ref (rest.length + 3))) v7 v8 v9 v10 v11 v12 v13 v14 v15) (X :: C :: H2 :: (rest ++ [.lst ((List.range (P'.length + 1)).map fun i => FR (worQ T (P'.take i)))])) =
      .ok (AM.map FR, some (rest.length + 5)) (X :: C :: H3 :: (rest ++ [.lst ((List.range (P'.length + 1)).map fun i => FR (worQ T (P'.take i))), .lst [FR (worQ T P' * qn d 7)], .lst (AM.map FR)])) := by
    generalize hA : (List.range (P'.length + 1)).map (fun i => FR (worQ T (P'.take i))) = A at *
    have lA : A.length = P'.length + 1 := by rw [← hA]; simp
    have g1 : (DV.ref (rest.length + 3)).lst (X :: C :: H3 :: (rest ++ [.lst A, .lst [FR (worQ T P' * qn d 7)]])) = some A := lst_ref (by simp)
    have g2 : (DV.ref (rest.length + 4)).lst (X :: C :: H3 :: (rest ++ [.lst A, .lst [FR (worQ T P' * qn d 7)]])) = some [FR (worQ T P' * qn d 7)] := lst_ref (by simp)
    have ga : gAdd (.ref (rest.length + 3)) (.ref (rest.length + 4)) (X :: C :: H3 :: (rest ++ [.lst A, .lst [FR (worQ T P' * qn d 7)]])) = .ok (.ref (rest.length + 5)) (X :: C :: H3 :: (rest ++ [.lst A, .lst [FR (worQ T P' * qn d 7)], .lst (AM.map FR)])) := by
      simp only [gAdd, g1, g2]
      rw [if_pos (by simp; omega), eAM]
      simp
    simp [d1, ec, et, ga]
  rw [x_for, ei]
  simp only [st_ok]
  generalize hR1 : rest ++ [DC.lst ((List.range (P'.length + 1)).map fun i => FR (worQ T (P'.take i))), DC.lst [FR (worQ T P' * qn d 7)], DC.lst (AM.map FR)] = R1
  have hsrc : ∀ H, (X :: C :: H :: R1)[rest.length + 5]? = some (.lst (AM.map FR)) := fun H => by rw [← hR1]; simp
  refine for_inv (I4B (n + 20 + 100 + 1) X C R1 (fun q => Sz 810 q ∧ 0 ≤ q ∧ q ≤ worQ T P') fun w7 w8 w9 w10 w11 w12 w13 => W16 scr v2 T P' (some (FR (worQ T P'))) (some (.ref (rest.length + 3))) w7 w8 w9 w10 w11 w12 w13 v14 v15) (fun l ρ μ ⟨HD, L, k, w7, w8, w9, w10, w11, w12, w13, f1, f2, f3, f4, f5, f6⟩ => by
      subst f5
      simp only [okAt, hsrc, decide_true]) (fun v l ρ μ ⟨HD, L, k, w7, w8, w9, w10, w11, w12, w13, f1, f2, f3, f4, f5, f6⟩ => ?_) (fun ρ μ ⟨HD, L, k, w7, w8, w9, w10, w11, w12, w13, f1, f2, f3, f4, f5, f6⟩ => ?_) _ _ _
    ⟨H3, AM, 0, v7, v8, v9, v10, v11, v12, v13, rfl, hAMq, by omega, rfl, rfl, d4⟩
  · subst f4 f5
    obtain ⟨q, L, rfl⟩ : ∃ q L', L = q :: L' := by
      cases L with
      | nil => cases f1
      | cons q L => exact ⟨q, L, rfl⟩
    simp only [List.map_cons, List.cons.injEq] at f1
    obtain ⟨rfl, rfl⟩ := f1
    simp at f3
    obtain ⟨q1, q2, q3⟩ := f2 q (by simp)
    refine ⟨_, rfl, ?_⟩
    refine (l_b2 (X := X) (rest := R1) (scr := scr) (T := T) (P := P') (v2 := v2) (v5 := some (FR (worQ T P'))) (v6 := some (.ref (rest.length + 3))) (v8 := w8) (v9 := w9) (v10 := w10) (v11 := w11) (v12 := w12) (v13 := w13) (v14 := v14) (v15 := v15) f6 (by omega) hg hT hP' hne q1 (by omega) q2 q3).mono ?_ (fun _ _ z => z.elim) (fun _ _ _ z => z.elim) (fun _ _ z => z.elim) (fun _ _ z => z.elim)
    rintro ρ μ ⟨H', u8, u9, u10, u11, u12, u13, rfl, rfl, hb⟩
    exact ⟨H', L, k + 1, _, u8, u9, u10, u11, u12, u13, rfl, fun r hr => f2 r (by simp [hr]), by omega, rfl, rfl, hb.mono (by omega)⟩
  · subst f4 f5
    replace f6 := f6.mono (m := n + 250) (by omega)
    refine seq_thn ?_
    have nn := (wor_pre hT hle P'.length).1
    rw [List.take_length] at nn
    have z90 : Sz 8 (mkRat 1 90) := ⟨by decide +kernel, by decide +kernel⟩
    have z90' : Sz 8 (mkRat (-1) 90) := ⟨by decide +kernel, by decide +kernel⟩
    have p90 : (0 : Rat) < mkRat 1 90 := by decide +kernel
    have n90 : mkRat (-1) 90 < (0 : Rat) := by decide +kernel
    have f90 : DV.tup [.int 1, .int 90] = FR (mkRat 1 90) := by decide +kernel
    have f90' : DV.tup [.int (-1), .int 90] = FR (mkRat (-1) 90) := by decide +kernel
    have ea := fun μ => l_lplus (μ := μ) zw z90 (by omega)
    have za := zw.add z90
    rw [← f90] at ea
    have ei2 : mItF (mLst (mCons (mCall 2 f__law_plus (mCons (mVar 5) (mCons (mTup (mCons (mC (.int 1)) (mCons (mC (.int 90)) (mNil)))) (mNil)))) (mCons (mTup (mCons (mNeg (mC (.int 1))) (mCons (mC (.int 90)) (mNil)))) (mCons (mC .non) (mCons (mC (.int 0)) (mCons (mTup (mCons (mC (.int 2)) (mCons (mC (.int 4)) (mNil)))) (mCons (mC (.str "0")) (mNil)))))))) (W16 scr v2 T P' (some (FR (worQ T P'))) (some (.ref (rest.length + 3))) w7 w8 w9 w10 w11 w12 w13 v14 v15) (X :: C :: HD :: R1) = .ok ([FR (worQ T P' + mkRat 1 90), FR (mkRat (-1) 90), .non, .int 0, .tup [.int 2, .int 4], .str "0"], none) (X :: C :: HD :: R1) := by
      rw [← f90']
      simp [ea]
    rw [x_for, ei2]
    simp only [st_ok]
    obtain ⟨w14, ef⟩ := for_each (s := ([FR (worQ T P' + mkRat 1 90), FR (mkRat (-1) 90), .non, .int 0, .tup [.int 2, .int 4], .str "0"], none)) (t := tgN 14) (b := b_law_3) (μ := X :: C :: HD :: R1) (fun w => W16 scr v2 T P' (some (FR (worQ T P'))) (some (.ref (rest.length + 3))) w7 w8 w9 w10 w11 w12 w13 w v15) rfl (fun _ _ => rfl) [FR (worQ T P' + mkRat 1 90), FR (mkRat (-1) 90), .non, .int 0, .tup [.int 2, .int 4], .str "0"] v14 (fun v hv => by
      simp only [List.mem_cons, List.not_mem_nil, or_false] at hv
      rcases hv with rfl | rfl | rfl | rfl | rfl | rfl
      · exact l_b3 hg hT hP' hne (fun _ => rfl) (.inr ⟨_, _, rfl, za, by omega, .inr (by grind)⟩)
      · exact l_b3 hg hT hP' hne (fun _ => rfl) (.inr ⟨_, _, rfl, z90', by omega, .inl n90⟩)
      · exact l_b3 hg hT hP' hne (fun _ => rfl) (.inl rfl)
      · exact l_b3 hg hT hP' hne (fun _ => rfl) (.inl rfl)
      · exact l_b3 hg hT hP' hne (fun _ => rfl) (.inl (by decide +kernel))
      · exact l_b3 hg hT hP' hne (fun _ => rfl) (.inl rfl))
    rw [ef, okS_nx]
    show OkS _ (sIf _ _ _ _ _)
    have r1 := rft (mk_t (v := .non) (u := PC P') (w := .tup [.int 0, .int 1]) (μ := X :: C :: HD :: R1) (by rw [l_isTaste rfl (by simp)]; rfl))
    have r2 := rfp (mk_p (u := .ref (R1.length + 3)) (w := .non) (hg (X :: C :: HD :: (R1 ++ [.lst [.non]]))) (bad_kind (by simp [DV.ty]) (by simp)))
    refine okS_wr (ρ := W16 scr v2 T P' (some (FR (worQ T P'))) (some (.ref (rest.length + 3))) w7 w8 w9 w10 w11 w12 w13 w14 v15) (μ := X :: C :: HD :: (R1 ++ [.lst [.non]])) (by simp [r1, r2]) ⟨HD, _, _, _, _, _, _, _, _, _, _, _, _, _, rfl, rfl, f6⟩
def LI05 (X C : DC) (scr : DV) (l : List DV) (ρ : DE) (μ : DM) : Prop := ∃ (HD : DC) (rest : DM) (v2 v3 v4 v5 v6 v7 v8 v9 v10 v11 v12 v13 v14 v15 : Option DV), μ = X :: C :: HD :: rest ∧ HOk (250 * (8 - l.length)) C HD ∧ ρ = [some scr, some (.ref 2), v2, v3, v4, v5, v6, v7, v8, v9, v10, v11, v12, v13, v14, v15] ∧ l.length ≤ 8
theorem law_true : ∀ ns : List Int, ns.length ≤ 63 → ∃ μ, f_law [.kl (ns.map .int)] [] = .ok (.bl true) μ := by
  intro ns hns
  obtain ⟨X, C, HD, eh, hh⟩ := l_hand hns
  suffices hs : OkE (fun v _ => v = .bl true) NoX (f_law [.kl (ns.map .int)] []) by
    obtain ⟨v, μ, e, q⟩ := hs.ok
    exact ⟨μ, by rw [e, q]⟩
  refine okE_run rfl ?_
  refine seq_step (ρ' := [some (.kl (ns.map .int)), some (.ref 2), none, none, none, none, none, none, none, none, none, none, none, none, none, none]) (μ' := [X, C, HD]) (by simp [eh]) ?_
  have r6 := fun μ => rgS_0 (μ := μ) (b := 8) (by omega)
  simp only [Int.cast_ofNat_Int] at r6
  refine seq_thn ?_
  simp only [x_for, x_rg1, x_c, DR.bind_ok, r6, st_ok]
  refine for_inv (LI05 X C (.kl (ns.map .int))) (fun _ _ _ _ => rfl) (fun x l ρ μ ⟨HD, rest, v2, v3, v4, v5, v6, v7, v8, v9, v10, v11, v12, v13, v14, v15, e1, e2, e3, e4⟩ => ?_) (fun ρ μ ⟨HD, rest, v2, v3, v4, v5, v6, v7, v8, v9, v10, v11, v12, v13, v14, v15, e1, e2, e3, e4⟩ => ?_) _ _ _
    ⟨HD, [], none, none, none, none, none, none, none, none, none, none, none, none, none, none, rfl, hh, rfl, by simp⟩
  · subst e1 e3
    refine ⟨_, rfl, ?_⟩
    simp only [List.length_cons] at e2 e4
    refine (l_b4 (X := X) (rest := rest) (scr := .kl (ns.map .int)) (v2 := some x) (v3 := v3) (v4 := v4) (v5 := v5) (v6 := v6) (v7 := v7) (v8 := v8) (v9 := v9) (v10 := v10) (v11 := v11) (v12 := v12) (v13 := v13) (v14 := v14) (v15 := v15) e2 (by omega)).mono ?_ (fun _ _ z => z.elim) (fun _ _ _ z => z.elim) (fun _ _ z => z.elim) (fun _ _ z => z.elim)
    rintro ρ μ ⟨HD', rest', w3, w4, w5, w6, w7, w8, w9, w10, w11, w12, w13, w14, f1, f2, f3⟩
    exact ⟨HD', rest', some x, w3, w4, w5, w6, w7, w8, w9, w10, w11, w12, w13, w14, v15, f2, f3.mono (by omega), f1, by omega⟩
  · subst e1 e3
    simp
    exact tidy_any (Q := fun v _ => v = .bl true) (fun _ => rfl) (fun _ => rfl)
end Lw

/-! ## that the code does so, printed by gen.py -/
namespace Lw
open PySem L2 Md
def top (i : Nat) : Stmt := PySem.Challenge.pw_sharespromised_k05_whole_first_marks.main.body.getD i (.Pass ⟨0, 0, 0, 0⟩)
abbrev s_is_integer : Stmt := top 10
abbrev s_is_between : Stmt := top 11
abbrev s_is_tuple_of : Stmt := top 12
abbrev s_part_of : Stmt := top 13
abbrev s_is_fraction : Stmt := top 14
abbrev s_is_share : Stmt := top 15
abbrev s_add : Stmt := top 16
abbrev s_turned : Stmt := top 17
abbrev s_take : Stmt := top 18
abbrev s_product : Stmt := top 19
abbrev s_ratio : Stmt := top 20
abbrev s_is_at_most : Stmt := top 21
abbrev s_is_below : Stmt := top 22
abbrev s_total : Stmt := top 23
abbrev s_is_stretch : Stmt := top 26
abbrev s_is_piece : Stmt := top 27
abbrev s_need_piece : Stmt := top 28
abbrev s_parted : Stmt := top 29
abbrev s_is_point_of : Stmt := top 30
abbrev s_cut_at : Stmt := top 31
abbrev s_is_taste : Stmt := top 34
abbrev s_need_taste : Stmt := top 35
abbrev s_worth_up_to : Stmt := top 36
abbrev s_worth_between : Stmt := top 37
abbrev s_worth_of : Stmt := top 38
abbrev s_worth : Stmt := top 39
abbrev s_first_point : Stmt := top 40
abbrev s_mark_of : Stmt := top 41
abbrev s_mark : Stmt := top 42
abbrev s__law_hand : Stmt := top 44
abbrev s__law_draw : Stmt := top 45
abbrev s__law_kept : Stmt := top 46
abbrev s__law_mixed : Stmt := top 47
abbrev s__law_part : Stmt := top 48
abbrev s__law_plus : Stmt := top 49
abbrev s__law_minus : Stmt := top 50
abbrev s__law_times : Stmt := top 51
abbrev s__law_over : Stmt := top 52
abbrev s__law_less : Stmt := top 53
abbrev s__law_sum : Stmt := top 54
abbrev s__law_piece : Stmt := top 55
abbrev s__law_taste : Stmt := top 56
abbrev s__law_up_to : Stmt := top 57
abbrev s__law_worth : Stmt := top 58
abbrev s__law_mark : Stmt := top 59
abbrev s__law_refusal : Stmt := top 60
abbrev s_law : Stmt := top 61
structure Txt (mg : Str → Option Value) : Prop where
  b_abs : mg "abs" = none
  b_all : mg "all" = none
  b_bool : mg "bool" = none
  b_enumerate : mg "enumerate" = none
  b_int : mg "int" = none
  b_isinstance : mg "isinstance" = none
  b_len : mg "len" = none
  b_list : mg "list" = none
  b_range : mg "range" = none
  b_sorted : mg "sorted" = none
  b_str : mg "str" = none
  b_tuple : mg "tuple" = none
  b_gcd : mg "gcd" = some (.builtin "math.gcd")
section
variable {P : Program} {w : World} {K : PySem.W.Frag} {mg : Str → Option Value} {base : Heap} {xt : String → Option Addr}
abbrev ns_is_integer : List Str := ["thing"]
theorem sc_is_integer : FnScope ["thing"] ["thing"] (defScope s_is_integer) := ⟨rfl, rfl, rfl, by decide +kernel, rfl, by decide +kernel, by decide +kernel⟩
theorem c_is_integer (T : Txt mg) (A : At K mg "is_integer" s_is_integer) : Cal P w K mg base xt "is_integer" 1 1 f_is_integer :=
  A.cal sc_is_integer (fun _ _ _ _ _ _ us hl => match us, hl with | [_], _ => rfl) rfl fun f cdv A' outer s H E hr tk po =>
    ss_one (s_ret (d_and (d_isi (T := "int") (by decide) T.b_isinstance T.b_int (d_var 0)) (d_one (d_not (d_isi (T := "bool") (by decide) T.b_isinstance T.b_bool (d_var 0))))))

abbrev ns_is_between : List Str := ["thing", "least", "greatest"]
theorem sc_is_between : FnScope ["thing", "least", "greatest"] ["thing", "least", "greatest"] (defScope s_is_between) := ⟨rfl, rfl, rfl, by decide +kernel, rfl, by decide +kernel, by decide +kernel⟩
theorem c_is_between (T : Txt mg) (A : At K mg "is_between" s_is_between) (c_is_integer : Cal P w K mg base xt "is_integer" 1 1 f_is_integer) : Cal P w K mg base xt "is_between" 2 3 f_is_between :=
  A.cal sc_is_between (fun _ _ _ _ _ _ us hl => match us, hl with | [_, _, _], _ => rfl) rfl fun f cdv A' outer s H E hr tk po =>
    ss_one (s_ret (d_and (d_fn c_is_integer hr tk (d_acons (d_var 0) (d_anil))) (d_one (d_chain o_le o_le (d_var 1) (d_var 0) (d_var 2)))))

abbrev ns_is_tuple_of : List Str := ["thing", "many"]
theorem sc_is_tuple_of : FnScope ["thing", "many"] ["thing", "many"] (defScope s_is_tuple_of) := ⟨rfl, rfl, rfl, by decide +kernel, rfl, by decide +kernel, by decide +kernel⟩
theorem c_is_tuple_of (T : Txt mg) (A : At K mg "is_tuple_of" s_is_tuple_of) : Cal P w K mg base xt "is_tuple_of" 1 2 f_is_tuple_of :=
  A.cal sc_is_tuple_of (fun _ _ _ _ _ _ us hl => match us, hl with | [_, _], _ => rfl) rfl fun f cdv A' outer s H E hr tk po =>
    ss_one (s_ret (d_and (d_isi (T := "tuple") (by decide) T.b_isinstance T.b_tuple (d_var 0)) (d_one (d_cmp (o_eq hr.units) (d_len T.b_len (d_var 0)) (d_var 1) (nomark _)))))

abbrev ns_part_of : List Str := ["top", "bottom", "many"]
theorem sc_part_of : FnScope ["top", "bottom", "many"] ["top", "bottom"] (defScope s_part_of) := ⟨rfl, rfl, rfl, by decide +kernel, rfl, by decide +kernel, by decide +kernel⟩
theorem c_part_of (T : Txt mg) (A : At K mg "part_of" s_part_of) : Cal P w K mg base xt "part_of" 1 2 f_part_of :=
  A.cal sc_part_of (fun _ _ _ _ _ _ us hl => match us, hl with | [_, _], _ => rfl) rfl fun f cdv A' outer s H E hr tk po =>
    ss_cons (s_set 2 sc_part_of.nd (d_gcd T.b_gcd (d_abs T.b_abs (d_var 0)) (d_var 1))) <|
    ss_one (s_ret (d_tup (d_acons (d_bin o_fdiv (d_var 0) (d_var 2)) (d_acons (d_bin o_fdiv (d_var 1) (d_var 2)) (d_anil)))))

abbrev ns_is_fraction : List Str := ["thing", "part"]
theorem sc_is_fraction : FnScope ["thing", "part"] ["thing"] (defScope s_is_fraction) := ⟨rfl, rfl, rfl, by decide +kernel, rfl, by decide +kernel, by decide +kernel⟩
theorem c_is_fraction (T : Txt mg) (A : At K mg "is_fraction" s_is_fraction) (c_is_tuple_of : Cal P w K mg base xt "is_tuple_of" 1 2 f_is_tuple_of) (c_is_integer : Cal P w K mg base xt "is_integer" 1 1 f_is_integer) : Cal P w K mg base xt "is_fraction" 2 1 f_is_fraction :=
  A.cal sc_is_fraction (fun _ _ _ _ _ _ us hl => match us, hl with | [_], _ => rfl) rfl fun f cdv A' outer s H E hr tk po =>
    ss_cons (s_if (t_w (w_or (t_not (t_tru (d_fn c_is_tuple_of hr tk (d_acons (d_var 0) (d_acons (d_int) (d_anil)))))) (w_or1 (t_not (t_tru (d_b1F (cr_all rfl) lf_all (hm := T.b_all) (h := d_lc rfl sc_is_fraction.nd (i_seq (d_var 0)) (blkOk_at (own := [("part", 1)]) (N := ns_is_fraction) (sc := defScope s_is_fraction) rfl rfl (by decide +kernel)) (by decide) (fun _ _ _ _ _ => g_name 1 sc_is_fraction.nd) (fun _ _ _ _ _ => q_nil) (fun _ _ _ _ _ => d_fn c_is_integer hr takes0 (d_acons (d_var 1) (d_anil)))))))))) (ss_one (s_ret (d_bl))) (ss_nil)) <|
    ss_one (s_ret (d_and (d_cmp o_gt (d_ix (d_var 0) (d_int)) (d_int) (nomark _)) (d_one (d_cmp (o_eq hr.units) (d_gcd T.b_gcd (d_abs T.b_abs (d_ix (d_var 0) (d_int))) (d_ix (d_var 0) (d_int))) (d_int) (nomark _)))))

abbrev ns_is_share : List Str := ["thing"]
theorem sc_is_share : FnScope ["thing"] ["thing"] (defScope s_is_share) := ⟨rfl, rfl, rfl, by decide +kernel, rfl, by decide +kernel, by decide +kernel⟩
theorem c_is_share (T : Txt mg) (A : At K mg "is_share" s_is_share) (c_is_fraction : Cal P w K mg base xt "is_fraction" 2 1 f_is_fraction) : Cal P w K mg base xt "is_share" 3 1 f_is_share :=
  A.cal sc_is_share (fun _ _ _ _ _ _ us hl => match us, hl with | [_], _ => rfl) rfl fun f cdv A' outer s H E hr tk po =>
    ss_one (s_ret (d_and (d_fn c_is_fraction hr tk (d_acons (d_var 0) (d_anil))) (d_one (d_chain o_le o_le (d_int) (d_ix (d_var 0) (d_int)) (d_ix (d_var 0) (d_int))))))

abbrev ns_add : List Str := ["one", "other"]
theorem sc_add : FnScope ["one", "other"] ["one", "other"] (defScope s_add) := ⟨rfl, rfl, rfl, by decide +kernel, rfl, by decide +kernel, by decide +kernel⟩
theorem c_add (T : Txt mg) (A : At K mg "add" s_add) (c_part_of : Cal P w K mg base xt "part_of" 1 2 f_part_of) : Cal P w K mg base xt "add" 2 2 f_add :=
  A.cal sc_add (fun _ _ _ _ _ _ us hl => match us, hl with | [_, _], _ => rfl) rfl fun f cdv A' outer s H E hr tk po =>
    ss_cons (s_if (t_cmp (o_eq hr.units) (d_ix (d_var 0) (d_int)) (d_int) (nomark _)) (ss_one (s_ret (d_var 1))) (ss_nil)) <|
    ss_cons (s_if (t_cmp (o_eq hr.units) (d_ix (d_var 1) (d_int)) (d_int) (nomark _)) (ss_one (s_ret (d_var 0))) (ss_nil)) <|
    ss_one (s_ret (d_fn c_part_of hr tk (d_acons (d_bin o_add (d_bin o_mul (d_ix (d_var 0) (d_int)) (d_ix (d_var 1) (d_int))) (d_bin o_mul (d_ix (d_var 1) (d_int)) (d_ix (d_var 0) (d_int)))) (d_acons (d_bin o_mul (d_ix (d_var 0) (d_int)) (d_ix (d_var 1) (d_int))) (d_anil)))))

abbrev ns_turned : List Str := ["one"]
theorem sc_turned : FnScope ["one"] ["one"] (defScope s_turned) := ⟨rfl, rfl, rfl, by decide +kernel, rfl, by decide +kernel, by decide +kernel⟩
theorem c_turned (T : Txt mg) (A : At K mg "turned" s_turned) : Cal P w K mg base xt "turned" 1 1 f_turned :=
  A.cal sc_turned (fun _ _ _ _ _ _ us hl => match us, hl with | [_], _ => rfl) rfl fun f cdv A' outer s H E hr tk po =>
    ss_one (s_ret (d_tup (d_acons (d_neg (d_ix (d_var 0) (d_int))) (d_acons (d_ix (d_var 0) (d_int)) (d_anil)))))

abbrev ns_take : List Str := ["one", "other"]
theorem sc_take : FnScope ["one", "other"] ["one", "other"] (defScope s_take) := ⟨rfl, rfl, rfl, by decide +kernel, rfl, by decide +kernel, by decide +kernel⟩
theorem c_take (T : Txt mg) (A : At K mg "take" s_take) (c_add : Cal P w K mg base xt "add" 2 2 f_add) (c_turned : Cal P w K mg base xt "turned" 1 1 f_turned) : Cal P w K mg base xt "take" 3 2 f_take :=
  A.cal sc_take (fun _ _ _ _ _ _ us hl => match us, hl with | [_, _], _ => rfl) rfl fun f cdv A' outer s H E hr tk po =>
    ss_one (s_ret (d_fn c_add hr tk (d_acons (d_var 0) (d_acons (d_fn c_turned hr tk (d_acons (d_var 1) (d_anil))) (d_anil)))))

abbrev ns_product : List Str := ["one", "other"]
theorem sc_product : FnScope ["one", "other"] ["one", "other"] (defScope s_product) := ⟨rfl, rfl, rfl, by decide +kernel, rfl, by decide +kernel, by decide +kernel⟩
theorem c_product (T : Txt mg) (A : At K mg "product" s_product) (k_ZERO : Con' K mg "ZERO" (.tup [.int 0, .int 1])) (c_part_of : Cal P w K mg base xt "part_of" 1 2 f_part_of) : Cal P w K mg base xt "product" 2 2 f_product :=
  A.cal sc_product (fun _ _ _ _ _ _ us hl => match us, hl with | [_, _], _ => rfl) rfl fun f cdv A' outer s H E hr tk po =>
    ss_cons (s_if (t_w (w_or (t_cmp (o_eq hr.units) (d_ix (d_var 0) (d_int)) (d_int) (nomark _)) (w_or1 (t_cmp (o_eq hr.units) (d_ix (d_var 1) (d_int)) (d_int) (nomark _))))) (ss_one (s_ret (d_con k_ZERO))) (ss_nil)) <|
    ss_one (s_ret (d_fn c_part_of hr tk (d_acons (d_bin o_mul (d_ix (d_var 0) (d_int)) (d_ix (d_var 1) (d_int))) (d_acons (d_bin o_mul (d_ix (d_var 0) (d_int)) (d_ix (d_var 1) (d_int))) (d_anil)))))

abbrev ns_ratio : List Str := ["one", "other"]
theorem sc_ratio : FnScope ["one", "other"] ["one", "other"] (defScope s_ratio) := ⟨rfl, rfl, rfl, by decide +kernel, rfl, by decide +kernel, by decide +kernel⟩
theorem c_ratio (T : Txt mg) (A : At K mg "ratio" s_ratio) (c_part_of : Cal P w K mg base xt "part_of" 1 2 f_part_of) : Cal P w K mg base xt "ratio" 2 2 f_ratio :=
  A.cal sc_ratio (fun _ _ _ _ _ _ us hl => match us, hl with | [_, _], _ => rfl) rfl fun f cdv A' outer s H E hr tk po =>
    ss_cons (s_if (t_cmp o_lt (d_ix (d_var 1) (d_int)) (d_int) (nomark _)) (ss_one (s_ret (d_fn c_part_of hr tk (d_acons (d_bin o_mul (d_neg (d_ix (d_var 0) (d_int))) (d_ix (d_var 1) (d_int))) (d_acons (d_bin o_mul (d_neg (d_ix (d_var 0) (d_int))) (d_ix (d_var 1) (d_int))) (d_anil)))))) (ss_nil)) <|
    ss_one (s_ret (d_fn c_part_of hr tk (d_acons (d_bin o_mul (d_ix (d_var 0) (d_int)) (d_ix (d_var 1) (d_int))) (d_acons (d_bin o_mul (d_ix (d_var 0) (d_int)) (d_ix (d_var 1) (d_int))) (d_anil)))))

abbrev ns_is_at_most : List Str := ["one", "other"]
theorem sc_is_at_most : FnScope ["one", "other"] ["one", "other"] (defScope s_is_at_most) := ⟨rfl, rfl, rfl, by decide +kernel, rfl, by decide +kernel, by decide +kernel⟩
theorem c_is_at_most (T : Txt mg) (A : At K mg "is_at_most" s_is_at_most) : Cal P w K mg base xt "is_at_most" 1 2 f_is_at_most :=
  A.cal sc_is_at_most (fun _ _ _ _ _ _ us hl => match us, hl with | [_, _], _ => rfl) rfl fun f cdv A' outer s H E hr tk po =>
    ss_one (s_ret (d_cmp o_le (d_bin o_mul (d_ix (d_var 0) (d_int)) (d_ix (d_var 1) (d_int))) (d_bin o_mul (d_ix (d_var 1) (d_int)) (d_ix (d_var 0) (d_int))) (nomark _)))

abbrev ns_is_below : List Str := ["one", "other"]
theorem sc_is_below : FnScope ["one", "other"] ["one", "other"] (defScope s_is_below) := ⟨rfl, rfl, rfl, by decide +kernel, rfl, by decide +kernel, by decide +kernel⟩
theorem c_is_below (T : Txt mg) (A : At K mg "is_below" s_is_below) : Cal P w K mg base xt "is_below" 1 2 f_is_below :=
  A.cal sc_is_below (fun _ _ _ _ _ _ us hl => match us, hl with | [_, _], _ => rfl) rfl fun f cdv A' outer s H E hr tk po =>
    ss_one (s_ret (d_cmp o_lt (d_bin o_mul (d_ix (d_var 0) (d_int)) (d_ix (d_var 1) (d_int))) (d_bin o_mul (d_ix (d_var 1) (d_int)) (d_ix (d_var 0) (d_int))) (nomark _)))

abbrev ns_total : List Str := ["many", "found", "one"]
theorem sc_total : FnScope ["many", "found", "one"] ["many"] (defScope s_total) := ⟨rfl, rfl, rfl, by decide +kernel, rfl, by decide +kernel, by decide +kernel⟩
theorem c_total (T : Txt mg) (A : At K mg "total" s_total) (k_ZERO : Con' K mg "ZERO" (.tup [.int 0, .int 1])) (c_add : Cal P w K mg base xt "add" 2 2 f_add) : Cal P w K mg base xt "total" 3 1 f_total :=
  A.cal sc_total (fun _ _ _ _ _ _ us hl => match us, hl with | [_], _ => rfl) rfl fun f cdv A' outer s H E hr tk po =>
    ss_cons (s_set 1 sc_total.nd (d_con k_ZERO)) <|
    ss_cons (s_for po rfl (i_seq (d_var 0)) (g_name 2 sc_total.nd) (ss_one (s_set 1 sc_total.nd (d_fn c_add hr tk (d_acons (d_var 1) (d_acons (d_var 2) (d_anil))))))) <|
    ss_one (s_ret (d_var 1))

abbrev ns_is_stretch : List Str := ["thing"]
theorem sc_is_stretch : FnScope ["thing"] ["thing"] (defScope s_is_stretch) := ⟨rfl, rfl, rfl, by decide +kernel, rfl, by decide +kernel, by decide +kernel⟩
theorem c_is_stretch (T : Txt mg) (A : At K mg "is_stretch" s_is_stretch) (c_is_tuple_of : Cal P w K mg base xt "is_tuple_of" 1 2 f_is_tuple_of) (c_is_share : Cal P w K mg base xt "is_share" 3 1 f_is_share) (c_is_at_most : Cal P w K mg base xt "is_at_most" 1 2 f_is_at_most) : Cal P w K mg base xt "is_stretch" 4 1 f_is_stretch :=
  A.cal sc_is_stretch (fun _ _ _ _ _ _ us hl => match us, hl with | [_], _ => rfl) rfl fun f cdv A' outer s H E hr tk po =>
    ss_one (s_ret (d_and (d_fn c_is_tuple_of hr tk (d_acons (d_var 0) (d_acons (d_int) (d_anil)))) (d_and (d_fn c_is_share hr tk (d_acons (d_ix (d_var 0) (d_int)) (d_anil))) (d_and (d_fn c_is_share hr tk (d_acons (d_ix (d_var 0) (d_int)) (d_anil))) (d_one (d_fn c_is_at_most hr tk (d_acons (d_ix (d_var 0) (d_int)) (d_acons (d_ix (d_var 0) (d_int)) (d_anil)))))))))

abbrev ns_is_piece : List Str := ["thing", "at", "one"]
theorem sc_is_piece : FnScope ["thing", "at", "one"] ["thing"] (defScope s_is_piece) := ⟨rfl, rfl, rfl, by decide +kernel, rfl, by decide +kernel, by decide +kernel⟩
theorem c_is_piece (T : Txt mg) (A : At K mg "is_piece" s_is_piece) (k_MOST_STRETCHES : Con' K mg "MOST_STRETCHES" (.int 60)) (c_is_at_most : Cal P w K mg base xt "is_at_most" 1 2 f_is_at_most) (c_is_stretch : Cal P w K mg base xt "is_stretch" 4 1 f_is_stretch) : Cal P w K mg base xt "is_piece" 5 1 f_is_piece :=
  A.cal sc_is_piece (fun _ _ _ _ _ _ us hl => match us, hl with | [_], _ => rfl) rfl fun f cdv A' outer s H E hr tk po =>
    ss_cons (s_if (t_w (w_or (t_not (t_tru (d_isi (T := "tuple") (by decide) T.b_isinstance T.b_tuple (d_var 0)))) (w_or (t_cmp o_gt (d_len T.b_len (d_var 0)) (d_con k_MOST_STRETCHES) (nomark _)) (w_or1 (t_not (t_tru (d_b1F (cr_all rfl) lf_all (hm := T.b_all) (h := d_lc rfl sc_is_piece.nd (i_seq (d_var 0)) (blkOk_at (own := [("one", 2)]) (N := ns_is_piece) (sc := defScope s_is_piece) rfl rfl (by decide +kernel)) (by decide) (fun _ _ _ _ _ => g_name 2 sc_is_piece.nd) (fun _ _ _ _ _ => q_nil) (fun _ _ _ _ _ => d_fn c_is_stretch hr takes0 (d_acons (d_var 2) (d_anil))))))))))) (ss_one (s_ret (d_bl))) (ss_nil)) <|
    ss_one (s_ret (d_b1F (cr_all rfl) lf_all (hm := T.b_all) (h := d_lc rfl sc_is_piece.nd (i_rg2 T.b_range (d_int) (d_len T.b_len (d_var 0))) (blkOk_at (own := [("at", 1)]) (N := ns_is_piece) (sc := defScope s_is_piece) rfl rfl (by decide +kernel)) (by decide) (fun _ _ _ _ _ => g_name 1 sc_is_piece.nd) (fun _ _ _ _ _ => q_nil) (fun _ _ _ _ _ => d_fn c_is_at_most hr takes0 (d_acons (d_ix (d_ix (d_var 0) (d_bin o_sub (d_var 1) (d_int))) (d_int)) (d_acons (d_ix (d_ix (d_var 0) (d_var 1)) (d_int)) (d_anil)))))))

abbrev ns_need_piece : List Str := ["thing"]
theorem sc_need_piece : FnScope ["thing"] ["thing"] (defScope s_need_piece) := ⟨rfl, rfl, rfl, by decide +kernel, rfl, by decide +kernel, by decide +kernel⟩
theorem c_need_piece (T : Txt mg) (A : At K mg "need_piece" s_need_piece) (x_NoPiece : ExN K mg xt "NoPiece" "NoPiece") (c_is_piece : Cal P w K mg base xt "is_piece" 5 1 f_is_piece) : Cal P w K mg base xt "need_piece" 6 1 f_need_piece :=
  A.cal sc_need_piece (fun _ _ _ _ _ _ us hl => match us, hl with | [_], _ => rfl) rfl fun f cdv A' outer s H E hr tk po =>
    ss_one (s_if (t_not (t_tru (d_fn c_is_piece hr tk (d_acons (d_var 0) (d_anil))))) (ss_one (s_rai rfl tk x_NoPiece)) (ss_nil))

abbrev ns_parted : List Str := ["piece", "j", "x", "low", "high"]
theorem sc_parted : FnScope ["piece", "j", "x", "low", "high"] ["piece", "j", "x"] (defScope s_parted) := ⟨rfl, rfl, rfl, by decide +kernel, rfl, by decide +kernel, by decide +kernel⟩
theorem c_parted (T : Txt mg) (A : At K mg "parted" s_parted) : Cal P w K mg base xt "parted" 1 3 f_parted :=
  A.cal sc_parted (fun _ _ _ _ _ _ us hl => match us, hl with | [_, _, _], _ => rfl) rfl fun f cdv A' outer s H E hr tk po =>
    ss_cons (s_asg (d_ix (d_var 0) (d_var 1)) (g_tup rfl (g_cons (g_name 3 sc_parted.nd) (g_cons (g_name 4 sc_parted.nd) (g_nil))))) <|
    ss_one (s_ret (d_tup (d_acons (d_bin o_add (d_slice (d_var 0) (p_none) (p_some (d_var 1))) (d_tup (d_acons (d_tup (d_acons (d_var 3) (d_acons (d_var 2) (d_anil)))) (d_anil)))) (d_acons (d_bin o_add (d_tup (d_acons (d_tup (d_acons (d_var 2) (d_acons (d_var 4) (d_anil)))) (d_anil))) (d_slice (d_var 0) (p_some (d_bin o_add (d_var 1) (d_int))) (p_none))) (d_anil)))))

abbrev ns_is_point_of : List Str := ["piece", "j", "x"]
theorem sc_is_point_of : FnScope ["piece", "j", "x"] ["piece", "j", "x"] (defScope s_is_point_of) := ⟨rfl, rfl, rfl, by decide +kernel, rfl, by decide +kernel, by decide +kernel⟩
theorem c_is_point_of (T : Txt mg) (A : At K mg "is_point_of" s_is_point_of) (c_is_at_most : Cal P w K mg base xt "is_at_most" 1 2 f_is_at_most) (c_is_between : Cal P w K mg base xt "is_between" 2 3 f_is_between) (c_is_fraction : Cal P w K mg base xt "is_fraction" 2 1 f_is_fraction) : Cal P w K mg base xt "is_point_of" 3 3 f_is_point_of :=
  A.cal sc_is_point_of (fun _ _ _ _ _ _ us hl => match us, hl with | [_, _, _], _ => rfl) rfl fun f cdv A' outer s H E hr tk po =>
    ss_cons (s_if (t_w (w_or (t_not (t_tru (d_fn c_is_between hr tk (d_acons (d_var 1) (d_acons (d_int) (d_acons (d_bin o_sub (d_len T.b_len (d_var 0)) (d_int)) (d_anil))))))) (w_or1 (t_not (t_tru (d_fn c_is_fraction hr tk (d_acons (d_var 2) (d_anil)))))))) (ss_one (s_ret (d_bl))) (ss_nil)) <|
    ss_one (s_ret (d_and (d_fn c_is_at_most hr tk (d_acons (d_ix (d_ix (d_var 0) (d_var 1)) (d_int)) (d_acons (d_var 2) (d_anil)))) (d_one (d_fn c_is_at_most hr tk (d_acons (d_var 2) (d_acons (d_ix (d_ix (d_var 0) (d_var 1)) (d_int)) (d_anil)))))))

abbrev ns_cut_at : List Str := ["piece", "j", "x"]
theorem sc_cut_at : FnScope ["piece", "j", "x"] ["piece", "j", "x"] (defScope s_cut_at) := ⟨rfl, rfl, rfl, by decide +kernel, rfl, by decide +kernel, by decide +kernel⟩
theorem c_cut_at (T : Txt mg) (A : At K mg "cut_at" s_cut_at) (x_NoPoint : ExN K mg xt "NoPoint" "NoPoint") (c_need_piece : Cal P w K mg base xt "need_piece" 6 1 f_need_piece) (c_parted : Cal P w K mg base xt "parted" 1 3 f_parted) (c_is_point_of : Cal P w K mg base xt "is_point_of" 3 3 f_is_point_of) : Cal P w K mg base xt "cut_at" 7 3 f_cut_at :=
  A.cal sc_cut_at (fun _ _ _ _ _ _ us hl => match us, hl with | [_, _, _], _ => rfl) rfl fun f cdv A' outer s H E hr tk po =>
    ss_cons (s_expr (d_fn c_need_piece hr tk (d_acons (d_var 0) (d_anil)))) <|
    ss_cons (s_if (t_not (t_tru (d_fn c_is_point_of hr tk (d_acons (d_var 0) (d_acons (d_var 1) (d_acons (d_var 2) (d_anil))))))) (ss_one (s_rai rfl tk x_NoPoint)) (ss_nil)) <|
    ss_one (s_ret (d_fn c_parted hr tk (d_acons (d_var 0) (d_acons (d_var 1) (d_acons (d_var 2) (d_anil))))))

abbrev ns_is_taste : List Str := ["thing", "ends", "_", "at", "end", "pair", "part"]
theorem sc_is_taste : FnScope ["thing", "ends", "_", "at", "end", "pair", "part"] ["thing"] (defScope s_is_taste) := ⟨rfl, rfl, rfl, by decide +kernel, rfl, by decide +kernel, by decide +kernel⟩
theorem c_is_taste (T : Txt mg) (A : At K mg "is_taste" s_is_taste) (k_ZERO : Con' K mg "ZERO" (.tup [.int 0, .int 1])) (k_ONE : Con' K mg "ONE" (.tup [.int 1, .int 1])) (k_MOST_ENDS : Con' K mg "MOST_ENDS" (.int 60)) (c_total : Cal P w K mg base xt "total" 3 1 f_total) (c_is_below : Cal P w K mg base xt "is_below" 1 2 f_is_below) (c_is_tuple_of : Cal P w K mg base xt "is_tuple_of" 1 2 f_is_tuple_of) (c_is_share : Cal P w K mg base xt "is_share" 3 1 f_is_share) : Cal P w K mg base xt "is_taste" 4 1 f_is_taste :=
  A.cal sc_is_taste (fun _ _ _ _ _ _ us hl => match us, hl with | [_], _ => rfl) rfl fun f cdv A' outer s H E hr tk po =>
    ss_cons (s_if (t_w (w_or (t_not (t_tru (d_isi (T := "tuple") (by decide) T.b_isinstance T.b_tuple (d_var 0)))) (w_or1 (t_not (t_chain o_le o_le (d_int) (d_len T.b_len (d_var 0)) (d_con k_MOST_ENDS)))))) (ss_one (s_ret (d_bl))) (ss_nil)) <|
    ss_cons (s_if (t_not (t_tru (d_b1F (cr_all rfl) lf_all (hm := T.b_all) (h := d_lc rfl sc_is_taste.nd (i_seq (d_var 0)) (blkOk_at (own := [("pair", 5)]) (N := ns_is_taste) (sc := defScope s_is_taste) rfl rfl (by decide +kernel)) (by decide) (fun _ _ _ _ _ => g_name 5 sc_is_taste.nd) (fun _ _ _ _ _ => q_nil) (fun _ _ _ _ _ => d_and (d_fn c_is_tuple_of hr takes0 (d_acons (d_var 5) (d_acons (d_int) (d_anil)))) (d_and (d_fn c_is_share hr takes0 (d_acons (d_ix (d_var 5) (d_int)) (d_anil))) (d_one (d_fn c_is_share hr takes0 (d_acons (d_ix (d_var 5) (d_int)) (d_anil)))))))))) (ss_one (s_ret (d_bl))) (ss_nil)) <|
    ss_cons (s_set 1 sc_is_taste.nd (d_bin o_add (d_keep (d_lstF (d_acons (d_con k_ZERO) (d_anil)))) (d_keep (d_lc rfl sc_is_taste.nd (i_seq (d_var 0)) (blkOk_at (own := [("end", 4), ("_", 2)]) (N := ns_is_taste) (sc := defScope s_is_taste) rfl rfl (by decide +kernel)) (by decide) (fun _ _ _ _ _ => g_tup rfl (g_cons (g_name 4 sc_is_taste.nd) (g_cons (g_name 2 sc_is_taste.nd) (g_nil)))) (fun _ _ _ _ _ => q_nil) (fun _ _ _ _ _ => d_var 4))))) <|
    ss_cons (s_if (t_not (t_tru (d_b1F (cr_all rfl) lf_all (hm := T.b_all) (h := d_lc rfl sc_is_taste.nd (i_rg2 T.b_range (d_int) (d_len T.b_len (d_var 1))) (blkOk_at (own := [("at", 3)]) (N := ns_is_taste) (sc := defScope s_is_taste) rfl rfl (by decide +kernel)) (by decide) (fun _ _ _ _ _ => g_name 3 sc_is_taste.nd) (fun _ _ _ _ _ => q_nil) (fun _ _ _ _ _ => d_fn c_is_below hr takes0 (d_acons (d_ix (d_var 1) (d_bin o_sub (d_var 3) (d_int))) (d_acons (d_ix (d_var 1) (d_var 3)) (d_anil)))))))) (ss_one (s_ret (d_bl))) (ss_nil)) <|
    ss_one (s_ret (d_and (d_cmp (o_eq hr.units) (d_ix (d_var 1) (d_neg (d_int))) (d_con k_ONE) (nomark _)) (d_one (d_cmp (o_eq hr.units) (d_fn c_total hr tk (d_acons (d_keep (d_lc rfl sc_is_taste.nd (i_seq (d_var 0)) (blkOk_at (own := [("_", 2), ("part", 6)]) (N := ns_is_taste) (sc := defScope s_is_taste) rfl rfl (by decide +kernel)) (by decide) (fun _ _ _ _ _ => g_tup rfl (g_cons (g_name 2 sc_is_taste.nd) (g_cons (g_name 6 sc_is_taste.nd) (g_nil)))) (fun _ _ _ _ _ => q_nil) (fun _ _ _ _ _ => d_var 6))) (d_anil))) (d_con k_ONE) (nomark _)))))

abbrev ns_need_taste : List Str := ["thing"]
theorem sc_need_taste : FnScope ["thing"] ["thing"] (defScope s_need_taste) := ⟨rfl, rfl, rfl, by decide +kernel, rfl, by decide +kernel, by decide +kernel⟩
theorem c_need_taste (T : Txt mg) (A : At K mg "need_taste" s_need_taste) (x_NoTaste : ExN K mg xt "NoTaste" "NoTaste") (c_is_taste : Cal P w K mg base xt "is_taste" 4 1 f_is_taste) : Cal P w K mg base xt "need_taste" 5 1 f_need_taste :=
  A.cal sc_need_taste (fun _ _ _ _ _ _ us hl => match us, hl with | [_], _ => rfl) rfl fun f cdv A' outer s H E hr tk po =>
    ss_one (s_if (t_not (t_tru (d_fn c_is_taste hr tk (d_acons (d_var 0) (d_anil))))) (ss_one (s_rai rfl tk x_NoTaste)) (ss_nil))

abbrev ns_worth_up_to : List Str := ["taste", "x", "found", "low", "end", "part"]
theorem sc_worth_up_to : FnScope ["taste", "x", "found", "low", "end", "part"] ["taste", "x"] (defScope s_worth_up_to) := ⟨rfl, rfl, rfl, by decide +kernel, rfl, by decide +kernel, by decide +kernel⟩
theorem c_worth_up_to (T : Txt mg) (A : At K mg "worth_up_to" s_worth_up_to) (k_ZERO : Con' K mg "ZERO" (.tup [.int 0, .int 1])) (c_is_at_most : Cal P w K mg base xt "is_at_most" 1 2 f_is_at_most) (c_add : Cal P w K mg base xt "add" 2 2 f_add) (c_is_below : Cal P w K mg base xt "is_below" 1 2 f_is_below) (c_product : Cal P w K mg base xt "product" 2 2 f_product) (c_ratio : Cal P w K mg base xt "ratio" 2 2 f_ratio) (c_take : Cal P w K mg base xt "take" 3 2 f_take) : Cal P w K mg base xt "worth_up_to" 4 2 f_worth_up_to :=
  A.cal sc_worth_up_to (fun _ _ _ _ _ _ us hl => match us, hl with | [_, _], _ => rfl) rfl fun f cdv A' outer s H E hr tk po =>
    ss_cons (s_par rfl sc_worth_up_to.nd (by decide) (d_acons (d_con k_ZERO) (d_acons (d_con k_ZERO) (d_anil))) (i := 2) (j := 3)) <|
    ss_cons (s_for po rfl (i_seq (d_var 0)) (g_tup rfl (g_cons (g_name 4 sc_worth_up_to.nd) (g_cons (g_name 5 sc_worth_up_to.nd) (g_nil)))) (ss_cons (s_if (t_tru (d_fn c_is_at_most hr tk (d_acons (d_var 4) (d_acons (d_var 1) (d_anil))))) (ss_one (s_set 2 sc_worth_up_to.nd (d_fn c_add hr tk (d_acons (d_var 2) (d_acons (d_var 5) (d_anil)))))) (ss_one (s_if (t_tru (d_fn c_is_below hr tk (d_acons (d_var 3) (d_acons (d_var 1) (d_anil))))) (ss_one (s_set 2 sc_worth_up_to.nd (d_fn c_add hr tk (d_acons (d_var 2) (d_acons (d_fn c_product hr tk (d_acons (d_var 5) (d_acons (d_fn c_ratio hr tk (d_acons (d_fn c_take hr tk (d_acons (d_var 1) (d_acons (d_var 3) (d_anil)))) (d_acons (d_fn c_take hr tk (d_acons (d_var 4) (d_acons (d_var 3) (d_anil)))) (d_anil)))) (d_anil)))) (d_anil)))))) (ss_nil)))) <|
    ss_one (s_set 3 sc_worth_up_to.nd (d_var 4)))) <|
    ss_one (s_ret (d_var 2))

abbrev ns_worth_between : List Str := ["taste", "stretch"]
theorem sc_worth_between : FnScope ["taste", "stretch"] ["taste", "stretch"] (defScope s_worth_between) := ⟨rfl, rfl, rfl, by decide +kernel, rfl, by decide +kernel, by decide +kernel⟩
theorem c_worth_between (T : Txt mg) (A : At K mg "worth_between" s_worth_between) (c_take : Cal P w K mg base xt "take" 3 2 f_take) (c_worth_up_to : Cal P w K mg base xt "worth_up_to" 4 2 f_worth_up_to) : Cal P w K mg base xt "worth_between" 5 2 f_worth_between :=
  A.cal sc_worth_between (fun _ _ _ _ _ _ us hl => match us, hl with | [_, _], _ => rfl) rfl fun f cdv A' outer s H E hr tk po =>
    ss_one (s_ret (d_fn c_take hr tk (d_acons (d_fn c_worth_up_to hr tk (d_acons (d_var 0) (d_acons (d_ix (d_var 1) (d_int)) (d_anil)))) (d_acons (d_fn c_worth_up_to hr tk (d_acons (d_var 0) (d_acons (d_ix (d_var 1) (d_int)) (d_anil)))) (d_anil)))))

abbrev ns_worth_of : List Str := ["taste", "piece", "stretch"]
theorem sc_worth_of : FnScope ["taste", "piece", "stretch"] ["taste", "piece"] (defScope s_worth_of) := ⟨rfl, rfl, rfl, by decide +kernel, rfl, by decide +kernel, by decide +kernel⟩
theorem c_worth_of (T : Txt mg) (A : At K mg "worth_of" s_worth_of) (c_total : Cal P w K mg base xt "total" 3 1 f_total) (c_worth_between : Cal P w K mg base xt "worth_between" 5 2 f_worth_between) : Cal P w K mg base xt "worth_of" 6 2 f_worth_of :=
  A.cal sc_worth_of (fun _ _ _ _ _ _ us hl => match us, hl with | [_, _], _ => rfl) rfl fun f cdv A' outer s H E hr tk po =>
    ss_one (s_ret (d_fn c_total hr tk (d_acons (d_keep (d_lc rfl sc_worth_of.nd (i_seq (d_var 1)) (blkOk_at (own := [("stretch", 2)]) (N := ns_worth_of) (sc := defScope s_worth_of) rfl rfl (by decide +kernel)) (by decide) (fun _ _ _ _ _ => g_name 2 sc_worth_of.nd) (fun _ _ _ _ _ => q_nil) (fun _ _ _ _ _ => d_fn c_worth_between hr takes0 (d_acons (d_var 0) (d_acons (d_var 2) (d_anil)))))) (d_anil))))

abbrev ns_worth : List Str := ["taste", "piece"]
theorem sc_worth : FnScope ["taste", "piece"] ["taste", "piece"] (defScope s_worth) := ⟨rfl, rfl, rfl, by decide +kernel, rfl, by decide +kernel, by decide +kernel⟩
theorem c_worth (T : Txt mg) (A : At K mg "worth" s_worth) (c_need_taste : Cal P w K mg base xt "need_taste" 5 1 f_need_taste) (c_need_piece : Cal P w K mg base xt "need_piece" 6 1 f_need_piece) (c_worth_of : Cal P w K mg base xt "worth_of" 6 2 f_worth_of) : Cal P w K mg base xt "worth" 7 2 f_worth :=
  A.cal sc_worth (fun _ _ _ _ _ _ us hl => match us, hl with | [_, _], _ => rfl) rfl fun f cdv A' outer s H E hr tk po =>
    ss_cons (s_expr (d_fn c_need_taste hr tk (d_acons (d_var 0) (d_anil)))) <|
    ss_cons (s_expr (d_fn c_need_piece hr tk (d_acons (d_var 1) (d_anil)))) <|
    ss_one (s_ret (d_fn c_worth_of hr tk (d_acons (d_var 0) (d_acons (d_var 1) (d_anil)))))

abbrev ns_first_point : List Str := ["taste", "low", "amount", "due", "found", "begin", "end", "part"]
theorem sc_first_point : FnScope ["taste", "low", "amount", "due", "found", "begin", "end", "part"] ["taste", "low", "amount"] (defScope s_first_point) := ⟨rfl, rfl, rfl, by decide +kernel, rfl, by decide +kernel, by decide +kernel⟩
theorem c_first_point (T : Txt mg) (A : At K mg "first_point" s_first_point) (k_ZERO : Con' K mg "ZERO" (.tup [.int 0, .int 1])) (k_ONE : Con' K mg "ONE" (.tup [.int 1, .int 1])) (c_add : Cal P w K mg base xt "add" 2 2 f_add) (c_worth_up_to : Cal P w K mg base xt "worth_up_to" 4 2 f_worth_up_to) (c_is_at_most : Cal P w K mg base xt "is_at_most" 1 2 f_is_at_most) (c_product : Cal P w K mg base xt "product" 2 2 f_product) (c_take : Cal P w K mg base xt "take" 3 2 f_take) (c_ratio : Cal P w K mg base xt "ratio" 2 2 f_ratio) : Cal P w K mg base xt "first_point" 5 3 f_first_point :=
  A.cal sc_first_point (fun _ _ _ _ _ _ us hl => match us, hl with | [_, _, _], _ => rfl) rfl fun f cdv A' outer s H E hr tk po =>
    ss_cons (s_if (t_cmp (o_eq hr.units) (d_var 2) (d_con k_ZERO) (nomark _)) (ss_one (s_ret (d_var 1))) (ss_nil)) <|
    ss_cons (s_set 3 sc_first_point.nd (d_fn c_add hr tk (d_acons (d_fn c_worth_up_to hr tk (d_acons (d_var 0) (d_acons (d_var 1) (d_anil)))) (d_acons (d_var 2) (d_anil))))) <|
    ss_cons (s_par rfl sc_first_point.nd (by decide) (d_acons (d_con k_ZERO) (d_acons (d_con k_ZERO) (d_anil))) (i := 4) (j := 5)) <|
    ss_cons (s_for po rfl (i_seq (d_var 0)) (g_tup rfl (g_cons (g_name 6 sc_first_point.nd) (g_cons (g_name 7 sc_first_point.nd) (g_nil)))) (ss_cons (s_if (t_w (w_and (t_cmp o_gt (d_ix (d_var 7) (d_int)) (d_int) (nomark _)) (w_and1 (t_tru (d_fn c_is_at_most hr tk (d_acons (d_var 3) (d_acons (d_fn c_add hr tk (d_acons (d_var 4) (d_acons (d_var 7) (d_anil)))) (d_anil)))))))) (ss_one (s_ret (d_fn c_add hr tk (d_acons (d_var 5) (d_acons (d_fn c_product hr tk (d_acons (d_fn c_take hr tk (d_acons (d_var 6) (d_acons (d_var 5) (d_anil)))) (d_acons (d_fn c_ratio hr tk (d_acons (d_fn c_take hr tk (d_acons (d_var 3) (d_acons (d_var 4) (d_anil)))) (d_acons (d_var 7) (d_anil)))) (d_anil)))) (d_anil)))))) (ss_nil)) <|
    ss_cons (s_set 4 sc_first_point.nd (d_fn c_add hr tk (d_acons (d_var 4) (d_acons (d_var 7) (d_anil))))) <|
    ss_one (s_set 5 sc_first_point.nd (d_var 6)))) <|
    ss_one (s_ret (d_con k_ONE))

abbrev ns_mark_of : List Str := ["taste", "piece", "amount", "ahead", "j", "stretch", "here"]
theorem sc_mark_of : FnScope ["taste", "piece", "amount", "ahead", "j", "stretch", "here"] ["taste", "piece", "amount"] (defScope s_mark_of) := ⟨rfl, rfl, rfl, by decide +kernel, rfl, by decide +kernel, by decide +kernel⟩
theorem c_mark_of (T : Txt mg) (A : At K mg "mark_of" s_mark_of) (k_ZERO : Con' K mg "ZERO" (.tup [.int 0, .int 1])) (c_worth_between : Cal P w K mg base xt "worth_between" 5 2 f_worth_between) (c_is_at_most : Cal P w K mg base xt "is_at_most" 1 2 f_is_at_most) (c_add : Cal P w K mg base xt "add" 2 2 f_add) (c_first_point : Cal P w K mg base xt "first_point" 5 3 f_first_point) (c_take : Cal P w K mg base xt "take" 3 2 f_take) : Cal P w K mg base xt "mark_of" 6 3 f_mark_of :=
  A.cal sc_mark_of (fun _ _ _ _ _ _ us hl => match us, hl with | [_, _, _], _ => rfl) rfl fun f cdv A' outer s H E hr tk po =>
    ss_cons (s_set 3 sc_mark_of.nd (d_con k_ZERO)) <|
    ss_cons (s_for po rfl (i_enum T.b_enumerate (d_var 1)) (g_tup rfl (g_cons (g_name 4 sc_mark_of.nd) (g_cons (g_name 5 sc_mark_of.nd) (g_nil)))) (ss_cons (s_set 6 sc_mark_of.nd (d_fn c_worth_between hr tk (d_acons (d_var 0) (d_acons (d_var 5) (d_anil))))) <|
    ss_cons (s_if (t_tru (d_fn c_is_at_most hr tk (d_acons (d_var 2) (d_acons (d_fn c_add hr tk (d_acons (d_var 3) (d_acons (d_var 6) (d_anil)))) (d_anil))))) (ss_one (s_ret (d_tup (d_acons (d_var 4) (d_acons (d_fn c_first_point hr tk (d_acons (d_var 0) (d_acons (d_ix (d_var 5) (d_int)) (d_acons (d_fn c_take hr tk (d_acons (d_var 2) (d_acons (d_var 3) (d_anil)))) (d_anil))))) (d_anil)))))) (ss_nil)) <|
    ss_one (s_set 3 sc_mark_of.nd (d_fn c_add hr tk (d_acons (d_var 3) (d_acons (d_var 6) (d_anil))))))) <|
    ss_one (s_ret (d_non))

abbrev ns_mark : List Str := ["taste", "piece", "amount"]
theorem sc_mark : FnScope ["taste", "piece", "amount"] ["taste", "piece", "amount"] (defScope s_mark) := ⟨rfl, rfl, rfl, by decide +kernel, rfl, by decide +kernel, by decide +kernel⟩
theorem c_mark (T : Txt mg) (A : At K mg "mark" s_mark) (x_NoPiece : ExN K mg xt "NoPiece" "NoPiece") (x_NoAmount : ExN K mg xt "NoAmount" "NoAmount") (c_need_taste : Cal P w K mg base xt "need_taste" 5 1 f_need_taste) (c_mark_of : Cal P w K mg base xt "mark_of" 6 3 f_mark_of) (c_is_piece : Cal P w K mg base xt "is_piece" 5 1 f_is_piece) (c_is_fraction : Cal P w K mg base xt "is_fraction" 2 1 f_is_fraction) (c_is_at_most : Cal P w K mg base xt "is_at_most" 1 2 f_is_at_most) (c_worth_of : Cal P w K mg base xt "worth_of" 6 2 f_worth_of) : Cal P w K mg base xt "mark" 7 3 f_mark :=
  A.cal sc_mark (fun _ _ _ _ _ _ us hl => match us, hl with | [_, _, _], _ => rfl) rfl fun f cdv A' outer s H E hr tk po =>
    ss_cons (s_expr (d_fn c_need_taste hr tk (d_acons (d_var 0) (d_anil)))) <|
    ss_cons (s_if (t_w (w_or (t_not (t_tru (d_fn c_is_piece hr tk (d_acons (d_var 1) (d_anil))))) (w_or1 (t_cmp (o_eq hr.units) (d_len T.b_len (d_var 1)) (d_int) (nomark _))))) (ss_one (s_rai rfl tk x_NoPiece)) (ss_nil)) <|
    ss_cons (s_if (t_w (w_or (t_not (t_tru (d_fn c_is_fraction hr tk (d_acons (d_var 2) (d_anil))))) (w_or (t_cmp o_lt (d_ix (d_var 2) (d_int)) (d_int) (nomark _)) (w_or1 (t_not (t_tru (d_fn c_is_at_most hr tk (d_acons (d_var 2) (d_acons (d_fn c_worth_of hr tk (d_acons (d_var 0) (d_acons (d_var 1) (d_anil)))) (d_anil)))))))))) (ss_one (s_rai rfl tk x_NoAmount)) (ss_nil)) <|
    ss_one (s_ret (d_fn c_mark_of hr tk (d_acons (d_var 0) (d_acons (d_var 1) (d_acons (d_var 2) (d_anil))))))

abbrev ns__law_hand : List Str := ["script", "cells", "cell"]
theorem sc__law_hand : FnScope ["script", "cells", "cell"] ["script"] (defScope s__law_hand) := ⟨rfl, rfl, rfl, by decide +kernel, rfl, by decide +kernel, by decide +kernel⟩
theorem c__law_hand (T : Txt mg) (A : At K mg "_law_hand" s__law_hand) : Cal P w K mg base xt "_law_hand" 1 1 f__law_hand :=
  A.cal sc__law_hand (fun _ _ _ _ _ _ us hl => match us, hl with | [_], _ => rfl) rfl fun f cdv A' outer s H E hr tk po =>
    ss_cons (s_setLc rfl sc__law_hand.nd rfl rfl (sw_true rfl rfl rfl (by decide +kernel)) (i_seq (d_slice (d_var 0) (p_none) (p_some (d_int)))) (blkOk_at (own := [("cell", 2)]) (N := ns__law_hand) (sc := defScope s__law_hand) rfl rfl (by decide +kernel)) (by decide) (fun _ _ _ _ _ => g_name 2 sc__law_hand.nd) (fun _ _ _ _ _ => q_nil) (fun _ _ _ _ _ => d_abs T.b_abs (d_intOf T.b_int (d_var 2)))) <|
    ss_one (s_ret (d_keep (d_lstF (d_acons (d_var 1) (d_acons (d_int) (d_acons (d_int) (d_acons (d_bin o_add (d_int) (d_bin o_mul (d_int) (d_len T.b_len (d_var 1)))) (d_acons (d_int) (d_anil)))))))))

abbrev ns__law_draw : List Str := ["hand", "many", "cell", "digit", "number"]
theorem sc__law_draw : FnScope ["hand", "many", "cell", "digit", "number"] ["hand", "many"] (defScope s__law_draw) := ⟨rfl, rfl, rfl, by decide +kernel, rfl, by decide +kernel, by decide +kernel⟩
theorem c__law_draw (T : Txt mg) (A : At K mg "_law_draw" s__law_draw) : Cal P w K mg base xt "_law_draw" 1 2 f__law_draw :=
  A.cal sc__law_draw (fun _ _ _ _ _ _ us hl => match us, hl with | [_, _], _ => rfl) rfl fun f cdv A' outer s H E hr tk po =>
    ss_cons (s_if (t_w (w_and (t_cmp (o_eq hr.units) (d_ix (d_var 0) (d_int)) (d_int) (nomark _)) (w_and1 (t_cmp o_lt (d_ix (d_var 0) (d_int)) (d_len T.b_len (d_ix (d_var 0) (d_int))) (nomark _))))) (ss_cons (s_set 2 sc__law_draw.nd (d_ix (d_ix (d_var 0) (d_int)) (d_ix (d_var 0) (d_int)))) <|
    ss_cons (s_sub (d_var 0) (d_int) (d_bin o_add (d_ix (d_var 0) (d_int)) (d_int))) <|
    ss_cons (s_sub (d_var 0) (d_int) (d_bin o_mod (d_intOf T.b_int (d_bin o_add (d_bin o_add (d_bin o_mul (d_ix (d_var 0) (d_int)) (d_int)) (d_var 2)) (d_int))) (d_int))) <|
    ss_one (s_if (t_cmp o_ge (d_var 2) (d_bin o_pow (d_int) (d_int)) (nomark _)) (ss_one (s_sub (d_var 0) (d_int) (d_var 2))) (ss_nil))) (ss_nil)) <|
    ss_cons (s_if (t_cmp o_gt (d_ix (d_var 0) (d_int)) (d_int) (nomark _)) (ss_cons (s_set 3 sc__law_draw.nd (d_bin o_mod (d_intOf T.b_int (d_ix (d_var 0) (d_int))) (d_var 1))) <|
    ss_cons (s_sub (d_var 0) (d_int) (d_bin o_fdiv (d_ix (d_var 0) (d_int)) (d_var 1))) <|
    ss_one (s_ret (d_var 3))) (ss_nil)) <|
    ss_cons (s_sub (d_var 0) (d_int) (d_bin o_add (d_ix (d_var 0) (d_int)) (d_int))) <|
    ss_cons (s_set 4 sc__law_draw.nd (d_bin o_mod (d_intOf T.b_int (d_bin o_mul (d_intOf T.b_int (d_bin o_add (d_ix (d_var 0) (d_int)) (d_bin o_mul (d_int) (d_ix (d_var 0) (d_int))))) (d_int))) (d_int))) <|
    ss_cons (s_set 4 sc__law_draw.nd (d_bin o_mod (d_intOf T.b_int (d_bin o_mul (d_var 4) (d_bin o_add (d_bin o_fdiv (d_var 4) (d_int)) (d_int)))) (d_int))) <|
    ss_cons (s_set 4 sc__law_draw.nd (d_bin o_mod (d_intOf T.b_int (d_bin o_mul (d_var 4) (d_bin o_add (d_bin o_fdiv (d_var 4) (d_int)) (d_int)))) (d_int))) <|
    ss_one (s_ret (d_bin o_mod (d_intOf T.b_int (d_bin o_fdiv (d_var 4) (d_int))) (d_var 1)))

abbrev ns__law_kept : List Str := ["told", "due", "at"]
theorem sc__law_kept : FnScope ["told", "due", "at"] ["told", "due"] (defScope s__law_kept) := ⟨rfl, rfl, rfl, by decide +kernel, rfl, by decide +kernel, by decide +kernel⟩
theorem c__law_kept_n (T : Txt mg) (A : At K mg "_law_kept" s__law_kept) : ∀ n : Nat, Cal P w K mg base xt "_law_kept" (1 + n) 2 (f__law_kept_n n)
  | 0 => A.bad (ps := ["told", "due"]) (fun _ _ _ _ _ _ us hl => match us, hl with | [_, _], _ => rfl) rfl
  | n + 1 => A.cal sc__law_kept (fun _ _ _ _ _ _ us hl => match us, hl with | [_, _], _ => rfl) rfl fun f cdv A' outer s H E hr tk po =>
    have c_rec := c__law_kept_n T A  n
    ss_cons (s_if (t_w (w_or (t_tru (d_isi (T := "tuple") (by decide) T.b_isinstance T.b_tuple (d_var 1))) (w_or1 (t_tru (d_isi (T := "list") (by decide) T.b_isinstance T.b_list (d_var 1)))))) (ss_cons (s_if (t_w (w_or (t_cmp (o_ne hr.units) (d_isi (T := "tuple") (by decide) T.b_isinstance T.b_tuple (d_var 0)) (d_isi (T := "tuple") (by decide) T.b_isinstance T.b_tuple (d_var 1)) (nomark _)) (w_or1 (t_cmp (o_ne hr.units) (d_isi (T := "list") (by decide) T.b_isinstance T.b_list (d_var 0)) (d_isi (T := "list") (by decide) T.b_isinstance T.b_list (d_var 1)) (nomark _))))) (ss_one (s_ret (d_bl))) (ss_nil)) <|
    ss_one (s_ret (d_and (d_cmp (o_eq hr.units) (d_len T.b_len (d_var 0)) (d_len T.b_len (d_var 1)) (nomark _)) (d_one (d_b1F (cr_all rfl) lf_all (hm := T.b_all) (h := d_lc rfl sc__law_kept.nd (i_rg1 T.b_range (d_len T.b_len (d_var 1))) (blkOk_at (own := [("at", 2)]) (N := ns__law_kept) (sc := defScope s__law_kept) rfl rfl (by decide +kernel)) (by decide) (fun _ _ _ _ _ => g_name 2 sc__law_kept.nd) (fun _ _ _ _ _ => q_nil) (fun _ _ _ _ _ => d_fn c_rec hr takes0 (d_acons (d_ix (d_var 0) (d_var 2)) (d_acons (d_ix (d_var 1) (d_var 2)) (d_anil))) (Nat.le_refl _)))))))) (ss_nil)) <|
    ss_cons (s_if (t_cmp o_is (d_var 1) (d_non) (nomark _)) (ss_one (s_ret (d_cmp o_is (d_var 0) (d_non) (nomark _)))) (ss_nil)) <|
    ss_cons (s_if (t_tru (d_isi (T := "bool") (by decide) T.b_isinstance T.b_bool (d_var 1))) (ss_one (s_ret (d_if (t_tru (d_var 1)) (d_cmp o_is (d_var 0) (d_bl) (nomark _)) (d_cmp o_is (d_var 0) (d_bl) (nomark _))))) (ss_nil)) <|
    ss_cons (s_if (t_tru (d_isi (T := "int") (by decide) T.b_isinstance T.b_int (d_var 1))) (ss_one (s_ret (d_and (d_isi (T := "int") (by decide) T.b_isinstance T.b_int (d_var 0)) (d_and (d_not (d_isi (T := "bool") (by decide) T.b_isinstance T.b_bool (d_var 0))) (d_one (d_cmp (o_eq hr.units) (d_var 0) (d_var 1) (nomark _))))))) (ss_nil)) <|
    ss_one (s_ret (d_and (d_isi (T := "str") (by decide) T.b_isinstance T.b_str (d_var 0)) (d_one (d_cmp (o_eq hr.units) (d_var 0) (d_var 1) (nomark _)))))
theorem c__law_kept (T : Txt mg) (A : At K mg "_law_kept" s__law_kept) : Cal P w K mg base xt "_law_kept" 25 2 f__law_kept := c__law_kept_n T A  24

abbrev ns__law_mixed : List Str := ["hand", "things", "left", "found"]
theorem sc__law_mixed : FnScope ["hand", "things", "left", "found"] ["hand", "things"] (defScope s__law_mixed) := ⟨rfl, rfl, rfl, by decide +kernel, rfl, by decide +kernel, by decide +kernel⟩
theorem c__law_mixed (T : Txt mg) (A : At K mg "_law_mixed" s__law_mixed) (c__law_draw : Cal P w K mg base xt "_law_draw" 1 2 f__law_draw) : Cal P w K mg base xt "_law_mixed" 2 2 f__law_mixed :=
  A.cal sc__law_mixed (fun _ _ _ _ _ _ us hl => match us, hl with | [_, _], _ => rfl) rfl fun f cdv A' outer s H E hr tk po =>
    ss_cons (s_par rfl sc__law_mixed.nd (by decide) (d_acons (d_keep (d_listOf T.b_list (d_var 1))) (d_acons (d_keep (d_lstF (d_anil))) (d_anil))) (i := 2) (j := 3)) <|
    ss_cons (s_while WF po (t_cmp o_gt (d_len T.b_len (d_var 2)) (d_int) (nomark _)) (ss_one (s_expr (d_append (d_var 3) (d_popAt (d_var 2) (d_fn c__law_draw hr tk (d_acons (d_var 0) (d_acons (d_len T.b_len (d_var 2)) (d_anil))))))))) <|
    ss_one (s_ret (d_var 3))

abbrev ns__law_part : List Str := ["top", "bottom", "one", "other"]
theorem sc__law_part : FnScope ["top", "bottom", "one", "other"] ["top", "bottom"] (defScope s__law_part) := ⟨rfl, rfl, rfl, by decide +kernel, rfl, by decide +kernel, by decide +kernel⟩
theorem c__law_part (T : Txt mg) (A : At K mg "_law_part" s__law_part) : Cal P w K mg base xt "_law_part" 1 2 f__law_part :=
  A.cal sc__law_part (fun _ _ _ _ _ _ us hl => match us, hl with | [_, _], _ => rfl) rfl fun f cdv A' outer s H E hr tk po =>
    ss_cons (s_par rfl sc__law_part.nd (by decide) (d_acons (d_abs T.b_abs (d_var 0)) (d_acons (d_var 1) (d_anil))) (i := 2) (j := 3)) <|
    ss_cons (s_while WF po (t_cmp o_gt (d_var 3) (d_int) (nomark _)) (ss_one (s_par rfl sc__law_part.nd (by decide) (d_acons (d_var 3) (d_acons (d_bin o_mod (d_intOf T.b_int (d_var 2)) (d_var 3)) (d_anil))) (i := 2) (j := 3)))) <|
    ss_one (s_ret (d_tup (d_acons (d_bin o_fdiv (d_var 0) (d_var 2)) (d_acons (d_bin o_fdiv (d_var 1) (d_var 2)) (d_anil)))))

abbrev ns__law_plus : List Str := ["one", "other"]
theorem sc__law_plus : FnScope ["one", "other"] ["one", "other"] (defScope s__law_plus) := ⟨rfl, rfl, rfl, by decide +kernel, rfl, by decide +kernel, by decide +kernel⟩
theorem c__law_plus (T : Txt mg) (A : At K mg "_law_plus" s__law_plus) (c__law_part : Cal P w K mg base xt "_law_part" 1 2 f__law_part) : Cal P w K mg base xt "_law_plus" 2 2 f__law_plus :=
  A.cal sc__law_plus (fun _ _ _ _ _ _ us hl => match us, hl with | [_, _], _ => rfl) rfl fun f cdv A' outer s H E hr tk po =>
    ss_one (s_ret (d_fn c__law_part hr tk (d_acons (d_bin o_add (d_bin o_mul (d_ix (d_var 0) (d_int)) (d_ix (d_var 1) (d_int))) (d_bin o_mul (d_ix (d_var 1) (d_int)) (d_ix (d_var 0) (d_int)))) (d_acons (d_bin o_mul (d_ix (d_var 0) (d_int)) (d_ix (d_var 1) (d_int))) (d_anil)))))

abbrev ns__law_minus : List Str := ["one", "other"]
theorem sc__law_minus : FnScope ["one", "other"] ["one", "other"] (defScope s__law_minus) := ⟨rfl, rfl, rfl, by decide +kernel, rfl, by decide +kernel, by decide +kernel⟩
theorem c__law_minus (T : Txt mg) (A : At K mg "_law_minus" s__law_minus) (c__law_part : Cal P w K mg base xt "_law_part" 1 2 f__law_part) : Cal P w K mg base xt "_law_minus" 2 2 f__law_minus :=
  A.cal sc__law_minus (fun _ _ _ _ _ _ us hl => match us, hl with | [_, _], _ => rfl) rfl fun f cdv A' outer s H E hr tk po =>
    ss_one (s_ret (d_fn c__law_part hr tk (d_acons (d_bin o_sub (d_bin o_mul (d_ix (d_var 0) (d_int)) (d_ix (d_var 1) (d_int))) (d_bin o_mul (d_ix (d_var 1) (d_int)) (d_ix (d_var 0) (d_int)))) (d_acons (d_bin o_mul (d_ix (d_var 0) (d_int)) (d_ix (d_var 1) (d_int))) (d_anil)))))

abbrev ns__law_times : List Str := ["one", "other"]
theorem sc__law_times : FnScope ["one", "other"] ["one", "other"] (defScope s__law_times) := ⟨rfl, rfl, rfl, by decide +kernel, rfl, by decide +kernel, by decide +kernel⟩
theorem c__law_times (T : Txt mg) (A : At K mg "_law_times" s__law_times) (c__law_part : Cal P w K mg base xt "_law_part" 1 2 f__law_part) : Cal P w K mg base xt "_law_times" 2 2 f__law_times :=
  A.cal sc__law_times (fun _ _ _ _ _ _ us hl => match us, hl with | [_, _], _ => rfl) rfl fun f cdv A' outer s H E hr tk po =>
    ss_one (s_ret (d_fn c__law_part hr tk (d_acons (d_bin o_mul (d_ix (d_var 0) (d_int)) (d_ix (d_var 1) (d_int))) (d_acons (d_bin o_mul (d_ix (d_var 0) (d_int)) (d_ix (d_var 1) (d_int))) (d_anil)))))

abbrev ns__law_over : List Str := ["one", "other"]
theorem sc__law_over : FnScope ["one", "other"] ["one", "other"] (defScope s__law_over) := ⟨rfl, rfl, rfl, by decide +kernel, rfl, by decide +kernel, by decide +kernel⟩
theorem c__law_over (T : Txt mg) (A : At K mg "_law_over" s__law_over) (c__law_part : Cal P w K mg base xt "_law_part" 1 2 f__law_part) : Cal P w K mg base xt "_law_over" 2 2 f__law_over :=
  A.cal sc__law_over (fun _ _ _ _ _ _ us hl => match us, hl with | [_, _], _ => rfl) rfl fun f cdv A' outer s H E hr tk po =>
    ss_cons (s_if (t_cmp o_lt (d_ix (d_var 1) (d_int)) (d_int) (nomark _)) (ss_one (s_ret (d_fn c__law_part hr tk (d_acons (d_bin o_sub (d_int) (d_bin o_mul (d_ix (d_var 0) (d_int)) (d_ix (d_var 1) (d_int)))) (d_acons (d_bin o_sub (d_int) (d_bin o_mul (d_ix (d_var 0) (d_int)) (d_ix (d_var 1) (d_int)))) (d_anil)))))) (ss_nil)) <|
    ss_one (s_ret (d_fn c__law_part hr tk (d_acons (d_bin o_mul (d_ix (d_var 0) (d_int)) (d_ix (d_var 1) (d_int))) (d_acons (d_bin o_mul (d_ix (d_var 0) (d_int)) (d_ix (d_var 1) (d_int))) (d_anil)))))

abbrev ns__law_less : List Str := ["one", "other"]
theorem sc__law_less : FnScope ["one", "other"] ["one", "other"] (defScope s__law_less) := ⟨rfl, rfl, rfl, by decide +kernel, rfl, by decide +kernel, by decide +kernel⟩
theorem c__law_less (T : Txt mg) (A : At K mg "_law_less" s__law_less) : Cal P w K mg base xt "_law_less" 1 2 f__law_less :=
  A.cal sc__law_less (fun _ _ _ _ _ _ us hl => match us, hl with | [_, _], _ => rfl) rfl fun f cdv A' outer s H E hr tk po =>
    ss_one (s_ret (d_cmp o_lt (d_bin o_mul (d_ix (d_var 0) (d_int)) (d_ix (d_var 1) (d_int))) (d_bin o_mul (d_ix (d_var 1) (d_int)) (d_ix (d_var 0) (d_int))) (nomark _)))

abbrev ns__law_sum : List Str := ["many", "found", "here"]
theorem sc__law_sum : FnScope ["many", "found", "here"] ["many"] (defScope s__law_sum) := ⟨rfl, rfl, rfl, by decide +kernel, rfl, by decide +kernel, by decide +kernel⟩
theorem c__law_sum (T : Txt mg) (A : At K mg "_law_sum" s__law_sum) (c__law_plus : Cal P w K mg base xt "_law_plus" 2 2 f__law_plus) : Cal P w K mg base xt "_law_sum" 3 1 f__law_sum :=
  A.cal sc__law_sum (fun _ _ _ _ _ _ us hl => match us, hl with | [_], _ => rfl) rfl fun f cdv A' outer s H E hr tk po =>
    ss_cons (s_set 1 sc__law_sum.nd (d_tup (d_acons (d_int) (d_acons (d_int) (d_anil))))) <|
    ss_cons (s_for po rfl (i_seq (d_var 0)) (g_name 2 sc__law_sum.nd) (ss_one (s_set 1 sc__law_sum.nd (d_fn c__law_plus hr tk (d_acons (d_var 1) (d_acons (d_var 2) (d_anil))))))) <|
    ss_one (s_ret (d_var 1))

abbrev ns__law_piece : List Str := ["hand", "most", "bottom", "rows", "low", "step", "begin", "end"]
theorem sc__law_piece : FnScope ["hand", "most", "bottom", "rows", "low", "step", "begin", "end"] ["hand", "most"] (defScope s__law_piece) := ⟨rfl, rfl, rfl, by decide +kernel, rfl, by decide +kernel, by decide +kernel⟩
theorem c__law_piece (T : Txt mg) (A : At K mg "_law_piece" s__law_piece) (c__law_draw : Cal P w K mg base xt "_law_draw" 1 2 f__law_draw) (c__law_part : Cal P w K mg base xt "_law_part" 1 2 f__law_part) : Cal P w K mg base xt "_law_piece" 2 2 f__law_piece :=
  A.cal sc__law_piece (fun _ _ _ _ _ _ us hl => match us, hl with | [_, _], _ => rfl) rfl fun f cdv A' outer s H E hr tk po =>
    ss_cons (s_par3 rfl sc__law_piece.nd (by decide) (by decide) (by decide) (d_acons (d_bin o_add (d_int) (d_fn c__law_draw hr tk (d_acons (d_var 0) (d_acons (d_int) (d_anil))))) (d_acons (d_keep (d_lstF (d_anil))) (d_acons (d_int) (d_anil)))) (i := 2) (j := 3) (k := 4)) <|
    ss_cons (s_for po rfl (i_rg1 T.b_range (d_fn c__law_draw hr tk (d_acons (d_var 0) (d_acons (d_bin o_add (d_var 1) (d_int)) (d_anil))))) (g_name 5 sc__law_piece.nd) (ss_cons (s_set 6 sc__law_piece.nd (d_bin o_add (d_var 4) (d_fn c__law_draw hr tk (d_acons (d_var 0) (d_acons (d_bin o_add (d_bin o_sub (d_var 2) (d_var 4)) (d_int)) (d_anil)))))) <|
    ss_cons (s_set 7 sc__law_piece.nd (d_if (t_cmp o_gt (d_fn c__law_draw hr tk (d_acons (d_var 0) (d_acons (d_int) (d_anil)))) (d_int) (nomark _)) (d_bin o_add (d_var 6) (d_fn c__law_draw hr tk (d_acons (d_var 0) (d_acons (d_bin o_add (d_bin o_sub (d_var 2) (d_var 6)) (d_int)) (d_anil))))) (d_var 6))) <|
    ss_cons (s_expr (d_append (d_var 3) (d_tup (d_acons (d_fn c__law_part hr tk (d_acons (d_var 6) (d_acons (d_var 2) (d_anil)))) (d_acons (d_fn c__law_part hr tk (d_acons (d_var 7) (d_acons (d_var 2) (d_anil)))) (d_anil)))))) <|
    ss_one (s_set 4 sc__law_piece.nd (d_var 7)))) <|
    ss_one (s_ret (d_tupOf T.b_tuple (d_var 3)))

abbrev ns__law_taste : List Str := ["hand", "many", "left", "bottom", "ends", "found", "at", "part"]
theorem sc__law_taste : FnScope ["hand", "many", "left", "bottom", "ends", "found", "at", "part"] ["hand"] (defScope s__law_taste) := ⟨rfl, rfl, rfl, by decide +kernel, rfl, by decide +kernel, by decide +kernel⟩
theorem c__law_taste (T : Txt mg) (A : At K mg "_law_taste" s__law_taste) (c__law_draw : Cal P w K mg base xt "_law_draw" 1 2 f__law_draw) (c__law_mixed : Cal P w K mg base xt "_law_mixed" 2 2 f__law_mixed) (c__law_part : Cal P w K mg base xt "_law_part" 1 2 f__law_part) : Cal P w K mg base xt "_law_taste" 3 1 f__law_taste :=
  A.cal sc__law_taste (fun _ _ _ _ _ _ us hl => match us, hl with | [_], _ => rfl) rfl fun f cdv A' outer s H E hr tk po =>
    ss_cons (s_par3 rfl sc__law_taste.nd (by decide) (by decide) (by decide) (d_acons (d_bin o_add (d_int) (d_fn c__law_draw hr tk (d_acons (d_var 0) (d_acons (d_int) (d_anil))))) (d_acons (d_int) (d_acons (d_int) (d_anil)))) (i := 1) (j := 2) (k := 3)) <|
    ss_cons (s_set 4 sc__law_taste.nd (d_bin o_add (d_keep (d_sorted T.b_sorted (d_slice (d_fn c__law_mixed hr tk (d_acons (d_var 0) (d_acons (d_keep (d_listRg2 rfl T.b_list T.b_range (d_int) (d_var 3))) (d_anil)))) (p_none) (p_some (d_bin o_sub (d_var 1) (d_int)))))) (d_keep (d_lstF (d_acons (d_var 3) (d_anil)))))) <|
    ss_cons (s_set 5 sc__law_taste.nd (d_keep (d_lstF (d_anil)))) <|
    ss_cons (s_for po rfl (i_rg1 T.b_range (d_var 1)) (g_name 6 sc__law_taste.nd) (ss_cons (s_set 7 sc__law_taste.nd (d_if (t_cmp (o_eq hr.units) (d_var 6) (d_bin o_sub (d_var 1) (d_int)) (nomark _)) (d_var 2) (d_fn c__law_draw hr tk (d_acons (d_var 0) (d_acons (d_bin o_add (d_var 2) (d_int)) (d_anil)))))) <|
    ss_cons (s_expr (d_append (d_var 5) (d_tup (d_acons (d_fn c__law_part hr tk (d_acons (d_ix (d_var 4) (d_var 6)) (d_acons (d_var 3) (d_anil)))) (d_acons (d_fn c__law_part hr tk (d_acons (d_var 7) (d_acons (d_int) (d_anil)))) (d_anil)))))) <|
    ss_one (s_set 2 sc__law_taste.nd (d_bin o_sub (d_var 2) (d_var 7))))) <|
    ss_one (s_ret (d_tupOf T.b_tuple (d_var 5)))

abbrev ns__law_up_to : List Str := ["taste", "x", "found", "low", "end", "part"]
theorem sc__law_up_to : FnScope ["taste", "x", "found", "low", "end", "part"] ["taste", "x"] (defScope s__law_up_to) := ⟨rfl, rfl, rfl, by decide +kernel, rfl, by decide +kernel, by decide +kernel⟩
theorem c__law_up_to (T : Txt mg) (A : At K mg "_law_up_to" s__law_up_to) (c__law_less : Cal P w K mg base xt "_law_less" 1 2 f__law_less) (c__law_plus : Cal P w K mg base xt "_law_plus" 2 2 f__law_plus) (c__law_times : Cal P w K mg base xt "_law_times" 2 2 f__law_times) (c__law_over : Cal P w K mg base xt "_law_over" 2 2 f__law_over) (c__law_minus : Cal P w K mg base xt "_law_minus" 2 2 f__law_minus) : Cal P w K mg base xt "_law_up_to" 3 2 f__law_up_to :=
  A.cal sc__law_up_to (fun _ _ _ _ _ _ us hl => match us, hl with | [_, _], _ => rfl) rfl fun f cdv A' outer s H E hr tk po =>
    ss_cons (s_asg (d_tup (d_acons (d_tup (d_acons (d_int) (d_acons (d_int) (d_anil)))) (d_acons (d_tup (d_acons (d_int) (d_acons (d_int) (d_anil)))) (d_anil)))) (g_tup rfl (g_cons (g_name 2 sc__law_up_to.nd) (g_cons (g_name 3 sc__law_up_to.nd) (g_nil))))) <|
    ss_cons (s_for po rfl (i_seq (d_var 0)) (g_tup rfl (g_cons (g_name 4 sc__law_up_to.nd) (g_cons (g_name 5 sc__law_up_to.nd) (g_nil)))) (ss_cons (s_if (t_not (t_tru (d_fn c__law_less hr tk (d_acons (d_var 1) (d_acons (d_var 4) (d_anil)))))) (ss_one (s_set 2 sc__law_up_to.nd (d_fn c__law_plus hr tk (d_acons (d_var 2) (d_acons (d_var 5) (d_anil)))))) (ss_one (s_if (t_tru (d_fn c__law_less hr tk (d_acons (d_var 3) (d_acons (d_var 1) (d_anil))))) (ss_one (s_set 2 sc__law_up_to.nd (d_fn c__law_plus hr tk (d_acons (d_var 2) (d_acons (d_fn c__law_times hr tk (d_acons (d_var 5) (d_acons (d_fn c__law_over hr tk (d_acons (d_fn c__law_minus hr tk (d_acons (d_var 1) (d_acons (d_var 3) (d_anil)))) (d_acons (d_fn c__law_minus hr tk (d_acons (d_var 4) (d_acons (d_var 3) (d_anil)))) (d_anil)))) (d_anil)))) (d_anil)))))) (ss_nil)))) <|
    ss_one (s_set 3 sc__law_up_to.nd (d_var 4)))) <|
    ss_one (s_ret (d_var 2))

abbrev ns__law_worth : List Str := ["taste", "piece", "high", "low"]
theorem sc__law_worth : FnScope ["taste", "piece", "high", "low"] ["taste", "piece"] (defScope s__law_worth) := ⟨rfl, rfl, rfl, by decide +kernel, rfl, by decide +kernel, by decide +kernel⟩
theorem c__law_worth (T : Txt mg) (A : At K mg "_law_worth" s__law_worth) (c__law_sum : Cal P w K mg base xt "_law_sum" 3 1 f__law_sum) (c__law_minus : Cal P w K mg base xt "_law_minus" 2 2 f__law_minus) (c__law_up_to : Cal P w K mg base xt "_law_up_to" 3 2 f__law_up_to) : Cal P w K mg base xt "_law_worth" 4 2 f__law_worth :=
  A.cal sc__law_worth (fun _ _ _ _ _ _ us hl => match us, hl with | [_, _], _ => rfl) rfl fun f cdv A' outer s H E hr tk po =>
    ss_one (s_ret (d_fn c__law_sum hr tk (d_acons (d_keep (d_lc rfl sc__law_worth.nd (i_seq (d_var 1)) (blkOk_at (own := [("low", 3), ("high", 2)]) (N := ns__law_worth) (sc := defScope s__law_worth) rfl rfl (by decide +kernel)) (by decide) (fun _ _ _ _ _ => g_tup rfl (g_cons (g_name 3 sc__law_worth.nd) (g_cons (g_name 2 sc__law_worth.nd) (g_nil)))) (fun _ _ _ _ _ => q_nil) (fun _ _ _ _ _ => d_fn c__law_minus hr takes0 (d_acons (d_fn c__law_up_to hr takes0 (d_acons (d_var 0) (d_acons (d_var 2) (d_anil)))) (d_acons (d_fn c__law_up_to hr takes0 (d_acons (d_var 0) (d_acons (d_var 3) (d_anil)))) (d_anil)))))) (d_anil))))

abbrev ns__law_mark : List Str := ["taste", "piece", "amount", "ahead", "j", "low", "high", "places", "at", "here", "before", "share", "end", "part"]
theorem sc__law_mark : FnScope ["taste", "piece", "amount", "ahead", "j", "low", "high", "places", "at", "here", "before", "share", "end", "part"] ["taste", "piece", "amount"] (defScope s__law_mark) := ⟨rfl, rfl, rfl, by decide +kernel, rfl, by decide +kernel, by decide +kernel⟩
theorem c__law_mark (T : Txt mg) (A : At K mg "_law_mark" s__law_mark) (c__law_plus : Cal P w K mg base xt "_law_plus" 2 2 f__law_plus) (c__law_worth : Cal P w K mg base xt "_law_worth" 4 2 f__law_worth) (c__law_less : Cal P w K mg base xt "_law_less" 1 2 f__law_less) (c__law_over : Cal P w K mg base xt "_law_over" 2 2 f__law_over) (c__law_minus : Cal P w K mg base xt "_law_minus" 2 2 f__law_minus) (c__law_times : Cal P w K mg base xt "_law_times" 2 2 f__law_times) : Cal P w K mg base xt "_law_mark" 5 3 f__law_mark :=
  A.cal sc__law_mark (fun _ _ _ _ _ _ us hl => match us, hl with | [_, _, _], _ => rfl) rfl fun f cdv A' outer s H E hr tk po =>
    ss_cons (s_set 3 sc__law_mark.nd (d_tup (d_acons (d_int) (d_acons (d_int) (d_anil))))) <|
    ss_cons (s_for po rfl (i_rg1 T.b_range (d_len T.b_len (d_var 1))) (g_name 4 sc__law_mark.nd) (ss_cons (s_asg (d_ix (d_var 1) (d_var 4)) (g_tup rfl (g_cons (g_name 5 sc__law_mark.nd) (g_cons (g_name 6 sc__law_mark.nd) (g_nil))))) <|
    ss_cons (s_set 7 sc__law_mark.nd (d_bin o_add (d_bin o_add (d_keep (d_lstF (d_acons (d_var 5) (d_anil)))) (d_keep (d_lc rfl sc__law_mark.nd (i_seq (d_var 0)) (blkOk_at (own := [("end", 12), ("part", 13)]) (N := ns__law_mark) (sc := defScope s__law_mark) rfl rfl (by decide +kernel)) (by decide) (fun _ _ _ _ _ => g_tup rfl (g_cons (g_name 12 sc__law_mark.nd) (g_cons (g_name 13 sc__law_mark.nd) (g_nil)))) (fun _ _ _ _ _ => q_one (t_w (w_and (t_tru (d_fn c__law_less hr takes0 (d_acons (d_var 5) (d_acons (d_var 12) (d_anil))))) (w_and1 (t_tru (d_fn c__law_less hr takes0 (d_acons (d_var 12) (d_acons (d_var 6) (d_anil))))))))) (fun _ _ _ _ _ => d_var 12)))) (d_keep (d_lstF (d_acons (d_var 6) (d_anil)))))) <|
    ss_cons (s_for po rfl (i_rg1 T.b_range (d_len T.b_len (d_var 7))) (g_name 8 sc__law_mark.nd) (ss_cons (s_set 9 sc__law_mark.nd (d_fn c__law_plus hr tk (d_acons (d_var 3) (d_acons (d_fn c__law_worth hr tk (d_acons (d_var 0) (d_acons (d_tup (d_acons (d_tup (d_acons (d_var 5) (d_acons (d_ix (d_var 7) (d_var 8)) (d_anil)))) (d_anil))) (d_anil)))) (d_anil))))) <|
    ss_one (s_if (t_not (t_tru (d_fn c__law_less hr tk (d_acons (d_var 9) (d_acons (d_var 2) (d_anil)))))) (ss_cons (s_if (t_cmp (o_eq hr.units) (d_var 8) (d_int) (nomark _)) (ss_one (s_ret (d_tup (d_acons (d_var 4) (d_acons (d_var 5) (d_anil)))))) (ss_nil)) <|
    ss_cons (s_set 10 sc__law_mark.nd (d_fn c__law_plus hr tk (d_acons (d_var 3) (d_acons (d_fn c__law_worth hr tk (d_acons (d_var 0) (d_acons (d_tup (d_acons (d_tup (d_acons (d_var 5) (d_acons (d_ix (d_var 7) (d_bin o_sub (d_var 8) (d_int))) (d_anil)))) (d_anil))) (d_anil)))) (d_anil))))) <|
    ss_cons (s_set 11 sc__law_mark.nd (d_fn c__law_over hr tk (d_acons (d_fn c__law_minus hr tk (d_acons (d_var 2) (d_acons (d_var 10) (d_anil)))) (d_acons (d_fn c__law_minus hr tk (d_acons (d_var 9) (d_acons (d_var 10) (d_anil)))) (d_anil))))) <|
    ss_one (s_ret (d_tup (d_acons (d_var 4) (d_acons (d_fn c__law_plus hr tk (d_acons (d_ix (d_var 7) (d_bin o_sub (d_var 8) (d_int))) (d_acons (d_fn c__law_times hr tk (d_acons (d_var 11) (d_acons (d_fn c__law_minus hr tk (d_acons (d_ix (d_var 7) (d_var 8)) (d_acons (d_ix (d_var 7) (d_bin o_sub (d_var 8) (d_int))) (d_anil)))) (d_anil)))) (d_anil)))) (d_anil)))))) (ss_nil)))) <|
    ss_one (s_set 3 sc__law_mark.nd (d_fn c__law_plus hr tk (d_acons (d_var 3) (d_acons (d_fn c__law_worth hr tk (d_acons (d_var 0) (d_acons (d_tup (d_acons (d_tup (d_acons (d_var 5) (d_acons (d_var 6) (d_anil)))) (d_anil))) (d_anil)))) (d_anil))))))) <|
    ss_one (s_ret (d_non))

abbrev ns__law_refusal : List Str := ["taste", "piece", "amount", "e"]
theorem sc__law_refusal : FnScope ["taste", "piece", "amount", "e"] ["taste", "piece", "amount"] (defScope s__law_refusal) := ⟨rfl, rfl, rfl, by decide +kernel, rfl, by decide +kernel, by decide +kernel⟩
theorem c__law_refusal (T : Txt mg) (A : At K mg "_law_refusal" s__law_refusal) (x_ShareError : ExB K mg xt "ShareError" "ShareError") (x_NoPiece : ExN K mg xt "NoPiece" "NoPiece") (x_NoTaste : ExN K mg xt "NoTaste" "NoTaste") (x_NoAmount : ExN K mg xt "NoAmount" "NoAmount") (c_mark : Cal P w K mg base xt "mark" 7 3 f_mark) : Cal P w K mg base xt "_law_refusal" 8 3 f__law_refusal :=
  A.cal sc__law_refusal (fun _ _ _ _ _ _ us hl => match us, hl with | [_, _, _], _ => rfl) rfl fun f cdv A' outer s H E hr tk po =>
    ss_cons (s_tri sc__law_refusal.nd tk (fun _ _ _ tk1 po1 => ss_one (s_expr (d_fn c_mark hr tk1 (d_acons (d_var 0) (d_acons (d_var 1) (d_acons (d_var 2) (d_anil))))))) (hx_named 3 x_NoTaste.base (fun _ _ _ => ss_one (s_ret (d_str "taste"))) (hx_named 3 x_NoPiece.base (fun _ _ _ => ss_one (s_ret (d_str "piece"))) (hx_named 3 x_NoAmount.base (fun _ _ _ => ss_one (s_ret (d_str "amount"))) (hx_bare x_ShareError (fun _ _ _ => ss_one (s_ret (d_str "other"))) (hx_nil)))))) <|
    ss_one (s_ret (d_str "none"))

abbrev ns_law : List Str := ["script", "hand", "turn", "taste", "piece", "whole", "ahead", "amount", "told", "j", "low", "high", "end", "x", "bad", "at"]
theorem sc_law : FnScope ["script", "hand", "turn", "taste", "piece", "whole", "ahead", "amount", "told", "j", "low", "high", "end", "x", "bad", "at"] ["script"] (defScope s_law) := ⟨rfl, rfl, rfl, by decide +kernel, rfl, by decide +kernel, by decide +kernel⟩
theorem d_law (T : Txt mg) (c__law_hand : Cal P w K mg base xt "_law_hand" 1 1 f__law_hand) (c__law_worth : Cal P w K mg base xt "_law_worth" 4 2 f__law_worth) (c__law_taste : Cal P w K mg base xt "_law_taste" 3 1 f__law_taste) (c__law_piece : Cal P w K mg base xt "_law_piece" 2 2 f__law_piece) (c_mark : Cal P w K mg base xt "mark" 7 3 f_mark) (c__law_plus : Cal P w K mg base xt "_law_plus" 2 2 f__law_plus) (c__law_refusal : Cal P w K mg base xt "_law_refusal" 8 3 f__law_refusal) (c__law_times : Cal P w K mg base xt "_law_times" 2 2 f__law_times) (c__law_kept : Cal P w K mg base xt "_law_kept" 25 2 f__law_kept) (c_worth : Cal P w K mg base xt "worth" 7 2 f_worth) (c__law_part : Cal P w K mg base xt "_law_part" 1 2 f__law_part) (c__law_mark : Cal P w K mg base xt "_law_mark" 5 3 f__law_mark) (c__law_draw : Cal P w K mg base xt "_law_draw" 1 2 f__law_draw) (c_cut_at : Cal P w K mg base xt "cut_at" 7 3 f_cut_at) (c__law_minus : Cal P w K mg base xt "_law_minus" 2 2 f__law_minus) (c__law_less : Cal P w K mg base xt "_law_less" 1 2 f__law_less) (f : Addr) : DefH P w K mg base xt "law" s_law ["script", "hand", "turn", "taste", "piece", "whole", "ahead", "amount", "told", "j", "low", "high", "end", "x", "bad", "at"] f 25 b_law :=
  fun cdv A' outer s H E hr tk po =>
    ss_cons (s_set 1 sc_law.nd (d_fn c__law_hand hr tk (d_acons (d_var 0) (d_anil)))) <|
    ss_cons (s_for po rfl (i_rg1 T.b_range (d_int)) (g_name 2 sc_law.nd) (ss_cons (s_asg (d_tup (d_acons (d_fn c__law_taste hr tk (d_acons (d_var 1) (d_anil))) (d_acons (d_fn c__law_piece hr tk (d_acons (d_var 1) (d_acons (d_int) (d_anil)))) (d_anil)))) (g_tup rfl (g_cons (g_name 3 sc_law.nd) (g_cons (g_name 4 sc_law.nd) (g_nil))))) <|
    ss_cons (s_if (t_cmp (o_eq hr.units) (d_len T.b_len (d_var 4)) (d_int) (nomark _)) (ss_cons (s_if (t_cmp (o_ne hr.units) (d_fn c__law_refusal hr tk (d_acons (d_var 3) (d_acons (d_var 4) (d_acons (d_tup (d_acons (d_int) (d_acons (d_int) (d_anil)))) (d_anil))))) (d_str "piece") (nomark _)) (ss_one (s_ret (d_bl))) (ss_nil)) <|
    ss_one (s_set 4 sc_law.nd (d_tup (d_acons (d_tup (d_acons (d_tup (d_acons (d_int) (d_acons (d_int) (d_anil)))) (d_acons (d_tup (d_acons (d_int) (d_acons (d_int) (d_anil)))) (d_anil)))) (d_acons (d_tup (d_acons (d_tup (d_acons (d_int) (d_acons (d_int) (d_anil)))) (d_acons (d_tup (d_acons (d_int) (d_acons (d_int) (d_anil)))) (d_anil)))) (d_acons (d_tup (d_acons (d_tup (d_acons (d_int) (d_acons (d_int) (d_anil)))) (d_acons (d_tup (d_acons (d_int) (d_acons (d_int) (d_anil)))) (d_anil)))) (d_anil))))))) (ss_nil)) <|
    ss_cons (s_set 5 sc_law.nd (d_fn c__law_worth hr tk (d_acons (d_var 3) (d_acons (d_var 4) (d_anil))))) <|
    ss_cons (s_setLc rfl sc_law.nd rfl rfl (sw_true rfl rfl rfl (by decide +kernel)) (i_rg1 T.b_range (d_bin o_add (d_len T.b_len (d_var 4)) (d_int))) (blkOk_at (own := [("at", 15)]) (N := ns_law) (sc := defScope s_law) rfl rfl (by decide +kernel)) (by decide) (fun _ _ _ _ _ => g_name 15 sc_law.nd) (fun _ _ _ _ _ => q_nil) (fun _ _ _ _ _ => d_fn c__law_worth hr takes0 (d_acons (d_var 3) (d_acons (d_slice (d_var 4) (p_none) (p_some (d_var 15))) (d_anil))))) <|
    ss_cons (s_for po rfl (i_seq (d_bin o_add (d_var 6) (d_keep (d_lstF (d_acons (d_fn c__law_times hr tk (d_acons (d_var 5) (d_acons (d_fn c__law_part hr tk (d_acons (d_fn c__law_draw hr tk (d_acons (d_var 1) (d_acons (d_int) (d_anil)))) (d_acons (d_int) (d_anil)))) (d_anil)))) (d_anil)))))) (g_name 7 sc_law.nd) (ss_cons (s_set 8 sc_law.nd (d_fn c_mark hr tk (d_acons (d_var 3) (d_acons (d_var 4) (d_acons (d_var 7) (d_anil)))))) <|
    ss_cons (s_if (t_not (t_tru (d_fn c__law_kept hr tk (d_acons (d_var 8) (d_acons (d_fn c__law_mark hr tk (d_acons (d_var 3) (d_acons (d_var 4) (d_acons (d_var 7) (d_anil))))) (d_anil)))))) (ss_one (s_ret (d_bl))) (ss_nil)) <|
    ss_cons (s_if (t_cmp (o_ne hr.units) (d_fn c_worth hr tk (d_acons (d_var 3) (d_acons (d_ix (d_fn c_cut_at hr tk (d_acons (d_var 4) (d_acons (d_ix (d_var 8) (d_int)) (d_acons (d_ix (d_var 8) (d_int)) (d_anil))))) (d_int)) (d_anil)))) (d_var 7) (nomark _)) (ss_one (s_ret (d_bl))) (ss_nil)) <|
    ss_one (s_for po rfl (i_rg1 T.b_range (d_bin o_add (d_ix (d_var 8) (d_int)) (d_int))) (g_name 9 sc_law.nd) (ss_cons (s_asg (d_ix (d_var 4) (d_var 9)) (g_tup rfl (g_cons (g_name 10 sc_law.nd) (g_cons (g_name 11 sc_law.nd) (g_nil))))) <|
    ss_cons (s_set 12 sc_law.nd (d_if (t_cmp (o_eq hr.units) (d_var 9) (d_ix (d_var 8) (d_int)) (nomark _)) (d_ix (d_var 8) (d_int)) (d_var 11))) <|
    ss_cons (s_set 13 sc_law.nd (d_fn c__law_plus hr tk (d_acons (d_var 10) (d_acons (d_fn c__law_times hr tk (d_acons (d_fn c__law_part hr tk (d_acons (d_fn c__law_draw hr tk (d_acons (d_var 1) (d_acons (d_int) (d_anil)))) (d_acons (d_int) (d_anil)))) (d_acons (d_fn c__law_minus hr tk (d_acons (d_var 12) (d_acons (d_var 10) (d_anil)))) (d_anil)))) (d_anil))))) <|
    ss_one (s_if (t_w (w_and (t_w (w_or (t_cmp o_lt (d_var 9) (d_ix (d_var 8) (d_int)) (nomark _)) (w_or1 (t_tru (d_fn c__law_less hr tk (d_acons (d_var 13) (d_acons (d_var 12) (d_anil)))))))) (w_and1 (t_not (t_tru (d_fn c__law_less hr tk (d_acons (d_fn c_worth hr tk (d_acons (d_var 3) (d_acons (d_ix (d_fn c_cut_at hr tk (d_acons (d_var 4) (d_acons (d_var 9) (d_acons (d_var 13) (d_anil))))) (d_int)) (d_anil)))) (d_acons (d_var 7) (d_anil))))))))) (ss_one (s_ret (d_bl))) (ss_nil)))))) <|
    ss_cons (s_for po rfl (i_fresh (d_lstF (d_acons (d_fn c__law_plus hr tk (d_acons (d_var 5) (d_acons (d_tup (d_acons (d_int) (d_acons (d_int) (d_anil)))) (d_anil)))) (d_acons (d_tup (d_acons (d_neg (d_int)) (d_acons (d_int) (d_anil)))) (d_acons (d_non) (d_acons (d_int) (d_acons (d_tup (d_acons (d_int) (d_acons (d_int) (d_anil)))) (d_acons (d_str "0") (d_anil))))))))) (g_name 14 sc_law.nd) (ss_one (s_if (t_cmp (o_ne hr.units) (d_fn c__law_refusal hr tk (d_acons (d_var 3) (d_acons (d_var 4) (d_acons (d_var 14) (d_anil))))) (d_str "amount") (nomark _)) (ss_one (s_ret (d_bl))) (ss_nil)))) <|
    ss_one (s_if (t_w (w_or (t_cmp (o_ne hr.units) (d_fn c__law_refusal hr tk (d_acons (d_non) (d_acons (d_var 4) (d_acons (d_tup (d_acons (d_int) (d_acons (d_int) (d_anil)))) (d_anil))))) (d_str "taste") (nomark _)) (w_or1 (t_cmp (o_ne hr.units) (d_fn c__law_refusal hr tk (d_acons (d_var 3) (d_acons (d_keep (d_lstF (d_acons (d_non) (d_anil)))) (d_acons (d_non) (d_anil))))) (d_str "piece") (nomark _))))) (ss_one (s_ret (d_bl))) (ss_nil)))) <|
    ss_one (s_ret (d_bl))
end
end Lw

/-! ## the top, printed by gen.py -/
namespace Lw
open PySem L2 Md
theorem all_mk {l : PySem.W.OpenLaw} {w : World} {K : PySem.W.Frag} {h : Heap} {mg : Str → Option Value} {fa : Addr} (X : K.In h) (G : h.Ns mainGlobals mg) (hfa : mg "law" = some (.ref fa)) (law : ∀ ns : List Int, ns.length ≤ 63 → ∃ μ, f_law [.kl (ns.map .int)] [] = .ok (.bl true) μ)
    {a0 a1 a2 a3 a4 a5 a6 a7 a8 a9 a10 a11 a12 a13 a14 a15 a16 a17 a18 a19 a20 a21 a22 a23 a24 a25 a26 a27 a28 a29 a30 a31 a32 a33 a34 a35 a36 a37 a38 a39 a40 a41 a42 a43 a44 a45 a46 xShareError xNoPiece xNoPoint xNoTaste xNoAmount z_ZERO_0 z_ONE_0 : Addr} {od0 an0 od1 an1 od2 an2 od3 an3 od4 an4 od5 an5 od6 an6 od7 an7 od8 an8 od9 an9 od10 an10 od11 an11 od12 an12 od13 an13 od14 an14 od15 an15 od16 an16 od17 an17 od18 an18 od19 an19 od20 an20 od21 an21 od22 an22 od23 an23 od24 an24 od25 an25 od26 an26 od27 an27 od28 an28 od29 an29 od30 an30 od31 an31 od32 an32 od33 an33 od34 an34 od35 an35 od36 an36 od37 an37 od38 an38 od39 an39 od40 an40 od41 an41 od42 an42 od43 an43 od44 an44 od45 an45 od46 an46 zd_ZERO_0 zd_ONE_0 : Option Addr} {sl0 sl1 sl2 sl3 sl4 sl5 sl6 sl7 sl8 sl9 sl10 sl11 sl12 sl13 sl14 sl15 sl16 sl17 sl18 sl19 sl20 sl21 sl22 sl23 sl24 sl25 sl26 sl27 sl28 sl29 sl30 sl31 sl32 sl33 sl34 sl35 sl36 sl37 sl38 sl39 sl40 sl41 sl42 sl43 sl44 sl45 sl46 zs_ZERO_0 zs_ONE_0 : Array (Option Value)} {oc0 kV0 dc0 pm0 cd0 ct0 oc1 kV1 dc1 pm1 cd1 ct1 oc2 kV2 dc2 pm2 cd2 ct2 oc3 kV3 dc3 pm3 cd3 ct3 oc4 kV4 dc4 pm4 cd4 ct4 oc5 kV5 dc5 pm5 cd5 ct5 oc6 kV6 dc6 pm6 cd6 ct6 oc7 kV7 dc7 pm7 cd7 ct7 oc8 kV8 dc8 pm8 cd8 ct8 oc9 kV9 dc9 pm9 cd9 ct9 oc10 kV10 dc10 pm10 cd10 ct10 oc11 kV11 dc11 pm11 cd11 ct11 oc12 kV12 dc12 pm12 cd12 ct12 oc13 kV13 dc13 pm13 cd13 ct13 oc14 kV14 dc14 pm14 cd14 ct14 oc15 kV15 dc15 pm15 cd15 ct15 oc16 kV16 dc16 pm16 cd16 ct16 oc17 kV17 dc17 pm17 cd17 ct17 oc18 kV18 dc18 pm18 cd18 ct18 oc19 kV19 dc19 pm19 cd19 ct19 oc20 kV20 dc20 pm20 cd20 ct20 oc21 kV21 dc21 pm21 cd21 ct21 oc22 kV22 dc22 pm22 cd22 ct22 oc23 kV23 dc23 pm23 cd23 ct23 oc24 kV24 dc24 pm24 cd24 ct24 oc25 kV25 dc25 pm25 cd25 ct25 oc26 kV26 dc26 pm26 cd26 ct26 oc27 kV27 dc27 pm27 cd27 ct27 oc28 kV28 dc28 pm28 cd28 ct28 oc29 kV29 dc29 pm29 cd29 ct29 oc30 kV30 dc30 pm30 cd30 ct30 oc31 kV31 dc31 pm31 cd31 ct31 oc32 kV32 dc32 pm32 cd32 ct32 oc33 kV33 dc33 pm33 cd33 ct33 oc34 kV34 dc34 pm34 cd34 ct34 oc35 kV35 dc35 pm35 cd35 ct35 oc36 kV36 dc36 pm36 cd36 ct36 oc37 kV37 dc37 pm37 cd37 ct37 oc38 kV38 dc38 pm38 cd38 ct38 oc39 kV39 dc39 pm39 cd39 ct39 oc40 kV40 dc40 pm40 cd40 ct40 oc41 kV41 dc41 pm41 cd41 ct41 oc42 kV42 dc42 pm42 cd42 ct42 oc43 kV43 dc43 pm43 cd43 ct43 oc44 kV44 dc44 pm44 cd44 ct44 oc45 kV45 dc45 pm45 cd45 ct45 oc46 kV46 dc46 pm46 cd46 ct46 : Value} {zt_ZERO_1 zt_ZERO_2 zt_ONE_1 zt_ONE_2 t_MOST_STRETCHES t_MOST_ENDS : Tok} {zn_ZERO_0 zn_ONE_0 : Nat}
    (ha0 : PySem.W.nsIn K mainGlobals "is_integer" = some (some (.ref a0)))
    (hl0 : K.lookup a0 = some ⟨oc0, od0, .func (PySem.W.fnOf "is_integer" "is_integer" (defArgs s_is_integer) (defBody s_is_integer) (defScope s_is_integer) .none kV0 dc0 pm0 an0 cd0 ct0), sl0⟩)
    (hc0 : PySem.W.codeIn K cd0 "is_integer" = true)
    (hk0 : PySem.W.keepIn K (.ref a0) = true)
    (ha1 : PySem.W.nsIn K mainGlobals "is_between" = some (some (.ref a1)))
    (hl1 : K.lookup a1 = some ⟨oc1, od1, .func (PySem.W.fnOf "is_between" "is_between" (defArgs s_is_between) (defBody s_is_between) (defScope s_is_between) .none kV1 dc1 pm1 an1 cd1 ct1), sl1⟩)
    (hc1 : PySem.W.codeIn K cd1 "is_between" = true)
    (hk1 : PySem.W.keepIn K (.ref a1) = true)
    (ha2 : PySem.W.nsIn K mainGlobals "is_tuple_of" = some (some (.ref a2)))
    (hl2 : K.lookup a2 = some ⟨oc2, od2, .func (PySem.W.fnOf "is_tuple_of" "is_tuple_of" (defArgs s_is_tuple_of) (defBody s_is_tuple_of) (defScope s_is_tuple_of) .none kV2 dc2 pm2 an2 cd2 ct2), sl2⟩)
    (hc2 : PySem.W.codeIn K cd2 "is_tuple_of" = true)
    (hk2 : PySem.W.keepIn K (.ref a2) = true)
    (ha3 : PySem.W.nsIn K mainGlobals "part_of" = some (some (.ref a3)))
    (hl3 : K.lookup a3 = some ⟨oc3, od3, .func (PySem.W.fnOf "part_of" "part_of" (defArgs s_part_of) (defBody s_part_of) (defScope s_part_of) .none kV3 dc3 pm3 an3 cd3 ct3), sl3⟩)
    (hc3 : PySem.W.codeIn K cd3 "part_of" = true)
    (hk3 : PySem.W.keepIn K (.ref a3) = true)
    (ha4 : PySem.W.nsIn K mainGlobals "is_fraction" = some (some (.ref a4)))
    (hl4 : K.lookup a4 = some ⟨oc4, od4, .func (PySem.W.fnOf "is_fraction" "is_fraction" (defArgs s_is_fraction) (defBody s_is_fraction) (defScope s_is_fraction) .none kV4 dc4 pm4 an4 cd4 ct4), sl4⟩)
    (hc4 : PySem.W.codeIn K cd4 "is_fraction" = true)
    (hk4 : PySem.W.keepIn K (.ref a4) = true)
    (ha5 : PySem.W.nsIn K mainGlobals "is_share" = some (some (.ref a5)))
    (hl5 : K.lookup a5 = some ⟨oc5, od5, .func (PySem.W.fnOf "is_share" "is_share" (defArgs s_is_share) (defBody s_is_share) (defScope s_is_share) .none kV5 dc5 pm5 an5 cd5 ct5), sl5⟩)
    (hc5 : PySem.W.codeIn K cd5 "is_share" = true)
    (hk5 : PySem.W.keepIn K (.ref a5) = true)
    (ha6 : PySem.W.nsIn K mainGlobals "add" = some (some (.ref a6)))
    (hl6 : K.lookup a6 = some ⟨oc6, od6, .func (PySem.W.fnOf "add" "add" (defArgs s_add) (defBody s_add) (defScope s_add) .none kV6 dc6 pm6 an6 cd6 ct6), sl6⟩)
    (hc6 : PySem.W.codeIn K cd6 "add" = true)
    (hk6 : PySem.W.keepIn K (.ref a6) = true)
    (ha7 : PySem.W.nsIn K mainGlobals "turned" = some (some (.ref a7)))
    (hl7 : K.lookup a7 = some ⟨oc7, od7, .func (PySem.W.fnOf "turned" "turned" (defArgs s_turned) (defBody s_turned) (defScope s_turned) .none kV7 dc7 pm7 an7 cd7 ct7), sl7⟩)
    (hc7 : PySem.W.codeIn K cd7 "turned" = true)
    (hk7 : PySem.W.keepIn K (.ref a7) = true)
    (ha8 : PySem.W.nsIn K mainGlobals "take" = some (some (.ref a8)))
    (hl8 : K.lookup a8 = some ⟨oc8, od8, .func (PySem.W.fnOf "take" "take" (defArgs s_take) (defBody s_take) (defScope s_take) .none kV8 dc8 pm8 an8 cd8 ct8), sl8⟩)
    (hc8 : PySem.W.codeIn K cd8 "take" = true)
    (hk8 : PySem.W.keepIn K (.ref a8) = true)
    (ha9 : PySem.W.nsIn K mainGlobals "product" = some (some (.ref a9)))
    (hl9 : K.lookup a9 = some ⟨oc9, od9, .func (PySem.W.fnOf "product" "product" (defArgs s_product) (defBody s_product) (defScope s_product) .none kV9 dc9 pm9 an9 cd9 ct9), sl9⟩)
    (hc9 : PySem.W.codeIn K cd9 "product" = true)
    (hk9 : PySem.W.keepIn K (.ref a9) = true)
    (ha10 : PySem.W.nsIn K mainGlobals "ratio" = some (some (.ref a10)))
    (hl10 : K.lookup a10 = some ⟨oc10, od10, .func (PySem.W.fnOf "ratio" "ratio" (defArgs s_ratio) (defBody s_ratio) (defScope s_ratio) .none kV10 dc10 pm10 an10 cd10 ct10), sl10⟩)
    (hc10 : PySem.W.codeIn K cd10 "ratio" = true)
    (hk10 : PySem.W.keepIn K (.ref a10) = true)
    (ha11 : PySem.W.nsIn K mainGlobals "is_at_most" = some (some (.ref a11)))
    (hl11 : K.lookup a11 = some ⟨oc11, od11, .func (PySem.W.fnOf "is_at_most" "is_at_most" (defArgs s_is_at_most) (defBody s_is_at_most) (defScope s_is_at_most) .none kV11 dc11 pm11 an11 cd11 ct11), sl11⟩)
    (hc11 : PySem.W.codeIn K cd11 "is_at_most" = true)
    (hk11 : PySem.W.keepIn K (.ref a11) = true)
    (ha12 : PySem.W.nsIn K mainGlobals "is_below" = some (some (.ref a12)))
    (hl12 : K.lookup a12 = some ⟨oc12, od12, .func (PySem.W.fnOf "is_below" "is_below" (defArgs s_is_below) (defBody s_is_below) (defScope s_is_below) .none kV12 dc12 pm12 an12 cd12 ct12), sl12⟩)
    (hc12 : PySem.W.codeIn K cd12 "is_below" = true)
    (hk12 : PySem.W.keepIn K (.ref a12) = true)
    (ha13 : PySem.W.nsIn K mainGlobals "total" = some (some (.ref a13)))
    (hl13 : K.lookup a13 = some ⟨oc13, od13, .func (PySem.W.fnOf "total" "total" (defArgs s_total) (defBody s_total) (defScope s_total) .none kV13 dc13 pm13 an13 cd13 ct13), sl13⟩)
    (hc13 : PySem.W.codeIn K cd13 "total" = true)
    (hk13 : PySem.W.keepIn K (.ref a13) = true)
    (ha14 : PySem.W.nsIn K mainGlobals "is_stretch" = some (some (.ref a14)))
    (hl14 : K.lookup a14 = some ⟨oc14, od14, .func (PySem.W.fnOf "is_stretch" "is_stretch" (defArgs s_is_stretch) (defBody s_is_stretch) (defScope s_is_stretch) .none kV14 dc14 pm14 an14 cd14 ct14), sl14⟩)
    (hc14 : PySem.W.codeIn K cd14 "is_stretch" = true)
    (hk14 : PySem.W.keepIn K (.ref a14) = true)
    (ha15 : PySem.W.nsIn K mainGlobals "is_piece" = some (some (.ref a15)))
    (hl15 : K.lookup a15 = some ⟨oc15, od15, .func (PySem.W.fnOf "is_piece" "is_piece" (defArgs s_is_piece) (defBody s_is_piece) (defScope s_is_piece) .none kV15 dc15 pm15 an15 cd15 ct15), sl15⟩)
    (hc15 : PySem.W.codeIn K cd15 "is_piece" = true)
    (hk15 : PySem.W.keepIn K (.ref a15) = true)
    (ha16 : PySem.W.nsIn K mainGlobals "need_piece" = some (some (.ref a16)))
    (hl16 : K.lookup a16 = some ⟨oc16, od16, .func (PySem.W.fnOf "need_piece" "need_piece" (defArgs s_need_piece) (defBody s_need_piece) (defScope s_need_piece) .none kV16 dc16 pm16 an16 cd16 ct16), sl16⟩)
    (hc16 : PySem.W.codeIn K cd16 "need_piece" = true)
    (hk16 : PySem.W.keepIn K (.ref a16) = true)
    (ha17 : PySem.W.nsIn K mainGlobals "parted" = some (some (.ref a17)))
    (hl17 : K.lookup a17 = some ⟨oc17, od17, .func (PySem.W.fnOf "parted" "parted" (defArgs s_parted) (defBody s_parted) (defScope s_parted) .none kV17 dc17 pm17 an17 cd17 ct17), sl17⟩)
    (hc17 : PySem.W.codeIn K cd17 "parted" = true)
    (hk17 : PySem.W.keepIn K (.ref a17) = true)
    (ha18 : PySem.W.nsIn K mainGlobals "is_point_of" = some (some (.ref a18)))
    (hl18 : K.lookup a18 = some ⟨oc18, od18, .func (PySem.W.fnOf "is_point_of" "is_point_of" (defArgs s_is_point_of) (defBody s_is_point_of) (defScope s_is_point_of) .none kV18 dc18 pm18 an18 cd18 ct18), sl18⟩)
    (hc18 : PySem.W.codeIn K cd18 "is_point_of" = true)
    (hk18 : PySem.W.keepIn K (.ref a18) = true)
    (ha19 : PySem.W.nsIn K mainGlobals "cut_at" = some (some (.ref a19)))
    (hl19 : K.lookup a19 = some ⟨oc19, od19, .func (PySem.W.fnOf "cut_at" "cut_at" (defArgs s_cut_at) (defBody s_cut_at) (defScope s_cut_at) .none kV19 dc19 pm19 an19 cd19 ct19), sl19⟩)
    (hc19 : PySem.W.codeIn K cd19 "cut_at" = true)
    (hk19 : PySem.W.keepIn K (.ref a19) = true)
    (ha20 : PySem.W.nsIn K mainGlobals "is_taste" = some (some (.ref a20)))
    (hl20 : K.lookup a20 = some ⟨oc20, od20, .func (PySem.W.fnOf "is_taste" "is_taste" (defArgs s_is_taste) (defBody s_is_taste) (defScope s_is_taste) .none kV20 dc20 pm20 an20 cd20 ct20), sl20⟩)
    (hc20 : PySem.W.codeIn K cd20 "is_taste" = true)
    (hk20 : PySem.W.keepIn K (.ref a20) = true)
    (ha21 : PySem.W.nsIn K mainGlobals "need_taste" = some (some (.ref a21)))
    (hl21 : K.lookup a21 = some ⟨oc21, od21, .func (PySem.W.fnOf "need_taste" "need_taste" (defArgs s_need_taste) (defBody s_need_taste) (defScope s_need_taste) .none kV21 dc21 pm21 an21 cd21 ct21), sl21⟩)
    (hc21 : PySem.W.codeIn K cd21 "need_taste" = true)
    (hk21 : PySem.W.keepIn K (.ref a21) = true)
    (ha22 : PySem.W.nsIn K mainGlobals "worth_up_to" = some (some (.ref a22)))
    (hl22 : K.lookup a22 = some ⟨oc22, od22, .func (PySem.W.fnOf "worth_up_to" "worth_up_to" (defArgs s_worth_up_to) (defBody s_worth_up_to) (defScope s_worth_up_to) .none kV22 dc22 pm22 an22 cd22 ct22), sl22⟩)
    (hc22 : PySem.W.codeIn K cd22 "worth_up_to" = true)
    (hk22 : PySem.W.keepIn K (.ref a22) = true)
    (ha23 : PySem.W.nsIn K mainGlobals "worth_between" = some (some (.ref a23)))
    (hl23 : K.lookup a23 = some ⟨oc23, od23, .func (PySem.W.fnOf "worth_between" "worth_between" (defArgs s_worth_between) (defBody s_worth_between) (defScope s_worth_between) .none kV23 dc23 pm23 an23 cd23 ct23), sl23⟩)
    (hc23 : PySem.W.codeIn K cd23 "worth_between" = true)
    (hk23 : PySem.W.keepIn K (.ref a23) = true)
    (ha24 : PySem.W.nsIn K mainGlobals "worth_of" = some (some (.ref a24)))
    (hl24 : K.lookup a24 = some ⟨oc24, od24, .func (PySem.W.fnOf "worth_of" "worth_of" (defArgs s_worth_of) (defBody s_worth_of) (defScope s_worth_of) .none kV24 dc24 pm24 an24 cd24 ct24), sl24⟩)
    (hc24 : PySem.W.codeIn K cd24 "worth_of" = true)
    (hk24 : PySem.W.keepIn K (.ref a24) = true)
    (ha25 : PySem.W.nsIn K mainGlobals "worth" = some (some (.ref a25)))
    (hl25 : K.lookup a25 = some ⟨oc25, od25, .func (PySem.W.fnOf "worth" "worth" (defArgs s_worth) (defBody s_worth) (defScope s_worth) .none kV25 dc25 pm25 an25 cd25 ct25), sl25⟩)
    (hc25 : PySem.W.codeIn K cd25 "worth" = true)
    (hk25 : PySem.W.keepIn K (.ref a25) = true)
    (ha26 : PySem.W.nsIn K mainGlobals "first_point" = some (some (.ref a26)))
    (hl26 : K.lookup a26 = some ⟨oc26, od26, .func (PySem.W.fnOf "first_point" "first_point" (defArgs s_first_point) (defBody s_first_point) (defScope s_first_point) .none kV26 dc26 pm26 an26 cd26 ct26), sl26⟩)
    (hc26 : PySem.W.codeIn K cd26 "first_point" = true)
    (hk26 : PySem.W.keepIn K (.ref a26) = true)
    (ha27 : PySem.W.nsIn K mainGlobals "mark_of" = some (some (.ref a27)))
    (hl27 : K.lookup a27 = some ⟨oc27, od27, .func (PySem.W.fnOf "mark_of" "mark_of" (defArgs s_mark_of) (defBody s_mark_of) (defScope s_mark_of) .none kV27 dc27 pm27 an27 cd27 ct27), sl27⟩)
    (hc27 : PySem.W.codeIn K cd27 "mark_of" = true)
    (hk27 : PySem.W.keepIn K (.ref a27) = true)
    (ha28 : PySem.W.nsIn K mainGlobals "mark" = some (some (.ref a28)))
    (hl28 : K.lookup a28 = some ⟨oc28, od28, .func (PySem.W.fnOf "mark" "mark" (defArgs s_mark) (defBody s_mark) (defScope s_mark) .none kV28 dc28 pm28 an28 cd28 ct28), sl28⟩)
    (hc28 : PySem.W.codeIn K cd28 "mark" = true)
    (hk28 : PySem.W.keepIn K (.ref a28) = true)
    (ha29 : PySem.W.nsIn K mainGlobals "_law_hand" = some (some (.ref a29)))
    (hl29 : K.lookup a29 = some ⟨oc29, od29, .func (PySem.W.fnOf "_law_hand" "_law_hand" (defArgs s__law_hand) (defBody s__law_hand) (defScope s__law_hand) .none kV29 dc29 pm29 an29 cd29 ct29), sl29⟩)
    (hc29 : PySem.W.codeIn K cd29 "_law_hand" = true)
    (hk29 : PySem.W.keepIn K (.ref a29) = true)
    (ha30 : PySem.W.nsIn K mainGlobals "_law_draw" = some (some (.ref a30)))
    (hl30 : K.lookup a30 = some ⟨oc30, od30, .func (PySem.W.fnOf "_law_draw" "_law_draw" (defArgs s__law_draw) (defBody s__law_draw) (defScope s__law_draw) .none kV30 dc30 pm30 an30 cd30 ct30), sl30⟩)
    (hc30 : PySem.W.codeIn K cd30 "_law_draw" = true)
    (hk30 : PySem.W.keepIn K (.ref a30) = true)
    (ha31 : PySem.W.nsIn K mainGlobals "_law_kept" = some (some (.ref a31)))
    (hl31 : K.lookup a31 = some ⟨oc31, od31, .func (PySem.W.fnOf "_law_kept" "_law_kept" (defArgs s__law_kept) (defBody s__law_kept) (defScope s__law_kept) .none kV31 dc31 pm31 an31 cd31 ct31), sl31⟩)
    (hc31 : PySem.W.codeIn K cd31 "_law_kept" = true)
    (hk31 : PySem.W.keepIn K (.ref a31) = true)
    (ha32 : PySem.W.nsIn K mainGlobals "_law_mixed" = some (some (.ref a32)))
    (hl32 : K.lookup a32 = some ⟨oc32, od32, .func (PySem.W.fnOf "_law_mixed" "_law_mixed" (defArgs s__law_mixed) (defBody s__law_mixed) (defScope s__law_mixed) .none kV32 dc32 pm32 an32 cd32 ct32), sl32⟩)
    (hc32 : PySem.W.codeIn K cd32 "_law_mixed" = true)
    (hk32 : PySem.W.keepIn K (.ref a32) = true)
    (ha33 : PySem.W.nsIn K mainGlobals "_law_part" = some (some (.ref a33)))
    (hl33 : K.lookup a33 = some ⟨oc33, od33, .func (PySem.W.fnOf "_law_part" "_law_part" (defArgs s__law_part) (defBody s__law_part) (defScope s__law_part) .none kV33 dc33 pm33 an33 cd33 ct33), sl33⟩)
    (hc33 : PySem.W.codeIn K cd33 "_law_part" = true)
    (hk33 : PySem.W.keepIn K (.ref a33) = true)
    (ha34 : PySem.W.nsIn K mainGlobals "_law_plus" = some (some (.ref a34)))
    (hl34 : K.lookup a34 = some ⟨oc34, od34, .func (PySem.W.fnOf "_law_plus" "_law_plus" (defArgs s__law_plus) (defBody s__law_plus) (defScope s__law_plus) .none kV34 dc34 pm34 an34 cd34 ct34), sl34⟩)
    (hc34 : PySem.W.codeIn K cd34 "_law_plus" = true)
    (hk34 : PySem.W.keepIn K (.ref a34) = true)
    (ha35 : PySem.W.nsIn K mainGlobals "_law_minus" = some (some (.ref a35)))
    (hl35 : K.lookup a35 = some ⟨oc35, od35, .func (PySem.W.fnOf "_law_minus" "_law_minus" (defArgs s__law_minus) (defBody s__law_minus) (defScope s__law_minus) .none kV35 dc35 pm35 an35 cd35 ct35), sl35⟩)
    (hc35 : PySem.W.codeIn K cd35 "_law_minus" = true)
    (hk35 : PySem.W.keepIn K (.ref a35) = true)
    (ha36 : PySem.W.nsIn K mainGlobals "_law_times" = some (some (.ref a36)))
    (hl36 : K.lookup a36 = some ⟨oc36, od36, .func (PySem.W.fnOf "_law_times" "_law_times" (defArgs s__law_times) (defBody s__law_times) (defScope s__law_times) .none kV36 dc36 pm36 an36 cd36 ct36), sl36⟩)
    (hc36 : PySem.W.codeIn K cd36 "_law_times" = true)
    (hk36 : PySem.W.keepIn K (.ref a36) = true)
    (ha37 : PySem.W.nsIn K mainGlobals "_law_over" = some (some (.ref a37)))
    (hl37 : K.lookup a37 = some ⟨oc37, od37, .func (PySem.W.fnOf "_law_over" "_law_over" (defArgs s__law_over) (defBody s__law_over) (defScope s__law_over) .none kV37 dc37 pm37 an37 cd37 ct37), sl37⟩)
    (hc37 : PySem.W.codeIn K cd37 "_law_over" = true)
    (hk37 : PySem.W.keepIn K (.ref a37) = true)
    (ha38 : PySem.W.nsIn K mainGlobals "_law_less" = some (some (.ref a38)))
    (hl38 : K.lookup a38 = some ⟨oc38, od38, .func (PySem.W.fnOf "_law_less" "_law_less" (defArgs s__law_less) (defBody s__law_less) (defScope s__law_less) .none kV38 dc38 pm38 an38 cd38 ct38), sl38⟩)
    (hc38 : PySem.W.codeIn K cd38 "_law_less" = true)
    (hk38 : PySem.W.keepIn K (.ref a38) = true)
    (ha39 : PySem.W.nsIn K mainGlobals "_law_sum" = some (some (.ref a39)))
    (hl39 : K.lookup a39 = some ⟨oc39, od39, .func (PySem.W.fnOf "_law_sum" "_law_sum" (defArgs s__law_sum) (defBody s__law_sum) (defScope s__law_sum) .none kV39 dc39 pm39 an39 cd39 ct39), sl39⟩)
    (hc39 : PySem.W.codeIn K cd39 "_law_sum" = true)
    (hk39 : PySem.W.keepIn K (.ref a39) = true)
    (ha40 : PySem.W.nsIn K mainGlobals "_law_piece" = some (some (.ref a40)))
    (hl40 : K.lookup a40 = some ⟨oc40, od40, .func (PySem.W.fnOf "_law_piece" "_law_piece" (defArgs s__law_piece) (defBody s__law_piece) (defScope s__law_piece) .none kV40 dc40 pm40 an40 cd40 ct40), sl40⟩)
    (hc40 : PySem.W.codeIn K cd40 "_law_piece" = true)
    (hk40 : PySem.W.keepIn K (.ref a40) = true)
    (ha41 : PySem.W.nsIn K mainGlobals "_law_taste" = some (some (.ref a41)))
    (hl41 : K.lookup a41 = some ⟨oc41, od41, .func (PySem.W.fnOf "_law_taste" "_law_taste" (defArgs s__law_taste) (defBody s__law_taste) (defScope s__law_taste) .none kV41 dc41 pm41 an41 cd41 ct41), sl41⟩)
    (hc41 : PySem.W.codeIn K cd41 "_law_taste" = true)
    (hk41 : PySem.W.keepIn K (.ref a41) = true)
    (ha42 : PySem.W.nsIn K mainGlobals "_law_up_to" = some (some (.ref a42)))
    (hl42 : K.lookup a42 = some ⟨oc42, od42, .func (PySem.W.fnOf "_law_up_to" "_law_up_to" (defArgs s__law_up_to) (defBody s__law_up_to) (defScope s__law_up_to) .none kV42 dc42 pm42 an42 cd42 ct42), sl42⟩)
    (hc42 : PySem.W.codeIn K cd42 "_law_up_to" = true)
    (hk42 : PySem.W.keepIn K (.ref a42) = true)
    (ha43 : PySem.W.nsIn K mainGlobals "_law_worth" = some (some (.ref a43)))
    (hl43 : K.lookup a43 = some ⟨oc43, od43, .func (PySem.W.fnOf "_law_worth" "_law_worth" (defArgs s__law_worth) (defBody s__law_worth) (defScope s__law_worth) .none kV43 dc43 pm43 an43 cd43 ct43), sl43⟩)
    (hc43 : PySem.W.codeIn K cd43 "_law_worth" = true)
    (hk43 : PySem.W.keepIn K (.ref a43) = true)
    (ha44 : PySem.W.nsIn K mainGlobals "_law_mark" = some (some (.ref a44)))
    (hl44 : K.lookup a44 = some ⟨oc44, od44, .func (PySem.W.fnOf "_law_mark" "_law_mark" (defArgs s__law_mark) (defBody s__law_mark) (defScope s__law_mark) .none kV44 dc44 pm44 an44 cd44 ct44), sl44⟩)
    (hc44 : PySem.W.codeIn K cd44 "_law_mark" = true)
    (hk44 : PySem.W.keepIn K (.ref a44) = true)
    (ha45 : PySem.W.nsIn K mainGlobals "_law_refusal" = some (some (.ref a45)))
    (hl45 : K.lookup a45 = some ⟨oc45, od45, .func (PySem.W.fnOf "_law_refusal" "_law_refusal" (defArgs s__law_refusal) (defBody s__law_refusal) (defScope s__law_refusal) .none kV45 dc45 pm45 an45 cd45 ct45), sl45⟩)
    (hc45 : PySem.W.codeIn K cd45 "_law_refusal" = true)
    (hk45 : PySem.W.keepIn K (.ref a45) = true)
    (ha46 : PySem.W.nsIn K mainGlobals "law" = some (some (.ref a46)))
    (hl46 : K.lookup a46 = some ⟨oc46, od46, .func (PySem.W.fnOf "law" "law" (defArgs s_law) (defBody s_law) (defScope s_law) .none kV46 dc46 pm46 an46 cd46 ct46), sl46⟩)
    (hc46 : PySem.W.codeIn K cd46 "law" = true)
    (hk46 : PySem.W.keepIn K (.ref a46) = true)
    (hb_abs : PySem.W.nsIn K mainGlobals "abs" = some none)
    (hb_all : PySem.W.nsIn K mainGlobals "all" = some none)
    (hb_bool : PySem.W.nsIn K mainGlobals "bool" = some none)
    (hb_enumerate : PySem.W.nsIn K mainGlobals "enumerate" = some none)
    (hb_int : PySem.W.nsIn K mainGlobals "int" = some none)
    (hb_isinstance : PySem.W.nsIn K mainGlobals "isinstance" = some none)
    (hb_len : PySem.W.nsIn K mainGlobals "len" = some none)
    (hb_list : PySem.W.nsIn K mainGlobals "list" = some none)
    (hb_range : PySem.W.nsIn K mainGlobals "range" = some none)
    (hb_sorted : PySem.W.nsIn K mainGlobals "sorted" = some none)
    (hb_str : PySem.W.nsIn K mainGlobals "str" = some none)
    (hb_tuple : PySem.W.nsIn K mainGlobals "tuple" = some none)
    (hb_gcd : PySem.W.nsIn K mainGlobals "gcd" = some (some (.builtin "math.gcd")))
    (hx_ShareError : PySem.W.nsIn K mainGlobals "ShareError" = some (some (.ref xShareError)))
    (hx_NoPiece : PySem.W.nsIn K mainGlobals "NoPiece" = some (some (.ref xNoPiece)))
    (hx_NoPoint : PySem.W.nsIn K mainGlobals "NoPoint" = some (some (.ref xNoPoint)))
    (hx_NoTaste : PySem.W.nsIn K mainGlobals "NoTaste" = some (some (.ref xNoTaste)))
    (hx_NoAmount : PySem.W.nsIn K mainGlobals "NoAmount" = some (some (.ref xNoAmount)))
    (hxb_ShareError : PySem.W.subIn K (.ref xShareError) (.type "BaseException") = some true)
    (hxt_ShareError : PySem.W.typeIn K (.ref xShareError) = some (.type "type"))
    (hxd_ShareError : PySem.W.hasDictIn K xShareError = true)
    (hxs_NoPiece_ShareError : PySem.W.subIn K (.ref xNoPiece) (.ref xShareError) = some true)
    (hxs_NoPoint_ShareError : PySem.W.subIn K (.ref xNoPoint) (.ref xShareError) = some true)
    (hxs_NoTaste_ShareError : PySem.W.subIn K (.ref xNoTaste) (.ref xShareError) = some true)
    (hxs_NoAmount_ShareError : PySem.W.subIn K (.ref xNoAmount) (.ref xShareError) = some true)
    (hxe_NoPiece : PySem.W.excIn K xNoPiece [.type "ValueError", .type "Exception", .type "BaseException", .type "object"] "ValueError.__new__" = true)
    (hxk_NoPiece : PySem.W.keepIn K (.ref xNoPiece) = true)
    (hxb_NoPiece : PySem.W.subIn K (.ref xNoPiece) (.type "BaseException") = some true)
    (hxt_NoPiece : PySem.W.typeIn K (.ref xNoPiece) = some (.type "type"))
    (hxd_NoPiece : PySem.W.hasDictIn K xNoPiece = true)
    (hxs_NoPiece_NoPiece : PySem.W.subIn K (.ref xNoPiece) (.ref xNoPiece) = some true)
    (hxs_NoPoint_NoPiece : PySem.W.subIn K (.ref xNoPoint) (.ref xNoPiece) = some false)
    (hxs_NoTaste_NoPiece : PySem.W.subIn K (.ref xNoTaste) (.ref xNoPiece) = some false)
    (hxs_NoAmount_NoPiece : PySem.W.subIn K (.ref xNoAmount) (.ref xNoPiece) = some false)
    (hxe_NoPoint : PySem.W.excIn K xNoPoint [.type "ValueError", .type "Exception", .type "BaseException", .type "object"] "ValueError.__new__" = true)
    (hxk_NoPoint : PySem.W.keepIn K (.ref xNoPoint) = true)
    (hxb_NoPoint : PySem.W.subIn K (.ref xNoPoint) (.type "BaseException") = some true)
    (hxt_NoPoint : PySem.W.typeIn K (.ref xNoPoint) = some (.type "type"))
    (hxd_NoPoint : PySem.W.hasDictIn K xNoPoint = true)
    (hxs_NoPiece_NoPoint : PySem.W.subIn K (.ref xNoPiece) (.ref xNoPoint) = some false)
    (hxs_NoPoint_NoPoint : PySem.W.subIn K (.ref xNoPoint) (.ref xNoPoint) = some true)
    (hxs_NoTaste_NoPoint : PySem.W.subIn K (.ref xNoTaste) (.ref xNoPoint) = some false)
    (hxs_NoAmount_NoPoint : PySem.W.subIn K (.ref xNoAmount) (.ref xNoPoint) = some false)
    (hxe_NoTaste : PySem.W.excIn K xNoTaste [.type "ValueError", .type "Exception", .type "BaseException", .type "object"] "ValueError.__new__" = true)
    (hxk_NoTaste : PySem.W.keepIn K (.ref xNoTaste) = true)
    (hxb_NoTaste : PySem.W.subIn K (.ref xNoTaste) (.type "BaseException") = some true)
    (hxt_NoTaste : PySem.W.typeIn K (.ref xNoTaste) = some (.type "type"))
    (hxd_NoTaste : PySem.W.hasDictIn K xNoTaste = true)
    (hxs_NoPiece_NoTaste : PySem.W.subIn K (.ref xNoPiece) (.ref xNoTaste) = some false)
    (hxs_NoPoint_NoTaste : PySem.W.subIn K (.ref xNoPoint) (.ref xNoTaste) = some false)
    (hxs_NoTaste_NoTaste : PySem.W.subIn K (.ref xNoTaste) (.ref xNoTaste) = some true)
    (hxs_NoAmount_NoTaste : PySem.W.subIn K (.ref xNoAmount) (.ref xNoTaste) = some false)
    (hxe_NoAmount : PySem.W.excIn K xNoAmount [.type "ValueError", .type "Exception", .type "BaseException", .type "object"] "ValueError.__new__" = true)
    (hxk_NoAmount : PySem.W.keepIn K (.ref xNoAmount) = true)
    (hxb_NoAmount : PySem.W.subIn K (.ref xNoAmount) (.type "BaseException") = some true)
    (hxt_NoAmount : PySem.W.typeIn K (.ref xNoAmount) = some (.type "type"))
    (hxd_NoAmount : PySem.W.hasDictIn K xNoAmount = true)
    (hxs_NoPiece_NoAmount : PySem.W.subIn K (.ref xNoPiece) (.ref xNoAmount) = some false)
    (hxs_NoPoint_NoAmount : PySem.W.subIn K (.ref xNoPoint) (.ref xNoAmount) = some false)
    (hxs_NoTaste_NoAmount : PySem.W.subIn K (.ref xNoTaste) (.ref xNoAmount) = some false)
    (hxs_NoAmount_NoAmount : PySem.W.subIn K (.ref xNoAmount) (.ref xNoAmount) = some true)
    (hk_ZERO : PySem.W.nsIn K mainGlobals "ZERO" = some (some (.ref z_ZERO_0)))
    (hz_ZERO_0 : K.lookup z_ZERO_0 = some ⟨.type "tuple", zd_ZERO_0, .seq ([.int 0 zt_ZERO_1, .int 1 zt_ZERO_2] : List Value).toArray zn_ZERO_0, zs_ZERO_0⟩)
    (hk_ONE : PySem.W.nsIn K mainGlobals "ONE" = some (some (.ref z_ONE_0)))
    (hz_ONE_0 : K.lookup z_ONE_0 = some ⟨.type "tuple", zd_ONE_0, .seq ([.int 1 zt_ONE_1, .int 1 zt_ONE_2] : List Value).toArray zn_ONE_0, zs_ONE_0⟩)
    (hk_MOST_STRETCHES : PySem.W.nsIn K mainGlobals "MOST_STRETCHES" = some (some (.int 60 t_MOST_STRETCHES)))
    (hk_MOST_ENDS : PySem.W.nsIn K mainGlobals "MOST_ENDS" = some (some (.int 60 t_MOST_ENDS)))
    : ∃ fd : FuncData, (∀ (s : Shared) (v : Value), BindsTo s fd ⟨[v], []⟩ [("script", v)]) ∧ ∀ base : Heap, K.In base → base.Ns mainGlobals mg → FnOk l.prog w K mg base (L2.CX l.prog w) 26 fa fd ["script"] (spLaw K) := by
  have T : Txt mg := ⟨PySem.W.mg_none_of X G hb_abs, PySem.W.mg_none_of X G hb_all, PySem.W.mg_none_of X G hb_bool, PySem.W.mg_none_of X G hb_enumerate, PySem.W.mg_none_of X G hb_int, PySem.W.mg_none_of X G hb_isinstance, PySem.W.mg_none_of X G hb_len, PySem.W.mg_none_of X G hb_list, PySem.W.mg_none_of X G hb_range, PySem.W.mg_none_of X G hb_sorted, PySem.W.mg_none_of X G hb_str, PySem.W.mg_none_of X G hb_tuple, PySem.W.mg_of X G hb_gcd⟩
  have x_ShareError : ExB K mg (xtOf [("NoPiece", xNoPiece), ("NoPoint", xNoPoint), ("NoTaste", xNoTaste), ("NoAmount", xNoAmount)]) "ShareError" "ShareError" := exb_of X G hx_ShareError hxb_ShareError hxt_ShareError hxd_ShareError (fun p hp => by simp only [List.mem_cons, List.not_mem_nil, or_false] at hp; rcases hp with rfl | rfl | rfl | rfl <;> assumption)
  have x_NoPiece : ExN K mg (xtOf [("NoPiece", xNoPiece), ("NoPoint", xNoPoint), ("NoTaste", xNoTaste), ("NoAmount", xNoAmount)]) "NoPiece" "NoPiece" := exn_of X G hx_NoPiece ⟨hxe_NoPiece, hxk_NoPiece, hxb_NoPiece, hxt_NoPiece⟩ (by rfl) hxd_NoPiece (fun p hp => by simp only [List.mem_cons, List.not_mem_nil, or_false] at hp; rcases hp with rfl | rfl | rfl | rfl <;> assumption)
  have x_NoPoint : ExN K mg (xtOf [("NoPiece", xNoPiece), ("NoPoint", xNoPoint), ("NoTaste", xNoTaste), ("NoAmount", xNoAmount)]) "NoPoint" "NoPoint" := exn_of X G hx_NoPoint ⟨hxe_NoPoint, hxk_NoPoint, hxb_NoPoint, hxt_NoPoint⟩ (by rfl) hxd_NoPoint (fun p hp => by simp only [List.mem_cons, List.not_mem_nil, or_false] at hp; rcases hp with rfl | rfl | rfl | rfl <;> assumption)
  have x_NoTaste : ExN K mg (xtOf [("NoPiece", xNoPiece), ("NoPoint", xNoPoint), ("NoTaste", xNoTaste), ("NoAmount", xNoAmount)]) "NoTaste" "NoTaste" := exn_of X G hx_NoTaste ⟨hxe_NoTaste, hxk_NoTaste, hxb_NoTaste, hxt_NoTaste⟩ (by rfl) hxd_NoTaste (fun p hp => by simp only [List.mem_cons, List.not_mem_nil, or_false] at hp; rcases hp with rfl | rfl | rfl | rfl <;> assumption)
  have x_NoAmount : ExN K mg (xtOf [("NoPiece", xNoPiece), ("NoPoint", xNoPoint), ("NoTaste", xNoTaste), ("NoAmount", xNoAmount)]) "NoAmount" "NoAmount" := exn_of X G hx_NoAmount ⟨hxe_NoAmount, hxk_NoAmount, hxb_NoAmount, hxt_NoAmount⟩ (by rfl) hxd_NoAmount (fun p hp => by simp only [List.mem_cons, List.not_mem_nil, or_false] at hp; rcases hp with rfl | rfl | rfl | rfl <;> assumption)
  have k_ZERO : Con' K mg "ZERO" (.tup [.int 0, .int 1]) := con_tup X G hk_ZERO ⟨_, _, _, _, _, rfl, hz_ZERO_0, Nat.le_of_ble_eq_true rfl, ⟨_, _, rfl, ⟨_, rfl⟩, ⟨_, _, rfl, ⟨_, rfl⟩, rfl⟩⟩⟩
  have k_ONE : Con' K mg "ONE" (.tup [.int 1, .int 1]) := con_tup X G hk_ONE ⟨_, _, _, _, _, rfl, hz_ONE_0, Nat.le_of_ble_eq_true rfl, ⟨_, _, rfl, ⟨_, rfl⟩, ⟨_, _, rfl, ⟨_, rfl⟩, rfl⟩⟩⟩
  have k_MOST_STRETCHES : Con' K mg "MOST_STRETCHES" (.int 60) := con_int X G hk_MOST_STRETCHES
  have k_MOST_ENDS : Con' K mg "MOST_ENDS" (.int 60) := con_int X G hk_MOST_ENDS
  have e := hfa.symm.trans (PySem.W.mg_of X G ha46)
  cases e
  refine ⟨PySem.W.fnOf "law" "law" (defArgs s_law) (defBody s_law) (defScope s_law) .none kV46 dc46 pm46 an46 cd46 ct46, fun s v => .of_eq rfl, fun base _ _ => ?_⟩
  have c_is_integer := c_is_integer (P := l.prog) (w := w) (base := base) (xt := xtOf [("NoPiece", xNoPiece), ("NoPoint", xNoPoint), ("NoTaste", xNoTaste), ("NoAmount", xNoAmount)]) T (at_of X G ha0 hl0 hc0 hk0) 
  have c_is_between := c_is_between (P := l.prog) (w := w) (base := base) (xt := xtOf [("NoPiece", xNoPiece), ("NoPoint", xNoPoint), ("NoTaste", xNoTaste), ("NoAmount", xNoAmount)]) T (at_of X G ha1 hl1 hc1 hk1) c_is_integer
  have c_is_tuple_of := c_is_tuple_of (P := l.prog) (w := w) (base := base) (xt := xtOf [("NoPiece", xNoPiece), ("NoPoint", xNoPoint), ("NoTaste", xNoTaste), ("NoAmount", xNoAmount)]) T (at_of X G ha2 hl2 hc2 hk2) 
  have c_part_of := c_part_of (P := l.prog) (w := w) (base := base) (xt := xtOf [("NoPiece", xNoPiece), ("NoPoint", xNoPoint), ("NoTaste", xNoTaste), ("NoAmount", xNoAmount)]) T (at_of X G ha3 hl3 hc3 hk3) 
  have c_is_fraction := c_is_fraction (P := l.prog) (w := w) (base := base) (xt := xtOf [("NoPiece", xNoPiece), ("NoPoint", xNoPoint), ("NoTaste", xNoTaste), ("NoAmount", xNoAmount)]) T (at_of X G ha4 hl4 hc4 hk4) c_is_tuple_of c_is_integer
  have c_is_share := c_is_share (P := l.prog) (w := w) (base := base) (xt := xtOf [("NoPiece", xNoPiece), ("NoPoint", xNoPoint), ("NoTaste", xNoTaste), ("NoAmount", xNoAmount)]) T (at_of X G ha5 hl5 hc5 hk5) c_is_fraction
  have c_add := c_add (P := l.prog) (w := w) (base := base) (xt := xtOf [("NoPiece", xNoPiece), ("NoPoint", xNoPoint), ("NoTaste", xNoTaste), ("NoAmount", xNoAmount)]) T (at_of X G ha6 hl6 hc6 hk6) c_part_of
  have c_turned := c_turned (P := l.prog) (w := w) (base := base) (xt := xtOf [("NoPiece", xNoPiece), ("NoPoint", xNoPoint), ("NoTaste", xNoTaste), ("NoAmount", xNoAmount)]) T (at_of X G ha7 hl7 hc7 hk7) 
  have c_take := c_take (P := l.prog) (w := w) (base := base) (xt := xtOf [("NoPiece", xNoPiece), ("NoPoint", xNoPoint), ("NoTaste", xNoTaste), ("NoAmount", xNoAmount)]) T (at_of X G ha8 hl8 hc8 hk8) c_add c_turned
  have c_product := c_product (P := l.prog) (w := w) (base := base) (xt := xtOf [("NoPiece", xNoPiece), ("NoPoint", xNoPoint), ("NoTaste", xNoTaste), ("NoAmount", xNoAmount)]) T (at_of X G ha9 hl9 hc9 hk9) k_ZERO c_part_of
  have c_ratio := c_ratio (P := l.prog) (w := w) (base := base) (xt := xtOf [("NoPiece", xNoPiece), ("NoPoint", xNoPoint), ("NoTaste", xNoTaste), ("NoAmount", xNoAmount)]) T (at_of X G ha10 hl10 hc10 hk10) c_part_of
  have c_is_at_most := c_is_at_most (P := l.prog) (w := w) (base := base) (xt := xtOf [("NoPiece", xNoPiece), ("NoPoint", xNoPoint), ("NoTaste", xNoTaste), ("NoAmount", xNoAmount)]) T (at_of X G ha11 hl11 hc11 hk11) 
  have c_is_below := c_is_below (P := l.prog) (w := w) (base := base) (xt := xtOf [("NoPiece", xNoPiece), ("NoPoint", xNoPoint), ("NoTaste", xNoTaste), ("NoAmount", xNoAmount)]) T (at_of X G ha12 hl12 hc12 hk12) 
  have c_total := c_total (P := l.prog) (w := w) (base := base) (xt := xtOf [("NoPiece", xNoPiece), ("NoPoint", xNoPoint), ("NoTaste", xNoTaste), ("NoAmount", xNoAmount)]) T (at_of X G ha13 hl13 hc13 hk13) k_ZERO c_add
  have c_is_stretch := c_is_stretch (P := l.prog) (w := w) (base := base) (xt := xtOf [("NoPiece", xNoPiece), ("NoPoint", xNoPoint), ("NoTaste", xNoTaste), ("NoAmount", xNoAmount)]) T (at_of X G ha14 hl14 hc14 hk14) c_is_tuple_of c_is_share c_is_at_most
  have c_is_piece := c_is_piece (P := l.prog) (w := w) (base := base) (xt := xtOf [("NoPiece", xNoPiece), ("NoPoint", xNoPoint), ("NoTaste", xNoTaste), ("NoAmount", xNoAmount)]) T (at_of X G ha15 hl15 hc15 hk15) k_MOST_STRETCHES c_is_at_most c_is_stretch
  have c_need_piece := c_need_piece (P := l.prog) (w := w) (base := base) (xt := xtOf [("NoPiece", xNoPiece), ("NoPoint", xNoPoint), ("NoTaste", xNoTaste), ("NoAmount", xNoAmount)]) T (at_of X G ha16 hl16 hc16 hk16) x_NoPiece c_is_piece
  have c_parted := c_parted (P := l.prog) (w := w) (base := base) (xt := xtOf [("NoPiece", xNoPiece), ("NoPoint", xNoPoint), ("NoTaste", xNoTaste), ("NoAmount", xNoAmount)]) T (at_of X G ha17 hl17 hc17 hk17) 
  have c_is_point_of := c_is_point_of (P := l.prog) (w := w) (base := base) (xt := xtOf [("NoPiece", xNoPiece), ("NoPoint", xNoPoint), ("NoTaste", xNoTaste), ("NoAmount", xNoAmount)]) T (at_of X G ha18 hl18 hc18 hk18) c_is_at_most c_is_between c_is_fraction
  have c_cut_at := c_cut_at (P := l.prog) (w := w) (base := base) (xt := xtOf [("NoPiece", xNoPiece), ("NoPoint", xNoPoint), ("NoTaste", xNoTaste), ("NoAmount", xNoAmount)]) T (at_of X G ha19 hl19 hc19 hk19) x_NoPoint c_need_piece c_parted c_is_point_of
  have c_is_taste := c_is_taste (P := l.prog) (w := w) (base := base) (xt := xtOf [("NoPiece", xNoPiece), ("NoPoint", xNoPoint), ("NoTaste", xNoTaste), ("NoAmount", xNoAmount)]) T (at_of X G ha20 hl20 hc20 hk20) k_ZERO k_ONE k_MOST_ENDS c_total c_is_below c_is_tuple_of c_is_share
  have c_need_taste := c_need_taste (P := l.prog) (w := w) (base := base) (xt := xtOf [("NoPiece", xNoPiece), ("NoPoint", xNoPoint), ("NoTaste", xNoTaste), ("NoAmount", xNoAmount)]) T (at_of X G ha21 hl21 hc21 hk21) x_NoTaste c_is_taste
  have c_worth_up_to := c_worth_up_to (P := l.prog) (w := w) (base := base) (xt := xtOf [("NoPiece", xNoPiece), ("NoPoint", xNoPoint), ("NoTaste", xNoTaste), ("NoAmount", xNoAmount)]) T (at_of X G ha22 hl22 hc22 hk22) k_ZERO c_is_at_most c_add c_is_below c_product c_ratio c_take
  have c_worth_between := c_worth_between (P := l.prog) (w := w) (base := base) (xt := xtOf [("NoPiece", xNoPiece), ("NoPoint", xNoPoint), ("NoTaste", xNoTaste), ("NoAmount", xNoAmount)]) T (at_of X G ha23 hl23 hc23 hk23) c_take c_worth_up_to
  have c_worth_of := c_worth_of (P := l.prog) (w := w) (base := base) (xt := xtOf [("NoPiece", xNoPiece), ("NoPoint", xNoPoint), ("NoTaste", xNoTaste), ("NoAmount", xNoAmount)]) T (at_of X G ha24 hl24 hc24 hk24) c_total c_worth_between
  have c_worth := c_worth (P := l.prog) (w := w) (base := base) (xt := xtOf [("NoPiece", xNoPiece), ("NoPoint", xNoPoint), ("NoTaste", xNoTaste), ("NoAmount", xNoAmount)]) T (at_of X G ha25 hl25 hc25 hk25) c_need_taste c_need_piece c_worth_of
  have c_first_point := c_first_point (P := l.prog) (w := w) (base := base) (xt := xtOf [("NoPiece", xNoPiece), ("NoPoint", xNoPoint), ("NoTaste", xNoTaste), ("NoAmount", xNoAmount)]) T (at_of X G ha26 hl26 hc26 hk26) k_ZERO k_ONE c_add c_worth_up_to c_is_at_most c_product c_take c_ratio
  have c_mark_of := c_mark_of (P := l.prog) (w := w) (base := base) (xt := xtOf [("NoPiece", xNoPiece), ("NoPoint", xNoPoint), ("NoTaste", xNoTaste), ("NoAmount", xNoAmount)]) T (at_of X G ha27 hl27 hc27 hk27) k_ZERO c_worth_between c_is_at_most c_add c_first_point c_take
  have c_mark := c_mark (P := l.prog) (w := w) (base := base) (xt := xtOf [("NoPiece", xNoPiece), ("NoPoint", xNoPoint), ("NoTaste", xNoTaste), ("NoAmount", xNoAmount)]) T (at_of X G ha28 hl28 hc28 hk28) x_NoPiece x_NoAmount c_need_taste c_mark_of c_is_piece c_is_fraction c_is_at_most c_worth_of
  have c__law_hand := c__law_hand (P := l.prog) (w := w) (base := base) (xt := xtOf [("NoPiece", xNoPiece), ("NoPoint", xNoPoint), ("NoTaste", xNoTaste), ("NoAmount", xNoAmount)]) T (at_of X G ha29 hl29 hc29 hk29) 
  have c__law_draw := c__law_draw (P := l.prog) (w := w) (base := base) (xt := xtOf [("NoPiece", xNoPiece), ("NoPoint", xNoPoint), ("NoTaste", xNoTaste), ("NoAmount", xNoAmount)]) T (at_of X G ha30 hl30 hc30 hk30) 
  have c__law_kept := c__law_kept (P := l.prog) (w := w) (base := base) (xt := xtOf [("NoPiece", xNoPiece), ("NoPoint", xNoPoint), ("NoTaste", xNoTaste), ("NoAmount", xNoAmount)]) T (at_of X G ha31 hl31 hc31 hk31) 
  have c__law_mixed := c__law_mixed (P := l.prog) (w := w) (base := base) (xt := xtOf [("NoPiece", xNoPiece), ("NoPoint", xNoPoint), ("NoTaste", xNoTaste), ("NoAmount", xNoAmount)]) T (at_of X G ha32 hl32 hc32 hk32) c__law_draw
  have c__law_part := c__law_part (P := l.prog) (w := w) (base := base) (xt := xtOf [("NoPiece", xNoPiece), ("NoPoint", xNoPoint), ("NoTaste", xNoTaste), ("NoAmount", xNoAmount)]) T (at_of X G ha33 hl33 hc33 hk33) 
  have c__law_plus := c__law_plus (P := l.prog) (w := w) (base := base) (xt := xtOf [("NoPiece", xNoPiece), ("NoPoint", xNoPoint), ("NoTaste", xNoTaste), ("NoAmount", xNoAmount)]) T (at_of X G ha34 hl34 hc34 hk34) c__law_part
  have c__law_minus := c__law_minus (P := l.prog) (w := w) (base := base) (xt := xtOf [("NoPiece", xNoPiece), ("NoPoint", xNoPoint), ("NoTaste", xNoTaste), ("NoAmount", xNoAmount)]) T (at_of X G ha35 hl35 hc35 hk35) c__law_part
  have c__law_times := c__law_times (P := l.prog) (w := w) (base := base) (xt := xtOf [("NoPiece", xNoPiece), ("NoPoint", xNoPoint), ("NoTaste", xNoTaste), ("NoAmount", xNoAmount)]) T (at_of X G ha36 hl36 hc36 hk36) c__law_part
  have c__law_over := c__law_over (P := l.prog) (w := w) (base := base) (xt := xtOf [("NoPiece", xNoPiece), ("NoPoint", xNoPoint), ("NoTaste", xNoTaste), ("NoAmount", xNoAmount)]) T (at_of X G ha37 hl37 hc37 hk37) c__law_part
  have c__law_less := c__law_less (P := l.prog) (w := w) (base := base) (xt := xtOf [("NoPiece", xNoPiece), ("NoPoint", xNoPoint), ("NoTaste", xNoTaste), ("NoAmount", xNoAmount)]) T (at_of X G ha38 hl38 hc38 hk38) 
  have c__law_sum := c__law_sum (P := l.prog) (w := w) (base := base) (xt := xtOf [("NoPiece", xNoPiece), ("NoPoint", xNoPoint), ("NoTaste", xNoTaste), ("NoAmount", xNoAmount)]) T (at_of X G ha39 hl39 hc39 hk39) c__law_plus
  have c__law_piece := c__law_piece (P := l.prog) (w := w) (base := base) (xt := xtOf [("NoPiece", xNoPiece), ("NoPoint", xNoPoint), ("NoTaste", xNoTaste), ("NoAmount", xNoAmount)]) T (at_of X G ha40 hl40 hc40 hk40) c__law_draw c__law_part
  have c__law_taste := c__law_taste (P := l.prog) (w := w) (base := base) (xt := xtOf [("NoPiece", xNoPiece), ("NoPoint", xNoPoint), ("NoTaste", xNoTaste), ("NoAmount", xNoAmount)]) T (at_of X G ha41 hl41 hc41 hk41) c__law_draw c__law_mixed c__law_part
  have c__law_up_to := c__law_up_to (P := l.prog) (w := w) (base := base) (xt := xtOf [("NoPiece", xNoPiece), ("NoPoint", xNoPoint), ("NoTaste", xNoTaste), ("NoAmount", xNoAmount)]) T (at_of X G ha42 hl42 hc42 hk42) c__law_less c__law_plus c__law_times c__law_over c__law_minus
  have c__law_worth := c__law_worth (P := l.prog) (w := w) (base := base) (xt := xtOf [("NoPiece", xNoPiece), ("NoPoint", xNoPoint), ("NoTaste", xNoTaste), ("NoAmount", xNoAmount)]) T (at_of X G ha43 hl43 hc43 hk43) c__law_sum c__law_minus c__law_up_to
  have c__law_mark := c__law_mark (P := l.prog) (w := w) (base := base) (xt := xtOf [("NoPiece", xNoPiece), ("NoPoint", xNoPoint), ("NoTaste", xNoTaste), ("NoAmount", xNoAmount)]) T (at_of X G ha44 hl44 hc44 hk44) c__law_plus c__law_worth c__law_less c__law_over c__law_minus c__law_times
  have c__law_refusal := c__law_refusal (P := l.prog) (w := w) (base := base) (xt := xtOf [("NoPiece", xNoPiece), ("NoPoint", xNoPoint), ("NoTaste", xNoTaste), ("NoAmount", xNoAmount)]) T (at_of X G ha45 hl45 hc45 hk45) x_ShareError x_NoPiece x_NoTaste x_NoAmount c_mark
  exact law_of (fn_ok (fun_mk (st := s_law) hl46 hc46 hk46) sc_law (d_law (xt := xtOf [("NoPiece", xNoPiece), ("NoPoint", xNoPoint), ("NoTaste", xNoTaste), ("NoAmount", xNoAmount)]) T c__law_hand c__law_worth c__law_taste c__law_piece c_mark c__law_plus c__law_refusal c__law_times c__law_kept c_worth c__law_part c__law_mark c__law_draw c_cut_at c__law_minus c__law_less _)) law
end Lw

open PySem PySem.W PyProof.Rows in
set_option maxRecDepth 100000 in
set_option maxHeartbeats 0 in
theorem PySem.Challenge.cw_sharespromised_k05_whole_first_marks_holds : PySem.Challenge.rw_sharespromised_k05_whole_first_marks.Holds := by
  w_on; o_law; k_head; (case hw => w_witness2)
  k_fill
  refine Md.law_end (l := PySem.Challenge.rw_sharespromised_k05_whole_first_marks) (k := 26) rfl rfl ⟨rfl, by decide, by decide⟩ (fun w h Y => PySem.W.kIn_of Y) ?F
  case F =>
    intro w mg fa h KX G hmg
    refine' Lw.all_mk KX G hmg Lw.law_true ?ha0 ?hl0 ?hc0 ?hk0 ?ha1 ?hl1 ?hc1 ?hk1 ?ha2 ?hl2 ?hc2 ?hk2 ?ha3 ?hl3 ?hc3 ?hk3 ?ha4 ?hl4 ?hc4 ?hk4 ?ha5 ?hl5 ?hc5 ?hk5 ?ha6 ?hl6 ?hc6 ?hk6 ?ha7 ?hl7 ?hc7 ?hk7 ?ha8 ?hl8 ?hc8 ?hk8 ?ha9 ?hl9 ?hc9 ?hk9 ?ha10 ?hl10 ?hc10 ?hk10 ?ha11 ?hl11 ?hc11 ?hk11 ?ha12 ?hl12 ?hc12 ?hk12 ?ha13 ?hl13 ?hc13 ?hk13 ?ha14 ?hl14 ?hc14 ?hk14 ?ha15 ?hl15 ?hc15 ?hk15 ?ha16 ?hl16 ?hc16 ?hk16 ?ha17 ?hl17 ?hc17 ?hk17 ?ha18 ?hl18 ?hc18 ?hk18 ?ha19 ?hl19 ?hc19 ?hk19 ?ha20 ?hl20 ?hc20 ?hk20 ?ha21 ?hl21 ?hc21 ?hk21 ?ha22 ?hl22 ?hc22 ?hk22 ?ha23 ?hl23 ?hc23 ?hk23 ?ha24 ?hl24 ?hc24 ?hk24 ?ha25 ?hl25 ?hc25 ?hk25 ?ha26 ?hl26 ?hc26 ?hk26 ?ha27 ?hl27 ?hc27 ?hk27 ?ha28 ?hl28 ?hc28 ?hk28 ?ha29 ?hl29 ?hc29 ?hk29 ?ha30 ?hl30 ?hc30 ?hk30 ?ha31 ?hl31 ?hc31 ?hk31 ?ha32 ?hl32 ?hc32 ?hk32 ?ha33 ?hl33 ?hc33 ?hk33 ?ha34 ?hl34 ?hc34 ?hk34 ?ha35 ?hl35 ?hc35 ?hk35 ?ha36 ?hl36 ?hc36 ?hk36 ?ha37 ?hl37 ?hc37 ?hk37 ?ha38 ?hl38 ?hc38 ?hk38 ?ha39 ?hl39 ?hc39 ?hk39 ?ha40 ?hl40 ?hc40 ?hk40 ?ha41 ?hl41 ?hc41 ?hk41 ?ha42 ?hl42 ?hc42 ?hk42 ?ha43 ?hl43 ?hc43 ?hk43 ?ha44 ?hl44 ?hc44 ?hk44 ?ha45 ?hl45 ?hc45 ?hk45 ?ha46 ?hl46 ?hc46 ?hk46 ?hb_abs ?hb_all ?hb_bool ?hb_enumerate ?hb_int ?hb_isinstance ?hb_len ?hb_list ?hb_range ?hb_sorted ?hb_str ?hb_tuple ?hb_gcd ?hx_ShareError ?hx_NoPiece ?hx_NoPoint ?hx_NoTaste ?hx_NoAmount ?hxb_ShareError ?hxt_ShareError ?hxd_ShareError ?hxs_NoPiece_ShareError ?hxs_NoPoint_ShareError ?hxs_NoTaste_ShareError ?hxs_NoAmount_ShareError ?hxe_NoPiece ?hxk_NoPiece ?hxb_NoPiece ?hxt_NoPiece ?hxd_NoPiece ?hxs_NoPiece_NoPiece ?hxs_NoPoint_NoPiece ?hxs_NoTaste_NoPiece ?hxs_NoAmount_NoPiece ?hxe_NoPoint ?hxk_NoPoint ?hxb_NoPoint ?hxt_NoPoint ?hxd_NoPoint ?hxs_NoPiece_NoPoint ?hxs_NoPoint_NoPoint ?hxs_NoTaste_NoPoint ?hxs_NoAmount_NoPoint ?hxe_NoTaste ?hxk_NoTaste ?hxb_NoTaste ?hxt_NoTaste ?hxd_NoTaste ?hxs_NoPiece_NoTaste ?hxs_NoPoint_NoTaste ?hxs_NoTaste_NoTaste ?hxs_NoAmount_NoTaste ?hxe_NoAmount ?hxk_NoAmount ?hxb_NoAmount ?hxt_NoAmount ?hxd_NoAmount ?hxs_NoPiece_NoAmount ?hxs_NoPoint_NoAmount ?hxs_NoTaste_NoAmount ?hxs_NoAmount_NoAmount ?hk_ZERO ?hz_ZERO_0 ?hk_ONE ?hz_ONE_0 ?hk_MOST_STRETCHES ?hk_MOST_ENDS
    (case ha0 => k_is)
    (case hl0 => k_is)
    (case hc0 => k_is)
    (case hk0 => k_is)
    (case ha1 => k_is)
    (case hl1 => k_is)
    (case hc1 => k_is)
    (case hk1 => k_is)
    (case ha2 => k_is)
    (case hl2 => k_is)
    (case hc2 => k_is)
    (case hk2 => k_is)
    (case ha3 => k_is)
    (case hl3 => k_is)
    (case hc3 => k_is)
    (case hk3 => k_is)
    (case ha4 => k_is)
    (case hl4 => k_is)
    (case hc4 => k_is)
    (case hk4 => k_is)
    (case ha5 => k_is)
    (case hl5 => k_is)
    (case hc5 => k_is)
    (case hk5 => k_is)
    (case ha6 => k_is)
    (case hl6 => k_is)
    (case hc6 => k_is)
    (case hk6 => k_is)
    (case ha7 => k_is)
    (case hl7 => k_is)
    (case hc7 => k_is)
    (case hk7 => k_is)
    (case ha8 => k_is)
    (case hl8 => k_is)
    (case hc8 => k_is)
    (case hk8 => k_is)
    (case ha9 => k_is)
    (case hl9 => k_is)
    (case hc9 => k_is)
    (case hk9 => k_is)
    (case ha10 => k_is)
    (case hl10 => k_is)
    (case hc10 => k_is)
    (case hk10 => k_is)
    (case ha11 => k_is)
    (case hl11 => k_is)
    (case hc11 => k_is)
    (case hk11 => k_is)
    (case ha12 => k_is)
    (case hl12 => k_is)
    (case hc12 => k_is)
    (case hk12 => k_is)
    (case ha13 => k_is)
    (case hl13 => k_is)
    (case hc13 => k_is)
    (case hk13 => k_is)
    (case ha14 => k_is)
    (case hl14 => k_is)
    (case hc14 => k_is)
    (case hk14 => k_is)
    (case ha15 => k_is)
    (case hl15 => k_is)
    (case hc15 => k_is)
    (case hk15 => k_is)
    (case ha16 => k_is)
    (case hl16 => k_is)
    (case hc16 => k_is)
    (case hk16 => k_is)
    (case ha17 => k_is)
    (case hl17 => k_is)
    (case hc17 => k_is)
    (case hk17 => k_is)
    (case ha18 => k_is)
    (case hl18 => k_is)
    (case hc18 => k_is)
    (case hk18 => k_is)
    (case ha19 => k_is)
    (case hl19 => k_is)
    (case hc19 => k_is)
    (case hk19 => k_is)
    (case ha20 => k_is)
    (case hl20 => k_is)
    (case hc20 => k_is)
    (case hk20 => k_is)
    (case ha21 => k_is)
    (case hl21 => k_is)
    (case hc21 => k_is)
    (case hk21 => k_is)
    (case ha22 => k_is)
    (case hl22 => k_is)
    (case hc22 => k_is)
    (case hk22 => k_is)
    (case ha23 => k_is)
    (case hl23 => k_is)
    (case hc23 => k_is)
    (case hk23 => k_is)
    (case ha24 => k_is)
    (case hl24 => k_is)
    (case hc24 => k_is)
    (case hk24 => k_is)
    (case ha25 => k_is)
    (case hl25 => k_is)
    (case hc25 => k_is)
    (case hk25 => k_is)
    (case ha26 => k_is)
    (case hl26 => k_is)
    (case hc26 => k_is)
    (case hk26 => k_is)
    (case ha27 => k_is)
    (case hl27 => k_is)
    (case hc27 => k_is)
    (case hk27 => k_is)
    (case ha28 => k_is)
    (case hl28 => k_is)
    (case hc28 => k_is)
    (case hk28 => k_is)
    (case ha29 => k_is)
    (case hl29 => k_is)
    (case hc29 => k_is)
    (case hk29 => k_is)
    (case ha30 => k_is)
    (case hl30 => k_is)
    (case hc30 => k_is)
    (case hk30 => k_is)
    (case ha31 => k_is)
    (case hl31 => k_is)
    (case hc31 => k_is)
    (case hk31 => k_is)
    (case ha32 => k_is)
    (case hl32 => k_is)
    (case hc32 => k_is)
    (case hk32 => k_is)
    (case ha33 => k_is)
    (case hl33 => k_is)
    (case hc33 => k_is)
    (case hk33 => k_is)
    (case ha34 => k_is)
    (case hl34 => k_is)
    (case hc34 => k_is)
    (case hk34 => k_is)
    (case ha35 => k_is)
    (case hl35 => k_is)
    (case hc35 => k_is)
    (case hk35 => k_is)
    (case ha36 => k_is)
    (case hl36 => k_is)
    (case hc36 => k_is)
    (case hk36 => k_is)
    (case ha37 => k_is)
    (case hl37 => k_is)
    (case hc37 => k_is)
    (case hk37 => k_is)
    (case ha38 => k_is)
    (case hl38 => k_is)
    (case hc38 => k_is)
    (case hk38 => k_is)
    (case ha39 => k_is)
    (case hl39 => k_is)
    (case hc39 => k_is)
    (case hk39 => k_is)
    (case ha40 => k_is)
    (case hl40 => k_is)
    (case hc40 => k_is)
    (case hk40 => k_is)
    (case ha41 => k_is)
    (case hl41 => k_is)
    (case hc41 => k_is)
    (case hk41 => k_is)
    (case ha42 => k_is)
    (case hl42 => k_is)
    (case hc42 => k_is)
    (case hk42 => k_is)
    (case ha43 => k_is)
    (case hl43 => k_is)
    (case hc43 => k_is)
    (case hk43 => k_is)
    (case ha44 => k_is)
    (case hl44 => k_is)
    (case hc44 => k_is)
    (case hk44 => k_is)
    (case ha45 => k_is)
    (case hl45 => k_is)
    (case hc45 => k_is)
    (case hk45 => k_is)
    (case ha46 => k_is)
    (case hl46 => k_is)
    (case hc46 => k_is)
    (case hk46 => k_is)
    (case hb_abs => k_is)
    (case hb_all => k_is)
    (case hb_bool => k_is)
    (case hb_enumerate => k_is)
    (case hb_int => k_is)
    (case hb_isinstance => k_is)
    (case hb_len => k_is)
    (case hb_list => k_is)
    (case hb_range => k_is)
    (case hb_sorted => k_is)
    (case hb_str => k_is)
    (case hb_tuple => k_is)
    (case hb_gcd => k_is)
    (case hx_ShareError => k_is)
    (case hx_NoPiece => k_is)
    (case hx_NoPoint => k_is)
    (case hx_NoTaste => k_is)
    (case hx_NoAmount => k_is)
    (case hxb_ShareError => k_is)
    (case hxt_ShareError => k_is)
    (case hxd_ShareError => k_is)
    (case hxs_NoPiece_ShareError => k_is)
    (case hxs_NoPoint_ShareError => k_is)
    (case hxs_NoTaste_ShareError => k_is)
    (case hxs_NoAmount_ShareError => k_is)
    (case hxe_NoPiece => k_exc)
    (case hxk_NoPiece => k_is)
    (case hxb_NoPiece => k_is)
    (case hxt_NoPiece => k_is)
    (case hxd_NoPiece => k_is)
    (case hxs_NoPiece_NoPiece => k_is)
    (case hxs_NoPoint_NoPiece => k_is)
    (case hxs_NoTaste_NoPiece => k_is)
    (case hxs_NoAmount_NoPiece => k_is)
    (case hxe_NoPoint => k_exc)
    (case hxk_NoPoint => k_is)
    (case hxb_NoPoint => k_is)
    (case hxt_NoPoint => k_is)
    (case hxd_NoPoint => k_is)
    (case hxs_NoPiece_NoPoint => k_is)
    (case hxs_NoPoint_NoPoint => k_is)
    (case hxs_NoTaste_NoPoint => k_is)
    (case hxs_NoAmount_NoPoint => k_is)
    (case hxe_NoTaste => k_exc)
    (case hxk_NoTaste => k_is)
    (case hxb_NoTaste => k_is)
    (case hxt_NoTaste => k_is)
    (case hxd_NoTaste => k_is)
    (case hxs_NoPiece_NoTaste => k_is)
    (case hxs_NoPoint_NoTaste => k_is)
    (case hxs_NoTaste_NoTaste => k_is)
    (case hxs_NoAmount_NoTaste => k_is)
    (case hxe_NoAmount => k_exc)
    (case hxk_NoAmount => k_is)
    (case hxb_NoAmount => k_is)
    (case hxt_NoAmount => k_is)
    (case hxd_NoAmount => k_is)
    (case hxs_NoPiece_NoAmount => k_is)
    (case hxs_NoPoint_NoAmount => k_is)
    (case hxs_NoTaste_NoAmount => k_is)
    (case hxs_NoAmount_NoAmount => k_is)
    (case hk_ZERO => k_is)
    (case hz_ZERO_0 => k_is)
    (case hk_ONE => k_is)
    (case hz_ONE_0 => k_is)
    (case hk_MOST_STRETCHES => k_is)
    (case hk_MOST_ENDS => k_is)
#print axioms PySem.Challenge.cw_sharespromised_k05_whole_first_marks_holds
