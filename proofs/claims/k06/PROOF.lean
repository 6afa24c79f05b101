import PyProof.Rows.All
import Wide.All
import OpenK.AllK
import Wide.FinOn
import HandS.ForExc
import HandS.Comp
import HandS.Iter
import HandS.Conv
import HandS.Zip
import HandS.IsInst
import HandS.Gcd
import HandS.Wide
import HandS.TupAny
import HandS.TupMul
import HandS.Deep
import HandS.Style
import HandS.SortInts
import HandS.Small
import HandS.TryMany
import HandS.ExcIs
import KE.GoesEnum
import HandS.WordsDict
import PyProof.DictUpdate
import HandS.More
import HandS.Text
import KE.GoesMore
import HandS.DictComp
import HandS.TryOnly
import PySem.Challenge.RW_sharespromised_k06_programs_judged
set_option Elab.async false
set_option linter.all false
set_option maxRecDepth 100000
set_option maxHeartbeats 4000000
namespace Md
open PySem L2
/-! ## plain data, a store of lists, results -/
inductive DV where
  | non | bl (b : Bool) | int (i : Int) | str (s : String) | tup (xs : List DV) | kl (xs : List DV) | ref (n : Nat)
  deriving Inhabited
mutual
def DV.same : DV → DV → Bool
  | .non, .non => true
  | .bl a, .bl b => a == b
  | .int a, .int b => a == b
  | .str a, .str b => a == b
  | .tup a, .tup b => DV.sameL a b
  | .kl a, .kl b => DV.sameL a b
  | .ref a, .ref b => a == b
  | _, _ => false
def DV.sameL : List DV → List DV → Bool
  | [], [] => true
  | x :: xs, y :: ys => DV.same x y && DV.sameL xs ys
  | _, _ => false
end
mutual
theorem DV.same_iff : ∀ a b : DV, DV.same a b = true ↔ a = b
  | .non, b => by cases b <;> simp [DV.same]
  | .bl _, b => by cases b <;> simp [DV.same]
  | .int _, b => by cases b <;> simp [DV.same]
  | .str _, b => by cases b <;> simp [DV.same]
  | .ref _, b => by cases b <;> simp [DV.same]
  | .tup xs, b => by
    cases b with
    | tup ys => simp only [DV.same, DV.tup.injEq]; exact DV.sameL_iff xs ys
    | _ => simp [DV.same]
  | .kl xs, b => by
    cases b with
    | kl ys => simp only [DV.same, DV.kl.injEq]; exact DV.sameL_iff xs ys
    | _ => simp [DV.same]
theorem DV.sameL_iff : ∀ a b : List DV, DV.sameL a b = true ↔ a = b
  | [], b => by cases b <;> simp [DV.sameL]
  | x :: xs, b => by
    cases b with
    | nil => simp [DV.sameL]
    | cons y ys => simp only [DV.sameL, Bool.and_eq_true, List.cons.injEq]; rw [DV.same_iff x y, DV.sameL_iff xs ys]
end
instance : DecidableEq DV := fun a b => decidable_of_iff _ (DV.same_iff a b)
/-- what stands in the store: a list, an instance of an own class, a dict (keys: ints, texts) -/
inductive DC where
  | lst (xs : List DV) | obj (cls : String) (fs : List (String × DV)) | dct (kvs : List (DV × DV))
  deriving DecidableEq, Inhabited
abbrev DM := List DC
abbrev DE := List (Option DV)
/-- an exception: its class, its field -/
structure DX where
  cls : String
  fld : Option (String × DV) := none
inductive DR (α : Type) where
  | ok (a : α) (μ : DM) | ex (e : DX) (μ : DM) | bad
def DR.bind {α β : Type} (r : DR α) (f : α → DM → DR β) : DR β := match r with
  | .ok a μ => f a μ
  | .ex e μ => .ex e μ
  | .bad => .bad
@[simp] theorem DR.bind_ok {α β : Type} (a : α) (μ : DM) (f : α → DM → DR β) : (DR.ok a μ).bind f = f a μ := rfl
@[simp] theorem DR.bind_ex {α β : Type} (e : DX) (μ : DM) (f : α → DM → DR β) : (DR.ex e μ : DR α).bind f = .ex e μ := rfl
@[simp] theorem DR.bind_bad {α β : Type} (f : α → DM → DR β) : (DR.bad : DR α).bind f = .bad := rfl
def DR.noex {α : Type} (r : DR α) : DR α := match r with
  | .ok a μ => .ok a μ
  | _ => .bad
@[simp] theorem DR.noex_ok {α : Type} (a : α) (μ : DM) : (DR.ok a μ).noex = .ok a μ := rfl
inductive SR where
  | nx (ρ : DE) (μ : DM) | rt (v : DV) (μ : DM) | ex (e : DX) (ρ : DE) (μ : DM) | bk (ρ : DE) (μ : DM) | ct (ρ : DE) (μ : DM) | bad
abbrev EM := DE → DM → DR DV
abbrev LM := DE → DM → DR (List DV)
abbrev BM := DE → DM → DR Bool
abbrev SM := DE → DM → SR
abbrev Fn := List DV → DM → DR DV
/-- a length that the machine carries -/
abbrev LIM : Nat := 16777216
theorem lim_line : LIM = sizeLine := by rw [sizeLine_eq]
mutual
def DV.und (n : Nat) : DV → Bool
  | .ref m => decide (m < n)
  | .tup xs => DV.undL n xs
  | .kl xs => DV.undL n xs
  | _ => true
def DV.undL (n : Nat) : List DV → Bool
  | [] => true
  | x :: xs => DV.und n x && DV.undL n xs
end
def DC.und (n : Nat) : DC → Bool
  | .lst xs => DV.undL n xs
  | .obj _ fs => DV.undL n (fs.map (·.2))
  | .dct kvs => DV.undL n (kvs.map (·.2))
/-- what a call leaves: the new lists go where nothing leads to them -/
def tidyOk (μ0 : DM) (v : DV) (μ : DM) : Prop := v.und μ0.length = true ∧ μ0.length ≤ μ.length ∧ ∀ i, i < μ0.length → μ[i]? = μ0[i]? ∨ ((μ[i]?).all fun c => c.und μ0.length) = true
instance (μ0 : DM) (v : DV) (μ : DM) : Decidable (tidyOk μ0 v μ) := by unfold tidyOk; infer_instance
def tidy (μ0 : DM) (v : DV) (μ : DM) : DR DV := if tidyOk μ0 v μ then .ok v (μ.take μ0.length) else .ok v μ

/-! ## how data lie in the heap -/
/-- what of the text a class must have whose instances stand in the store -/
structure CF (K : PySem.W.Frag) (C : Addr) : Prop where
  cls : Cls K C
  ha : PySem.W.findIn K (.ref C) "__class__" = some (some (.builtin "object.__class__"))
  hn : PySem.W.specialIn K (.builtin "object.__class__") "__get__" = some (some (.builtin "getset_descriptor.__get__"))
  htk : PySem.W.takesIn K (.builtin "object.__class__") = some true
  hm : PySem.W.mroIn K C (.type "object") = some true
  kit : ∀ T ∈ ["int", "bool", "tuple", "list", "str"], PySem.W.kitOne K (.ref C) (.type T) = some false
/-- a dict's key -/
def dKey : DV → Option Key
  | .int i => some (.inl i)
  | .str s => some (.inr (Str.ofString s))
  | _ => none
/-- a list that nobody changes: the script, a list of the written part -/
def FrL (K : PySem.W.Frag) (H : Hp) (a : Addr) (xs : List V) : Prop :=
  (∃ o, H a = some (.frz o (.lst xs))) ∨
    ∃ (o : Obj) (its : Array Value) (n : Nat), K.lookup a = some o ∧ o.cls = .type "list" ∧ o.dict = none ∧ o.data = .seq its n ∧ its.size ≤ sizeLine ∧ Vals xs its.toList
theorem FrL.sq {K : PySem.W.Frag} {H : Hp} {a : Addr} {xs : List V} (h : FrL K H a xs) : SqL K H a xs := h.imp (fun z => .inr z) id
section
variable (K : PySem.W.Frag)
mutual
def Rp (θ : List Addr) (H : Hp) : DV → V → Prop
  | .non, v => v = .non
  | .bl b, v => v = .bl b
  | .int i, v => v = .int i
  | .str s, v => v = .str (Str.ofString s)
  | .tup xs, v => ∃ a vs, v = .ref a ∧ SqT K H a vs ∧ RpL θ H xs vs
  | .kl xs, v => ∃ a vs, v = .ref a ∧ FrL K H a vs ∧ RpL θ H xs vs
  | .ref n, v => ∃ a, θ[n]? = some a ∧ v = .ref a
def RpL (θ : List Addr) (H : Hp) : List DV → List V → Prop
  | [], vs => vs = []
  | x :: xs, vs => ∃ w ws, vs = w :: ws ∧ Rp θ H x w ∧ RpL θ H xs ws
end
def CellAt (θ : List Addr) (H : Hp) (a : Addr) : DC → Prop
  | .lst xs => ∃ vs, H a = some (.lst vs) ∧ RpL K θ H xs vs
  | .obj cls fs => ∃ C dx vs, PySem.W.nsIn K mainGlobals (Str.ofString cls) = some (some (.ref C)) ∧ H a = some (.ins C dx ((fs.map fun p => Str.ofString p.1).zip vs)) ∧ RpL K θ H (fs.map (·.2)) vs ∧ CF K C ∧ ∀ p ∈ fs, NoAttr K C (Str.ofString p.1)
  | .dct kvs => ∃ (ks : List Key) (vs : List V), (kvs.map fun p => dKey p.1) = ks.map some ∧ H a = some (.dK (ks.zip vs)) ∧ RpL K θ H (kvs.map (·.2)) vs
structure Sto (θ : List Addr) (H : Hp) (μ : DM) : Prop where
  len : θ.length = μ.length
  nd : θ.Nodup
  cell : ∀ (n : Nat) (a : Addr) (c : DC), θ[n]? = some a → μ[n]? = some c → CellAt K θ H a c
structure RpE (θ : List Addr) (H : Hp) (ρ : DE) (σ : L2.St) : Prop where
  len : ρ.length = σ.length
  at' : ∀ (i : Nat) (v : DV), ρ[i]? = some (some v) → ∃ w, σ[i]? = some (some w) ∧ Rp K θ H v w
end
/-- what is never changed -/
def Fx : HO → Prop
  | .tup _ => True
  | .frz _ _ => True
  | _ => False
/-- later: more lists may be there, what is not in the store stands -/
structure Lt (θ θ' : List Addr) (H H' : Hp) : Prop where
  pre : ∃ t, θ' = θ ++ t
  new : ∀ a ∈ θ', a ∈ θ ∨ H a = none
  keep : ∀ a o, H a = some o → (a ∉ θ ∨ Fx o) → H' a = some o
theorem Lt.refl {θ : List Addr} {H : Hp} : Lt θ θ H H := ⟨⟨[], by simp⟩, fun a h => .inl h, fun a o h _ => h⟩
theorem Lt.trans {θ θ1 θ2 : List Addr} {H H1 H2 : Hp} (x : Lt θ θ1 H H1) (y : Lt θ1 θ2 H1 H2) : Lt θ θ2 H H2 := by
  obtain ⟨t1, e1⟩ := x.pre
  obtain ⟨t2, e2⟩ := y.pre
  refine ⟨⟨t1 ++ t2, by rw [e2, e1, List.append_assoc]⟩, fun a ha => ?_, fun a o h hf => ?_⟩
  · rcases y.new a ha with h | h
    · exact x.new a h
    · by_cases ht : a ∈ θ
      · exact .inl ht
      · cases q : H a with
        | none => exact .inr rfl
        | some o => rw [x.keep a o q (.inl ht)] at h; cases h
  · have h1 := x.keep a o h hf
    refine y.keep a o h1 (hf.imp (fun hn ht => ?_) id)
    rcases x.new a ht with z | z
    · exact hn z
    · rw [z] at h; cases h
section
variable {K : PySem.W.Frag} {θ θ' : List Addr} {H H' : Hp}
theorem Lt.sqT (x : Lt θ θ' H H') {a : Addr} {vs : List V} (h : SqT K H a vs) : SqT K H' a vs := by
  rcases h with (h | ⟨o, h⟩) | h
  · exact .inl (.inl (x.keep a _ h (.inr trivial)))
  · exact .inl (.inr ⟨o, x.keep a _ h (.inr trivial)⟩)
  · exact .inr h
theorem Lt.frL (x : Lt θ θ' H H') {a : Addr} {vs : List V} (h : FrL K H a vs) : FrL K H' a vs := h.imp (fun ⟨o, e⟩ => ⟨o, x.keep a _ e (.inr trivial)⟩) id
/-- what data lean on stands -/
structure Stay (K : PySem.W.Frag) (θ θ' : List Addr) (H H' : Hp) : Prop where
  t : ∀ a vs, SqT K H a vs → SqT K H' a vs
  f : ∀ a vs, FrL K H a vs → FrL K H' a vs
  g : ∀ (n : Nat) (a : Addr), θ[n]? = some a → θ'[n]? = some a
theorem Lt.get (x : Lt θ θ' H H') {n : Nat} {a : Addr} (h : θ[n]? = some a) : θ'[n]? = some a := by
  obtain ⟨t, e⟩ := x.pre
  rw [e, List.getElem?_append_left (List.getElem?_eq_some_iff.mp h).1]
  exact h
mutual
/-- data stand where tuples stand and the store grows -/
theorem Rp.of (hs : Stay K θ θ' H H') : ∀ (v : DV) (w : V), Rp K θ H v w → Rp K θ' H' v w
  | .non, _, h => h
  | .bl _, _, h => h
  | .int _, _, h => h
  | .str _, _, h => h
  | .tup xs, w, h => by
    obtain ⟨a, vs, e, s, r⟩ := h
    exact ⟨a, vs, e, hs.t a vs s, RpL.of hs xs vs r⟩
  | .kl xs, w, h => by
    obtain ⟨a, vs, e, s, r⟩ := h
    exact ⟨a, vs, e, hs.f a vs s, RpL.of hs xs vs r⟩
  | .ref n, w, h => by
    obtain ⟨a, e, r⟩ := h
    exact ⟨a, hs.g n a e, r⟩
theorem RpL.of (hs : Stay K θ θ' H H') : ∀ (xs : List DV) (ws : List V), RpL K θ H xs ws → RpL K θ' H' xs ws
  | [], _, h => h
  | x :: xs, w, h => by
    obtain ⟨v, vs, e, r, rs⟩ := h
    exact ⟨v, vs, e, Rp.of hs x v r, RpL.of hs xs vs rs⟩
end
theorem Lt.stay (x : Lt θ θ' H H') : Stay K θ θ' H H' := ⟨fun _ _ => x.sqT, fun _ _ => x.frL, fun _ _ => x.get⟩
theorem Lt.rp (x : Lt θ θ' H H') {v : DV} {w : V} (h : Rp K θ H v w) : Rp K θ' H' v w := Rp.of x.stay v w h
theorem Lt.rpL (x : Lt θ θ' H H') {v : List DV} {w : List V} (h : RpL K θ H v w) : RpL K θ' H' v w := RpL.of x.stay v w h
theorem Lt.rpE (x : Lt θ θ' H H') {ρ : DE} {σ : L2.St} (h : RpE K θ H ρ σ) : RpE K θ' H' ρ σ := ⟨h.len, fun i v e => let ⟨w, e1, r⟩ := h.at' i v e; ⟨w, e1, x.rp r⟩⟩
theorem RpL.len : ∀ {xs : List DV} {ws : List V}, RpL K θ H xs ws → xs.length = ws.length
  | [], _, h => by cases h; rfl
  | x :: xs, w, h => by
    obtain ⟨v, vs, e, r, rs⟩ := h
    subst e
    simp [RpL.len rs]
theorem RpL.get : ∀ {xs : List DV} {ws : List V} {i : Nat} {x : DV}, RpL K θ H xs ws → xs[i]? = some x → ∃ w, ws[i]? = some w ∧ Rp K θ H x w
  | [], _, i, x, _, e => by simp at e
  | y :: ys, w, i, x, h, e => by
    obtain ⟨v, vs, rfl, r, rs⟩ := h
    cases i with
    | zero => simp at e; subst e; exact ⟨v, rfl, r⟩
    | succ i => simp at e; obtain ⟨u, h1, h2⟩ := RpL.get rs e; exact ⟨u, by simpa using h1, h2⟩
theorem RpL.app : ∀ {xs ys : List DV} {vs ws : List V}, RpL K θ H xs vs → RpL K θ H ys ws → RpL K θ H (xs ++ ys) (vs ++ ws)
  | [], _, _, _, h, g => by cases h; exact g
  | x :: xs, _, _, _, h, g => by
    obtain ⟨v, vs, rfl, r, rs⟩ := h
    exact ⟨v, _, rfl, r, RpL.app rs g⟩
theorem RpL.one {x : DV} {w : V} (h : Rp K θ H x w) : RpL K θ H [x] [w] := ⟨w, [], rfl, h, rfl⟩
theorem RpL.drop : ∀ {xs : List DV} {ws : List V} (n : Nat), RpL K θ H xs ws → RpL K θ H (xs.drop n) (ws.drop n)
  | _, _, 0, h => h
  | [], _, n + 1, h => by cases h; exact rfl
  | x :: xs, _, n + 1, h => by
    obtain ⟨v, vs, rfl, r, rs⟩ := h
    exact RpL.drop n rs
theorem RpL.take : ∀ {xs : List DV} {ws : List V} (n : Nat), RpL K θ H xs ws → RpL K θ H (xs.take n) (ws.take n)
  | _, _, 0, h => by simp [RpL]
  | [], _, n + 1, h => by cases h; exact rfl
  | x :: xs, _, n + 1, h => by
    obtain ⟨v, vs, rfl, r, rs⟩ := h
    exact ⟨v, _, rfl, r, RpL.take n rs⟩
theorem RpL.set : ∀ {xs : List DV} {ws : List V} {x : DV} {w : V} (n : Nat), RpL K θ H xs ws → Rp K θ H x w → RpL K θ H (xs.set n x) (ws.set n w)
  | [], _, _, _, n, h, _ => by cases h; simp [RpL]
  | x :: xs, _, _, _, 0, h, g => by
    obtain ⟨v, vs, rfl, r, rs⟩ := h
    exact ⟨_, _, rfl, g, rs⟩
  | x :: xs, _, _, _, n + 1, h, g => by
    obtain ⟨v, vs, rfl, r, rs⟩ := h
    exact ⟨_, _, rfl, r, RpL.set n rs g⟩
theorem RpL.erase : ∀ {xs : List DV} {ws : List V} (n : Nat), RpL K θ H xs ws → RpL K θ H (xs.eraseIdx n) (ws.eraseIdx n)
  | [], _, n, h => by cases h; simp [RpL]
  | x :: xs, _, 0, h => by
    obtain ⟨v, vs, rfl, r, rs⟩ := h
    exact rs
  | x :: xs, _, n + 1, h => by
    obtain ⟨v, vs, rfl, r, rs⟩ := h
    exact ⟨_, _, rfl, r, RpL.erase n rs⟩
theorem RpL.ints : ∀ {ns : List Int} {ws : List V}, RpL K θ H (ns.map DV.int) ws → ws = ns.map V.int
  | [], _, h => by cases h; rfl
  | n :: ns, _, h => by
    obtain ⟨v, vs, rfl, r, rs⟩ := h
    cases r
    rw [RpL.ints rs]; rfl
theorem RpL.of_ints : ∀ {ns : List Int}, RpL K θ H (ns.map DV.int) (ns.map V.int)
  | [] => rfl
  | n :: ns => ⟨_, _, rfl, rfl, RpL.of_ints⟩
theorem RpL.bls : ∀ {ns : List Bool} {ws : List V}, RpL K θ H (ns.map DV.bl) ws → ws = ns.map V.bl
  | [], _, h => by cases h; rfl
  | n :: ns, _, h => by
    obtain ⟨v, vs, rfl, r, rs⟩ := h
    cases r
    rw [RpL.bls rs]; rfl
theorem RpL.rep {xs : List DV} {ws : List V} (h : RpL K θ H xs ws) : ∀ k : Nat, RpL K θ H (List.replicate k xs).flatten (List.replicate k ws).flatten
  | 0 => rfl
  | k + 1 => by
    rw [List.replicate_succ, List.replicate_succ, List.flatten_cons, List.flatten_cons]
    exact RpL.app h (RpL.rep h k)
/-! ### stores -/
theorem Sto.lt {μ : DM} (s : Sto K θ H μ) {n : Nat} {c : DC} (h : μ[n]? = some c) : ∃ a, θ[n]? = some a ∧ CellAt K θ H a c := by
  have hn := (List.getElem?_eq_some_iff.mp h).1
  obtain ⟨a, ha⟩ : ∃ a, θ[n]? = some a := ⟨θ[n]'(by rw [s.len]; exact hn), by simp [s.len, hn]⟩
  exact ⟨a, ha, s.cell n a c ha h⟩
theorem CellAt.of (hs : Stay K θ θ' H H') {a : Addr} {c : DC} (ha : H' a = H a) (h : CellAt K θ H a c) : CellAt K θ' H' a c := by
  cases c with
  | lst xs =>
    obtain ⟨vs, e, r⟩ := h
    exact ⟨vs, by rw [ha]; exact e, RpL.of hs xs vs r⟩
  | obj cls fs =>
    obtain ⟨C, dx, vs, hc, e, r, cf, na⟩ := h
    exact ⟨C, dx, vs, hc, by rw [ha]; exact e, RpL.of hs _ vs r, cf, na⟩
  | dct kvs =>
    obtain ⟨ks, vs, hk, e, r⟩ := h
    exact ⟨ks, vs, hk, by rw [ha]; exact e, RpL.of hs _ vs r⟩
/-- the same address in another heap -/
theorem CellAt.at' {a : Addr} {c : DC} (h : CellAt K θ H a c) : ∃ o, H a = some o ∧ ¬ Fx o := by
  cases c with
  | lst xs => obtain ⟨vs, e, r⟩ := h; exact ⟨_, e, id⟩
  | obj cls fs => obtain ⟨C, dx, vs, hc, e, r⟩ := h; exact ⟨_, e, id⟩
  | dct kvs => obtain ⟨ks, vs, hk, e, r⟩ := h; exact ⟨_, e, id⟩
/-- a new tuple is laid -/
theorem Lt.laid {p : Addr} {o : HO} (hp : H p = none) : Lt θ θ H (upd H p o) := ⟨⟨[], by simp⟩, fun a h => .inl h, fun a u h _ => by rw [upd_ne (ne_of_none h hp)]; exact h⟩
theorem sqT_laid {p : Addr} {o : HO} (hp : H p = none) {a : Addr} {vs : List V} (h : SqT K H a vs) : SqT K (upd H p o) a vs := (Lt.laid (θ := []) hp).sqT h
theorem Sto.free {μ : DM} (s : Sto K θ H μ) {p : Addr} {o : HO} (hp : H p = none) (hθ : p ∉ θ) : Sto K θ (upd H p o) μ :=
  ⟨s.len, s.nd, fun n a c h1 h2 => (s.cell n a c h1 h2).of (Lt.laid hp).stay (upd_ne fun e => hθ (e ▸ List.mem_of_getElem? h1))⟩
end
end Md

namespace Md
open PySem L2
/-! ## what a computation over plain data promises -/
theorem Sto.out {K : PySem.W.Frag} {θ : List Addr} {H : Hp} {μ : DM} (s : Sto K θ H μ) {p : Addr} (hp : H p = none) : p ∉ θ := fun h => by
  obtain ⟨n, hn, e⟩ := List.getElem_of_mem h
  have h1 : θ[n]? = some p := by rw [List.getElem?_eq_getElem hn, e]
  have h2 : μ[n]? = some (μ[n]'(by rw [← s.len]; exact hn)) := List.getElem?_eq_getElem _
  have h3 := s.cell n p _ h1 h2
  obtain ⟨o, e, _⟩ := h3.at'
  rw [hp] at e; cases e
theorem Sto.fr {K : PySem.W.Frag} {θ : List Addr} {H : Hp} {μ : DM} (s : Sto K θ H μ) {p : Addr} {o : HO} (hp : H p = none) : Sto K θ (upd H p o) μ := s.free hp (s.out hp)
/-- a new cell goes to the store -/
theorem Sto.pushC {K : PySem.W.Frag} {θ : List Addr} {H : Hp} {μ : DM} (s : Sto K θ H μ) {p : Addr} {c : DC} (hp : p ∉ θ) (h : CellAt K θ H p c) : Sto K (θ ++ [p]) H (μ ++ [c]) := by
  have hs : Stay K θ (θ ++ [p]) H H := ⟨fun _ _ h => h, fun _ _ h => h, fun n a h => by rw [List.getElem?_append_left (List.getElem?_eq_some_iff.mp h).1]; exact h⟩
  refine ⟨by simp [s.len], List.nodup_append.mpr ⟨s.nd, by simp, fun a h1 b h2 => by simp at h2; subst h2; exact fun e => hp (e ▸ h1)⟩, fun n a c h1 h2 => ?_⟩
  by_cases hn : n < θ.length
  · rw [List.getElem?_append_left hn] at h1
    rw [List.getElem?_append_left (by rw [← s.len]; exact hn)] at h2
    exact (s.cell n a c h1 h2).of hs rfl
  · have hn' : n = θ.length := by
      have := (List.getElem?_eq_some_iff.mp h1).1
      simp at this; omega
    subst hn'
    rw [List.getElem?_append_right (Nat.le_refl _)] at h1
    rw [List.getElem?_append_right (by rw [← s.len]; exact Nat.le_refl _), s.len] at h2
    simp at h1 h2
    subst h1; subst h2
    exact h.of hs rfl
/-- a new list goes to the store -/
theorem Sto.push {K : PySem.W.Frag} {θ : List Addr} {H : Hp} {μ : DM} (s : Sto K θ H μ) {p : Addr} {xs : List DV} {vs : List V} (hp : p ∉ θ) (h : H p = some (.lst vs)) (r : RpL K θ H xs vs) : Sto K (θ ++ [p]) H (μ ++ [.lst xs]) :=
  s.pushC hp ⟨vs, h, r⟩
theorem Lt.push {θ : List Addr} {H : Hp} {p : Addr} {o : HO} (hp : H p = none) : Lt θ (θ ++ [p]) H (upd H p o) :=
  ⟨⟨[p], rfl⟩, fun a h => by
    rcases List.mem_append.mp h with h | h
    · exact .inl h
    · simp at h; subst h; exact .inr hp, fun a u h _ => by rw [upd_ne (ne_of_none h hp)]; exact h⟩
/-- a cell of the store is changed -/
theorem Sto.putC {K : PySem.W.Frag} {θ : List Addr} {H : Hp} {μ : DM} (s : Sto K θ H μ) {n : Nat} {p : Addr} {c : DC} {o o0 : HO} (hn : θ[n]? = some p) (h : H p = some o0) (hf : ¬ Fx o0) (r : ∀ H', Lt θ θ H H' → H' p = some o → CellAt K θ H' p c) :
    Sto K θ (upd H p o) (μ.set n c) ∧ Lt θ θ H (upd H p o) := by
  have lt : Lt θ θ H (upd H p o) := ⟨⟨[], by simp⟩, fun a h => .inl h, fun a u e hf' => by
    rw [upd_ne fun q => ?_]
    · exact e
    · subst q
      rw [h] at e; cases e
      exact hf'.elim (fun z => z (List.mem_of_getElem? hn)) hf⟩
  refine ⟨⟨by simp [s.len], s.nd, fun m a c' h1 h2 => ?_⟩, lt⟩
  by_cases hm : m = n
  · subst hm
    rw [hn] at h1; cases h1
    have hl : m < μ.length := by rw [← s.len]; exact (List.getElem?_eq_some_iff.mp hn).1
    rw [List.getElem?_set_self hl] at h2
    cases h2
    exact r _ lt upd_same
  · rw [List.getElem?_set_ne (Ne.symm hm)] at h2
    have hne : a ≠ p := fun e => by
      subst e
      have e1 := (List.getElem?_eq_some_iff.mp h1)
      have e2 := (List.getElem?_eq_some_iff.mp hn)
      exact hm ((List.getElem_inj s.nd).mp (e1.2.trans e2.2.symm))
    exact (s.cell m a c' h1 h2).of lt.stay (upd_ne hne)
/-- a list of the store is changed -/
theorem Sto.put {K : PySem.W.Frag} {θ : List Addr} {H : Hp} {μ : DM} (s : Sto K θ H μ) {n : Nat} {p : Addr} {xs : List DV} {vs ws : List V} (hn : θ[n]? = some p) (h : H p = some (.lst vs)) (r : RpL K θ H xs ws) :
    Sto K θ (upd H p (.lst ws)) (μ.set n (.lst xs)) ∧ Lt θ θ H (upd H p (.lst ws)) :=
  s.putC hn h id fun H' l e => ⟨ws, e, l.rpL r⟩
section
variable (K : PySem.W.Frag) (xt : String → Option Addr) (W : WX)
def RpX (θ : List Addr) (H : Hp) (e : DX) (cls : Value) (d : Option Addr) : Prop := ∃ A, xt e.cls = some A ∧ cls = .ref A ∧ match e.fld with
  | none => d = none
  | some (f, v) => ∃ dx w, d = some dx ∧ H dx = some (.xd [(Str.ofString f, w)]) ∧ Rp K θ H v w
def Po {α β : Type} (R : List Addr → Hp → α → β → Prop) (r : DR α) (θ : List Addr) (H : Hp) (σ : L2.St) (Q : β → Hp → Prop) : Prop := match r with
  | .ok v μ => ∀ θ' H' w, Lt θ θ' H H' → Sto K θ' H' μ → R θ' H' v w → Q w H'
  | .ex e μ => ∀ θ' H' cls d, Lt θ θ' H H' → Sto K θ' H' μ → RpX K xt θ' H' e cls d → W cls d σ H'
  | .bad => False
def tG {α β : Type} (R : List Addr → Hp → α → β → Prop) (m : DE → DM → DR α) : L2.St → Hp → (β → Hp → Prop) → Prop := fun σ H Q =>
  ∃ θ ρ μ, RpE K θ H ρ σ ∧ Sto K θ H μ ∧ Po K xt W R (m ρ μ) θ H σ Q
abbrev tE (m : EM) : TE := tG K xt W (Rp K) m
abbrev tAs (m : LM) : TA := tG K xt W (RpL K) m
abbrev tTs (m : BM) : TT := tG K xt W (fun _ _ b c => b = c) m
/-- a list that is new, and not in the store -/
def PoF (r : DR (List DV)) (θ : List Addr) (H : Hp) (σ : L2.St) (Q : VK) : Prop := match r with
  | .ok xs μ => ∀ θ' H' a vs, Lt θ θ' H H' → Sto K θ' H' μ → H a = none → a ∉ θ' → H' a = some (.lst vs) → RpL K θ' H' xs vs → Q (.ref a) H'
  | .ex e μ => ∀ θ' H' cls d, Lt θ θ' H H' → Sto K θ' H' μ → RpX K xt θ' H' e cls d → W cls d σ H'
  | .bad => False
def tFr (m : LM) : TE := fun σ H Q => ∃ θ ρ μ, RpE K θ H ρ σ ∧ Sto K θ H μ ∧ PoF K xt W (m ρ μ) θ H σ Q
def PoS (r : SR) (θ : List Addr) (H : Hp) (D : Ends) : Prop := match r with
  | .nx ρ μ => ∀ θ' H' σ', Lt θ θ' H H' → RpE K θ' H' ρ σ' → Sto K θ' H' μ → D.nx σ' H'
  | .rt v μ => ∀ θ' H' w, Lt θ θ' H H' → Sto K θ' H' μ → Rp K θ' H' v w → D.rt w H'
  | .ex e ρ μ => ∀ θ' H' σ' cls d, Lt θ θ' H H' → RpE K θ' H' ρ σ' → Sto K θ' H' μ → RpX K xt θ' H' e cls d → W cls d σ' H'
  | .bk ρ μ => ∀ θ' H' σ', Lt θ θ' H H' → RpE K θ' H' ρ σ' → Sto K θ' H' μ → D.bk σ' H'
  | .ct ρ μ => ∀ θ' H' σ', Lt θ θ' H H' → RpE K θ' H' ρ σ' → Sto K θ' H' μ → D.ct σ' H'
  | .bad => False
def tSt (m : SM) : TS := fun D σ H => ∃ θ ρ μ, RpE K θ H ρ σ ∧ Sto K θ H μ ∧ PoS K xt W (m ρ μ) θ H D
end
section
variable {K : PySem.W.Frag} {xt : String → Option Addr} {W : WX} {α β α' β' : Type} {R : List Addr → Hp → α → β → Prop} {R' : List Addr → Hp → α' → β' → Prop} {θ θ' : List Addr} {H H' : Hp} {σ : L2.St}
theorem Po.later {r : DR α} {Q : β → Hp → Prop} (h : Po K xt W R r θ H σ Q) (x : Lt θ θ' H H') : Po K xt W R r θ' H' σ Q := by
  cases r with
  | ok v μ => exact fun θ2 H2 w l => h θ2 H2 w (x.trans l)
  | ex e μ => exact fun θ2 H2 c d l => h θ2 H2 c d (x.trans l)
  | bad => exact h
theorem Po.imp {r : DR α} {Q Q' : β → Hp → Prop} (h : Po K xt W R r θ H σ Q) (q : ∀ w H', Q w H' → Q' w H') : Po K xt W R r θ H σ Q' := by
  cases r with
  | ok v μ => exact fun θ2 H2 w l s p => q _ _ (h θ2 H2 w l s p)
  | ex e μ => exact h
  | bad => exact h
/-- the first of two -/
theorem Po.bind {r : DR α} {k : α → DM → DR α'} {Q : β' → Hp → Prop} (h : Po K xt W R' (r.bind k) θ H σ Q) :
    Po K xt W R r θ H σ fun w H1 => ∃ θ1 μ1 v, Lt θ θ1 H H1 ∧ Sto K θ1 H1 μ1 ∧ R θ1 H1 v w ∧ Po K xt W R' (k v μ1) θ1 H1 σ Q := by
  cases r with
  | ok v μ => exact fun θ2 H2 w l s p => ⟨θ2, μ, v, l, s, p, Po.later h l⟩
  | ex e μ => exact h
  | bad => exact h
theorem Po.ret {v : α} {μ : DM} {w : β} {Q : β → Hp → Prop} (h : Po K xt W R (.ok v μ) θ H σ Q) (s : Sto K θ H μ) (r : R θ H v w) : Q w H := h θ H w .refl s r
theorem Po.noex {r : DR α} {Q : β → Hp → Prop} {W' : WX} (h : Po K xt W R r.noex θ H σ Q) : Po K xt W' R r θ H σ Q := by
  cases r with
  | ok v μ => exact h
  | ex e μ => exact False.elim h
  | bad => exact h
theorem PoF.imp {r : DR (List DV)} {Q Q' : VK} (h : PoF K xt W r θ H σ Q) (q : ∀ w H', Q w H' → Q' w H') : PoF K xt W r θ H σ Q' := by
  cases r with
  | ok v μ => exact fun θ2 H2 a vs l s h0 hn ha p => q _ _ (h θ2 H2 a vs l s h0 hn ha p)
  | ex e μ => exact h
  | bad => exact h
/-- what a new list is for the next one -/
def FrAt (K : PySem.W.Frag) (θ : List Addr) (H : Hp) (θ1 : List Addr) (H1 : Hp) (μ1 : DM) (xs : List DV) (w : V) : Prop :=
  ∃ a vs, w = .ref a ∧ Lt θ θ1 H H1 ∧ Sto K θ1 H1 μ1 ∧ H a = none ∧ a ∉ θ1 ∧ H1 a = some (.lst vs) ∧ RpL K θ1 H1 xs vs
theorem PoF.bind {r : DR (List DV)} {k : List DV → DM → DR α'} {Q : β' → Hp → Prop} (h : Po K xt W R' (r.bind k) θ H σ Q) :
    PoF K xt W r θ H σ fun w H1 => ∃ θ1 μ1 xs, FrAt K θ H θ1 H1 μ1 xs w ∧ ∀ θ2 H2, Lt θ θ2 H H2 → Po K xt W R' (k xs μ1) θ2 H2 σ Q := by
  cases r with
  | ok v μ => exact fun θ2 H2 a vs l s h0 hn ha p => ⟨θ2, μ, v, ⟨a, vs, rfl, l, s, h0, hn, ha, p⟩, fun _ _ l => Po.later h l⟩
  | ex e μ => exact h
  | bad => exact h
theorem PoS.later {r : SR} {D : Ends} (h : PoS K xt W r θ H D) (x : Lt θ θ' H H') : PoS K xt W r θ' H' D := by
  cases r with
  | nx ρ μ => exact fun θ2 H2 σ l => h θ2 H2 σ (x.trans l)
  | rt v μ => exact fun θ2 H2 w l => h θ2 H2 w (x.trans l)
  | ex e ρ μ => exact fun θ2 H2 σ c d l => h θ2 H2 σ c d (x.trans l)
  | bk ρ μ => exact fun θ2 H2 σ l => h θ2 H2 σ (x.trans l)
  | ct ρ μ => exact fun θ2 H2 σ l => h θ2 H2 σ (x.trans l)
  | bad => exact h
/-- an expression's end within a statement -/
def DR.st {α : Type} (r : DR α) (ρ : DE) (k : α → DM → SR) : SR := match r with
  | .ok v μ => k v μ
  | .ex e μ => .ex e ρ μ
  | .bad => .bad
@[simp] theorem DR.st_ok {α : Type} (a : α) (μ : DM) (ρ : DE) (f : α → DM → SR) : (DR.ok a μ).st ρ f = f a μ := rfl
@[simp] theorem DR.st_ex {α : Type} (e : DX) (μ : DM) (ρ : DE) (f : α → DM → SR) : (DR.ex e μ : DR α).st ρ f = .ex e ρ μ := rfl
theorem Po.st {r : DR α} {ρ : DE} {k : α → DM → SR} {D : Ends} (he : RpE K θ H ρ σ) (h : PoS K xt W (r.st ρ k) θ H D) :
    Po K xt W R r θ H σ fun w H1 => ∃ θ1 μ1 v, Lt θ θ1 H H1 ∧ Sto K θ1 H1 μ1 ∧ R θ1 H1 v w ∧ PoS K xt W (k v μ1) θ1 H1 D := by
  cases r with
  | ok v μ => exact fun θ2 H2 w l s p => ⟨θ2, μ, v, l, s, p, PoS.later h l⟩
  | ex e μ => exact fun θ2 H2 c d l s p => h θ2 H2 σ c d l (l.rpE he) s p
  | bad => exact h
end
theorem imE {X : Cx} {e : Expr} {t t' : TE} (h : PE X e t) (i : ∀ σ H Q, t' σ H Q → t σ H Q) : PE X e t' := ⟨fun pins s σ H Q I q => h.run pins s σ H Q I (i σ H Q q)⟩
theorem imT {X : Cx} {e : Expr} {t t' : TT} (h : PT X e t) (i : ∀ σ H Q, t' σ H Q → t σ H Q) : PT X e t' := ⟨fun pins s σ H Q I q => h.run pins s σ H Q I (i σ H Q q)⟩
theorem imW {X : Cx} {e : Expr} {t t' : TT} (h : PW X e t) (i : ∀ σ H Q, t' σ H Q → t σ H Q) : PW X e t' := ⟨fun wh pins s σ H Q I q => h.run wh pins s σ H Q I (i σ H Q q)⟩
theorem imA {X : Cx} {e : List Expr} {t t' : TA} (h : PA X e t) (i : ∀ σ H Q, t' σ H Q → t σ H Q) : PA X e t' := ⟨fun pos pins s σ H Q I q => h.run pos pins s σ H Q I (i σ H Q q)⟩
theorem imS {X : Cx} {e : Stmt} {t t' : TS} (h : PS X e t) (i : ∀ D σ H, t' D σ H → t D σ H) : PS X e t' := ⟨fun pins s σ H Q I q => h.run pins s σ H Q I (i Q σ H q)⟩
theorem imSs {X : Cx} {e : List Stmt} {t t' : TS} (h : PSs X e t) (i : ∀ D σ H, t' D σ H → t D σ H) : PSs X e t' := ⟨fun pins s σ H Q I q => h.run pins s σ H Q I (i Q σ H q)⟩
theorem imO {X : Cx} {f : Value → Value → Sem Value} {r r' : R2} (h : OpR X f r) (i : ∀ x y H Q, r' x y H Q → r x y H Q) : OpR X f r' := fun pins s σ H x y v u Q I rx ry q => h pins s σ H x y v u Q I rx ry (i _ _ _ _ q)
theorem imC {X : Cx} {f : Value} {r r' : List V → Hp → VK → Prop} (h : CallR X f r) (i : ∀ x H Q, r' x H Q → r x H Q) : CallR X f r' := fun pins s σ H xs us Q I rx q => h pins s σ H xs us Q I rx (i _ _ _ q)

section
variable {X : Cx} {xt : String → Option Addr} {W : WX} {a b c e : Expr} {es : List Expr} {pos : Pos}
abbrev DEx (xt : String → Option Addr) (W : WX) (X : Cx) (e : Expr) (m : EM) : Prop := PE X e (tE X.K xt W m)
abbrev DAs (xt : String → Option Addr) (W : WX) (X : Cx) (e : List Expr) (m : LM) : Prop := PA X e (tAs X.K xt W m)
abbrev DTs (xt : String → Option Addr) (W : WX) (X : Cx) (e : Expr) (m : BM) : Prop := PT X e (tTs X.K xt W m)
abbrev DWs (xt : String → Option Addr) (W : WX) (X : Cx) (e : Expr) (m : BM) : Prop := PW X e (tTs X.K xt W m)
abbrev DFr (xt : String → Option Addr) (W : WX) (X : Cx) (e : Expr) (m : LM) : Prop := PE X e (tFr X.K xt W m)
abbrev DSt (xt : String → Option Addr) (W : WX) (X : Cx) (e : Stmt) (m : SM) : Prop := PS X e (tSt X.K xt W m)
abbrev DSs (xt : String → Option Addr) (W : WX) (X : Cx) (e : List Stmt) (m : SM) : Prop := PSs X e (tSt X.K xt W m)

/-! ### names, constants -/
def mVar (i : Nat) : EM := fun ρ μ => match ρ[i]? with
  | some (some v) => .ok v μ
  | _ => .bad
theorem d_var (i : Nat) {x : Str} (hN : X.N[i]? = some x := by rfl) (hv : Vis X.env.scope x := by first | exact Or.inl rfl | exact Or.inr (Or.inl rfl) | exact Or.inr (Or.inr rfl)) (hd : (x == ("__debug__" : Str)) = false := by decide)
    (hcd : (x == ("__classdict__" : Str)) = false := by decide) : DEx xt W X (.Name x pos) (mVar i) := by
  refine imE (pe_var hN hv hd hcd) fun σ H Q ⟨θ, ρ, μ, he, hs, q⟩ => ?_
  unfold mVar at q
  split at q
  · rename_i v hv'
    obtain ⟨w, e1, r⟩ := he.at' i v hv'
    exact ⟨w, e1, q.ret hs r⟩
  · exact q.elim
def mC (v : DV) : EM := fun _ μ => .ok v μ
theorem d_int {i : Int} {j : Nat} : DEx xt W X (.Constant (.int i) j pos) (mC (.int i)) := imE pe_int fun _ _ _ ⟨_, _, _, _, hs, q⟩ => q.ret hs rfl
theorem d_bl {i : Bool} {j : Nat} : DEx xt W X (.Constant (.bool i) j pos) (mC (.bl i)) := imE pe_bl fun _ _ _ ⟨_, _, _, _, hs, q⟩ => q.ret hs rfl
theorem d_non {j : Nat} : DEx xt W X (.Constant .none j pos) (mC .non) := imE pe_non fun _ _ _ ⟨_, _, _, _, hs, q⟩ => q.ret hs rfl
theorem d_str (s : String) {j : Nat} : DEx xt W X (.Constant (.str (Str.ofString s)) j pos) (mC (.str s)) := imE pe_str fun _ _ _ ⟨_, _, _, _, hs, q⟩ => q.ret hs rfl
/-- a module's constant -/
theorem d_glob {x : Str} {v : V} {d : DV} {u : Value} (hg : Gl X x) (hm : X.mg x = some u) (r : RelV v u) (hr : ∀ θ H, Rp X.K θ H d v) (hd : (x == ("__debug__" : Str)) = false := by decide) : DEx xt W X (.Name x pos) (mC d) :=
  imE (pe_glob hg hm r hd) fun _ _ _ ⟨_, _, _, _, hs, q⟩ => q.ret hs (hr _ _)

/-! ### rows of arguments, displays -/
def mNil : LM := fun _ μ => .ok [] μ
def mCons (m : EM) (ms : LM) : LM := fun ρ μ => (m ρ μ).bind fun v μ => (ms ρ μ).bind fun vs μ => .ok (v :: vs) μ
theorem d_anil : DAs xt W X [] mNil := imA pa_nil fun _ _ _ ⟨_, _, _, _, hs, q⟩ => q.ret hs rfl
theorem d_acons {m : EM} {ms : LM} (h : DEx xt W X e m) (hs : DAs xt W X es ms) (hst : starEach (e :: es) X.env = (false, eval e X.env) :: starEach es X.env := by rfl) : DAs xt W X (e :: es) (mCons m ms) := by
  refine imA (pa_cons h hs hst) fun σ H Q ⟨θ, ρ, μ, he, hs, q⟩ => ⟨θ, ρ, μ, he, hs, ?_⟩
  refine q.bind.imp fun w H1 ⟨θ1, μ1, v, l1, s1, r1, q1⟩ => ⟨θ1, ρ, μ1, l1.rpE he, s1, ?_⟩
  refine q1.bind.imp fun ws H2 ⟨θ2, μ2, vs, l2, s2, r2, q2⟩ => ?_
  exact q2.ret s2 ⟨w, ws, rfl, l2.rp r1, r2⟩
def mTup (ms : LM) : EM := fun ρ μ => (ms ρ μ).bind fun vs μ => if vs.length ≤ LIM then .ok (.tup vs) μ else .bad
theorem d_tup {ms : LM} {k : Nat} (h : DAs xt W X es ms) : DEx xt W X (.Tuple es k pos) (mTup ms) := by
  refine imE (pe_tup h) fun σ H Q ⟨θ, ρ, μ, he, hs, q⟩ => ⟨θ, ρ, μ, he, hs, ?_⟩
  refine q.bind.imp fun ws H1 ⟨θ1, μ1, vs, l1, s1, r1, q1⟩ => ?_
  split at q1
  · rename_i hl
    refine ⟨by rw [← r1.len, ← lim_line]; exact hl, fun p hp => ?_⟩
    have l := Lt.laid (θ := θ1) (o := .tup ws) hp
    exact q1 θ1 _ _ l (s1.fr hp) ⟨p, ws, rfl, .inl (.inl upd_same), l.rpL r1⟩
  · exact q1.elim
/-- a new list into the store -/
def mKeep (ms : LM) : EM := fun ρ μ => (ms ρ μ).bind fun vs μ => .ok (.ref μ.length) (μ ++ [.lst vs])
theorem d_keep {ms : LM} (h : DFr xt W X e ms) : DEx xt W X e (mKeep ms) := by
  refine imE h fun σ H Q ⟨θ, ρ, μ, he, hs, q⟩ => ⟨θ, ρ, μ, he, hs, ?_⟩
  refine (PoF.bind q).imp fun w H1 ⟨θ1, μ1, xs, ⟨a, vs, e, l1, s1, h0, hn, ha, r1⟩, q1⟩ => ?_
  subst e
  obtain ⟨t, et⟩ := l1.pre
  have l2 : Lt θ (θ1 ++ [a]) H H1 := ⟨⟨t ++ [a], by rw [et, List.append_assoc]⟩, fun b hb => by
    rcases List.mem_append.mp hb with hb | hb
    · exact l1.new b hb
    · simp at hb; subst hb; exact .inr h0, l1.keep⟩
  refine (q1 _ _ l2).ret (s1.push hn ha r1) ⟨a, ?_, rfl⟩
  rw [← s1.len, List.getElem?_append_right (Nat.le_refl _)]
  simp
def mLst (ms : LM) : LM := fun ρ μ => (ms ρ μ).bind fun vs μ => if vs.length ≤ LIM then .ok vs μ else .bad
theorem PoF.later {K : PySem.W.Frag} {r : DR (List DV)} {θ θ1 : List Addr} {H H1 : Hp} {σ : L2.St} {Q : VK} (h : PoF K xt W r θ H σ Q) (l : Lt θ θ1 H H1) : PoF K xt W r θ1 H1 σ Q := by
  cases r with
  | ok xs μ2 =>
    intro θ2 H2 a vs l2 s2 h0 hn ha r
    refine h θ2 H2 a vs (l.trans l2) s2 ?_ hn ha r
    cases q : H a with
    | none => rfl
    | some o =>
      by_cases ht : a ∈ θ
      · obtain ⟨t, e⟩ := (l.trans l2).pre
        exact absurd (e ▸ List.mem_append_left _ ht) hn
      · rw [l.keep a o q (.inl ht)] at h0; cases h0
  | ex e μ2 => exact fun θ2 H2 c d l2 => h θ2 H2 c d (l.trans l2)
  | bad => exact h
/-- a part ahead of what makes a new list -/
theorem PoF.of {K : PySem.W.Frag} {α β : Type} {R : List Addr → Hp → α → β → Prop} {r : DR α} {f : α → DM → DR (List DV)} {θ : List Addr} {H : Hp} {σ : L2.St} {Q : VK} (h : PoF K xt W (r.bind f) θ H σ Q) :
    Po K xt W R r θ H σ fun ws H1 => ∃ θ1 μ1 vs, Lt θ θ1 H H1 ∧ Sto K θ1 H1 μ1 ∧ R θ1 H1 vs ws ∧ PoF K xt W (f vs μ1) θ1 H1 σ Q := by
  cases r with
  | ok v μ => exact fun θ1 H1 ws l s r => ⟨θ1, μ, v, l, s, r, PoF.later h l⟩
  | ex e μ => exact h
  | bad => exact h
theorem PoF.ret {K : PySem.W.Frag} {xs : List DV} {vs : List V} {μ : DM} {θ : List Addr} {H : Hp} {σ : L2.St} {Q : VK} (h : PoF K xt W (.ok xs μ) θ H σ Q) (s : Sto K θ H μ) (r : RpL K θ H xs vs) : ∀ p, H p = none → Q (.ref p) (upd H p (.lst vs)) :=
  fun p hp => h θ _ p vs (Lt.laid hp) (s.fr hp) hp (s.out hp) upd_same ((Lt.laid hp).rpL r)
theorem d_lstF {ms : LM} (h : DAs xt W X es ms) : DFr xt W X (.List es pos) (mLst ms) := by
  refine imE (pe_lst h) fun σ H Q ⟨θ, ρ, μ, he, hs, q⟩ => ⟨θ, ρ, μ, he, hs, ?_⟩
  refine (PoF.of q).imp fun ws H1 ⟨θ1, μ1, vs, l1, s1, r1, q1⟩ => ?_
  split at q1
  · rename_i hl
    exact ⟨by rw [← r1.len, ← lim_line]; exact hl, q1.ret s1 r1⟩
  · exact q1.elim
/-! ### operators -/
/-- an operator by plain data -/
def rG (K : PySem.W.Frag) (g : DV → DV → DM → DR DV) : R2 := fun x y H Q => ∃ θ μ u v, Sto K θ H μ ∧ Rp K θ H u x ∧ Rp K θ H v y ∧ Po K (fun _ => none) (fun _ _ _ _ => False) (Rp K) (g u v μ).noex θ H [] Q
abbrev OpD (X : Cx) (f : Value → Value → Sem Value) (g : DV → DV → DM → DR DV) : Prop := OpR X f (rG X.K g)
def mOp (g : DV → DV → DM → DR DV) (a b : EM) : EM := fun ρ μ => (a ρ μ).bind fun u μ => (b ρ μ).bind fun v μ => (g u v μ).noex
theorem Po.noxt {K : PySem.W.Frag} {α β : Type} {R : List Addr → Hp → α → β → Prop} {xt' : String → Option Addr} {W' : WX} {σ σ' : L2.St} {r : DR α} {θ : List Addr} {H : Hp} {Q : β → Hp → Prop} (h : Po K xt W R r.noex θ H σ Q) : Po K xt' W' R r.noex θ H σ' Q := by
  cases r with
  | ok v μ => exact h
  | ex e μ => exact h
  | bad => exact h
theorem op_run {g : DV → DV → DM → DR DV} {ma mb : EM} {σ : L2.St} {H : Hp} {Q : VK} (q : tE X.K xt W (mOp g ma mb) σ H Q) : tOp (rG X.K g) (tE X.K xt W ma) (tE X.K xt W mb) σ H Q := by
  obtain ⟨θ, ρ, μ, he, hs, q⟩ := q
  refine ⟨θ, ρ, μ, he, hs, ?_⟩
  refine q.bind.imp fun w H1 ⟨θ1, μ1, u, l1, s1, r1, q1⟩ => ⟨θ1, ρ, μ1, l1.rpE he, s1, ?_⟩
  refine q1.bind.imp fun w2 H2 ⟨θ2, μ2, v, l2, s2, r2, q2⟩ => ⟨θ2, μ2, u, v, s2, l2.rp r1, r2, q2.noxt⟩
theorem d_bin {op : Operator} {g : DV → DV → DM → DR DV} {ma mb : EM} (ho : OpD X (binaryOp op) g) (ha : DEx xt W X a ma) (hb : DEx xt W X b mb) : DEx xt W X (.BinOp a op b pos) (mOp g ma mb) :=
  imE (pe_op ho ha hb) fun _ _ _ q => op_run q
theorem d_cmp {op : CmpOp} {g : DV → DV → DM → DR DV} {ma mb : EM} (ho : OpD X (compareOp op) g) (ha : DEx xt W X a ma) (hb : DEx xt W X b mb) (hm : behindInMarks op b = false) : DEx xt W X (.Compare a [op] [b] pos) (mOp g ma mb) :=
  imE (pe_cmpR ho ha hb hm) fun _ _ _ q => op_run q
/-- a value as a truth -/
def asBl (v : DV) (μ : DM) : DR Bool := match v with
  | .bl b => .ok b μ
  | _ => .bad
def mBl (m : EM) : BM := fun ρ μ => (m ρ μ).bind asBl
theorem bl_run {K : PySem.W.Frag} {m : EM} {σ : L2.St} {H : Hp} {Q : Bool → Hp → Prop} (q : tTs K xt W (mBl m) σ H Q) : tE K xt W m σ H fun x H' => ∃ k, x = .bl k ∧ Q k H' := by
  obtain ⟨θ, ρ, μ, he, hs, q⟩ := q
  refine ⟨θ, ρ, μ, he, hs, ?_⟩
  refine q.bind.imp fun w H1 ⟨θ1, μ1, u, l1, s1, r1, q1⟩ => ?_
  cases u with
  | bl b =>
    cases r1
    exact ⟨b, rfl, q1.ret s1 rfl⟩
  | _ => exact q1.elim
theorem t_cmp {op : CmpOp} {g : DV → DV → DM → DR DV} {ma mb : EM} (ho : OpD X (compareOp op) g) (ha : DEx xt W X a ma) (hb : DEx xt W X b mb) (hm : behindInMarks op b = false) : DTs xt W X (.Compare a [op] [b] pos) (mBl (mOp g ma mb)) :=
  imT (pt_cmpR ho ha hb hm) fun σ H Q q => op_run (bl_run q)
/-- a op b op' c -/
def mChain (g g' : DV → DV → DM → DR DV) (a b c : EM) : EM := fun ρ μ => (a ρ μ).bind fun u μ => (b ρ μ).bind fun v μ => (g u v μ).noex.bind fun z μ => (asBl z μ).bind fun k μ =>
  if k = true then (c ρ μ).bind fun w μ => (g' v w μ).noex else .ok (.bl false) μ
theorem Po.xnox {K : PySem.W.Frag} {α β α' β' : Type} {R : List Addr → Hp → α → β → Prop} {R' : List Addr → Hp → α' → β' → Prop} {r : DR α} {k : α → DM → DR α'} {θ : List Addr} {H : Hp} {σ : L2.St} {Q : β' → Hp → Prop} (h : Po K xt W R' (r.noex.bind k) θ H σ Q) :
    Po K (fun _ => none) (fun _ _ _ _ => False) R r.noex θ H [] fun w H1 => ∃ θ1 μ1 v, Lt θ θ1 H H1 ∧ Sto K θ1 H1 μ1 ∧ R θ1 H1 v w ∧ Po K xt W R' (k v μ1) θ1 H1 σ Q := by
  cases r with
  | ok v μ => exact fun θ2 H2 w l s p => ⟨θ2, μ, v, l, s, p, Po.later h l⟩
  | ex e μ => exact h
  | bad => exact h
theorem chain_run {g g' : DV → DV → DM → DR DV} {ma mb mc : EM} {σ : L2.St} {H : Hp} {Q : VK} (q : tE X.K xt W (mChain g g' ma mb mc) σ H Q) : tChain (rG X.K g) (rG X.K g') (tE X.K xt W ma) (tE X.K xt W mb) (tE X.K xt W mc) σ H Q := by
  obtain ⟨θ, ρ, μ, he, hs, q⟩ := q
  refine ⟨θ, ρ, μ, he, hs, ?_⟩
  refine q.bind.imp fun w H1 ⟨θ1, μ1, u, l1, s1, r1, q1⟩ => ⟨θ1, ρ, μ1, l1.rpE he, s1, ?_⟩
  refine q1.bind.imp fun w2 H2 ⟨θ2, μ2, v, l2, s2, r2, q2⟩ => ⟨θ2, μ2, u, v, s2, l2.rp r1, r2, ?_⟩
  refine (Po.xnox (R := Rp X.K) q2).imp fun w3 H3 ⟨θ3, μ3, z, l3, s3, r3, q3⟩ => ?_
  cases z with
  | bl k =>
    cases r3
    refine ⟨k, rfl, ?_⟩
    cases k with
    | false => exact q3.ret s3 rfl
    | true =>
      refine ⟨θ3, ρ, μ3, l3.rpE (l2.rpE (l1.rpE he)), s3, ?_⟩
      replace q3 : Po X.K xt W (Rp X.K) ((mc ρ μ3).bind fun w μ => (g' v w μ).noex) θ3 H3 σ Q := q3
      exact q3.bind.imp fun w4 H4 ⟨θ4, μ4, y, l4, s4, r4, q4⟩ => ⟨θ4, μ4, v, y, s4, l4.rp (l3.rp r2), r4, q4.noxt⟩
  | _ => exact q3.elim
theorem d_chain {op op' : CmpOp} {g g' : DV → DV → DM → DR DV} {ma mb mc : EM} (ho : OpD X (compareOp op) g) (ho' : OpD X (compareOp op') g') (ha : DEx xt W X a ma) (hb : DEx xt W X b mb) (hc : DEx xt W X c mc)
    (hm : lastMarks [op, op'] [b, c] = false := by with_unfolding_all rfl) : DEx xt W X (.Compare a [op, op'] [b, c] pos) (mChain g g' ma mb mc) :=
  imE (pe_chain ho ho' ha hb hc hm) fun _ _ _ q => chain_run q
theorem t_chain {op op' : CmpOp} {g g' : DV → DV → DM → DR DV} {ma mb mc : EM} (ho : OpD X (compareOp op) g) (ho' : OpD X (compareOp op') g') (ha : DEx xt W X a ma) (hb : DEx xt W X b mb) (hc : DEx xt W X c mc)
    (hm : lastMarks [op, op'] [b, c] = false := by with_unfolding_all rfl) : DTs xt W X (.Compare a [op, op'] [b, c] pos) (mBl (mChain g g' ma mb mc)) :=
  imT (pt_chain ho ho' ha hb hc hm) fun _ _ _ q => chain_run (bl_run q)
/-! ### truth, and, or, not, if -/
def DV.truth (v : DV) (μ : DM) : DR Bool := match v with
  | .non => .ok false μ
  | .bl b => .ok b μ
  | .int i => .ok (i != 0) μ
  | .tup xs => .ok (!xs.isEmpty) μ
  | .kl xs => .ok (!xs.isEmpty) μ
  | .ref n => match μ[n]? with
    | some (.lst xs) => .ok (!xs.isEmpty) μ
    | _ => .bad
  | _ => .bad
def mTru (m : EM) : BM := fun ρ μ => (m ρ μ).bind DV.truth
theorem RpL.emp {K : PySem.W.Frag} {θ : List Addr} {H : Hp} {xs : List DV} {vs : List V} (r : RpL K θ H xs vs) : vs.isEmpty = xs.isEmpty := by
  cases xs with
  | nil => cases r; rfl
  | cons x xs => obtain ⟨w, ws, rfl, _⟩ := r; rfl
theorem t_tru {m : EM} (h : DEx xt W X e m) (he : ∀ whole, isTrue e X.env whole = (do let v ← whole; standAt e.pos; holding [v] (truthy v)) := by intro _; rfl) : DTs xt W X e (mTru m) := by
  refine imT (pt_truth h he) fun σ H Q ⟨θ, ρ, μ, he, hs, q⟩ => ⟨θ, ρ, μ, he, hs, ?_⟩
  refine q.bind.imp fun w H1 ⟨θ1, μ1, u, l1, s1, r1, q1⟩ => ?_
  cases u with
  | non => cases r1; exact ⟨false, rfl, q1.ret s1 rfl⟩
  | bl b => cases r1; exact ⟨b, rfl, q1.ret s1 rfl⟩
  | int i => cases r1; exact ⟨_, rfl, q1.ret s1 rfl⟩
  | str s => exact q1.elim
  | tup xs =>
    obtain ⟨p, vs, rfl, sq, r⟩ := r1
    exact ⟨_, .inr (.inl ⟨vs, sq, rfl⟩), by rw [r.emp]; exact q1.ret s1 rfl⟩
  | kl xs =>
    obtain ⟨p, vs, rfl, sq, r⟩ := r1
    exact ⟨_, .inl ⟨vs, sq.sq, rfl⟩, by rw [r.emp]; exact q1.ret s1 rfl⟩
  | ref n =>
    obtain ⟨p, hp, rfl⟩ := r1
    replace q1 : Po X.K xt W (fun _ _ b c => b = c) (match μ1[n]? with | some (.lst xs) => .ok (!xs.isEmpty) μ1 | _ => .bad) θ1 H1 σ Q := q1
    split at q1
    · rename_i xs hx
      obtain ⟨vs, ev, r⟩ := s1.cell n p _ hp hx
      exact ⟨_, .inl ⟨vs, SqL.of ev, rfl⟩, by rw [r.emp]; exact q1.ret s1 rfl⟩
    · exact q1.elim
def mAnd (a b : BM) : BM := fun ρ μ => (a ρ μ).bind fun c μ => if c = true then b ρ μ else .ok false μ
def mOr (a b : BM) : BM := fun ρ μ => (a ρ μ).bind fun c μ => if c = true then .ok true μ else b ρ μ
def mNot (a : BM) : BM := fun ρ μ => (a ρ μ).bind fun c μ => .ok (!c) μ
theorem w_and1 {m : BM} (h : DTs xt W X a m) : DWs xt W X (.BoolOp .And [a] pos) m := pw_and1 h
theorem w_or1 {m : BM} (h : DTs xt W X a m) : DWs xt W X (.BoolOp .Or [a] pos) m := pw_or1 h
theorem w_and {ma mb : BM} (ha : DTs xt W X a ma) (hb : DWs xt W X (.BoolOp .And (b :: es) pos) mb) : DWs xt W X (.BoolOp .And (a :: b :: es) pos) (mAnd ma mb) := by
  refine imW (pw_and ha hb) fun σ H Q ⟨θ, ρ, μ, he, hs, q⟩ => ⟨θ, ρ, μ, he, hs, ?_⟩
  refine q.bind.imp fun w H1 ⟨θ1, μ1, u, l1, s1, r1, q1⟩ => ?_
  subst r1
  cases u with
  | true => exact ⟨θ1, ρ, μ1, l1.rpE he, s1, q1⟩
  | false => exact q1.ret s1 rfl
theorem w_or {ma mb : BM} (ha : DTs xt W X a ma) (hb : DWs xt W X (.BoolOp .Or (b :: es) pos) mb) : DWs xt W X (.BoolOp .Or (a :: b :: es) pos) (mOr ma mb) := by
  refine imW (pw_or ha hb) fun σ H Q ⟨θ, ρ, μ, he, hs, q⟩ => ⟨θ, ρ, μ, he, hs, ?_⟩
  refine q.bind.imp fun w H1 ⟨θ1, μ1, u, l1, s1, r1, q1⟩ => ?_
  subst r1
  cases u with
  | true => exact q1.ret s1 rfl
  | false => exact ⟨θ1, ρ, μ1, l1.rpE he, s1, q1⟩
theorem t_w {m : BM} (h : DWs xt W X e m) : DTs xt W X e m := h.pt
theorem t_not {m : BM} (h : DTs xt W X a m) : DTs xt W X (.UnaryOp .Not a pos) (mNot m) := by
  refine imT (pt_not h) fun σ H Q ⟨θ, ρ, μ, he, hs, q⟩ => ⟨θ, ρ, μ, he, hs, ?_⟩
  refine q.bind.imp fun w H1 ⟨θ1, μ1, u, l1, s1, r1, q1⟩ => ?_
  subst r1
  exact q1.ret s1 rfl
/-- .. as values, all but the last truths -/
def mAndV (a b : EM) : EM := fun ρ μ => (mBl a ρ μ).bind fun c μ => if c = true then b ρ μ else .ok (.bl false) μ
def mOrV (a b : EM) : EM := fun ρ μ => (mBl a ρ μ).bind fun c μ => if c = true then .ok (.bl true) μ else b ρ μ
def mNotV (a : EM) : EM := fun ρ μ => (mBl a ρ μ).bind fun c μ => .ok (.bl (!c)) μ
theorem d_one {op : BoolOp} {m : EM} (h : DEx xt W X a m) : DEx xt W X (.BoolOp op [a] pos) m := pe_one h
theorem bl_step {K : PySem.W.Frag} {α β : Type} {R : List Addr → Hp → α → β → Prop} {m : EM} {k : Bool → DM → DR α} {ρ : DE} {μ : DM} {θ : List Addr} {σ : L2.St} {H : Hp} {Q : β → Hp → Prop} (q : Po K xt W R ((mBl m ρ μ).bind k) θ H σ Q) :
    Po K xt W (Rp K) (m ρ μ) θ H σ fun x H1 => ∃ c θ1 μ1, x = .bl c ∧ Lt θ θ1 H H1 ∧ Sto K θ1 H1 μ1 ∧ Po K xt W R (k c μ1) θ1 H1 σ Q := by
  have e : (mBl m ρ μ).bind k = (m ρ μ).bind fun v μ => (asBl v μ).bind k := by
    unfold mBl
    cases m ρ μ <;> rfl
  rw [e] at q
  refine q.bind.imp fun w H1 ⟨θ1, μ1, u, l1, s1, r1, q1⟩ => ?_
  cases u with
  | bl b => cases r1; exact ⟨b, θ1, μ1, rfl, l1, s1, q1⟩
  | _ => exact q1.elim
theorem d_and {ma mb : EM} (ha : DEx xt W X a ma) (hb : DEx xt W X (.BoolOp .And (b :: es) pos) mb) : DEx xt W X (.BoolOp .And (a :: b :: es) pos) (mAndV ma mb) := by
  refine imE (pe_and ha hb) fun σ H Q ⟨θ, ρ, μ, he, hs, q⟩ => ⟨θ, ρ, μ, he, hs, ?_⟩
  refine (bl_step q).imp fun w H1 ⟨c, θ1, μ1, e, l1, s1, q1⟩ => ⟨c, e, ?_⟩
  cases c with
  | true => exact ⟨θ1, ρ, μ1, l1.rpE he, s1, q1⟩
  | false => exact q1.ret s1 rfl
theorem d_or {ma mb : EM} (ha : DEx xt W X a ma) (hb : DEx xt W X (.BoolOp .Or (b :: es) pos) mb) : DEx xt W X (.BoolOp .Or (a :: b :: es) pos) (mOrV ma mb) := by
  refine imE (pe_or ha hb) fun σ H Q ⟨θ, ρ, μ, he, hs, q⟩ => ⟨θ, ρ, μ, he, hs, ?_⟩
  refine (bl_step q).imp fun w H1 ⟨c, θ1, μ1, e, l1, s1, q1⟩ => ⟨c, e, ?_⟩
  cases c with
  | false => exact ⟨θ1, ρ, μ1, l1.rpE he, s1, q1⟩
  | true => exact q1.ret s1 rfl
theorem d_not {m : EM} (h : DEx xt W X a m) : DEx xt W X (.UnaryOp .Not a pos) (mNotV m) := by
  refine imE (pe_not h) fun σ H Q ⟨θ, ρ, μ, he, hs, q⟩ => ⟨θ, ρ, μ, he, hs, ?_⟩
  exact (bl_step q).imp fun w H1 ⟨c, θ1, μ1, e, l1, s1, q1⟩ => ⟨c, e, q1.ret s1 rfl⟩
def mIf (t : BM) (a b : EM) : EM := fun ρ μ => (t ρ μ).bind fun c μ => if c = true then a ρ μ else b ρ μ
theorem d_if {t : BM} {ma mb : EM} (ht : DTs xt W X c t) (ha : DEx xt W X a ma) (hb : DEx xt W X b mb) : DEx xt W X (.IfExp c a b pos) (mIf t ma mb) := by
  refine imE (pe_ifExp ht ha hb) fun σ H Q ⟨θ, ρ, μ, he, hs, q⟩ => ⟨θ, ρ, μ, he, hs, ?_⟩
  refine q.bind.imp fun w H1 ⟨θ1, μ1, u, l1, s1, r1, q1⟩ => ?_
  subst r1
  cases u with
  | true => exact ⟨θ1, ρ, μ1, l1.rpE he, s1, q1⟩
  | false => exact ⟨θ1, ρ, μ1, l1.rpE he, s1, q1⟩
end
end Md

namespace Md
open PySem L2 PySem.Spec PyProof.Rows
section
variable {X : Cx} {xt : String → Option Addr} {W : WX} {a b c e : Expr} {es : List Expr} {pos : Pos}
/-! ## operators by plain data -/
theorem Po.fin {K : PySem.W.Frag} {xt : String → Option Addr} {W : WX} {v : DV} {μ : DM} {θ : List Addr} {H : Hp} {σ : L2.St} {Q : VK} {w : V} (h : Po K xt W (Rp K) (DR.noex (.ok v μ)) θ H σ Q) (s : Sto K θ H μ) (r : Rp K θ H v w) : Q w H := h θ H w .refl s r
theorem Po.finT {K : PySem.W.Frag} {xt : String → Option Addr} {W : WX} {xs : List DV} {μ : DM} {θ : List Addr} {H : Hp} {σ : L2.St} {Q : VK} {vs : List V} (h : Po K xt W (Rp K) (DR.noex (.ok (.tup xs) μ)) θ H σ Q) (s : Sto K θ H μ) (r : RpL K θ H xs vs) :
    ∀ p, H p = none → Q (.ref p) (upd H p (.tup vs)) := fun p hp => h θ _ _ (Lt.laid hp) (s.fr hp) ⟨p, vs, rfl, .inl (.inl upd_same), (Lt.laid hp).rpL r⟩
theorem Po.finL {K : PySem.W.Frag} {xt : String → Option Addr} {W : WX} {xs : List DV} {μ : DM} {θ : List Addr} {H : Hp} {σ : L2.St} {Q : VK} {vs : List V} (h : Po K xt W (Rp K) (DR.noex (.ok (.ref μ.length) (μ ++ [.lst xs]))) θ H σ Q) (s : Sto K θ H μ) (r : RpL K θ H xs vs) :
    ∀ p, H p = none → Q (.ref p) (upd H p (.lst vs)) := fun p hp => h _ _ _ (Lt.push hp) ((s.fr hp).push (s.out hp) upd_same ((Lt.laid hp).rpL r)) ⟨p, by rw [← s.len, List.getElem?_append_right (Nat.le_refl _)]; simp, rfl⟩
/-- a list's items -/
def DV.lst (v : DV) (μ : DM) : Option (List DV) := match v with
  | .ref n => match μ[n]? with
    | some (.lst xs) => some xs
    | _ => none
  | _ => none
/-- a list's or a tuple's items -/
def DV.seq (v : DV) (μ : DM) : Option (List DV) := match v with
  | .ref n => match μ[n]? with
    | some (.lst xs) => some xs
    | _ => none
  | .tup xs => some xs
  | .kl xs => some xs
  | _ => none
theorem lst_of {K : PySem.W.Frag} {θ : List Addr} {H : Hp} {μ : DM} (s : Sto K θ H μ) {v : DV} {w : V} (r : Rp K θ H v w) {xs : List DV} (h : v.lst μ = some xs) : ∃ p vs, w = .ref p ∧ H p = some (.lst vs) ∧ RpL K θ H xs vs := by
  cases v with
  | ref n =>
    obtain ⟨p, hp, rfl⟩ := r
    simp only [DV.lst] at h
    split at h
    · rename_i ys hy
      cases h
      obtain ⟨vs, e, r⟩ := s.cell n p _ hp hy
      exact ⟨p, vs, rfl, e, r⟩
    · cases h
  | _ => cases h
theorem seq_of {K : PySem.W.Frag} {θ : List Addr} {H : Hp} {μ : DM} (s : Sto K θ H μ) {v : DV} {w : V} (r : Rp K θ H v w) {xs : List DV} (h : v.seq μ = some xs) : ∃ p vs, w = .ref p ∧ (SqL K H p vs ∨ SqT K H p vs) ∧ RpL K θ H xs vs := by
  cases v with
  | ref n =>
    obtain ⟨p, vs, e, h1, r1⟩ := lst_of s r (xs := xs) h
    exact ⟨p, vs, e, .inl (SqL.of h1), r1⟩
  | tup ys =>
    cases h
    obtain ⟨p, vs, e, h1, r1⟩ := r
    exact ⟨p, vs, e, .inr h1, r1⟩
  | kl ys =>
    cases h
    obtain ⟨p, vs, e, h1, r1⟩ := r
    exact ⟨p, vs, e, .inl h1.sq, r1⟩
  | _ => cases h
/-! ### ints -/
def gI (C : Int → Int → Prop) [∀ i j, Decidable (C i j)] (g : Int → Int → DV) : DV → DV → DM → DR DV := fun u v μ => match u, v with
  | .int i, .int j => if C i j then .ok (g i j) μ else .bad
  | _, _ => .bad
def CT (_ _ : Int) : Prop := True
instance (i j : Int) : Decidable (CT i j) := inferInstanceAs (Decidable True)
theorem gI_of {f : Value → Value → Sem Value} {C C' : Int → Int → Prop} [∀ i j, Decidable (C' i j)] {g : Int → Int → V} {g' : Int → Int → DV} (h : OpR X f (rI C g)) (hC : ∀ i j, C' i j → C i j) (hg : ∀ i j θ H, Rp X.K θ H (g' i j) (g i j)) : OpD X f (gI C' g') :=
  imO h fun x y H Q ⟨θ, μ, u, v, s, ru, rv, q⟩ => by
    unfold gI at q
    split at q
    · rename_i i j
      cases ru
      cases rv
      split at q
      · rename_i hc
        exact ⟨i, j, rfl, rfl, hC i j hc, q.fin s (hg i j θ H)⟩
      · exact q.elim
    · exact q.elim
theorem rI0_rI {g : Int → Int → V} {x y : V} {H : Hp} {Q : VK} (h : rI CT g x y H Q) : rI0 g x y H Q := let ⟨i, j, a, b, _, q⟩ := h; ⟨i, j, a, b, q⟩
theorem gI0_of {f : Value → Value → Sem Value} {g : Int → Int → V} {g' : Int → Int → DV} (h : OpR X f (rI0 g)) (hg : ∀ i j θ H, Rp X.K θ H (g' i j) (g i j)) : OpD X f (gI CT g') :=
  gI_of (C := CT) (imO h fun _ _ _ _ => rI0_rI) (fun _ _ h => h) hg
theorem o_sub : OpD X (binaryOp .Sub) (gI CT fun i j => .int (i - j)) := gI0_of op_sub fun _ _ _ _ => rfl
theorem o_lt : OpD X (compareOp .Lt) (gI CT fun i j => .bl (decide (i < j))) := gI0_of op_lt fun _ _ _ _ => rfl
theorem o_le : OpD X (compareOp .LtE) (gI CT fun i j => .bl (decide (i ≤ j))) := gI0_of op_le fun _ _ _ _ => rfl
theorem o_gt : OpD X (compareOp .Gt) (gI CT fun i j => .bl (decide (j < i))) := gI0_of op_gt fun _ _ _ _ => rfl
theorem o_ge : OpD X (compareOp .GtE) (gI CT fun i j => .bl (decide (j ≤ i))) := gI0_of op_ge fun _ _ _ _ => rfl
/-- % by another number than 0; // by a divisor above 0 -/
def CNe (_ j : Int) : Prop := j ≠ 0
instance (i j : Int) : Decidable (CNe i j) := inferInstanceAs (Decidable (j ≠ 0))
theorem o_mod : OpD X (binaryOp .Mod) (gI CNe fun i j => .int (i.fmod j)) := gI_of op_modN (fun _ _ h => h) fun _ _ _ _ => rfl
def CDv (_ j : Int) : Prop := 0 < j ∧ j.natAbs.log2 < 9000
instance (i j : Int) : Decidable (CDv i j) := inferInstanceAs (Decidable (_ ∧ _))
theorem o_fdiv : OpD X (binaryOp .FloorDiv) (gI CDv fun i j => .int (i / j)) := gI_of op_fdivW (fun _ _ h => h) fun _ _ _ _ => rfl
def CPw (i j : Int) : Prop := 0 ≤ j ∧ j ≤ 1000000 ∧ i.natAbs < 2 ^ 64
instance (i j : Int) : Decidable (CPw i j) := inferInstanceAs (Decidable (_ ∧ _ ∧ _))
theorem o_pow : OpD X (binaryOp .Pow) (gI CPw fun i j => .int (i ^ j.toNat)) := gI_of op_pow (fun _ _ h => h) fun _ _ _ _ => rfl
theorem o_isub : OpD X (inplaceOp .Sub) (gI CT fun i j => .int (i - j)) := gI0_of iop_sub fun _ _ _ _ => rfl
abbrev qLt := gI CT fun i j => .bl (decide (i < j))
abbrev qLe := gI CT fun i j => .bl (decide (i ≤ j))
abbrev qGt := gI CT fun i j => .bl (decide (j < i))
abbrev qGe := gI CT fun i j => .bl (decide (j ≤ i))
abbrev qSub := gI CT fun i j => .int (i - j)
abbrev qIadd := gI CT fun i j => .int (i + j)
abbrev qMod := gI CNe fun i j => .int (i.fmod j)
abbrev qFdiv := gI CDv fun i j => .int (i / j)
abbrev qPow := gI CPw fun i j => .int (i ^ j.toNat)
/-! ### + -/
def gAdd : DV → DV → DM → DR DV := fun u v μ => match u, v with
  | .int i, .int j => .ok (.int (i + j)) μ
  | .tup xs, .tup ys => if xs.length + ys.length ≤ LIM then .ok (.tup (xs ++ ys)) μ else .bad
  | u, v => match u.lst μ, v.lst μ with
    | some xs, some ys => if xs.length + ys.length ≤ LIM then .ok (.ref μ.length) (μ ++ [.lst (xs ++ ys)]) else .bad
    | _, _ => .bad
theorem RpL.nil_of {K : PySem.W.Frag} {θ : List Addr} {H : Hp} {xs : List DV} {vs : List V} (r : RpL K θ H xs vs) : vs = [] ↔ xs = [] := by
  have := r.len
  cases xs <;> cases vs <;> simp at this ⊢
theorem o_add : OpD X (binaryOp .Add) gAdd := imO (op_add.or (op_catA.or op_cat)) fun x y H Q ⟨θ, μ, u, v, s, ru, rv, q⟩ => by
  unfold gAdd at q
  split at q
  · rename_i i j
    cases ru; cases rv
    exact .inl ⟨i, j, rfl, rfl, q.fin s rfl⟩
  · rename_i xs ys
    obtain ⟨p, vs, rfl, sp, r1⟩ := ru
    obtain ⟨p2, ws, rfl, sp2, r2⟩ := rv
    split at q
    · rename_i hl
      refine .inr (.inl ⟨p, p2, vs, ws, rfl, rfl, sp, sp2, ?_, fun e => ?_, fun _ e => ?_, fun _ _ => q.finT s (r1.app r2)⟩)
      · rw [← r1.len, ← r2.len, ← lim_line]; exact hl
      · rw [r1.nil_of.mp e] at q
        exact q.fin s ⟨p2, ws, rfl, sp2, r2⟩
      · rw [r2.nil_of.mp e, List.append_nil] at q
        exact q.fin s ⟨p, vs, rfl, sp, r1⟩
    · exact q.elim
  · split at q
    · rename_i xs ys h1 h2
      split at q
      · rename_i hl
        obtain ⟨p, vs, rfl, sp, r1⟩ := lst_of s ru h1
        obtain ⟨p2, ws, rfl, sp2, r2⟩ := lst_of s rv h2
        exact .inr (.inr ⟨p, p2, vs, ws, rfl, rfl, sp, sp2, by rw [← r1.len, ← r2.len, ← lim_line]; exact hl, q.finL s (r1.app r2)⟩)
      · exact q.elim
    · exact q.elim
theorem o_iadd : OpD X (inplaceOp .Add) (gI CT fun i j => .int (i + j)) := gI0_of iop_add fun _ _ _ _ => rfl
/-! ### * -/
/-! ### a tuple once, a tuple no times -/
theorem tuple_mulS (l : Addr) (items : Array Value) (n : Nat) (dd : Option Addr) (sl : Array (Option Value)) (x : Int) (u : Tok) (c0 : (decide (x < -(2 ^ 63)) || decide (x ≥ 2 ^ 63)) = false) (c1 : (items.isEmpty || x == 1) = true) :
    Meets (Builtin.«tuple.__mul__» ⟨[.ref l, .int x u], []⟩) (fun _ R s => s.heap.get? l = some { cls := .type "tuple", dict := dd, data := .seq items n, slots := sl } ∧ R (.ok (.ret (Value.ref l))) s) :=
  .of_wp fun prog w A R s h => by
    obtain ⟨hp, g, d, tk, os⟩ := s
    obtain ⟨hl, h⟩ := h
    have f1 := AutoSeq1.idx_int
    wp_walk using wpAny_loadPart' hl
    repeat (first
      | (refine wpAny_ite_false (decide_eq_false (by rw [c0]; exact Bool.false_ne_true)) ?_; wp_walk using wpAny_loadPart' hl)
      | (refine wpAny_ite_true (decide_eq_true c1) ?_; wp_walk using wpAny_loadPart' hl))
    exact ⟨_, rfl, h⟩
theorem tuple_mulZ (l : Addr) (items : Array Value) (n : Nat) (dd : Option Addr) (sl : Array (Option Value)) (x : Int) (u : Tok) (c0 : (decide (x < -(2 ^ 63)) || decide (x ≥ 2 ^ 63)) = false) (c1 : (items.isEmpty || x == 1) = false) (c2 : (decide (x ≤ 0) || items.isEmpty) = true) :
    Meets (Builtin.«tuple.__mul__» ⟨[.ref l, .int x u], []⟩) (fun _ R s => s.heap.get? l = some { cls := .type "tuple", dict := dd, data := .seq items n, slots := sl } ∧
      R (.ok (.ret (Value.ref s.heap.objs.size))) { s with heap := s.heap.push { cls := Value.type "tuple", data := Data.seq #[] }, toks := s.toks }) :=
  .of_wp fun prog w A R s h => by
    obtain ⟨hp, g, d, tk, os⟩ := s
    obtain ⟨hl, h⟩ := h
    have f1 := AutoSeq1.idx_int
    wp_walk using wpAny_loadPart' hl
    repeat (first
      | (refine wpAny_ite_false (decide_eq_false (by rw [c0]; exact Bool.false_ne_true)) ?_; wp_walk using wpAny_loadPart' hl)
      | (refine wpAny_ite_false (decide_eq_false (by rw [c1]; exact Bool.false_ne_true)) ?_; wp_walk using wpAny_loadPart' hl)
      | (refine wpAny_ite_true (decide_eq_true c2) ?_; wp_walk using wpAny_loadPart' hl))
    exact ⟨_, rfl, h⟩
/-- a tuple that comes back as it is; an empty one -/
def rRepO (K : PySem.W.Frag) : R2 := fun x y H Q => ∃ l k xs, x = .ref l ∧ y = .int k ∧ SqT K H l xs ∧ -1000 ≤ k ∧ k ≤ 1000 ∧ (((xs = [] ∨ k = 1) ∧ Q (.ref l) H) ∨ (xs ≠ [] ∧ k ≤ 0 ∧ ∀ p, H p = none → Q (.ref p) (upd H p (.tup []))))
theorem op_repO {X : Cx} : OpR X (binaryOp .Mult) (rRepO X.K) := by
  intro pins s σ H x y v u Q I rx ry h
  obtain ⟨l, k, xs, rfl, rfl, hT, b1, b2, q⟩ := h
  cases rx
  obtain ⟨t, rfl⟩ := ry
  obtain ⟨its, r, ⟨⟨cls, dd, data, sl⟩, ho, hc, n, hd⟩, hz⟩ := I.tuple hT
  simp only at hc hd
  subst hc hd
  have c0 : (decide (k < -(2 ^ 63)) || decide (k ≥ 2 ^ 63)) = false := by
    simp only [Bool.or_eq_false_iff, decide_eq_false_iff_not]
    omega
  have em : its.toArray.isEmpty = true ↔ xs = [] := by
    have := r.length
    cases xs <;> cases its <;> simp at this ⊢
  rcases q with ⟨e, q⟩ | ⟨e, k0, q⟩
  · have c1 : (its.toArray.isEmpty || k == 1) = true := by
      rw [Bool.or_eq_true, em, beq_iff_eq]
      exact e
    exact wpAny_binaryOp_repeat_ref (T := "tuple") (U := "int") (by decide) ⟨_, ho, rfl⟩ (fun s' => typeIs_int s' k t) noFill_tuple_mul F.fills_int_mul F.slot_int_rmul repeat_tuple F.slot_int_index.lookup
      (call_meets F.slot_int_rmul (typeIs_int s k t) F.entry_int_rmul (F.args_int_rmul_2 _ _) (int_rmul_tuple k t l its.toArray n dd sl)
        ⟨ho, rfl, ⟨_, ho, rfl⟩, call_meets F.slot_tuple_mul ⟨_, ho, rfl⟩ F.entry_tuple_mul (F.args_tuple_mul_2 _ _) (tuple_mulS l its.toArray n dd sl k t c0 c1) ⟨ho, .ref l, _, I, rfl, q⟩⟩)
  · have c1 : (its.toArray.isEmpty || k == 1) = false := by
      rw [Bool.or_eq_false_iff]
      refine ⟨?_, ?_⟩
      · cases z : its.toArray.isEmpty with
        | false => rfl
        | true => exact absurd (em.mp z) e
      · exact beq_eq_false_iff_ne.mpr (by omega)
    have c2 : (decide (k ≤ 0) || its.toArray.isEmpty) = true := by rw [decide_eq_true k0]; rfl
    refine wpAny_binaryOp_repeat_ref (T := "tuple") (U := "int") (by decide) ⟨_, ho, rfl⟩ (fun s' => typeIs_int s' k t) noFill_tuple_mul F.fills_int_mul F.slot_int_rmul repeat_tuple F.slot_int_index.lookup
      (call_meets F.slot_int_rmul (typeIs_int s k t) F.entry_int_rmul (F.args_int_rmul_2 _ _) (int_rmul_tuple k t l its.toArray n dd sl)
        ⟨ho, rfl, ⟨_, ho, rfl⟩, call_meets F.slot_tuple_mul ⟨_, ho, rfl⟩ F.entry_tuple_mul (F.args_tuple_mul_2 _ _) (tuple_mulZ l its.toArray n dd sl k t c0 c1 c2) ⟨ho, ?_⟩⟩)
    refine ⟨.ref s.heap.objs.size, _, I.laid (t' := s.toks) (o := .tup []) (fun b ob q => Heap.get?_push_of_some _ q) (Nat.le_refl _) ?_, rfl, q _ (I.hok.fresh (Nat.le_refl _))⟩
    exact ⟨by simp, _, .nil, IsTup.new _ _⟩
def CMw (i j : Int) : Prop := i.natAbs.log2 + j.natAbs.log2 < 1000000
instance (i j : Int) : Decidable (CMw i j) := inferInstanceAs (Decidable (_ < _))
def gMul : DV → DV → DM → DR DV := fun u v μ => match u, v with
  | .int i, .int j => if CMw i j then .ok (.int (i * j)) μ else .bad
  | .tup xs, .int k => if -1000 ≤ k ∧ k ≤ 1000 ∧ xs.length ≤ 1000 then .ok (.tup (List.replicate k.toNat xs).flatten) μ else .bad
  | u, .int k => match u.lst μ with
    | some xs => if 0 ≤ k ∧ k ≤ 1000 ∧ xs.length ≤ 1000 then .ok (.ref μ.length) (μ ++ [.lst (List.replicate k.toNat xs).flatten]) else .bad
    | _ => .bad
  | _, _ => .bad
theorem o_mul : OpD X (binaryOp .Mult) gMul := imO (op_mulW.or (op_repT.or (op_repO.or op_rep))) fun x y H Q ⟨θ, μ, u, v, s, ru, rv, q⟩ => by
  unfold gMul at q
  split at q
  · rename_i i j
    cases ru; cases rv
    split at q
    · rename_i hc
      exact .inl ⟨i, j, rfl, rfl, hc, q.fin s rfl⟩
    · exact q.elim
  · rename_i xs k
    cases rv
    obtain ⟨p, vs, rfl, sp, r1⟩ := ru
    split at q
    · rename_i hc
      by_cases e0 : xs = []
      · subst e0
        cases r1
        refine .inr (.inr (.inl ⟨p, k, [], rfl, rfl, sp, hc.1, hc.2.1, .inl ⟨.inl rfl, q.fin s ⟨p, [], rfl, sp, ?_⟩⟩⟩))
        rw [List.flatten_eq_nil_iff.mpr (fun l hl => (List.mem_replicate.mp hl).2)]
        rfl
      by_cases e1 : k = 1
      · subst e1
        refine .inr (.inr (.inl ⟨p, 1, vs, rfl, rfl, sp, hc.1, hc.2.1, .inl ⟨.inr rfl, q.fin s ⟨p, vs, rfl, sp, ?_⟩⟩⟩))
        simpa using r1
      by_cases e2 : k ≤ 0
      · refine .inr (.inr (.inl ⟨p, k, vs, rfl, rfl, sp, hc.1, hc.2.1, .inr ⟨fun e => e0 (r1.nil_of.mp e), e2, q.finT s ?_⟩⟩))
        rw [show k.toNat = 0 from by omega]
        rfl
      exact .inr (.inl ⟨p, k, vs, rfl, rfl, sp, fun e => e0 (r1.nil_of.mp e), by omega, hc.2.1, by rw [← r1.len]; exact hc.2.2, q.finT s (r1.rep _)⟩)
    · exact q.elim
  · rename_i k _ _
    cases rv
    split at q
    · rename_i xs h1
      split at q
      · rename_i hc
        obtain ⟨p, vs, rfl, sp, r1⟩ := lst_of s ru h1
        have hl : vs.length * k.toNat ≤ 1000 * 1000 := Nat.mul_le_mul (by rw [← r1.len]; exact hc.2.2) (by omega)
        have hs : sizeLine = 16777216 := sizeLine_eq
        exact .inr (.inr (.inr ⟨p, k, vs, rfl, rfl, sp, by omega, by omega, by omega, q.finL s (r1.rep _)⟩))
      · exact q.elim
    · exact q.elim
  · exact q.elim
/-! ### == -/
mutual
/-- lists of the store put in -/
def rsW (f : Nat → Option DV) : DV → Option DV
  | .ref n => f n
  | .tup xs => (rsWL f xs).map .tup
  | .kl xs => (rsWL f xs).map .kl
  | .non => some .non
  | .bl b => some (.bl b)
  | .int i => some (.int i)
  | .str s => some (.str s)
def rsWL (f : Nat → Option DV) : List DV → Option (List DV)
  | [] => some []
  | x :: xs => match rsW f x, rsWL f xs with
    | some d, some ds => some (d :: ds)
    | _, _ => none
end
def rsR (μ : DM) : Nat → Nat → Option DV
  | 0, _ => none
  | k + 1, n => match μ[n]? with
    | some (.lst xs) => (rsWL (rsR μ k) xs).map .kl
    | _ => none
def rsv (μ : DM) (v : DV) : Option DV := rsW (rsR μ 4) v
mutual
def toP : DV → PyData
  | .non => .none
  | .bl b => .bool b
  | .int i => .int i
  | .str s => .str (Str.ofString s)
  | .tup xs => .tuple (toPL xs)
  | .kl xs => .list (toPL xs)
  | .ref _ => .none
def toPL : List DV → List PyData
  | [] => []
  | x :: xs => toP x :: toPL xs
def DV.dp : DV → Nat
  | .tup xs => DV.dpL xs + 1
  | .kl xs => DV.dpL xs + 1
  | _ => 0
def DV.dpL : List DV → Nat
  | [] => 0
  | x :: xs => max (DV.dp x) (DV.dpL xs)
/-- == of data -/
def dEq : DV → DV → Bool
  | .non, .non => true
  | .bl a, .bl b => a == b
  | .bl a, .int j => (if a then 1 else 0) == j
  | .int i, .bl b => i == (if b then 1 else 0)
  | .int i, .int j => i == j
  | .str a, .str b => a == b
  | .tup a, .tup b => dEqL a b
  | .kl a, .kl b => dEqL a b
  | _, _ => false
def dEqL : List DV → List DV → Bool
  | [], [] => true
  | x :: xs, y :: ys => dEq x y && dEqL xs ys
  | _, _ => false
/-- no list of the store within -/
def DV.pure : DV → Bool
  | .ref _ => false
  | .tup xs => DV.pureL xs
  | .kl xs => DV.pureL xs
  | _ => true
def DV.pureL : List DV → Bool
  | [] => true
  | x :: xs => DV.pure x && DV.pureL xs
end
theorem ofString_inj {a b : String} (h : Str.ofString a = Str.ofString b) : a = b := by
  rw [Str.ofString_eq_toList, Str.ofString_eq_toList, Str.mk.injEq] at h
  have h2 : a.toList.map Char.toNat = b.toList.map Char.toNat := by simpa using congrArg Array.toList h
  have inj : ∀ (l m : List Char), l.map Char.toNat = m.map Char.toNat → l = m := by
    intro l
    induction l with
    | nil => intro m h; cases m with
      | nil => rfl
      | cons _ _ => simp at h
    | cons c l ih => intro m h; cases m with
      | nil => simp at h
      | cons d m =>
        simp only [List.map_cons, List.cons.injEq] at h
        rw [ih m h.2]
        have : c = d := Char.ext (UInt32.toNat_inj.mp h.1)
        rw [this]
  exact String.toList_inj.mp (inj _ _ h2)
theorem ofString_eq {a b : String} : (Str.ofString a == Str.ofString b) = (a == b) := by
  by_cases h : a = b
  · subst h; simp
  · rw [beq_eq_false_iff_ne.mpr h, beq_eq_false_iff_ne.mpr fun e => h (ofString_inj e)]
theorem ofString_ok (a : String) : PyData.strOk (Str.ofString a) = true := by
  rw [Str.ofString_eq_toList]
  unfold PyData.strOk
  simp only [List.all_toArray, List.all_eq_true, List.mem_map, decide_eq_true_eq]
  rintro x ⟨c, _, rfl⟩
  have hc := c.valid
  simp only [UInt32.isValidChar, Nat.isValidChar] at hc
  show c.val.toNat < _
  omega
mutual
theorem dEq_P : ∀ a b : DV, a.pure = true → b.pure = true → PyData.eqv (toP a) (toP b) = dEq a b
  | .non, b, _, hb => by cases b <;> first | rfl | cases hb
  | .bl _, b, _, hb => by cases b <;> first | rfl | cases hb
  | .int _, b, _, hb => by cases b <;> first | rfl | cases hb
  | .str _, b, _, hb => by cases b <;> first | (simp only [toP, PyData.eqv, dEq]; exact ofString_eq) | rfl | cases hb
  | .ref _, _, h, _ => by cases h
  | .tup xs, b, h, hb => by
    cases b with
    | tup ys => exact dEqL_P xs ys h hb
    | _ => first | rfl | cases hb
  | .kl xs, b, h, hb => by
    cases b with
    | kl ys => exact dEqL_P xs ys h hb
    | _ => first | rfl | cases hb
theorem dEqL_P : ∀ a b : List DV, DV.pureL a = true → DV.pureL b = true → PyData.eqvAll (toPL a) (toPL b) = dEqL a b
  | [], b, _, _ => by cases b <;> rfl
  | x :: xs, b, h, hb => by
    cases b with
    | nil => rfl
    | cons y ys =>
      simp only [DV.pureL, Bool.and_eq_true] at h hb
      show (PyData.eqv (toP x) (toP y) && PyData.eqvAll (toPL xs) (toPL ys)) = (dEq x y && dEqL xs ys)
      rw [dEq_P x y h.1 hb.1, dEqL_P xs ys h.2 hb.2]
end
mutual
theorem lay_P : ∀ a : DV, (toP a).canLay0 = true
  | .non => rfl
  | .bl _ => rfl
  | .int _ => rfl
  | .ref _ => rfl
  | .str s => by simp [toP, PyData.canLay0, ofString_ok]
  | .tup xs => by simp only [toP, PyData.canLay0]; exact layL_P xs
  | .kl xs => by simp only [toP, PyData.canLay0]; exact layL_P xs
theorem layL_P : ∀ a : List DV, PyData.canLayAll0 (toPL a) = true
  | [] => rfl
  | x :: xs => by simp only [toPL, PyData.canLayAll0, lay_P x, layL_P xs, Bool.and_self]
theorem dp_P : ∀ a : DV, (toP a).depth = a.dp
  | .non => rfl
  | .bl _ => rfl
  | .int _ => rfl
  | .ref _ => rfl
  | .str s => rfl
  | .tup xs => by simp only [toP, PyData.depth, DV.dp, dpL_P xs]
  | .kl xs => by simp only [toP, PyData.depth, DV.dp, dpL_P xs]
theorem dpL_P : ∀ a : List DV, PyData.depthAll (toPL a) = DV.dpL a
  | [] => rfl
  | x :: xs => by simp only [toPL, PyData.depthAll, DV.dpL, dp_P x, dpL_P xs]
end
theorem shaped_P {a : DV} (h : a.dp ≤ 64) : SeqAt.shaped (toP a) = true := by
  unfold SeqAt.shaped
  rw [lay_P, dp_P]
  simp [h]
section
variable {K : PySem.W.Frag} {θ : List Addr} {H : Hp}
mutual
theorem rsW_dp {f : Nat → Option DV} (hf : ∀ n d a, f n = some d → θ[n]? = some a → Dp K H (.ref a) (toP d) ∧ d.pure = true) : ∀ (v : DV) (w : V) (d : DV), rsW f v = some d → Rp K θ H v w → Dp K H w (toP d) ∧ d.pure = true
  | .non, w, d, h, r => by cases h; cases r; exact ⟨.non, rfl⟩
  | .bl b, w, d, h, r => by cases h; cases r; exact ⟨.bl b, rfl⟩
  | .int i, w, d, h, r => by cases h; cases r; exact ⟨.int i, rfl⟩
  | .str s, w, d, h, r => by cases h; cases r; exact ⟨.str _, rfl⟩
  | .ref n, w, d, h, r => by
    obtain ⟨a, ha, rfl⟩ := r
    exact hf n d a h ha
  | .tup xs, w, d, h, r => by
    obtain ⟨a, vs, rfl, s, r⟩ := r
    simp only [rsW, Option.map_eq_some_iff] at h
    obtain ⟨ds, h1, rfl⟩ := h
    obtain ⟨q1, q2⟩ := rsWL_dp hf xs vs ds h1 r
    exact ⟨.tup s q1, q2⟩
  | .kl xs, w, d, h, r => by
    obtain ⟨a, vs, rfl, s, r⟩ := r
    simp only [rsW, Option.map_eq_some_iff] at h
    obtain ⟨ds, h1, rfl⟩ := h
    obtain ⟨q1, q2⟩ := rsWL_dp hf xs vs ds h1 r
    exact ⟨.lst s.sq q1, q2⟩
theorem rsWL_dp {f : Nat → Option DV} (hf : ∀ n d a, f n = some d → θ[n]? = some a → Dp K H (.ref a) (toP d) ∧ d.pure = true) : ∀ (v : List DV) (w : List V) (d : List DV), rsWL f v = some d → RpL K θ H v w → DpAll K H w (toPL d) ∧ DV.pureL d = true
  | [], w, d, h, r => by cases h; cases r; exact ⟨.nil, rfl⟩
  | x :: xs, w, d, h, r => by
    obtain ⟨u, us, rfl, r1, r2⟩ := r
    simp only [rsWL] at h
    split at h
    · rename_i d1 ds h1 h2
      cases h
      obtain ⟨q1, q2⟩ := rsW_dp hf x u d1 h1 r1
      obtain ⟨q3, q4⟩ := rsWL_dp hf xs us ds h2 r2
      exact ⟨.cons q1 q3, by simp only [DV.pureL, q2, q4, Bool.and_self]⟩
    · cases h
end
theorem rsR_dp {μ : DM} (s : Sto K θ H μ) : ∀ (k n : Nat) (d : DV) (a : Addr), rsR μ k n = some d → θ[n]? = some a → Dp K H (.ref a) (toP d) ∧ d.pure = true
  | 0, _, _, _, h, _ => by cases h
  | k + 1, n, d, a, h, ha => by
    simp only [rsR] at h
    split at h
    · rename_i xs hx
      simp only [Option.map_eq_some_iff] at h
      obtain ⟨ds, h1, rfl⟩ := h
      obtain ⟨vs, e, r⟩ := s.cell n a _ ha hx
      obtain ⟨q1, q2⟩ := rsWL_dp (rsR_dp s k) xs vs ds h1 r
      exact ⟨.lst (SqL.of e) q1, q2⟩
    · cases h
theorem rsv_dp {μ : DM} (s : Sto K θ H μ) {v d : DV} {w : V} (h : rsv μ v = some d) (r : Rp K θ H v w) : Dp K H w (toP d) ∧ d.pure = true := rsW_dp (rsR_dp s 4) v w d h r
end
def gEq (neg : Bool) : DV → DV → DM → DR DV := fun u v μ => match rsv μ u, rsv μ v with
  | some a, some b => if a.dp ≤ 64 ∧ b.dp ≤ 64 then .ok (.bl (if neg then !dEq a b else dEq a b)) μ else .bad
  | _, _ => .bad
theorem eq_run {K : PySem.W.Frag} {neg : Bool} {x y : V} {H : Hp} {Q : VK} (q : rG K (gEq neg) x y H Q) : ∃ d e, Dp K H x d ∧ Dp K H y e ∧ SeqAt.shaped d = true ∧ SeqAt.shaped e = true ∧ Q (.bl (if neg then !PyData.eqv d e else PyData.eqv d e)) H := by
  obtain ⟨θ, μ, u, v, s, ru, rv, q⟩ := q
  unfold gEq at q
  split at q
  · rename_i a b ha hb
    split at q
    · rename_i hd
      obtain ⟨p1, p2⟩ := rsv_dp s ha ru
      obtain ⟨p3, p4⟩ := rsv_dp s hb rv
      refine ⟨_, _, p1, p3, shaped_P hd.1, shaped_P hd.2, ?_⟩
      rw [dEq_P a b p2 p4]
      exact q.fin s rfl
    · exact q.elim
  · exact q.elim
theorem o_eq (hu : X.A.units + 64 < cLine) : OpD X (compareOp .Eq) (gEq false) := imO (op_eqD hu) fun x y H Q q => eq_run q
theorem o_ne (hu : X.A.units + 64 < cLine) : OpD X (compareOp .NotEq) (gEq true) := imO (op_neD hu) fun x y H Q q => eq_run q
/-! ### in, not in -/
def gIn (neg : Bool) : DV → DV → DM → DR DV := fun u v μ => match rsv μ u, rsv μ v with
  | some a, some (.kl bs) => if a.dp ≤ 64 ∧ (DV.kl bs).dp ≤ 64 then .ok (.bl (if neg then !bs.any (fun z => dEq z a) else bs.any (fun z => dEq z a))) μ else .bad
  | _, _ => .bad
theorem any_P {a : DV} (ha : a.pure = true) : ∀ {bs : List DV}, DV.pureL bs = true → (toPL bs).any (fun z => PyData.eqv z (toP a)) = bs.any fun z => dEq z a
  | [], _ => rfl
  | b :: bs, h => by
    simp only [DV.pureL, Bool.and_eq_true] at h
    simp only [toPL, List.any_cons, any_P ha h.2, dEq_P b a h.1 ha]
theorem in_run {K : PySem.W.Frag} {neg : Bool} {x y : V} {H : Hp} {Q : VK} (q : rG K (gIn neg) x y H Q) : ∃ d ds, Dp K H x d ∧ Dp K H y (.list ds) ∧ SeqAt.shaped d = true ∧ SeqAt.shaped (.list ds) = true ∧ Q (.bl (if neg then !ds.any (fun z => PyData.eqv z d) else ds.any (fun z => PyData.eqv z d))) H := by
  obtain ⟨θ, μ, u, v, s, ru, rv, q⟩ := q
  unfold gIn at q
  split at q
  · rename_i a bs ha hb
    split at q
    · rename_i hd
      obtain ⟨p1, p2⟩ := rsv_dp s ha ru
      obtain ⟨p3, p4⟩ := rsv_dp s hb rv
      refine ⟨_, _, p1, p3, shaped_P hd.1, shaped_P hd.2, ?_⟩
      rw [any_P p2 p4]
      exact q.fin s rfl
    · exact q.elim
  · exact q.elim
theorem o_in (hu : X.A.units + 65 < cLine) : OpD X (compareOp .In) (gIn false) := imO (op_inD hu) fun x y H Q q => in_run q
theorem o_notIn (hu : X.A.units + 65 < cLine) : OpD X (compareOp .NotIn) (gIn true) := imO (op_notInD hu) fun x y H Q q => in_run q
/-! ### is -/
def gIs (neg : Bool) : DV → DV → DM → DR DV := fun u v μ => match u, v with
  | .non, .non => .ok (.bl (!neg)) μ
  | _, .non => .ok (.bl neg) μ
  | .bl a, .bl b => .ok (.bl (if neg then !decide (a = b) else decide (a = b))) μ
  | _, _ => .bad
theorem Rp.non_iff {K : PySem.W.Frag} {θ : List Addr} {H : Hp} {u : DV} {x : V} (r : Rp K θ H u x) : x = .non ↔ u = .non := by
  cases u with
  | non => cases r; simp
  | tup _ => obtain ⟨a, vs, rfl, _⟩ := r; simp
  | kl _ => obtain ⟨a, vs, rfl, _⟩ := r; simp
  | ref _ => obtain ⟨a, _, rfl⟩ := r; simp
  | _ => cases r; simp
theorem is_run {K : PySem.W.Frag} {neg : Bool} {x y : V} {H : Hp} {Q : VK} (q : rG K (gIs neg) x y H Q) : (y = .non ∧ Q (.bl (if neg then !decide (x = .non) else decide (x = .non))) H) ∨ (∃ a b : Bool, x = .bl a ∧ y = .bl b ∧ Q (.bl (if neg then !decide (a = b) else decide (a = b))) H) := by
  obtain ⟨θ, μ, u, v, s, ru, rv, q⟩ := q
  unfold gIs at q
  split at q
  · cases ru; cases rv
    refine .inl ⟨rfl, ?_⟩
    simp only [decide_true, Bool.not_true]
    cases neg <;> exact q.fin s rfl
  · rename_i hn
    cases rv
    refine .inl ⟨rfl, ?_⟩
    have : decide (x = V.non) = false := decide_eq_false fun e => hn (ru.non_iff.mp e)
    rw [this]
    cases neg <;> exact q.fin s rfl
  · cases ru; cases rv
    exact .inr ⟨_, _, rfl, rfl, q.fin s rfl⟩
  · exact q.elim
theorem o_is : OpD X (compareOp .Is) (gIs false) := imO (op_isN.or op_isBl) fun x y H Q q => is_run q
theorem o_isNot : OpD X (compareOp .IsNot) (gIs true) := imO (op_notN.or op_notBl) fun x y H Q q => is_run q
/-! ### -x -/
def mNeg (m : EM) : EM := fun ρ μ => (m ρ μ).bind fun v μ => match v with
  | .int i => .ok (.int (-i)) μ
  | _ => .bad
theorem d_neg {m : EM} (h : DEx xt W X a m) : DEx xt W X (.UnaryOp .USub a pos) (mNeg m) := by
  refine imE (pe_un un_neg h) fun σ H Q ⟨θ, ρ, μ, he, hs, q⟩ => ⟨θ, ρ, μ, he, hs, ?_⟩
  refine q.bind.imp fun w H1 ⟨θ1, μ1, u, l1, s1, r1, q1⟩ => ?_
  cases u with
  | int i => cases r1; exact ⟨i, rfl, q1.ret s1 rfl⟩
  | _ => exact q1.elim
/-! ### a[i] -/
def gIx : DV → DV → DM → DR DV := fun u v μ => match u.seq μ, v with
  | some xs, .int i => match atI xs i with
    | some x => .ok x μ
    | none => .bad
  | _, _ => .bad
theorem ix_run {K : PySem.W.Frag} {x y : V} {H : Hp} {Q : VK} (q : rG K gIx x y H Q) : rIx K x y H Q := by
  obtain ⟨θ, μ, u, v, s, ru, rv, q⟩ := q
  unfold gIx at q
  split at q
  · rename_i xs i hx
    split at q
    · rename_i z hz
      cases rv
      obtain ⟨p, vs, rfl, sp, r1⟩ := seq_of s ru hx
      obtain ⟨w, hw, rw'⟩ : ∃ w, atI vs i = some w ∧ Rp K θ H z w := by
        unfold atI at hz ⊢
        rw [← r1.len]
        cases h : ixN xs.length i with
        | none => rw [h] at hz; cases hz
        | some j => rw [h] at hz; exact r1.get hz
      rcases sp with sp | sp
      · exact .inl ⟨p, vs, i, w, rfl, rfl, sp, hw, q.fin s rw'⟩
      · exact .inr (.inl ⟨p, vs, i, w, rfl, rfl, sp, hw, q.fin s rw'⟩)
    · exact q.elim
  · exact q.elim
theorem d_ix {ma mb : EM} (ha : DEx xt W X a ma) (hb : DEx xt W X b mb) (hs : PlainIx b := by exact fun _ _ => rfl) : DEx xt W X (.Subscript a b pos) (mOp gIx ma mb) := by
  refine imE (pe_ix ix_seq ha hb hs) fun σ H Q q => ?_
  have q2 : tOp (rG X.K gIx) (tE X.K xt W ma) (tE X.K xt W mb) σ H Q := op_run q
  obtain ⟨θ, ρ, μ, he, hs, q⟩ := q2
  exact ⟨θ, ρ, μ, he, hs, q.imp fun w H1 ⟨θ, ρ, μ, he, hs, q⟩ => ⟨θ, ρ, μ, he, hs, q.imp fun _ _ => ix_run⟩⟩
end
end Md

namespace Md
open PySem L2
section
variable {X : Cx} {xt : String → Option Addr} {W : WX} {a b c e o : Expr} {es : List Expr} {pos p apos : Pos} {x : Str}
/-! ## slices -/
abbrev DPo (xt : String → Option Addr) (W : WX) (X : Cx) (e : Option Expr) (m : DE → DM → DR (Option Int)) : Prop := PO X e (tG X.K xt W (fun _ _ a b => a = b) m)
def mNoP : DE → DM → DR (Option Int) := fun _ μ => .ok none μ
def mP (m : EM) : DE → DM → DR (Option Int) := fun ρ μ => (m ρ μ).bind fun v μ => match v with
  | .int i => .ok (some i) μ
  | _ => .bad
theorem p_none : DPo xt W X none mNoP := ⟨fun pins s σ H Q I ⟨_, _, _, _, hs, q⟩ => po_none.run pins s σ H Q I (q.ret hs rfl)⟩
theorem p_some {m : EM} (h : DEx xt W X e m) : DPo xt W X (some e) (mP m) := ⟨fun pins s σ H Q I ⟨θ, ρ, μ, he, hs, q⟩ => (po_some h).run pins s σ H Q I (by
  refine ⟨θ, ρ, μ, he, hs, ?_⟩
  refine q.bind.imp fun w H1 ⟨θ1, μ1, u, l1, s1, r1, q1⟩ => ?_
  cases u with
  | int i => cases r1; exact ⟨i, rfl, q1.ret s1 rfl⟩
  | _ => exact q1.elim)⟩
def cutD (xs : List DV) (lo hi : Option Int) : List DV := (xs.drop (HT.sIx xs.length 0 lo)).take (HT.sIx xs.length xs.length hi - HT.sIx xs.length 0 lo)
def mSl (m : EM) (lo hi : DE → DM → DR (Option Int)) : EM := fun ρ μ => (m ρ μ).bind fun v μ => (lo ρ μ).bind fun l μ => (hi ρ μ).bind fun h μ => match v with
  | .tup xs => .ok (.tup (cutD xs l h)) μ
  | .kl xs => .ok (.ref μ.length) (μ ++ [.lst (cutD xs l h)])
  | .ref n => match μ[n]? with
    | some (.lst xs) => .ok (.ref μ.length) (μ ++ [.lst (cutD xs l h)])
    | _ => .bad
  | _ => .bad
theorem RpL.cut {K : PySem.W.Frag} {θ : List Addr} {H : Hp} {xs : List DV} {vs : List V} (r : RpL K θ H xs vs) (l h : Option Int) : RpL K θ H (cutD xs l h) (cutV vs l h) := by
  unfold cutD cutV
  rw [r.len]
  exact (r.drop _).take _
theorem Po.retT {K : PySem.W.Frag} {xt : String → Option Addr} {W : WX} {xs : List DV} {μ : DM} {θ : List Addr} {H : Hp} {σ : L2.St} {Q : VK} {vs : List V} (h : Po K xt W (Rp K) (.ok (.tup xs) μ) θ H σ Q) (s : Sto K θ H μ) (r : RpL K θ H xs vs) :
    ∀ p, H p = none → Q (.ref p) (upd H p (.tup vs)) := fun p hp => h θ _ _ (Lt.laid hp) (s.fr hp) ⟨p, vs, rfl, .inl (.inl upd_same), (Lt.laid hp).rpL r⟩
theorem Po.retL {K : PySem.W.Frag} {xt : String → Option Addr} {W : WX} {xs : List DV} {μ : DM} {θ : List Addr} {H : Hp} {σ : L2.St} {Q : VK} {vs : List V} (h : Po K xt W (Rp K) (.ok (.ref μ.length) (μ ++ [.lst xs])) θ H σ Q) (s : Sto K θ H μ) (r : RpL K θ H xs vs) :
    ∀ p, H p = none → Q (.ref p) (upd H p (.lst vs)) := fun p hp => h _ _ _ (Lt.push hp) ((s.fr hp).push (s.out hp) upd_same ((Lt.laid hp).rpL r)) ⟨p, by rw [← s.len, List.getElem?_append_right (Nat.le_refl _)]; simp, rfl⟩
theorem cutD_whole {xs : List DV} {l h : Option Int} (w : HT.sIx xs.length 0 l = 0 ∧ HT.sIx xs.length xs.length h = xs.length) : cutD xs l h = xs := by
  unfold cutD
  rw [w.1, w.2]
  simp
theorem d_slice {m : EM} {lo hi : Option Expr} {ml mh : DE → DM → DR (Option Int)} {p2 : Pos} (h : DEx xt W X e m) (hl : DPo xt W X lo ml) (hh : DPo xt W X hi mh) : DEx xt W X (.Subscript e (.Slice lo hi none p2) pos) (mSl m ml mh) := by
  refine imE (pe_slice (sl_tupA.or sl_list) h hl hh) fun σ H Q ⟨θ, ρ, μ, he, hs, q⟩ => ⟨θ, ρ, μ, he, hs, ?_⟩
  refine q.bind.imp fun w H1 ⟨θ1, μ1, v, l1, s1, r1, q1⟩ => ⟨θ1, ρ, μ1, l1.rpE he, s1, ?_⟩
  refine q1.bind.imp fun l' H2 ⟨θ2, μ2, l, l2, s2, r2, q2⟩ => ⟨θ2, ρ, μ2, l2.rpE (l1.rpE he), s2, ?_⟩
  refine q2.bind.imp fun h' H3 ⟨θ3, μ3, h, l3, s3, r3, q3⟩ => ?_
  subst r2; subst r3
  have rv := l3.rp (l2.rp r1)
  cases v with
  | tup xs =>
    obtain ⟨p, vs, rfl, sp, r⟩ := rv
    refine .inl ⟨p, vs, rfl, sp, fun hw => ?_, fun hw => q3.retT s3 (r.cut l h)⟩
    refine q3.ret s3 ⟨p, vs, rfl, sp, ?_⟩
    rw [← r.len] at hw
    rw [cutD_whole hw]
    exact r
  | kl xs =>
    obtain ⟨p, vs, rfl, sp, r⟩ := rv
    exact .inr ⟨p, vs, rfl, sp.sq, q3.retL s3 (r.cut l h)⟩
  | ref n =>
    obtain ⟨p, hp, rfl⟩ := rv
    replace q3 : Po X.K xt W (Rp X.K) (match μ3[n]? with | some (.lst xs) => .ok (.ref μ3.length) (μ3 ++ [.lst (cutD xs l h)]) | _ => .bad) θ3 H3 σ Q := q3
    split at q3
    · rename_i xs hx
      obtain ⟨vs, ev, r⟩ := s3.cell n p _ hp hx
      exact .inr ⟨p, vs, rfl, SqL.of ev, q3.retL s3 (r.cut l h)⟩
    · exact q3.elim
  | _ => exact q3.elim
/-! ## built-ins of one list -/
/-- a built-in's rule, by the items -/
def Lf (K : PySem.W.Frag) (r : List V → Hp → VK → Prop) (g : List DV → DM → DR DV) : Prop :=
  ∀ (θ : List Addr) (H : Hp) (μ : DM) (xs : List DV) (p : Addr) (vs : List V) (σ : L2.St) (xt : String → Option Addr) (W : WX) (Q : VK), Sto K θ H μ → SqL K H p vs → RpL K θ H xs vs → Po K xt W (Rp K) (g xs μ).noex θ H σ Q → r [.ref p] H Q
/-- a list's items, also of one that nobody changes -/
def DV.lsq (v : DV) (μ : DM) : Option (List DV) := match v with
  | .ref n => match μ[n]? with
    | some (.lst xs) => some xs
    | _ => none
  | .kl xs => some xs
  | _ => none
theorem lsq_of {K : PySem.W.Frag} {θ : List Addr} {H : Hp} {μ : DM} (s : Sto K θ H μ) {v : DV} {w : V} (r : Rp K θ H v w) {xs : List DV} (h : v.lsq μ = some xs) : ∃ p vs, w = .ref p ∧ SqL K H p vs ∧ RpL K θ H xs vs := by
  cases v with
  | ref n =>
    obtain ⟨p, hp, rfl⟩ := r
    simp only [DV.lsq] at h
    split at h
    · rename_i ys hy
      cases h
      obtain ⟨vs, e, r⟩ := s.cell n p _ hp hy
      exact ⟨p, vs, rfl, SqL.of e, r⟩
    · cases h
  | kl ys =>
    cases h
    obtain ⟨p, vs, e, h1, r1⟩ := r
    exact ⟨p, vs, e, h1.sq, r1⟩
  | _ => cases h
def mL1 (g : List DV → DM → DR DV) (m : EM) : EM := fun ρ μ => (m ρ μ).bind fun v μ => match v.lsq μ with
  | some xs => (g xs μ).noex
  | none => .bad
def mL1F (g : List DV → DM → DR DV) (m : LM) : EM := fun ρ μ => (m ρ μ).bind fun xs μ => (g xs μ).noex
theorem l1_run {r : List V → Hp → VK → Prop} {g : List DV → DM → DR DV} {m : EM} (hr : Lf X.K r g) {σ : L2.St} {H : Hp} {Q : VK} (q : tE X.K xt W (mL1 g m) σ H Q) : tCB r (tCons (tE X.K xt W m) tNil) σ H Q := by
  obtain ⟨θ, ρ, μ, he, hs, q⟩ := q
  refine ⟨θ, ρ, μ, he, hs, ?_⟩
  refine q.bind.imp fun w H1 ⟨θ1, μ1, v, l1, s1, r1, q1⟩ => ?_
  split at q1
  · rename_i xs hx
    obtain ⟨p, vs, rfl, sp, r2⟩ := lsq_of s1 r1 hx
    exact hr _ _ _ _ _ _ _ _ _ _ s1 sp r2 q1
  · exact q1.elim
theorem l1F_run {r : List V → Hp → VK → Prop} {g : List DV → DM → DR DV} {m : LM} (hr : Lf X.K r g) {σ : L2.St} {H : Hp} {Q : VK} (q : tE X.K xt W (mL1F g m) σ H Q) : tCB r (tCons (tFr X.K xt W m) tNil) σ H Q := by
  obtain ⟨θ, ρ, μ, he, hs, q⟩ := q
  refine ⟨θ, ρ, μ, he, hs, ?_⟩
  refine (PoF.bind q).imp fun w H1 ⟨θ1, μ1, xs, ⟨p, vs, e, l1, s1, h0, hn, hp, r2⟩, q1⟩ => ?_
  subst e
  exact hr _ _ _ _ _ _ _ _ _ _ s1 (SqL.of hp) r2 (q1 _ _ l1)
section
variable {id T : String} {r : List V → Hp → VK → Prop} {g : List DV → DM → DR DV}
theorem d_b1 {m : EM} (hc : CallR X (.builtin id) r) (hr : Lf X.K r g) (hm : X.mg x = none) (hg : Gl X x := by rfl) (hv : bootBuiltins x = some (.builtin id) := by first | exact PySem.boot_len | decide +kernel) (h : DEx xt W X a m) (hn : x ≠ "__name__" := by decide) (hdb : (x == ("__debug__" : Str)) = false := by decide)
    (he : starEach [a] X.env = (false, eval a X.env) :: starEach [] X.env := by rfl) (hpl : (backTo pos (starEach [] X.env)).any (·.1) = false := by rfl) : DEx xt W X (.Call (.Name x p) [a] [] pos) (mL1 g m) :=
  imE (pe_callB hc hg hm hv (pa_cons h pa_nil he) hn hdb he hpl) fun _ _ _ q => l1_run hr q
theorem d_b1F {m : LM} (hc : CallR X (.builtin id) r) (hr : Lf X.K r g) (hm : X.mg x = none) (hg : Gl X x := by rfl) (hv : bootBuiltins x = some (.builtin id) := by decide +kernel) (h : DFr xt W X a m) (hn : x ≠ "__name__" := by decide) (hdb : (x == ("__debug__" : Str)) = false := by decide)
    (he : starEach [a] X.env = (false, eval a X.env) :: starEach [] X.env := by rfl) (hpl : (backTo pos (starEach [] X.env)).any (·.1) = false := by rfl) : DEx xt W X (.Call (.Name x p) [a] [] pos) (mL1F g m) :=
  imE (pe_callB hc hg hm hv (pa_cons h pa_nil he) hn hdb he hpl) fun _ _ _ q => l1F_run hr q
theorem d_t1F {m : LM} (hc : CallR X (.type T) r) (hr : Lf X.K r g) (hm : X.mg x = none) (hg : Gl X x := by rfl) (hv : bootBuiltins x = some (.type T) := by decide +kernel) (h : DFr xt W X a m) (hn : x ≠ "__name__" := by decide) (hdb : (x == ("__debug__" : Str)) = false := by decide)
    (he : starEach [a] X.env = (false, eval a X.env) :: starEach [] X.env := by rfl) (hpl : (backTo pos (starEach [] X.env)).any (·.1) = false := by rfl) : DEx xt W X (.Call (.Name x p) [a] [] pos) (mL1F g m) :=
  imE (pe_callTy hc hg hm hv (pa_cons h pa_nil he) hn hdb he hpl) fun _ _ _ q => l1F_run hr q
end
def blsOf : List DV → Option (List Bool)
  | [] => some []
  | .bl b :: xs => (blsOf xs).map (b :: ·)
  | _ => none
def intsOf : List DV → Option (List Int)
  | [] => some []
  | .int b :: xs => (intsOf xs).map (b :: ·)
  | _ => none
theorem blsOf_eq : ∀ {xs : List DV} {bs : List Bool}, blsOf xs = some bs → xs = bs.map DV.bl
  | [], bs, h => by cases h; rfl
  | x :: xs, bs, h => by
    cases x with
    | bl b =>
      simp only [blsOf, Option.map_eq_some_iff] at h
      obtain ⟨cs, h1, rfl⟩ := h
      rw [blsOf_eq h1]; rfl
    | _ => simp [blsOf] at h
theorem intsOf_eq : ∀ {xs : List DV} {bs : List Int}, intsOf xs = some bs → xs = bs.map DV.int
  | [], bs, h => by cases h; rfl
  | x :: xs, bs, h => by
    cases x with
    | int b =>
      simp only [intsOf, Option.map_eq_some_iff] at h
      obtain ⟨cs, h1, rfl⟩ := h
      rw [intsOf_eq h1]; rfl
    | _ => simp [intsOf] at h
@[simp] theorem blsOf_map : ∀ (bs : List Bool), blsOf (bs.map DV.bl) = some bs
  | [] => rfl
  | b :: bs => by simp [blsOf, blsOf_map bs]
@[simp] theorem intsOf_map : ∀ (bs : List Int), intsOf (bs.map DV.int) = some bs
  | [] => rfl
  | b :: bs => by simp [intsOf, intsOf_map bs]
def gAll (xs : List DV) (μ : DM) : DR DV := match blsOf xs with
  | some bs => .ok (.bl (bs.all id)) μ
  | none => .bad
def gAny (xs : List DV) (μ : DM) : DR DV := match blsOf xs with
  | some bs => .ok (.bl (bs.any id)) μ
  | none => .bad
def gSum (xs : List DV) (μ : DM) : DR DV := match intsOf xs with
  | some ns => .ok (.int ns.sum) μ
  | none => .bad
def gMin (xs : List DV) (μ : DM) : DR DV := match intsOf xs with
  | some ns => match ns.min? with
    | some m => .ok (.int m) μ
    | none => .bad
  | none => .bad
def gMax (xs : List DV) (μ : DM) : DR DV := match intsOf xs with
  | some ns => match ns.max? with
    | some m => .ok (.int m) μ
    | none => .bad
  | none => .bad
theorem lf_all {K : PySem.W.Frag} : Lf K (rAll K) gAll := fun θ H μ xs p vs σ xt W Q s sp r q => by
  unfold gAll at q
  split at q
  · rename_i bs hb
    rw [blsOf_eq hb] at r
    rw [r.bls] at sp
    exact ⟨p, bs, rfl, sp, q.fin s rfl⟩
  · exact q.elim
theorem lf_any {K : PySem.W.Frag} : Lf K (rAny K) gAny := fun θ H μ xs p vs σ xt W Q s sp r q => by
  unfold gAny at q
  split at q
  · rename_i bs hb
    rw [blsOf_eq hb] at r
    rw [r.bls] at sp
    exact ⟨p, bs, rfl, sp, q.fin s rfl⟩
  · exact q.elim
theorem lf_sum {K : PySem.W.Frag} : Lf K (rSum K) gSum := fun θ H μ xs p vs σ xt W Q s sp r q => by
  unfold gSum at q
  split at q
  · rename_i bs hb
    rw [intsOf_eq hb] at r
    rw [r.ints] at sp
    exact ⟨p, bs, rfl, sp, q.fin s rfl⟩
  · exact q.elim
theorem lf_min {K : PySem.W.Frag} : Lf K (rMin K) gMin := fun θ H μ xs p vs σ xt W Q s sp r q => by
  unfold gMin at q
  split at q
  · rename_i bs hb
    rw [intsOf_eq hb] at r
    rw [r.ints] at sp
    split at q
    · rename_i m hm
      refine ⟨p, bs, rfl, sp, ?_, fun m' h1 h2 => ?_⟩
      · cases bs with
        | nil => simp at hm
        | cons _ _ => simp
      · have hm' := List.min?_eq_some_iff.mp hm
        have e : m' = m := Int.le_antisymm (h2 m hm'.1) (hm'.2 m' h1)
        rw [e]
        exact q.fin s rfl
    · exact q.elim
  · exact q.elim
theorem lf_max {K : PySem.W.Frag} : Lf K (rMax K) gMax := fun θ H μ xs p vs σ xt W Q s sp r q => by
  unfold gMax at q
  split at q
  · rename_i bs hb
    rw [intsOf_eq hb] at r
    rw [r.ints] at sp
    split at q
    · rename_i m hm
      refine ⟨p, bs, rfl, sp, ?_, fun m' h1 h2 => ?_⟩
      · cases bs with
        | nil => simp at hm
        | cons _ _ => simp
      · have hm' := List.max?_eq_some_iff.mp hm
        have e : m' = m := Int.le_antisymm (hm'.2 m' h1) (h2 m hm'.1)
        rw [e]
        exact q.fin s rfl
    · exact q.elim
  · exact q.elim
/-! ## len, tuple, list, sorted, int, abs, gcd, isinstance -/
def mLen (m : EM) : EM := fun ρ μ => (m ρ μ).bind fun v μ => match v.seq μ with
  | some xs => .ok (.int xs.length) μ
  | none => .bad
def gLen (xs : List DV) (μ : DM) : DR DV := .ok (.int xs.length) μ
theorem d_len {m : EM} (hm : X.mg ("len" : Str) = none) (h : DEx xt W X a m) (hg : Gl X ("len" : Str) := by rfl)
    (he : starEach [a] X.env = (false, eval a X.env) :: starEach [] X.env := by rfl) (hpl : (backTo pos (starEach [] X.env)).any (·.1) = false := by rfl) : DEx xt W X (.Call (.Name "len" p) [a] [] pos) (mLen m) := by
  refine imE (pe_callB call_len_seq hg hm PySem.boot_len (pa_cons h pa_nil he) (by decide) (by decide) he hpl) fun σ H Q ⟨θ, ρ, μ, he, hs, q⟩ => ⟨θ, ρ, μ, he, hs, ?_⟩
  refine q.bind.imp fun w H1 ⟨θ1, μ1, v, l1, s1, r1, q1⟩ => ?_
  split at q1
  · rename_i xs hx
    obtain ⟨p, vs, rfl, sp, r2⟩ := seq_of s1 r1 hx
    exact ⟨p, vs, rfl, sp, q1.ret s1 (by rw [r2.len]; rfl)⟩
  · exact q1.elim
theorem lf_len {K : PySem.W.Frag} : Lf K (fun xs H Q => ∃ p ys, xs = [.ref p] ∧ (SqL K H p ys ∨ SqT K H p ys) ∧ Q (.int ys.length) H) gLen := fun θ H μ xs p vs σ xt W Q s sp r q =>
  ⟨p, vs, rfl, .inl sp, q.fin s (by rw [r.len]; rfl)⟩
def mTupOf (m : EM) : EM := fun ρ μ => (m ρ μ).bind fun v μ => match v.seq μ with
  | some xs => .ok (.tup xs) μ
  | none => .bad
def mTupF (m : LM) : EM := fun ρ μ => (m ρ μ).bind fun xs μ => .ok (.tup xs) μ
theorem d_tupOf {m : EM} (hm : X.mg ("tuple" : Str) = none) (h : DEx xt W X a m) (hg : Gl X ("tuple" : Str) := by rfl) (na : starEach [a] X.env = (false, eval a X.env) :: starEach [] X.env := by rfl) : DEx xt W X (.Call (.Name "tuple" p) [a] [] pos) (mTupOf m) := by
  refine imE (pe_tupleOf hg hm h na) fun σ H Q ⟨θ, ρ, μ, he, hs, q⟩ => ⟨θ, ρ, μ, he, hs, ?_⟩
  refine q.bind.imp fun w H1 ⟨θ1, μ1, v, l1, s1, r1, q1⟩ => ?_
  split at q1
  · rename_i xs hx
    obtain ⟨p, vs, rfl, sp, r2⟩ := seq_of s1 r1 hx
    rcases sp with sp | sp
    · exact .inl ⟨p, vs, rfl, sp, q1.retT s1 r2⟩
    · exact .inr ⟨p, vs, rfl, sp, q1.ret s1 ⟨p, vs, rfl, sp, r2⟩⟩
  · exact q1.elim
theorem d_tupF {m : LM} (hm : X.mg ("tuple" : Str) = none) (h : DFr xt W X a m) (hg : Gl X ("tuple" : Str) := by rfl) (na : starEach [a] X.env = (false, eval a X.env) :: starEach [] X.env := by rfl) : DEx xt W X (.Call (.Name "tuple" p) [a] [] pos) (mTupF m) := by
  refine imE (pe_tupleOf hg hm h na) fun σ H Q ⟨θ, ρ, μ, he, hs, q⟩ => ⟨θ, ρ, μ, he, hs, ?_⟩
  refine (PoF.bind q).imp fun w H1 ⟨θ1, μ1, xs, ⟨p, vs, e, l1, s1, h0, hn, hp, r2⟩, q1⟩ => ?_
  subst e
  exact .inl ⟨p, vs, rfl, SqL.of hp, (q1 _ _ l1).retT s1 r2⟩
def mListOf (m : EM) : LM := fun ρ μ => (m ρ μ).bind fun v μ => match v.seq μ with
  | some xs => .ok xs μ
  | none => .bad
theorem d_listOf {m : EM} (hm : X.mg ("list" : Str) = none) (h : DEx xt W X a m) (hg : Gl X ("list" : Str) := by rfl)
    (he : starEach [a] X.env = (false, eval a X.env) :: starEach [] X.env := by rfl) (hpl : (backTo pos (starEach [] X.env)).any (·.1) = false := by rfl) : DFr xt W X (.Call (.Name "list" p) [a] [] pos) (mListOf m) := by
  refine imE (pe_callTy call_list_of hg hm (by decide +kernel) (pa_cons h pa_nil he) (by decide) (by decide) he hpl) fun σ H Q ⟨θ, ρ, μ, he, hs, q⟩ => ⟨θ, ρ, μ, he, hs, ?_⟩
  refine (PoF.of q).imp fun w H1 ⟨θ1, μ1, v, l1, s1, r1, q1⟩ => ?_
  split at q1
  · rename_i xs hx
    obtain ⟨p, vs, rfl, sp, r2⟩ := seq_of s1 r1 hx
    exact ⟨p, vs, rfl, sp, q1.ret s1 r2⟩
  · exact q1.elim
/-- lo, lo + 1, .. below hi -/
def rgD (lo hi : Int) : List DV := (List.range (hi - lo).toNat).map fun i => DV.int (lo + (i : Nat))
theorem rg_rp {K : PySem.W.Frag} {θ : List Addr} {H : Hp} {lo hi : Int} : RpL K θ H (rgD lo hi) (rgV lo hi) := by
  unfold rgD rgV
  generalize List.range (hi - lo).toNat = l
  induction l with
  | nil => rfl
  | cons i l ih => exact ⟨_, _, rfl, rfl, ih⟩
/-- the ends of a range, asked so that nothing is counted down -/
def RgB (a b : Int) : Bool := match a, b with
  | .ofNat m, .ofNat n => Nat.ble m 10000000 && Nat.ble n 10000000
  | .ofNat m, .negSucc n => Nat.ble m 10000000 && Nat.ble n 10000000
  | _, _ => false
def RgO (a b : Int) : Prop := RgB a b = true
instance (a b : Int) : Decidable (RgO a b) := inferInstanceAs (Decidable (_ = _))
theorem RgO.ok {a b : Int} (h : RgO a b) : RgOk a b := by
  unfold RgO RgB at h
  split at h
  · rename_i m n
    rw [Bool.and_eq_true, Nat.ble_eq, Nat.ble_eq] at h
    simp only [Int.ofNat_eq_natCast] at *
    exact ⟨by omega, by omega, by omega, by omega, by omega⟩
  · rename_i m n
    rw [Bool.and_eq_true, Nat.ble_eq, Nat.ble_eq] at h
    simp only [Int.ofNat_eq_natCast, Int.negSucc_eq] at *
    exact ⟨by omega, by omega, by omega, by omega, by omega⟩
  · cases h
def mRg1 (m : EM) : LM := fun ρ μ => (m ρ μ).bind fun v μ => match v with
  | .int n => if RgO 0 n then .ok (rgD 0 n) μ else .bad
  | _ => .bad
def mRg2 (m n : EM) : LM := fun ρ μ => (m ρ μ).bind fun v μ => (n ρ μ).bind fun u μ => match v, u with
  | .int a, .int b => if RgO a b then .ok (rgD a b) μ else .bad
  | _, _ => .bad
theorem d_listRg1 {m : EM} {p2 pos2 : Pos} (hc : X.calm = true) (hm : X.mg ("list" : Str) = none) (hm2 : X.mg ("range" : Str) = none) (h : DEx xt W X a m) (hg : Gl X ("list" : Str) := by rfl) (hg2 : Gl X ("range" : Str) := by rfl)
    (na : starEach [a] X.env = (false, eval a X.env) :: starEach [] X.env := by rfl) (na2 : starEach [.Call (.Name "range" p2) [a] [] pos2] X.env = (false, eval (.Call (.Name "range" p2) [a] [] pos2) X.env) :: starEach [] X.env := by rfl) :
    DFr xt W X (.Call (.Name "list" p) [.Call (.Name "range" p2) [a] [] pos2] [] pos) (mRg1 m) := by
  refine imE (pe_listRg hc hg hm (prg_1 hg2 hm2 h na) na2) fun σ H Q ⟨θ, ρ, μ, he, hs, q⟩ => ⟨θ, ρ, μ, he, hs, ?_⟩
  refine (PoF.of q).imp fun w H1 ⟨θ1, μ1, v, l1, s1, r1, q1⟩ => ?_
  cases v with
  | int n =>
    cases r1
    replace q1 : PoF X.K xt W (if RgO 0 n then .ok (rgD 0 n) μ1 else .bad) θ1 H1 σ Q := q1
    split at q1
    · rename_i hr
      exact ⟨n, rfl, hr.ok, q1.ret s1 rg_rp⟩
    · exact q1.elim
  | _ => exact q1.elim
theorem d_listRg2 {m n : EM} {p2 pos2 : Pos} (hc : X.calm = true) (hm : X.mg ("list" : Str) = none) (hm2 : X.mg ("range" : Str) = none) (h : DEx xt W X a m) (h2 : DEx xt W X b n) (hg : Gl X ("list" : Str) := by rfl) (hg2 : Gl X ("range" : Str) := by rfl)
    (na : starEach [a, b] X.env = (false, eval a X.env) :: starEach [b] X.env := by rfl) (nb : starEach [b] X.env = (false, eval b X.env) :: starEach [] X.env := by rfl) (hp : (backTo pos2 (starEach [b] X.env)).any (·.1) = false := by rfl)
    (na2 : starEach [.Call (.Name "range" p2) [a, b] [] pos2] X.env = (false, eval (.Call (.Name "range" p2) [a, b] [] pos2) X.env) :: starEach [] X.env := by rfl) :
    DFr xt W X (.Call (.Name "list" p) [.Call (.Name "range" p2) [a, b] [] pos2] [] pos) (mRg2 m n) := by
  refine imE (pe_listRg hc hg hm (prg_2 hg2 hm2 h h2 na nb hp) na2) fun σ H Q ⟨θ, ρ, μ, he, hs, q⟩ => ⟨θ, ρ, μ, he, hs, ?_⟩
  refine (PoF.of q).imp fun w H1 ⟨θ1, μ1, v, l1, s1, r1, q1⟩ => ⟨θ1, ρ, μ1, l1.rpE he, s1, ?_⟩
  refine (PoF.of q1).imp fun w2 H2 ⟨θ2, μ2, u, l2, s2, r2, q2⟩ => ?_
  cases v with
  | int i =>
    cases u with
    | int j =>
      cases r1; cases r2
      replace q2 : PoF X.K xt W (if RgO i j then .ok (rgD i j) μ2 else .bad) θ2 H2 σ Q := q2
      split at q2
      · rename_i hr
        exact ⟨i, j, rfl, rfl, hr.ok, q2.ret s2 rg_rp⟩
      · exact q2.elim
    | _ => exact q2.elim
  | _ => exact q2.elim
/-- ascending -/
def srtD (ns : List Int) : List Int := ns.mergeSort (fun a b => decide (a ≤ b))
theorem srt_one : ∀ {l m : List Int}, l.Perm m → l.Pairwise (· ≤ ·) → m.Pairwise (· ≤ ·) → l = m
  | [], m, hp, _, _ => by have := hp.length_eq; cases m with
    | nil => rfl
    | cons _ _ => simp at this
  | a :: l, m, hp, h1, h2 => by
    cases m with
    | nil => have := hp.length_eq; simp at this
    | cons b m =>
      have h1' := List.pairwise_cons.mp h1
      have h2' := List.pairwise_cons.mp h2
      have e : a = b := by
        have ha : a ∈ b :: m := hp.mem_iff.mp List.mem_cons_self
        have hb : b ∈ a :: l := hp.mem_iff.mpr List.mem_cons_self
        have x1 : b ≤ a := by
          rcases List.mem_cons.mp ha with e | e
          · omega
          · exact h2'.1 a e
        have x2 : a ≤ b := by
          rcases List.mem_cons.mp hb with e | e
          · omega
          · exact h1'.1 b e
        omega
      subst e
      rw [srt_one ((List.perm_cons a).mp hp) h1'.2 h2'.2]
theorem srtD_perm (ns : List Int) : (srtD ns).Perm ns := List.mergeSort_perm ns _
theorem srtD_srt (ns : List Int) : (srtD ns).Pairwise (· ≤ ·) := by
  have h := List.pairwise_mergeSort (le := fun a b : Int => decide (a ≤ b)) (fun a b c h1 h2 => by simp at *; omega) (fun a b => by simp; omega) ns
  exact h.imp fun h => by simpa using h
def mSorted (m : EM) : LM := fun ρ μ => (m ρ μ).bind fun v μ => match v.lsq μ with
  | some xs => match intsOf xs with
    | some ns => .ok ((srtD ns).map .int) μ
    | none => .bad
  | none => .bad
def mSortedF (m : LM) : LM := fun ρ μ => (m ρ μ).bind fun xs μ => match intsOf xs with
    | some ns => .ok ((srtD ns).map .int) μ
    | none => .bad
theorem d_sorted {m : EM} (hm : X.mg ("sorted" : Str) = none) (h : DEx xt W X a m) (hg : Gl X ("sorted" : Str) := by rfl)
    (he : starEach [a] X.env = (false, eval a X.env) :: starEach [] X.env := by rfl) (hpl : (backTo pos (starEach [] X.env)).any (·.1) = false := by rfl) : DFr xt W X (.Call (.Name "sorted" p) [a] [] pos) (mSorted m) := by
  refine imE (pe_callB cr_sortedI hg hm (by decide +kernel) (pa_cons h pa_nil he) (by decide) (by decide) he hpl) fun σ H Q ⟨θ, ρ, μ, he, hs, q⟩ => ⟨θ, ρ, μ, he, hs, ?_⟩
  refine (PoF.of q).imp fun w H1 ⟨θ1, μ1, v, l1, s1, r1, q1⟩ => ?_
  split at q1
  · rename_i xs hx
    obtain ⟨p, vs, rfl, sp, r2⟩ := lsq_of s1 r1 hx
    split at q1
    · rename_i ns hn
      rw [intsOf_eq hn] at r2
      rw [r2.ints] at sp
      refine ⟨p, ns, rfl, sp, fun ns' p' h1 h2 h3 => ?_⟩
      rw [srt_one (h1.trans (srtD_perm ns).symm) h2 (srtD_srt ns)]
      exact q1.ret s1 RpL.of_ints p' h3
    · exact q1.elim
  · exact q1.elim
def mInt (m : EM) : EM := fun ρ μ => (m ρ μ).bind fun v μ => match v with
  | .int i => .ok (.int i) μ
  | .bl k => .ok (.int (if k then 1 else 0)) μ
  | _ => .bad
theorem d_intOf {m : EM} (hm : X.mg ("int" : Str) = none) (h : DEx xt W X a m) (hg : Gl X ("int" : Str) := by rfl)
    (he : starEach [a] X.env = (false, eval a X.env) :: starEach [] X.env := by rfl) (hpl : (backTo pos (starEach [] X.env)).any (·.1) = false := by rfl) : DEx xt W X (.Call (.Name "int" p) [a] [] pos) (mInt m) := by
  refine imE (pe_callTy call_int1 hg hm (by decide +kernel) (pa_cons h pa_nil he) (by decide) (by decide) he hpl) fun σ H Q ⟨θ, ρ, μ, he, hs, q⟩ => ⟨θ, ρ, μ, he, hs, ?_⟩
  refine q.bind.imp fun w H1 ⟨θ1, μ1, v, l1, s1, r1, q1⟩ => ?_
  cases v with
  | int i => cases r1; exact .inl ⟨i, rfl, q1.ret s1 rfl⟩
  | bl i => cases r1; exact .inr ⟨i, rfl, q1.ret s1 rfl⟩
  | _ => exact q1.elim
def mAbs (m : EM) : EM := fun ρ μ => (m ρ μ).bind fun v μ => match v with
  | .int i => .ok (.int (if i < 0 then -i else i)) μ
  | _ => .bad
theorem d_abs {m : EM} (hm : X.mg ("abs" : Str) = none) (h : DEx xt W X a m) (hg : Gl X ("abs" : Str) := by rfl)
    (he : starEach [a] X.env = (false, eval a X.env) :: starEach [] X.env := by rfl) (hpl : (backTo pos (starEach [] X.env)).any (·.1) = false := by rfl) : DEx xt W X (.Call (.Name "abs" p) [a] [] pos) (mAbs m) := by
  refine imE (pe_callB call_abs hg hm (by decide +kernel) (pa_cons h pa_nil he) (by decide) (by decide) he hpl) fun σ H Q ⟨θ, ρ, μ, he, hs, q⟩ => ⟨θ, ρ, μ, he, hs, ?_⟩
  refine q.bind.imp fun w H1 ⟨θ1, μ1, v, l1, s1, r1, q1⟩ => ?_
  cases v with
  | int i => cases r1; exact ⟨i, rfl, q1.ret s1 rfl⟩
  | _ => exact q1.elim
def mGcd (m n : EM) : EM := fun ρ μ => (m ρ μ).bind fun v μ => (n ρ μ).bind fun u μ => match v, u with
  | .int i, .int j => .ok (.int ((Nat.gcd i.natAbs j.natAbs : Nat) : Int)) μ
  | _, _ => .bad
theorem d_gcd {m n : EM} (hm : X.mg ("gcd" : Str) = some (.builtin "math.gcd")) (h : DEx xt W X a m) (h2 : DEx xt W X b n) (hg : Gl X ("gcd" : Str) := by rfl)
    (hb : starEach [b] X.env = (false, eval b X.env) :: starEach [] X.env := by rfl) (he : starEach [a, b] X.env = (false, eval a X.env) :: starEach [b] X.env := by rfl) (hpl : (backTo pos (starEach [b] X.env)).any (·.1) = false := by rfl) : DEx xt W X (.Call (.Name "gcd" p) [a, b] [] pos) (mGcd m n) := by
  refine imE (pe_callBfun cr_gcd hg hm (pa_cons h (pa_cons h2 pa_nil hb) he) (by decide) he hpl) fun σ H Q ⟨θ, ρ, μ, he, hs, q⟩ => ⟨θ, ρ, μ, he, hs, ?_⟩
  refine q.bind.imp fun w H1 ⟨θ1, μ1, v, l1, s1, r1, q1⟩ => ⟨θ1, ρ, μ1, l1.rpE he, s1, ?_⟩
  refine q1.bind.imp fun w2 H2 ⟨θ2, μ2, u, l2, s2, r2, q2⟩ => ?_
  cases v with
  | int i =>
    cases u with
    | int j => cases r1; cases r2; exact ⟨i, j, rfl, q2.ret s2 rfl⟩
    | _ => exact q2.elim
  | _ => exact q2.elim
/-- isinstance of a built-in class -/
def DV.ty (v : DV) : String := match v with
  | .non => "NoneType"
  | .bl _ => "bool"
  | .int _ => "int"
  | .str _ => "str"
  | .tup _ => "tuple"
  | .kl _ => "list"
  | .ref _ => "list"
def DC.ty (c : DC) : String := match c with
  | .lst _ => "list"
  | .obj _ _ => "an own class"
  | .dct _ => "dict"
/-- .. of a cell; as a list's where there is none -/
def tyAt (μ : DM) (n : Nat) : String := ((μ[n]?).map DC.ty).getD "list"
def isTy (T t : String) : Bool := T == t || (t == "bool" && T == "int")
def isOf (T : String) (v : DV) : Bool := isTy T v.ty
def mIsi (T : String) (m : EM) : EM := fun ρ μ => (m ρ μ).bind fun v μ => match v with
  | .ref n => if n < μ.length then .ok (.bl (isTy T (tyAt μ n))) μ else .bad
  | v => .ok (.bl (isOf T v)) μ
theorem tyAt_of {μ : DM} {n : Nat} {c : DC} (h : μ[n]? = some c) : tyAt μ n = c.ty := by unfold tyAt; rw [h]; rfl
theorem tyAt_or (μ : DM) (n : Nat) : tyAt μ n = "list" ∨ tyAt μ n = "an own class" ∨ tyAt μ n = "dict" := by
  unfold tyAt
  cases μ[n]? with
  | none => exact .inl rfl
  | some c => cases c with
    | lst xs => exact .inl rfl
    | obj a b => exact .inr (.inl rfl)
    | dct k => exact .inr (.inr rfl)
@[simp] theorem isTy_at_tup {μ : DM} {n : Nat} : isTy "tuple" (tyAt μ n) = false := by rcases tyAt_or μ n with h | h | h <;> rw [h] <;> decide
@[simp] theorem isTy_at_int {μ : DM} {n : Nat} : isTy "int" (tyAt μ n) = false := by rcases tyAt_or μ n with h | h | h <;> rw [h] <;> decide
@[simp] theorem isTy_at_bool {μ : DM} {n : Nat} : isTy "bool" (tyAt μ n) = false := by rcases tyAt_or μ n with h | h | h <;> rw [h] <;> decide
@[simp] theorem isTy_at_str {μ : DM} {n : Nat} : isTy "str" (tyAt μ n) = false := by rcases tyAt_or μ n with h | h | h <;> rw [h] <;> decide
@[simp] theorem ty_at1 {μ : DM} {n : Nat} : ("tuple" = tyAt μ n) = False := by rcases tyAt_or μ n with h | h | h <;> rw [h] <;> simp
@[simp] theorem ty_at2 {μ : DM} {n : Nat} : ("int" = tyAt μ n) = False := by rcases tyAt_or μ n with h | h | h <;> rw [h] <;> simp
@[simp] theorem ty_at3 {μ : DM} {n : Nat} : ("bool" = tyAt μ n) = False := by rcases tyAt_or μ n with h | h | h <;> rw [h] <;> simp
@[simp] theorem ty_at4 {μ : DM} {n : Nat} : ("str" = tyAt μ n) = False := by rcases tyAt_or μ n with h | h | h <;> rw [h] <;> simp
@[simp] theorem ty_at5 {μ : DM} {n : Nat} : (tyAt μ n = "bool") = False := by rcases tyAt_or μ n with h | h | h <;> rw [h] <;> simp
@[simp] theorem ty_at6 {μ : DM} {n : Nat} {xs : List DV} (h : μ[n]? = some (.lst xs)) : tyAt μ n = "list" := tyAt_of h
theorem ty_of {K : PySem.W.Frag} {θ : List Addr} {H : Hp} {μ : DM} (s : Sto K θ H μ) {v : DV} {w : V} (r : Rp K θ H v w) (hn : ∀ n, v ≠ .ref n) : TyX K H w (.type v.ty) := by
  cases v with
  | non => cases r; exact .base .non
  | bl b => cases r; exact .base (.bl b)
  | int b => cases r; exact .base (.int b)
  | str b => cases r; exact .base (.str _)
  | tup xs =>
    obtain ⟨a, vs, rfl, sp, _⟩ := r
    rcases sp with (sp | ⟨o, sp⟩) | ⟨o, its, n, h1, h2, _⟩
    · exact .base (.tup sp)
    · exact .fTuple sp
    · exact .kTuple h1 h2
  | kl xs =>
    obtain ⟨a, vs, rfl, sp, _⟩ := r
    rcases sp with ⟨o, sp⟩ | ⟨o, its, n, h1, h2, _⟩
    · exact .base (.frz sp)
    · exact .kList h1 h2
  | ref n => exact absurd rfl (hn n)
/-- the types that are asked, the types that are met -/
theorem kit_all : (["NoneType", "bool", "int", "str", "tuple", "list", "dict"].all fun t => ["int", "bool", "tuple", "list", "str"].all fun T => kitB t T == some (isTy T t)) = true := by decide +kernel
theorem kit_dict (T : String) (h : T ∈ ["int", "bool", "tuple", "list", "str"]) : kitB "dict" T = some (isTy T "dict") :=
  eq_of_beq (List.all_eq_true.mp (List.all_eq_true.mp kit_all "dict" (by simp)) T h)
theorem kit_list (T : String) (h : T ∈ ["int", "bool", "tuple", "list", "str"]) : kitB "list" T = some (isTy T "list") :=
  eq_of_beq (List.all_eq_true.mp (List.all_eq_true.mp kit_all "list" (by simp)) T h)
theorem kit_own (T : String) (h : T ∈ ["int", "bool", "tuple", "list", "str"]) : isTy T "an own class" = false := by
  simp only [List.mem_cons, List.not_mem_nil, or_false] at h
  rcases h with rfl | rfl | rfl | rfl | rfl <;> decide
theorem kit_tab (T : String) (h : T ∈ ["int", "bool", "tuple", "list", "str"]) (v : DV) : kitB v.ty T = some (isOf T v) := by
  have hv : v.ty ∈ ["NoneType", "bool", "int", "str", "tuple", "list", "dict"] := by cases v <;> simp [DV.ty]
  have h1 := List.all_eq_true.mp (List.all_eq_true.mp kit_all v.ty hv) T h
  exact eq_of_beq h1
theorem d_isi {m : EM} {T : String} {y : Str} {p2 : Pos} (hT : T ∈ ["int", "bool", "tuple", "list", "str"]) (hm : X.mg ("isinstance" : Str) = none) (hmT : X.mg y = none) (h : DEx xt W X a m) (hvT : bootBuiltins y = some (.type T) := by decide +kernel)
    (hg : Gl X ("isinstance" : Str) := by rfl) (hgT : Gl X y := by rfl) (hn : y ≠ "__name__" := by decide) (hdb : (y == ("__debug__" : Str)) = false := by decide)
    (hb : starEach [.Name y p2] X.env = (false, eval (.Name y p2) X.env) :: starEach [] X.env := by rfl) (he : starEach [a, .Name y p2] X.env = (false, eval a X.env) :: starEach [.Name y p2] X.env := by rfl) (hpl : (backTo pos (starEach [.Name y p2] X.env)).any (·.1) = false := by rfl) :
    DEx xt W X (.Call (.Name "isinstance" p) [a, .Name y p2] [] pos) (mIsi T m) := by
  refine imE (pe_callB call_isi hg hm (by decide +kernel) (pa_cons h (pa_cons (pe_bltn (v := .ty T) hgT hmT hvT rfl hn hdb) pa_nil hb) he) (by decide) (by decide) he hpl) fun σ H Q ⟨θ, ρ, μ, he, hs, q⟩ => ⟨θ, ρ, μ, he, hs, ?_⟩
  refine q.bind.imp fun w H1 ⟨θ1, μ1, v, l1, s1, r1, q1⟩ => ?_
  have key : ∀ b, (∀ n, v ≠ .ref n) → kitB v.ty T = some b → Q (.bl b) H1 → tC (.ty T) σ H1 fun y H2 => tNil σ H2 fun ys H3 => rIsi X.K (w :: y :: ys) H3 Q := fun b hn hk hq =>
    ⟨w, .ty T, .type v.ty, .type T, b, rfl, .ty T, ty_of s1 r1 hn, kit_ty hk, hq⟩
  have kt := kit_tab T hT v
  cases v with
  | ref n =>
    obtain ⟨a, ha, rfl⟩ := r1
    replace q1 : Po X.K xt W (Rp X.K) (if n < μ1.length then .ok (.bl (isTy T (tyAt μ1 n))) μ1 else .bad) θ1 H1 σ Q := q1
    split at q1
    · rename_i hn
      obtain ⟨c, hc⟩ : ∃ c, μ1[n]? = some c := ⟨_, List.getElem?_eq_getElem hn⟩
      rw [tyAt_of hc] at q1
      have h := s1.cell n a c ha hc
      cases c with
      | lst xs =>
        obtain ⟨vs, e, _⟩ := h
        exact ⟨.ref a, .ty T, .type "list", .type T, _, rfl, .ty T, .base (.lst e), kit_ty (kit_list T hT), q1.ret s1 rfl⟩
      | dct kvs =>
        obtain ⟨ks, vs, _, e, _⟩ := h
        exact ⟨.ref a, .ty T, .type "dict", .type T, _, rfl, .ty T, .base (.dK e), kit_ty (kit_dict T hT), q1.ret s1 rfl⟩
      | obj cls fs =>
        obtain ⟨C, dx, vs, _, e, _, cf, _⟩ := h
        refine ⟨.ref a, .ty T, .ref C, .type T, _, rfl, .ty T, .base (.ins e cf.cls cf.ha cf.hn cf.htk cf.hm), cf.kit T hT, ?_⟩
        have q2 := q1.ret s1 rfl
        rwa [show isTy T (DC.ty (.obj cls fs)) = false from kit_own T hT] at q2
    · exact q1.elim
  | _ => exact key _ (fun m e => by cases e) kt (q1.ret s1 rfl)
/-! ## methods of lists -/
def mAppend (mo mv : EM) : EM := fun ρ μ => (mo ρ μ).bind fun u μ => match u.lst μ with
  | none => .bad
  | some _ => (mv ρ μ).bind fun v μ => match u with
    | .ref n => match μ[n]? with
      | some (.lst xs) => if xs.length < LIM then .ok .non (μ.set n (.lst (xs ++ [v]))) else .bad
      | _ => .bad
    | _ => .bad
theorem d_append {mo mv : EM} {cpos : Pos} (ho : DEx xt W X o mo) (hv : DEx xt W X e mv)
    (hbase : attributeBase o "append" X.env (eval o X.env) = eval o X.env := by rfl)
    (hfew : ((backTo cpos (starEach [e] X.env)).all (fun x => !x.1) && (backToKw cpos (keywordEach [] X.env)).all (fun x => x.1.isSome) && decide (([e] : List Expr).length + ([] : List Keyword).length + (if ([] : List Keyword).isEmpty then 0 else 1) < 30)) = true := by rfl)
    (hline : (apos.endLine == cpos.line) = true := by rfl) (hs : starEach [e] X.env = (false, eval e X.env) :: starEach [] X.env := by rfl) (hplain : (backTo cpos (starEach [] X.env)).any (·.1) = false := by rfl) :
    DEx xt W X (.Call (.Attribute o "append" apos) [e] [] cpos) (mAppend mo mv) := by
  refine imE (pe_bm PySem.F.plainAttrs_list PySem.F.slot_list_append PySem.F.type_list_append mt_append ho (pa_cons hv pa_nil hs) hbase hfew hline hs hplain) fun σ H Q ⟨θ, ρ, μ, he, hs, q⟩ => ⟨θ, ρ, μ, he, hs, ?_⟩
  refine q.bind.imp fun w H1 ⟨θ1, μ1, u, l1, s1, r1, q1⟩ => ?_
  split at q1
  · exact q1.elim
  · rename_i ys hy
    obtain ⟨p, vs, rfl, hp, _⟩ := lst_of s1 r1 hy
    refine ⟨.inl ⟨rfl, _, SqL.of hp⟩, θ1, ρ, μ1, l1.rpE he, s1, ?_⟩
    refine q1.bind.imp fun w2 H2 ⟨θ2, μ2, v, l2, s2, r2, q2⟩ => ?_
    cases u with
    | ref n =>
      obtain ⟨p', hp', e⟩ := l2.rp r1
      cases e
      replace q2 : Po X.K xt W (Rp X.K) (match μ2[n]? with | some (.lst xs) => if xs.length < LIM then .ok .non (μ2.set n (.lst (xs ++ [v]))) else .bad | _ => .bad) θ2 H2 σ Q := q2
      split at q2
      · rename_i xs hx
        obtain ⟨vs2, ev, r⟩ := s2.cell n p _ hp' hx
        split at q2
        · rename_i hl
          obtain ⟨s3, l3⟩ := s2.put hp' ev (r.app (RpL.one r2))
          exact ⟨p, vs2, w2, rfl, rfl, ev, by rw [← r.len, ← lim_line]; exact hl, q2 _ _ _ l3 s3 rfl⟩
        · exact q2.elim
      · exact q2.elim
    | _ => exact q2.elim
def mPop (mo : EM) : EM := fun ρ μ => (mo ρ μ).bind fun u μ => match u with
  | .ref n => match μ[n]? with
    | some (.lst xs) => match xs[xs.length - 1]? with
      | some y => .ok y (μ.set n (.lst xs.dropLast))
      | none => .bad
    | _ => .bad
  | _ => .bad
theorem RpL.dropLast {K : PySem.W.Frag} {θ : List Addr} {H : Hp} {xs : List DV} {vs : List V} (r : RpL K θ H xs vs) : RpL K θ H xs.dropLast vs.dropLast := by
  rw [List.dropLast_eq_take, List.dropLast_eq_take, r.len]
  exact r.take _
theorem d_pop {mo : EM} {cpos : Pos} (ho : DEx xt W X o mo) (hbase : attributeBase o "pop" X.env (eval o X.env) = eval o X.env := by rfl) (hline : (apos.endLine == cpos.line) = true := by rfl) :
    DEx xt W X (.Call (.Attribute o "pop" apos) [] [] cpos) (mPop mo) := by
  refine imE (pe_bm0 PySem.F.plainAttrs_list PySem.F.slot_list_pop PySem.F.type_list_pop mt_pop ho hbase hline) fun σ H Q ⟨θ, ρ, μ, he, hs, q⟩ => ⟨θ, ρ, μ, he, hs, ?_⟩
  refine q.bind.imp fun w H1 ⟨θ1, μ1, u, l1, s1, r1, q1⟩ => ?_
  cases u with
  | ref n =>
    obtain ⟨p, hp, rfl⟩ := r1
    replace q1 : Po X.K xt W (Rp X.K) (match μ1[n]? with | some (.lst xs) => (match xs[xs.length - 1]? with | some y => .ok y (μ1.set n (.lst xs.dropLast)) | none => .bad) | _ => .bad) θ1 H1 σ Q := q1
    split at q1
    · rename_i xs hx
      obtain ⟨vs, ev, r⟩ := s1.cell n p _ hp hx
      split at q1
      · rename_i y hy
        obtain ⟨z, hz, rz⟩ := r.get hy
        obtain ⟨s3, l3⟩ := s1.put hp ev r.dropLast
        exact ⟨.inl ⟨rfl, _, SqL.of ev⟩, p, vs, z, rfl, rfl, ev, by rw [← r.len]; exact hz, q1 _ _ _ l3 s3 (l3.rp rz)⟩
      · exact q1.elim
    · exact q1.elim
  | _ => exact q1.elim
def mPopAt (mo mi : EM) : EM := fun ρ μ => (mo ρ μ).bind fun u μ => match u.lst μ with
  | none => .bad
  | some _ => (mi ρ μ).bind fun v μ => match u, v with
    | .ref n, .int i => match μ[n]? with
      | some (.lst xs) => match ixN xs.length i with
        | some k => match xs[k]? with
          | some y => if xs.length ≤ LIM then .ok y (μ.set n (.lst (xs.eraseIdx k))) else .bad
          | none => .bad
        | none => .bad
      | _ => .bad
    | _, _ => .bad
theorem d_popAt {mo mv : EM} {cpos : Pos} (ho : DEx xt W X o mo) (hv : DEx xt W X e mv)
    (hbase : attributeBase o "pop" X.env (eval o X.env) = eval o X.env := by rfl)
    (hfew : ((backTo cpos (starEach [e] X.env)).all (fun x => !x.1) && (backToKw cpos (keywordEach [] X.env)).all (fun x => x.1.isSome) && decide (([e] : List Expr).length + ([] : List Keyword).length + (if ([] : List Keyword).isEmpty then 0 else 1) < 30)) = true := by rfl)
    (hline : (apos.endLine == cpos.line) = true := by rfl) (hs : starEach [e] X.env = (false, eval e X.env) :: starEach [] X.env := by rfl) (hplain : (backTo cpos (starEach [] X.env)).any (·.1) = false := by rfl) :
    DEx xt W X (.Call (.Attribute o "pop" apos) [e] [] cpos) (mPopAt mo mv) := by
  refine imE (pe_bm PySem.F.plainAttrs_list PySem.F.slot_list_pop PySem.F.type_list_pop mt_popAt ho (pa_cons hv pa_nil hs) hbase hfew hline hs hplain) fun σ H Q ⟨θ, ρ, μ, he, hs, q⟩ => ⟨θ, ρ, μ, he, hs, ?_⟩
  refine q.bind.imp fun w H1 ⟨θ1, μ1, u, l1, s1, r1, q1⟩ => ?_
  split at q1
  · exact q1.elim
  · rename_i ys hy
    obtain ⟨p, vs, rfl, hp, _⟩ := lst_of s1 r1 hy
    refine ⟨.inl ⟨rfl, _, SqL.of hp⟩, θ1, ρ, μ1, l1.rpE he, s1, ?_⟩
    refine q1.bind.imp fun w2 H2 ⟨θ2, μ2, v, l2, s2, r2, q2⟩ => ?_
    obtain ⟨n, rfl⟩ : ∃ n, u = .ref n := by
      cases u with
      | ref n => exact ⟨n, rfl⟩
      | _ => cases hy
    cases v with
    | int i =>
      obtain ⟨p', hp', e⟩ := l2.rp r1
      cases e
      cases r2
      replace q2 : Po X.K xt W (Rp X.K) (match μ2[n]? with | some (.lst xs) => (match ixN xs.length i with | some k => (match xs[k]? with | some y => if xs.length ≤ LIM then .ok y (μ2.set n (.lst (xs.eraseIdx k))) else .bad | none => .bad) | none => .bad) | _ => .bad) θ2 H2 σ Q := q2
      split at q2
      · rename_i xs hx
        obtain ⟨vs2, ev, r⟩ := s2.cell n p _ hp' hx
        split at q2
        · rename_i k hk
          split at q2
          · rename_i y hy
            split at q2
            · rename_i hl
              obtain ⟨z, hz, rz⟩ := r.get hy
              obtain ⟨s3, l3⟩ := s2.put hp' ev (r.erase k)
              obtain ⟨i1, i2, i3, i4⟩ := ixN_seq hk
              replace hl : xs.length ≤ 16777216 := hl
              refine ⟨p, vs2, i, k, z, rfl, rfl, ev, by omega, by omega, by rw [← r.len]; exact i1, hz, q2 _ _ _ l3 s3 (l3.rp rz)⟩
            · exact q2.elim
          · exact q2.elim
        · exact q2.elim
      · exact q2.elim
    | _ => exact q2.elim
end
end Md

namespace Md
open PySem L2
/-! ## what a loop goes over -/
abbrev Src := List DV × Option Nat
abbrev IM := DE → DM → DR Src
def okAt (c : Option Nat) (xs : List DV) (μ : DM) : Bool := match c with
  | none => true
  | some n => decide (μ[n]? = some (.lst xs))
@[simp] theorem okAt_none (xs : List DV) (μ : DM) : okAt none xs μ = true := rfl
def ItRel (K : PySem.W.Frag) (θ : List Addr) (H : Hp) (s : Src) (J : It) : Prop := ∀ θ' H' μ', Lt θ θ' H H' → Sto K θ' H' μ' → okAt s.2 s.1 μ' = true →
  (∀ (i : Nat) (x : DV), s.1[i]? = some x → J.go i H' ∧ ∀ w H'', J.yld i H' w H'' → Lt θ' θ' H' H'' ∧ Sto K θ' H'' μ' ∧ Rp K θ' H'' x w) ∧ ∀ i, i = s.1.length → J.stop i H'
section
variable {K : PySem.W.Frag} {θ : List Addr} {H : Hp} {xs : List DV} {vs : List V} {a : Addr}
theorem it_sqL {c : Option Nat} (h : ∀ θ' H' μ', Lt θ θ' H H' → Sto K θ' H' μ' → okAt c xs μ' = true → ∃ ws, SqL K H' a ws ∧ RpL K θ' H' xs ws) : ItRel K θ H (xs, c) (Itl K a) := by
  intro θ' H' μ' l s ho
  obtain ⟨ws, hw, rw'⟩ := h θ' H' μ' l s ho
  refine ⟨fun i x hx => ?_, fun i hi => ⟨ws, hw, by rw [← rw'.len]; exact Nat.le_of_eq hi.symm⟩⟩
  obtain ⟨w, e, r1⟩ := rw'.get hx
  refine ⟨⟨ws, w, hw, e⟩, fun w' H'' ⟨e1, h1⟩ => ?_⟩
  subst e1
  have := h1 ws hw
  rw [e] at this; cases this
  exact ⟨.refl, s, r1⟩
theorem it_sqT (h : SqT K H a vs) (r : RpL K θ H xs vs) : ItRel K θ H (xs, none) (Itt K a) := by
  intro θ' H' μ' l s ho
  have hw := l.sqT h
  have rw' := l.rpL r
  refine ⟨fun i x hx => ?_, fun i hi => ⟨vs, hw, by rw [← rw'.len]; exact Nat.le_of_eq hi.symm⟩⟩
  obtain ⟨w, e, r1⟩ := rw'.get hx
  refine ⟨⟨vs, w, hw, e⟩, fun w' H'' ⟨e1, h1⟩ => ?_⟩
  subst e1
  have := h1 vs hw
  rw [e] at this; cases this
  exact ⟨.refl, s, r1⟩
theorem it_rng {lo : Int} {n : Nat} : ItRel K θ H ((List.range n).map fun i => DV.int (lo + (i : Nat)), none) (Itr lo n) := by
  intro θ' H' μ' l s ho
  refine ⟨fun i x hx => ?_, fun i hi => by show n ≤ i; exact Nat.le_of_eq (by simpa using hi.symm)⟩
  simp only [List.getElem?_map, Option.map_eq_some_iff] at hx
  obtain ⟨j, hj, rfl⟩ := hx
  have hlt : i < n := by simpa using (List.getElem?_eq_some_iff.mp hj).1
  have ej : j = i := by
    have := (List.getElem?_eq_some_iff.mp hj).2
    simp at this; exact this.symm
  subst ej
  refine ⟨hlt, fun w' H'' ⟨e1, h1⟩ => ?_⟩
  subst e1; subst h1
  exact ⟨.refl, s, rfl⟩
end
section
variable {X : Cx} {xt : String → Option Addr} {W : WX} {a b c e o : Expr} {es : List Expr} {pos p apos : Pos} {tg : Expr}
abbrev DIt (xt : String → Option Addr) (W : WX) (X : Cx) (tg e : Expr) (m : IM) : Prop := PI X tg e (tG X.K xt W (ItRel X.K) m)
/-- a list or a tuple -/
def mIt (m : EM) : IM := fun ρ μ => (m ρ μ).bind fun v μ => match v with
  | .tup xs => .ok (xs, none) μ
  | .kl xs => .ok (xs, none) μ
  | .ref n => match μ[n]? with
    | some (.lst xs) => .ok (xs, some n) μ
    | _ => .bad
  | _ => .bad
theorem i_seq {m : EM} (h : DEx xt W X e m) : DIt xt W X tg e (mIt m) := by
  refine ⟨fun pins s σ H R I ⟨θ, ρ, μ, he, hs, q⟩ => ?_⟩
  have tup : (∃ xs μ1, m ρ μ = .ok (.tup xs) μ1) → iTup X.K (tE X.K xt W m) σ H R := fun ⟨xs, μ1, em⟩ => by
    refine ⟨θ, ρ, μ, he, hs, ?_⟩
    have q' := q
    unfold mIt at q'
    rw [em] at q' ⊢
    intro θ1 H1 w l1 s1 r1
    obtain ⟨a, vs, rfl, sp, r⟩ := r1
    exact ⟨a, rfl, ⟨vs, sp⟩, q' θ1 H1 _ l1 s1 (it_sqT sp r)⟩
  have lst : (∀ xs μ1, m ρ μ ≠ .ok (.tup xs) μ1) → iList X.K (tE X.K xt W m) σ H R := fun hne => by
    refine ⟨θ, ρ, μ, he, hs, ?_⟩
    unfold mIt at q
    cases em : m ρ μ with
    | ex e μ1 => rw [em] at q; exact q
    | bad => rw [em] at q; exact q
    | ok v μ1 =>
      rw [em] at q
      intro θ1 H1 w l1 s1 r1
      cases v with
      | tup xs => exact absurd em (hne xs μ1)
      | kl xs =>
        obtain ⟨a, vs, rfl, sp, r⟩ := r1
        exact ⟨a, rfl, ⟨vs, sp.sq⟩, q θ1 H1 _ l1 s1 (it_sqL fun θ' H' μ' l _ _ => ⟨vs, (l.frL sp).sq, l.rpL r⟩)⟩
      | ref n =>
        obtain ⟨a, ha, rfl⟩ := r1
        replace q : Po X.K xt W (ItRel X.K) (match μ1[n]? with | some (.lst xs) => .ok (xs, some n) μ1 | _ => .bad) θ H σ R := q
        split at q
        · rename_i xs hx
          obtain ⟨vs, ev, r⟩ := s1.cell n a _ ha hx
          refine ⟨a, rfl, ⟨vs, SqL.of ev⟩, q θ1 H1 _ l1 s1 (it_sqL fun θ' H' μ' l s' ho => ?_)⟩
          have ho' : μ'[n]? = some (.lst xs) := of_decide_eq_true ho
          obtain ⟨vs', ev', r'⟩ := s'.cell n a _ (l.get ha) ho'
          exact ⟨vs', SqL.of ev', r'⟩
        · exact q.elim
      | _ => exact q.elim
  by_cases hc : ∃ xs μ1, m ρ μ = .ok (.tup xs) μ1
  · exact (pi_tup h).run pins s σ H R I (tup hc)
  · exact (pi_list h).run pins s σ H R I (lst fun xs μ1 e => hc ⟨xs, μ1, e⟩)
def mItF (m : LM) : IM := fun ρ μ => (m ρ μ).bind fun xs μ => .ok (xs, none) μ
theorem i_fresh {m : LM} (h : DFr xt W X e m) : DIt xt W X tg e (mItF m) := by
  refine ⟨fun pins s σ H R I ⟨θ, ρ, μ, he, hs, q⟩ => (pi_list h).run pins s σ H R I ?_⟩
  refine ⟨θ, ρ, μ, he, hs, ?_⟩
  refine (PoF.bind q).imp fun w H1 ⟨θ1, μ1, xs, ⟨p, vs, e, l1, s1, h0, hn, hp, r2⟩, q1⟩ => ?_
  subst e
  exact ⟨p, rfl, ⟨vs, SqL.of hp⟩, (q1 _ _ l1) θ1 H1 _ .refl s1 (it_sqL fun θ' H' μ' l _ _ => ⟨vs, SqL.of (l.keep p _ hp (.inl hn)), l.rpL r2⟩)⟩
def mItR1 (m : EM) : IM := fun ρ μ => (m ρ μ).bind fun v μ => match v with
  | .int n => if RgO 0 n then .ok (rgD 0 n, none) μ else .bad
  | _ => .bad
def mItR2 (m n : EM) : IM := fun ρ μ => (m ρ μ).bind fun v μ => (n ρ μ).bind fun u μ => match v, u with
  | .int a, .int b => if RgO a b then .ok (rgD a b, none) μ else .bad
  | _, _ => .bad
theorem i_rg1 {m : EM} (hm : X.mg ("range" : Str) = none) (h : DEx xt W X a m) (hg : Gl X ("range" : Str) := by rfl)
    (na : starEach [a] X.env = (false, eval a X.env) :: starEach [] X.env := by rfl) (hs : starEach [a] X.env = [(false, eval a X.env)] := by rfl) : DIt xt W X tg (.Call (.Name "range" p) [a] [] pos) (mItR1 m) := by
  refine ⟨fun pins s σ H R I ⟨θ, ρ, μ, he, hst, q⟩ => (pi_range1 hg hm (pa_cons h pa_nil na) hs).run pins s σ H R I ?_⟩
  refine ⟨θ, ρ, μ, he, hst, ?_⟩
  refine q.bind.imp fun w H1 ⟨θ1, μ1, v, l1, s1, r1, q1⟩ => ?_
  cases v with
  | int n =>
    cases r1
    replace q1 : Po X.K xt W (ItRel X.K) (if RgO 0 n then .ok (rgD 0 n, none) μ1 else .bad) θ1 H1 σ R := q1
    split at q1
    · rename_i hr
      have e : (n - 0).toNat = n.toNat := by rw [Int.sub_zero]
      have hr : RgO 0 n := hr
      refine ⟨n, rfl, hr.ok.2.2.1, hr.ok.2.2.2.1, q1 θ1 H1 _ .refl s1 ?_⟩
      unfold rgD
      rw [e]
      exact it_rng
    · exact q1.elim
  | _ => exact q1.elim
theorem i_rg2 {m n : EM} (hm : X.mg ("range" : Str) = none) (h : DEx xt W X a m) (h2 : DEx xt W X b n) (hg : Gl X ("range" : Str) := by rfl)
    (nb : starEach [b] X.env = (false, eval b X.env) :: starEach [] X.env := by rfl) (na : starEach [a, b] X.env = (false, eval a X.env) :: starEach [b] X.env := by rfl)
    (hs : starEach [a, b] X.env = [(false, eval a X.env), (false, eval b X.env)] := by rfl) (hs2 : starEach [b] X.env = [(false, eval b X.env)] := by rfl) : DIt xt W X tg (.Call (.Name "range" p) [a, b] [] pos) (mItR2 m n) := by
  refine ⟨fun pins s σ H R I ⟨θ, ρ, μ, he, hst, q⟩ => (pi_range2 hg hm (pa_cons h (pa_cons h2 pa_nil nb) na) hs hs2).run pins s σ H R I ?_⟩
  refine ⟨θ, ρ, μ, he, hst, ?_⟩
  refine q.bind.imp fun w H1 ⟨θ1, μ1, v, l1, s1, r1, q1⟩ => ⟨θ1, ρ, μ1, l1.rpE he, s1, ?_⟩
  refine q1.bind.imp fun w2 H2 ⟨θ2, μ2, u, l2, s2, r2, q2⟩ => ?_
  cases v with
  | int i =>
    cases u with
    | int j =>
      cases r1; cases r2
      replace q2 : Po X.K xt W (ItRel X.K) (if RgO i j then .ok (rgD i j, none) μ2 else .bad) θ2 H2 σ R := q2
      split at q2
      · rename_i hr
        have hr : RgO i j := hr
        exact ⟨i, j, rfl, ⟨hr.ok.1, hr.ok.2.1, hr.ok.2.2.1, hr.ok.2.2.2.1⟩, q2 θ2 H2 _ .refl s2 it_rng⟩
      · exact q2.elim
    | _ => exact q2.elim
  | _ => exact q2.elim
/-- zip of two lists, of two tuples -/
def mZip (m n : EM) : IM := fun ρ μ => (m ρ μ).bind fun v μ => (n ρ μ).bind fun u μ => match v, u with
  | .tup xs, .tup ys => .ok ((xs.zip ys).map fun z => .tup [z.1, z.2], none) μ
  | _, _ => .bad
theorem it_zipT {K : PySem.W.Frag} {θ : List Addr} {H : Hp} {xs ys : List DV} {vs ws : List V} {a b : Addr} (h : SqT K H a vs) (r : RpL K θ H xs vs) (h2 : SqT K H b ws) (r2 : RpL K θ H ys ws) :
    ItRel K θ H ((xs.zip ys).map fun z => .tup [z.1, z.2], none) (RZ.ItzT K a b) := by
  intro θ' H' μ' l s ho
  have hv := l.sqT h
  have rv := l.rpL r
  have hw := l.sqT h2
  have rw' := l.rpL r2
  refine ⟨fun i x hx => ?_, fun i hi => ⟨vs, ws, hv, hw, ?_⟩⟩
  · simp only [List.getElem?_map, Option.map_eq_some_iff] at hx
    obtain ⟨z, hz, rfl⟩ := hx
    obtain ⟨hz1, hz2⟩ := List.getElem?_zip_eq_some.mp hz
    obtain ⟨v, e, r1⟩ := rv.get hz1
    obtain ⟨w, e', r1'⟩ := rw'.get hz2
    refine ⟨⟨vs, ws, v, w, hv, hw, e, e'⟩, fun u H'' ⟨T, v', w', e1, h1, e2, h3, h4⟩ => ?_⟩
    have z1 := h3 vs hv
    have z2 := h4 ws hw
    rw [e] at z1; cases z1
    rw [e'] at z2; cases z2
    subst e1; subst e2
    have l2 := Lt.laid (θ := θ') (o := .tup [v, w]) h1
    exact ⟨l2, s.fr h1, T, [v, w], rfl, .inl (.inl upd_same), v, [w], rfl, l2.rp r1, w, [], rfl, l2.rp r1', rfl⟩
  · have hi' : min xs.length ys.length ≤ i := Nat.le_of_eq (by simpa using hi.symm)
    rw [← rv.len, ← rw'.len]
    omega
theorem i_zip {m n : EM} {elts : List Expr} {kk : Nat} {tpos : Pos} (hm : X.mg ("zip" : Str) = none) (h : DEx xt W X a m) (h2 : DEx xt W X b n) (hg : Gl X ("zip" : Str) := by rfl)
    (nb : starEach [b] X.env = (false, eval b X.env) :: starEach [] X.env := by rfl) (na : starEach [a, b] X.env = (false, eval a X.env) :: starEach [b] X.env := by rfl)
    (hpl : (backTo pos (starEach [b] X.env)).any (·.1) = false := by rfl) : DIt xt W X (.Tuple elts kk tpos) (.Call (.Name "zip" p) [a, b] [] pos) (mZip m n) := by
  refine ⟨fun pins s σ H R I ⟨θ, ρ, μ, he, hst, q⟩ => (RZ.pi_zipA hg hm (pa_cons h (pa_cons h2 pa_nil nb) na) na hpl).run pins s σ H R I ?_⟩
  refine ⟨θ, ρ, μ, he, hst, ?_⟩
  refine q.bind.imp fun w H1 ⟨θ1, μ1, v, l1, s1, r1, q1⟩ => ⟨θ1, ρ, μ1, l1.rpE he, s1, ?_⟩
  refine q1.bind.imp fun w2 H2 ⟨θ2, μ2, u, l2, s2, r2, q2⟩ => ?_
  have r1' := l2.rp r1
  split at q2
  · obtain ⟨a, vs, rfl, sa, ra⟩ := r1'
    obtain ⟨b, ws, rfl, sb, rb⟩ := r2
    exact ⟨a, b, vs, ws, rfl, .inr ⟨sa, sb, q2 θ2 H2 _ .refl s2 (it_zipT sa ra sb rb)⟩⟩
  · exact q2.elim
/-! ## targets -/
abbrev GM := DV → DE → DM → Option DE
abbrev GMs := List DV → DE → DM → Option DE
def tGt (K : PySem.W.Frag) (t : GM) (is : List Nat) : TG := fun w σ H Q => ∃ θ ρ μ x ρ', RpE K θ H ρ σ ∧ Sto K θ H μ ∧ Rp K θ H x w ∧ t x ρ μ = some ρ' ∧
  ∀ σ', RpE K θ H ρ' σ' → σ'.length = σ.length → (∀ j, j ∉ is → σ'[j]? = σ[j]?) → Q σ' H
def tGts (K : PySem.W.Frag) (t : GMs) (is : List Nat) : TGs := fun w σ H Q => ∃ θ ρ μ x ρ', RpE K θ H ρ σ ∧ Sto K θ H μ ∧ RpL K θ H x w ∧ t x ρ μ = some ρ' ∧
  ∀ σ', RpE K θ H ρ' σ' → σ'.length = σ.length → (∀ j, j ∉ is → σ'[j]? = σ[j]?) → Q σ' H
abbrev DTg (X : Cx) (tg : Expr) (t : GM) (is : List Nat) : Prop := PG X tg (tGt X.K t is)
abbrev DTgs (X : Cx) (tg : List Expr) (t : GMs) (is : List Nat) : Prop := PGs X tg (tGts X.K t is)
theorem imG {tg : Expr} {t t' : TG} (h : PG X tg t) (i : ∀ w σ H Q, t' w σ H Q → t w σ H Q) : PG X tg t' := ⟨fun pins s σ H v u Q I r q => h.run pins s σ H v u Q I r (i _ _ _ _ q)⟩
theorem imGs {tg : List Expr} {t t' : TGs} (h : PGs X tg t) (i : ∀ w σ H Q, t' w σ H Q → t w σ H Q) : PGs X tg t' := ⟨fun pins s σ H v u Q I r q => h.run pins s σ H v u Q I r (i _ _ _ _ q)⟩
def tgN (i : Nat) : GM := fun x ρ _ => if i < ρ.length then some (ρ.set i (some x)) else none
theorem RpE.set {K : PySem.W.Frag} {θ : List Addr} {H : Hp} {ρ : DE} {σ : L2.St} (h : RpE K θ H ρ σ) {x : DV} {w : V} (r : Rp K θ H x w) (i : Nat) : RpE K θ H (ρ.set i (some x)) (σ.set i (some w)) := by
  refine ⟨by simp [h.len], fun j v e => ?_⟩
  by_cases hj : i = j
  · subst hj
    by_cases hl : i < ρ.length
    · rw [List.getElem?_set_self hl] at e
      cases e
      exact ⟨w, by rw [List.getElem?_set_self (by rw [← h.len]; exact hl)], r⟩
    · rw [List.getElem?_eq_none (by simpa using hl)] at e; cases e
  · rw [List.getElem?_set_ne hj] at e ⊢
    exact h.at' j v e
theorem RpE.unset {K : PySem.W.Frag} {θ : List Addr} {H : Hp} {ρ : DE} {σ : L2.St} (h : RpE K θ H ρ σ) (i : Nat) {o : Option V} : RpE K θ H (ρ.set i none) (σ.set i o) := by
  refine ⟨by simp [h.len], fun j v e => ?_⟩
  by_cases hj : i = j
  · subst hj
    by_cases hl : i < ρ.length
    · rw [List.getElem?_set_self hl] at e; cases e
    · rw [List.getElem?_eq_none (by simpa using hl)] at e; cases e
  · rw [List.getElem?_set_ne hj] at e ⊢
    exact h.at' j v e
theorem g_name {y : Str} (i : Nat) (hN : X.N.Nodup) (hi : X.N[i]? = some y := by rfl) (hx : Loc X.env.scope y := by first | exact .inl rfl | exact .inr rfl) (hf : X.fn y = true ∨ X.env.scope.names.lookup y = some .local := by first | exact .inl rfl | exact .inr rfl) :
    DTg X (.Name y pos) (tgN i) [i] := by
  refine imG (pg_name hN hi hx hf) fun w σ H Q ⟨θ, ρ, μ, x, ρ', he, hs, r, ht, q⟩ => ?_
  unfold tgN at ht
  split at ht
  · cases ht
    exact q _ (he.set r i) (by simp) fun j hj => by rw [List.getElem?_set_ne fun e => hj (by simp [e])]
  · cases ht
def tgNil : GMs := fun xs ρ _ => if xs = [] then some ρ else none
def tgCons (t : GM) (u : GMs) : GMs := fun xs ρ μ => match xs with
  | x :: xs => (t x ρ μ).bind fun ρ1 => u xs ρ1 μ
  | [] => none
theorem g_nil : DTgs X [] tgNil [] := imGs pgs_nil fun w σ H Q ⟨θ, ρ, μ, x, ρ', he, hs, r, ht, q⟩ => by
  unfold tgNil at ht
  split at ht
  · rename_i e
    subst e
    cases r
    cases ht
    exact ⟨rfl, q σ he rfl fun _ _ => rfl⟩
  · cases ht
theorem g_cons {t : GM} {u : GMs} {is js : List Nat} (h : DTg X e t is) (h2 : DTgs X es u js) (hs : (assignEach (e :: es) X.env).map (·.2) = assign e X.env :: (assignEach es X.env).map (·.2) := by rfl) : DTgs X (e :: es) (tgCons t u) (is ++ js) := by
  refine imGs (pgs_cons h h2 hs) fun w σ H Q ⟨θ, ρ, μ, xs, ρ', he, hs, r, ht, q⟩ => ?_
  cases xs with
  | nil => cases ht
  | cons x xs =>
    obtain ⟨v, vs, rfl, r1, r2⟩ := r
    simp only [tgCons, Option.bind_eq_some_iff] at ht
    obtain ⟨ρ1, ht1, ht2⟩ := ht
    refine ⟨v, vs, rfl, θ, ρ, μ, x, ρ1, he, hs, r1, ht1, fun σ1 he1 hl1 hk1 => ?_⟩
    refine ⟨θ, ρ1, μ, xs, ρ', he1, hs, r2, ht2, fun σ2 he2 hl2 hk2 => ?_⟩
    refine q σ2 he2 (hl2.trans hl1) fun j hj => ?_
    rw [hk2 j fun z => hj (List.mem_append_right _ z), hk1 j fun z => hj (List.mem_append_left _ z)]
def tgTup (n : Nat) (t : GMs) : GM := fun x ρ μ => match x with
  | .tup xs => if xs.length = n then t xs ρ μ else none
  | _ => none
theorem g_tup {t : GMs} {is : List Nat} {k n : Nat} (hc : X.calm = true) (h : DTgs X es t is) (hn : (assignEach es X.env).length = n := by rfl) (hst : (assignEach es X.env).findIdx? (·.1) = none := by rfl) : DTg X (.Tuple es k pos) (tgTup n t) is := by
  refine imG (pg_tup hc h hn hst) fun w σ H Q ⟨θ, ρ, μ, x, ρ', he, hs, r, ht, q⟩ => ?_
  cases x with
  | tup xs =>
    obtain ⟨a, vs, rfl, sp, r⟩ := r
    simp only [tgTup] at ht
    split at ht
    · rename_i hl
      exact ⟨a, vs, rfl, sp, by rw [← r.len]; exact hl, θ, ρ, μ, xs, ρ', he, hs, r, ht, q⟩
    · cases ht
  | _ => cases ht
/-! ## comprehensions -/
def wipeD (ρ : DE) : List Nat → DE
  | [] => ρ
  | v :: vs => (wipeD ρ vs).set v none
theorem RpE.wipe {K : PySem.W.Frag} {θ : List Addr} {H : Hp} {ρ : DE} {σ : L2.St} (h : RpE K θ H ρ σ) : ∀ vs, RpE K θ H (wipeD ρ vs) (wipe σ vs)
  | [] => h
  | v :: vs => (RpE.wipe h vs).unset v
theorem wipe_eq {σ σ' : L2.St} {vs : List Nat} (hl : σ'.length = σ.length) (hk : ∀ j, j ∉ vs → σ'[j]? = (wipe σ vs)[j]?) : wipe σ' vs = wipe σ vs := by
  have key : ∀ (τ : L2.St) (us : List Nat) (j : Nat), j ∈ us → (wipe τ us)[j]? = if j < τ.length then some none else none := by
    intro τ us
    induction us with
    | nil => intro j hj; cases hj
    | cons u us ih =>
      intro j hj
      unfold wipe
      by_cases e : u = j
      · subst e
        by_cases hlt : u < τ.length
        · rw [List.getElem?_set_self (by rw [wipe_length]; exact hlt), if_pos hlt]
        · rw [List.getElem?_eq_none (by rw [List.length_set, wipe_length]; omega), if_neg hlt]
      · rw [List.getElem?_set_ne e]
        exact ih j ((List.mem_cons.mp hj).resolve_left fun z => e z.symm)
  apply List.ext_getElem?
  intro j
  by_cases hj : j ∈ vs
  · rw [key σ' vs j hj, key σ vs j hj, hl]
  · rw [wipe_out hj]
    exact hk j hj
def mLc (vs : List Nat) (mi : IM) (t : GM) (tt : BM) (te : EM) : LM := fun ρ μ => (mi ρ μ).bind fun s μ => go s (wipeD ρ vs) s.1 [] μ
where go (s : Src) (ρ : DE) : List DV → List DV → DM → DR (List DV)
  | [], acc, μ => if okAt s.2 s.1 μ = true then .ok acc μ else .bad
  | x :: xs, acc, μ => if okAt s.2 s.1 μ = true ∧ acc.length < LIM then match t x ρ μ with
      | some ρ1 => (tt ρ1 μ).noex.bind fun b μ => if b = true then (te ρ1 μ).noex.bind fun y μ => go s ρ xs (acc ++ [y]) μ else go s ρ xs acc μ
      | none => .bad
    else .bad
abbrev PTest (xt : String → Option Addr) (W : WX) (X : Cx) (ifs : List Expr) (m : BM) : Prop := PTs X ifs (tTs X.K xt W m)
def mYes : BM := fun _ μ => .ok true μ
theorem q_nil : PTest xt W X [] mYes := ⟨fun pins s σ H Q I ⟨_, _, _, _, hs, q⟩ => pts_nil.run pins s σ H Q I (q.ret hs rfl)⟩
theorem q_one {m : BM} (h : DTs xt W X c m) : PTest xt W X [c] m := pts_one h
/-- nothing is wished of an exception -/
abbrev WN : WX := fun _ _ _ _ => False
theorem noex_W {α : Type} {β : Type} {R : List Addr → Hp → α → β → Prop} {K : PySem.W.Frag} {r : DR α} {θ : List Addr} {H : Hp} {σ σ' : L2.St} {Q : β → Hp → Prop} (h : Po K xt W R r.noex θ H σ Q) : Po K xt WN R r θ H σ' Q := by
  cases r with
  | ok v μ => exact h
  | ex e μ => exact h.elim
  | bad => exact h
/-- a list that is not in the store is changed -/
theorem Stay.own {K : PySem.W.Frag} {θ : List Addr} {H : Hp} {D : Addr} {ws us : List V} (h : H D = some (.lst ws)) : Stay K θ θ H (upd H D (.lst us)) := by
  have ne : ∀ {a : Addr} {o : HO}, H a = some o → (∀ xs, o ≠ .lst xs) → a ≠ D := fun {a o} e n z => by
    subst z
    rw [h] at e; cases e
    exact n ws rfl
  refine ⟨fun a vs q => ?_, fun a vs q => ?_, fun _ _ q => q⟩
  · rcases q with (q | ⟨o, q⟩) | q
    · exact .inl (.inl (by rw [upd_ne (ne q (fun _ z => by cases z))]; exact q))
    · exact .inl (.inr ⟨o, by rw [upd_ne (ne q (fun _ z => by cases z))]; exact q⟩)
    · exact .inr q
  · rcases q with ⟨o, q⟩ | q
    · exact .inl ⟨o, by rw [upd_ne (ne q (fun _ z => by cases z))]; exact q⟩
    · exact .inr q
theorem Sto.own {K : PySem.W.Frag} {θ : List Addr} {H : Hp} {μ : DM} {D : Addr} {ws us : List V} (s : Sto K θ H μ) (h : H D = some (.lst ws)) (hD : D ∉ θ) : Sto K θ (upd H D (.lst us)) μ :=
  ⟨s.len, s.nd, fun n a c h1 h2 => (s.cell n a c h1 h2).of (Stay.own h) (upd_ne fun e => hD (e ▸ List.mem_of_getElem? h1))⟩
theorem Lt.notin {θ θ' : List Addr} {H H' : Hp} {D : Addr} {o : HO} (l : Lt θ θ' H H') (h : H D = some o) (hD : D ∉ θ) : D ∉ θ' := fun z => by
  rcases l.new D z with q | q
  · exact hD q
  · rw [h] at q; cases q
theorem lc_run {K : PySem.W.Frag} {vs is : List Nat} {mi : IM} {t : GM} {tt : BM} {te : EM} (his : ∀ j ∈ is, j ∈ vs) {σ : L2.St} {H : Hp} {Q : VK} (q : tFr K xt W (mLc vs mi t tt te) σ H Q) :
    tLc (tG K xt W (ItRel K) mi) (tGt K t is) (tTs K xt WN tt) (tE K xt WN te) vs σ H Q := by
  obtain ⟨θ, ρ, μ, he, hs, q⟩ := q
  refine ⟨θ, ρ, μ, he, hs, ?_⟩
  refine (PoF.of q).imp fun J H1 ⟨θ1, μ1, s, l1, s1, hJ, q1⟩ D hD => ?_
  have hw : RpE K θ1 H1 (wipeD ρ vs) (wipe σ vs) := (l1.rpE he).wipe vs
  refine ⟨fun i m Hc => m = s.1.length - i ∧ i ≤ s.1.length ∧ ∃ θc μc acc ws, Lt θ1 θc H1 Hc ∧ Sto K θc Hc μc ∧ D ∉ θc ∧ Hc D = some (.lst ws) ∧ RpL K θc Hc acc ws ∧ PoF K xt W (mLc.go t tt te s (wipeD ρ vs) (s.1.drop i) acc μc) θ1 H1 σ Q,
    ⟨_, rfl, Nat.zero_le _, θ1, μ1, [], [], Lt.laid hD, s1.fr hD, s1.out hD, upd_same, rfl, q1⟩, ?_⟩
  rintro i m Hc ⟨rfl, hi, θc, μc, acc, ws, lc, sc, hDc, hDw, ra, qc⟩
  by_cases hlt : i < s.1.length
  · have hd : s.1.drop i = s.1[i] :: s.1.drop (i + 1) := List.drop_eq_getElem_cons hlt
    have hx : s.1[i]? = some s.1[i] := List.getElem?_eq_getElem hlt
    rw [hd] at qc
    simp only [mLc.go] at qc
    split at qc
    · rename_i hok
      obtain ⟨hgo, hyl⟩ := (hJ θc Hc μc lc sc hok.1).1 i _ hx
      refine .inr ⟨hgo, fun H' => ∃ m', m' < s.1.length - i ∧ (m' = s.1.length - (i + 1) ∧ i + 1 ≤ s.1.length ∧ ∃ θc μc acc ws, Lt θ1 θc H1 H' ∧ Sto K θc H' μc ∧ D ∉ θc ∧ H' D = some (.lst ws) ∧ RpL K θc H' acc ws ∧ PoF K xt W (mLc.go t tt te s (wipeD ρ vs) (s.1.drop (i + 1)) acc μc) θ1 H1 σ Q), fun H' h => h, fun w H2 hy => ?_⟩
      obtain ⟨l2, s2, r2⟩ := hyl w H2 hy
      split at qc
      · rename_i ρ1 ht
        refine ⟨θc, wipeD ρ vs, μc, _, ρ1, (lc.trans l2).rpE hw, s2, r2, ht, fun σ' he' hl' hk' => ?_⟩
        refine ⟨wipe_eq (hl'.trans (wipe_length σ vs)) fun j hj => hk' j fun z => hj (his j z), θc, ρ1, μc, he', s2, ?_⟩
        have hD2 : H2 D = some (.lst ws) := l2.keep D _ hDw (.inl hDc)
        cases et : tt ρ1 μc with
        | ex e μ2 => rw [et] at qc; exact qc.elim
        | bad => rw [et] at qc; exact qc.elim
        | ok b μ2 =>
          rw [et] at qc
          replace qc : PoF K xt W (if b = true then (te ρ1 μ2).noex.bind fun y μ => mLc.go t tt te s (wipeD ρ vs) (s.1.drop (i + 1)) (acc ++ [y]) μ else mLc.go t tt te s (wipeD ρ vs) (s.1.drop (i + 1)) acc μ2) θ1 H1 σ Q := qc
          intro θ3 H3 b' l3 s3 eb
          subst eb
          have hD3 : H3 D = some (.lst ws) := l3.keep D _ hD2 (.inl hDc)
          have hn3 : D ∉ θ3 := l3.notin hD2 hDc
          cases b with
          | false => exact ⟨_, by omega, rfl, hlt, θ3, μ2, acc, ws, (lc.trans l2).trans l3, s3, hn3, hD3, (l2.trans l3).rpL ra, qc⟩
          | true =>
            refine ⟨θ3, ρ1, μ2, l3.rpE he', s3, ?_⟩
            replace qc : PoF K xt W ((te ρ1 μ2).noex.bind fun y μ => mLc.go t tt te s (wipeD ρ vs) (s.1.drop (i + 1)) (acc ++ [y]) μ) θ1 H1 σ Q := qc
            cases ee : te ρ1 μ2 with
            | ex e μ2 => rw [ee] at qc; exact qc.elim
            | bad => rw [ee] at qc; exact qc.elim
            | ok y μ4 =>
              rw [ee] at qc
              intro θ4 H4 wy l4 s4 ry
              have hD4 : H4 D = some (.lst ws) := l4.keep D _ hD3 (.inl hn3)
              have hn4 : D ∉ θ4 := l4.notin hD3 hn3
              have L : Lt θ1 θ4 H1 H4 := ((lc.trans l2).trans l3).trans l4
              refine ⟨ws, hD4, by rw [← ra.len, ← lim_line]; exact hok.2, _, by omega, rfl, hlt, θ4, μ4, acc ++ [y], ws ++ [wy], ?_, s4.own hD4 hn4, hn4, upd_same, RpL.of (Stay.own hD4) _ _ ((((l2.trans l3).trans l4).rpL ra).app (RpL.one ry)), qc⟩
              exact ⟨L.pre, L.new, fun a o h1 h2 => by rw [upd_ne (ne_of_none h1 hD)]; exact L.keep a o h1 h2⟩
      · exact qc.elim
    · exact qc.elim
  · have e : i = s.1.length := by omega
    subst e
    rw [List.drop_length] at qc
    simp only [mLc.go] at qc
    split at qc
    · rename_i hok
      exact .inl ⟨(hJ θc Hc μc lc sc hok).2 _ rfl, qc θc Hc D ws lc sc hD hDc hDw ra⟩
    · exact qc.elim
theorem blkOk_at {X0 : Cx} {N : List Str} {sc scope : Scope} {own : List (Str × Nat)} (hN : X0.N = N) (hs : X0.env.scope = sc) (h : blkC N sc scope own = true) : BlkOk X0.N X0.env.scope scope own := by
  subst hN; subst hs
  exact blkOk_by h
theorem blkOk_in {X0 : Cx} {N : List Str} {sc0 scope0 scope : Scope} {own : List (Str × Nat)} {s : Shared} {H : Hp} {cl : List (Str × Addr)} {C : Addr} {fp : List Addr} (hN : X0.N = N) (hs : X0.env.scope = sc0) (h : blkC N (relS scope0 sc0) scope own = true) :
    BlkOk (X0.blk s H scope0 (compEnvC scope0 cl C X0.env) fp).N (X0.blk s H scope0 (compEnvC scope0 cl C X0.env) fp).env.scope scope own := by
  subst hN; subst hs
  exact blkOk_by h
theorem d_lc {elt iter : Expr} {ifs : List Expr} {scope : Scope} {own : List (Str × Nat)} {is : List Nat} {mi : IM} {t : GM} {tt : BM} {te : EM} (hc : X.calm = true) (hN : X.N.Nodup) (hi : DIt xt W X tg iter mi) (ok : BlkOk X.N X.env.scope scope own) (his : ∀ j ∈ is, j ∈ own.map (·.2))
    (hg : ∀ (s : Shared) (H : Hp) (C : Addr) (cl : List (Str × Addr)) (fp : List Addr), DTg (X.blk s H scope (compEnvC scope cl C X.env) fp) tg t is)
    (ht : ∀ (s : Shared) (H : Hp) (C : Addr) (cl : List (Str × Addr)) (fp : List Addr), PTest xt WN (X.blk s H scope (compEnvC scope cl C X.env) fp) ifs tt)
    (he : ∀ (s : Shared) (H : Hp) (C : Addr) (cl : List (Str × Addr)) (fp : List Addr), DEx xt WN (X.blk s H scope (compEnvC scope cl C X.env) fp) elt te) (hs : ∀ x, foldedSetIterable iter X.env x = pure x := by intro _; rfl) :
    DFr xt W X (.ListComp elt [⟨tg, iter, ifs, 0⟩] scope pos) (mLc (own.map (·.2)) mi t tt te) :=
  imE (pe_lc hc hN hi ok hg ht he hs) fun _ _ _ q => lc_run his q
/-- y = [..] on one line -/
def sSetF (m : LM) (i : Nat) : SM := fun ρ μ => (m ρ μ).st ρ fun xs μ => if i < ρ.length then .nx (ρ.set i (some (.ref μ.length))) (μ ++ [.lst xs]) else .bad
theorem PoF.st {K : PySem.W.Frag} {r : DR (List DV)} {ρ : DE} {k : List DV → DM → SR} {θ : List Addr} {H : Hp} {σ : L2.St} {D : Ends} (he : RpE K θ H ρ σ) (h : PoS K xt W (r.st ρ k) θ H D) :
    PoF K xt W r θ H σ fun w H1 => ∃ θ1 μ1 xs, FrAt K θ H θ1 H1 μ1 xs w ∧ PoS K xt W (k xs μ1) θ H D := by
  cases r with
  | ok v μ => exact fun θ2 H2 a vs l s h0 hn ha p => ⟨θ2, μ, v, ⟨a, vs, rfl, l, s, h0, hn, ha, p⟩, h⟩
  | ex e μ => exact fun θ2 H2 c d l s p => h θ2 H2 σ c d l (l.rpE he) s p
  | bad => exact h
/-- a new list goes to the store -/
theorem FrAt.keep {K : PySem.W.Frag} {θ θ1 : List Addr} {H H1 : Hp} {μ1 : DM} {xs : List DV} {w : V} (h : FrAt K θ H θ1 H1 μ1 xs w) : ∃ θ2, Lt θ θ2 H H1 ∧ Sto K θ2 H1 (μ1 ++ [.lst xs]) ∧ Rp K θ2 H1 (.ref μ1.length) w := by
  obtain ⟨a, vs, rfl, l1, s1, h0, hn, ha, r1⟩ := h
  obtain ⟨t, et⟩ := l1.pre
  refine ⟨θ1 ++ [a], ⟨⟨t ++ [a], by rw [et, List.append_assoc]⟩, fun b hb => ?_, l1.keep⟩, s1.push hn ha r1, a, ?_, rfl⟩
  · rcases List.mem_append.mp hb with hb | hb
    · exact l1.new b hb
    · simp at hb; subst hb; exact .inr h0
  · rw [← s1.len, List.getElem?_append_right (Nat.le_refl _)]
    simp
theorem s_setLc {i : Nat} {y : Str} {py spos : Pos} {elt iter : Expr} {ifs : List Expr} {scope : Scope} {own : List (Str × Nat)} {is : List Nat} {mi : IM} {t : GM} {tt : BM} {te : EM} (hc : X.calm = true) (hN : X.N.Nodup) (hy : X.N[i]? = some y) (hyl : X.env.scope.names.lookup y = some .local)
    (hsw : swapsWith (.ListComp elt [⟨tg, iter, ifs, 0⟩] scope pos) (some (.Name y py)) spos.line X.env = pure true) (hi : DIt xt W X tg iter mi) (ok : BlkOk X.N X.env.scope scope own) (his : ∀ j ∈ is, j ∈ own.map (·.2))
    (hg : ∀ (s : Shared) (H : Hp) (C : Addr) (cl : List (Str × Addr)) (fp : List Addr), DTg (X.blk s H scope (compEnvC scope cl C X.env) fp) tg t is)
    (ht : ∀ (s : Shared) (H : Hp) (C : Addr) (cl : List (Str × Addr)) (fp : List Addr), PTest xt WN (X.blk s H scope (compEnvC scope cl C X.env) fp) ifs tt)
    (he : ∀ (s : Shared) (H : Hp) (C : Addr) (cl : List (Str × Addr)) (fp : List Addr), DEx xt WN (X.blk s H scope (compEnvC scope cl C X.env) fp) elt te) (hs : ∀ x, foldedSetIterable iter X.env x = pure x := by intro _; rfl) :
    DSt xt W X (.Assign [.Name y py] (.ListComp elt [⟨tg, iter, ifs, 0⟩] scope pos) spos) (sSetF (mLc (own.map (·.2)) mi t tt te) i) := by
  refine imS (ps_setLc (g := tGt X.K t is) (tt := tTs X.K xt WN tt) (te := tE X.K xt WN te) hc hN hy hyl hsw hi ok hg ht he hs) fun D σ H ⟨θ, ρ, μ, he, hst, q⟩ => ?_
  refine lc_run his ⟨θ, ρ, μ, he, hst, ?_⟩
  refine (PoF.st he q).imp fun w H1 ⟨θ1, μ1, xs, fr, q1⟩ => ?_
  split at q1
  · obtain ⟨θ2, l2, s2, r2⟩ := fr.keep
    exact q1 θ2 H1 _ l2 ((l2.rpE he).set r2 i) s2
  · exact q1.elim
end
end Md

namespace Md
open PySem L2
section
variable {X : Cx} {xt : String → Option Addr} {W : WX} {a b c e o : Expr} {es : List Expr} {pos p apos : Pos} {tg : Expr} {st : Stmt} {sts : List Stmt}
/-! ## statements -/
def sNil : SM := fun ρ μ => .nx ρ μ
def sSeq (m n : SM) : SM := fun ρ μ => match m ρ μ with
  | .nx ρ μ => n ρ μ
  | r => r
theorem ss_nil : DSs xt W X [] sNil := imSs pss_nil fun D σ H ⟨θ, ρ, μ, he, hs, q⟩ => q θ H σ .refl he hs
theorem ss_cons {m n : SM} (h : DSt xt W X st m) (h2 : DSs xt W X sts n) : DSs xt W X (st :: sts) (sSeq m n) := by
  refine imSs (pss_cons h h2) fun D σ H ⟨θ, ρ, μ, he, hs, q⟩ => ⟨θ, ρ, μ, he, hs, ?_⟩
  unfold sSeq at q
  cases e : m ρ μ with
  | nx ρ1 μ1 => rw [e] at q; exact fun θ1 H1 σ1 l1 he1 s1 => ⟨θ1, ρ1, μ1, he1, s1, PoS.later q l1⟩
  | rt v μ1 => rw [e] at q; exact q
  | ex x ρ1 μ1 => rw [e] at q; exact q
  | bk ρ1 μ1 => rw [e] at q; exact q
  | ct ρ1 μ1 => rw [e] at q; exact q
  | bad => rw [e] at q; exact q
theorem ss_one {m : SM} (h : DSt xt W X st m) : DSs xt W X [st] m := pss_one h
def sPass : SM := sNil
theorem s_pass : DSt xt W X (.Pass pos) sPass := imS ps_pass fun D σ H ⟨θ, ρ, μ, he, hs, q⟩ => q θ H σ .refl he hs
def sBrk : SM := fun ρ μ => .bk ρ μ
def sCnt : SM := fun ρ μ => .ct ρ μ
theorem s_break : DSt xt W X (.Break pos) sBrk := imS ps_break fun D σ H ⟨θ, ρ, μ, he, hs, q⟩ => q θ H σ .refl he hs
theorem s_continue : DSt xt W X (.Continue pos) sCnt := imS ps_continue fun D σ H ⟨θ, ρ, μ, he, hs, q⟩ => q θ H σ .refl he hs
def sExpr (m : EM) : SM := fun ρ μ => (m ρ μ).st ρ fun _ μ => .nx ρ μ
theorem s_expr {m : EM} (h : DEx xt W X e m) (hs : swapsWith e none pos.line X.env = pure false := by rfl) : DSt xt W X (.Expr e pos) (sExpr m) := by
  refine imS (ps_expr h hs) fun D σ H ⟨θ, ρ, μ, he, hst, q⟩ => ⟨θ, ρ, μ, he, hst, ?_⟩
  exact (Po.st he q).imp fun w H1 ⟨θ1, μ1, v, l1, s1, r1, q1⟩ => q1 θ1 H1 σ .refl (l1.rpE he) s1
def sRet (m : EM) : SM := fun ρ μ => (m ρ μ).st ρ fun v μ => .rt v μ
theorem s_ret {m : EM} (h : DEx xt W X e m) : DSt xt W X (.Return (some e) pos) (sRet m) := by
  refine imS (ps_ret h) fun D σ H ⟨θ, ρ, μ, he, hst, q⟩ => ⟨θ, ρ, μ, he, hst, ?_⟩
  exact (Po.st he q).imp fun w H1 ⟨θ1, μ1, v, l1, s1, r1, q1⟩ => q1 θ1 H1 w .refl s1 r1
def sRetN : SM := fun ρ μ => .rt .non μ
theorem s_retN : DSt xt W X (.Return none pos) sRetN := imS ps_retN fun D σ H ⟨θ, ρ, μ, he, hs, q⟩ => q θ H .non .refl hs rfl
def sIf (t : BM) (a b : SM) : SM := fun ρ μ => (t ρ μ).st ρ fun c μ => if c = true then a ρ μ else b ρ μ
theorem s_if {t : BM} {m n : SM} {as bs : List Stmt} (ht : DTs xt W X c t) (ha : DSs xt W X as m) (hb : DSs xt W X bs n) : DSt xt W X (.If c as bs pos) (sIf t m n) := by
  refine imS (ps_if ht ha hb) fun D σ H ⟨θ, ρ, μ, he, hs, q⟩ => ⟨θ, ρ, μ, he, hs, ?_⟩
  refine (Po.st he q).imp fun w H1 ⟨θ1, μ1, u, l1, s1, r1, q1⟩ => ?_
  subst r1
  cases u with
  | true => exact ⟨θ1, ρ, μ1, l1.rpE he, s1, q1⟩
  | false => exact ⟨θ1, ρ, μ1, l1.rpE he, s1, q1⟩
def sAsg (m : EM) (t : GM) : SM := fun ρ μ => (m ρ μ).st ρ fun v μ => match t v ρ μ with
  | some ρ' => .nx ρ' μ
  | none => .bad
theorem asg_step {K : PySem.W.Frag} {t : GM} {is : List Nat} {ρ : DE} {σ : L2.St} {D : Ends} {θ θ1 : List Addr} {H H1 : Hp} {μ1 : DM} {v : DV} {w : V} (he : RpE K θ H ρ σ) (l1 : Lt θ θ1 H H1) (s1 : Sto K θ1 H1 μ1) (r1 : Rp K θ1 H1 v w)
    (q : PoS K xt W (match t v ρ μ1 with | some ρ' => SR.nx ρ' μ1 | none => .bad) θ1 H1 D) : tGt K t is w σ H1 D.nx := by
  split at q
  · rename_i ρ' ht
    exact ⟨θ1, ρ, μ1, v, ρ', l1.rpE he, s1, r1, ht, fun σ' he' _ _ => q θ1 H1 σ' .refl he' s1⟩
  · exact q.elim
theorem s_asg {m : EM} {t : GM} {is : List Nat} (h : DEx xt W X e m) (hg : DTg X tg t is) (hs : swapsWithSole [tg] e pos.line X.env = pure false := by rfl) (hw : swappedStores [tg] e X.env = pure none := by rfl)
    (h1 : (assignEach [tg] X.env).map (·.2) = [assign tg X.env] := by rfl) : DSt xt W X (.Assign [tg] e pos) (sAsg m t) := by
  refine imS (ps_asg h hg hs hw h1) fun D σ H ⟨θ, ρ, μ, he, hst, q⟩ => ⟨θ, ρ, μ, he, hst, ?_⟩
  exact (Po.st he q).imp fun w H1 ⟨θ1, μ1, v, l1, s1, r1, q1⟩ => asg_step he l1 s1 r1 q1
theorem s_set {m : EM} {y : Str} {py : Pos} (i : Nat) (hN : X.N.Nodup) (h : DEx xt W X e m) (hi : X.N[i]? = some y := by rfl) (hx : Loc X.env.scope y := by first | exact .inl rfl | exact .inr rfl) (hs : swapsWith e (some (.Name y py)) pos.line X.env = pure false := by rfl)
    (hf : X.fn y = true ∨ X.env.scope.names.lookup y = some .local := by first | exact .inl rfl | exact .inr rfl) : DSt xt W X (.Assign [.Name y py] e pos) (sAsg m (tgN i)) := by
  refine imS (ps_set hN hi hx h hs hf) fun D σ H ⟨θ, ρ, μ, he, hst, q⟩ => ⟨θ, ρ, μ, he, hst, ?_⟩
  refine (Po.st he q).imp fun w H1 ⟨θ1, μ1, v, l1, s1, r1, q1⟩ => ?_
  split at q1
  · rename_i ρ' ht
    unfold tgN at ht
    split at ht
    · cases ht
      exact q1 θ1 H1 _ .refl ((l1.rpE he).set r1 i) s1
    · cases ht
  · exact q1.elim
/-- a, b = x, y -/
def sPar (i j : Nat) (ms : LM) : SM := fun ρ μ => (ms ρ μ).st ρ fun vs μ => match vs with
  | [v, w] => if i < ρ.length ∧ j < ρ.length then .nx ((ρ.set i (some v)).set j (some w)) μ else .bad
  | _ => .bad
theorem s_par {i j : Nat} {x y : Str} {ms : LM} {px py pt : Pos} {kt k2 : Nat} {pt2 : Pos} (hc : X.calm = true) (hN : X.N.Nodup) (hij : i ≠ j) (h : DAs xt W X [a, b] ms)
    (hi : X.N[i]? = some x := by rfl) (hj : X.N[j]? = some y := by rfl) (hx : X.env.scope.names.lookup x = some .local := by rfl) (hy : X.env.scope.names.lookup y = some .local := by rfl)
    (hw : swappedStores [.Tuple [.Name x px, .Name y py] kt pt] (.Tuple [a, b] k2 pt2) X.env = pure (some [x, y]) := by rfl)
    (hs : swapsWithSole [.Tuple [.Name x px, .Name y py] kt pt] (.Tuple [a, b] k2 pt2) pos.line X.env = pure false := by rfl) :
    DSt xt W X (.Assign [.Tuple [.Name x px, .Name y py] kt pt] (.Tuple [a, b] k2 pt2) pos) (sPar i j ms) := by
  refine imS (ps_par hc hN hi hj hij hx hy h hw hs) fun D σ H ⟨θ, ρ, μ, he, hst, q⟩ => ⟨θ, ρ, μ, he, hst, ?_⟩
  refine (Po.st he q).imp fun ws H1 ⟨θ1, μ1, vs, l1, s1, r1, q1⟩ => ?_
  split at q1
  · rename_i v w
    obtain ⟨v', _, rfl, r1, w', _, rfl, r2, rfl⟩ := r1
    split at q1
    · exact ⟨v', w', rfl, q1 θ1 H1 _ .refl (((l1.rpE he).set r1 i).set r2 j) s1⟩
    · exact q1.elim
  · exact q1.elim
def sPar3 (i j k : Nat) (ms : LM) : SM := fun ρ μ => (ms ρ μ).st ρ fun vs μ => match vs with
  | [u, v, w] => if i < ρ.length ∧ j < ρ.length ∧ k < ρ.length then .nx (((ρ.set i (some u)).set j (some v)).set k (some w)) μ else .bad
  | _ => .bad
theorem s_par3 {i j k : Nat} {x y z : Str} {ms : LM} {px py pz pt : Pos} {kt k2 : Nat} {pt2 : Pos} (hc : X.calm = true) (hN : X.N.Nodup) (hij : i ≠ j) (hik : i ≠ k) (hjk : j ≠ k) (h : DAs xt W X [a, b, c] ms)
    (hi : X.N[i]? = some x := by rfl) (hj : X.N[j]? = some y := by rfl) (hk : X.N[k]? = some z := by rfl) (hx : X.env.scope.names.lookup x = some .local := by rfl) (hy : X.env.scope.names.lookup y = some .local := by rfl) (hz : X.env.scope.names.lookup z = some .local := by rfl)
    (hw : swappedStores [.Tuple [.Name x px, .Name y py, .Name z pz] kt pt] (.Tuple [a, b, c] k2 pt2) X.env = pure (some [x, y, z]) := by rfl)
    (hs : swapsWithSole [.Tuple [.Name x px, .Name y py, .Name z pz] kt pt] (.Tuple [a, b, c] k2 pt2) pos.line X.env = pure false := by rfl) :
    DSt xt W X (.Assign [.Tuple [.Name x px, .Name y py, .Name z pz] kt pt] (.Tuple [a, b, c] k2 pt2) pos) (sPar3 i j k ms) := by
  refine imS (ps_par3 hc hN hi hj hk hij hik hjk hx hy hz h hw hs) fun D σ H ⟨θ, ρ, μ, he, hst, q⟩ => ⟨θ, ρ, μ, he, hst, ?_⟩
  refine (Po.st he q).imp fun ws H1 ⟨θ1, μ1, vs, l1, s1, r1, q1⟩ => ?_
  split at q1
  · rename_i u v w
    obtain ⟨u', _, rfl, r0, v', _, rfl, r1, w', _, rfl, r2, rfl⟩ := r1
    split at q1
    · exact ⟨u', v', w', rfl, q1 θ1 H1 _ .refl ((((l1.rpE he).set r0 i).set r1 j).set r2 k) s1⟩
    · exact q1.elim
  · exact q1.elim
/-- o[i] = e -/
def sSub (mo mi me : EM) : SM := fun ρ μ => (me ρ μ).st ρ fun v μ => (mo ρ μ).st ρ fun u μ => (mi ρ μ).st ρ fun i μ => match u, i with
  | .ref n, .int k => match μ[n]? with
    | some (.lst xs) => match ixN xs.length k with
      | some j => .nx ρ (μ.set n (.lst (xs.set j v)))
      | none => .bad
    | _ => .bad
  | _, _ => .bad
theorem s_sub {i : Expr} {mo mi me : EM} {ps : Pos} (ho : DEx xt W X o mo) (hi : DEx xt W X i mi) (h : DEx xt W X e me)
    (ha : ∀ v, assign (.Subscript o i ps) X.env v = (do
      let ov ← holding [v] (eval o X.env)
      let iv ← holding [v, ov] (eval i X.env)
      standAt ps
      holding [v, ov, iv] (setItem ov iv v)
      release [v, ov, iv] []) := by intro _; rfl)
    (hs : swapsWithSole [.Subscript o i ps] e pos.line X.env = pure false := by rfl) (hw : swappedStores [.Subscript o i ps] e X.env = pure none := by rfl)
    (h1 : (assignEach [.Subscript o i ps] X.env).map (·.2) = [assign (.Subscript o i ps) X.env] := by rfl) : DSt xt W X (.Assign [.Subscript o i ps] e pos) (sSub mo mi me) := by
  refine imS (ps_asg h (pg_sub ho hi set_list ha) hs hw h1) fun D σ H ⟨θ, ρ, μ, he, hst, q⟩ => ⟨θ, ρ, μ, he, hst, ?_⟩
  refine (Po.st he q).imp fun w H1 ⟨θ1, μ1, v, l1, s1, r1, q1⟩ => ⟨θ1, ρ, μ1, l1.rpE he, s1, ?_⟩
  refine (Po.st (l1.rpE he) q1).imp fun w2 H2 ⟨θ2, μ2, u, l2, s2, r2, q2⟩ => ⟨θ2, ρ, μ2, l2.rpE (l1.rpE he), s2, ?_⟩
  refine (Po.st (l2.rpE (l1.rpE he)) q2).imp fun w3 H3 ⟨θ3, μ3, i', l3, s3, r3, q3⟩ => ?_
  cases u with
  | ref n =>
    cases i' with
    | int k =>
      cases r3
      obtain ⟨p, hp, rfl⟩ := l3.rp r2
      replace q3 : PoS X.K xt W (match μ3[n]? with | some (.lst xs) => (match ixN xs.length k with | some j => .nx ρ (μ3.set n (.lst (xs.set j v))) | none => .bad) | _ => .bad) θ3 H3 D := q3
      split at q3
      · rename_i xs hx
        obtain ⟨vs, ev, r⟩ := s3.cell n p _ hp hx
        split at q3
        · rename_i j hj
          obtain ⟨s4, l4⟩ := s3.put hp ev (r.set j (l3.rp (l2.rp r1)))
          exact ⟨p, vs, k, j, rfl, rfl, ev, by rw [← r.len]; exact hj, q3 _ _ σ l4 (l4.rpE (l3.rpE (l2.rpE (l1.rpE he)))) s4⟩
        · exact q3.elim
      · exact q3.elim
    | _ => exact q3.elim
  | _ => exact q3.elim
/-- name op= e -/
def sAug (g : DV → DV → DM → DR DV) (i : Nat) (me : EM) : SM := fun ρ μ => match ρ[i]? with
  | some (some u) => (me ρ μ).st ρ fun v μ => (g u v μ).noex.st ρ fun w μ => .nx (ρ.set i (some w)) μ
  | _ => .bad
theorem s_aug {m : EM} {y : Str} {py : Pos} {op : Operator} {g : DV → DV → DM → DR DV} (i : Nat) (hN : X.N.Nodup) (ho : OpD X (inplaceOp op) g) (h : DEx xt W X e m) (hi : X.N[i]? = some y := by rfl) (hx : Loc X.env.scope y := by first | exact .inl rfl | exact .inr rfl)
    (hf : X.fn y = true ∨ X.env.scope.names.lookup y = some .local := by first | exact .inl rfl | exact .inr rfl) : DSt xt W X (.AugAssign (.Name y py) op e pos) (sAug g i m) := by
  refine imS (ps_aug (ti := rG X.K g) hN hi hx h ho hf) fun D σ H ⟨θ, ρ, μ, he, hst, q⟩ => ?_
  unfold sAug at q
  split at q
  · rename_i u hu
    obtain ⟨x, e1, r0⟩ := he.at' i u hu
    refine ⟨x, e1, θ, ρ, μ, he, hst, ?_⟩
    refine (Po.st he q).imp fun w H1 ⟨θ1, μ1, v, l1, s1, r1, q1⟩ => ⟨θ1, μ1, u, v, s1, l1.rp r0, r1, ?_⟩
    cases eg : g u v μ1 with
    | ex e μ2 => rw [eg] at q1; exact q1.elim
    | bad => rw [eg] at q1; exact q1.elim
    | ok z μ2 =>
      rw [eg] at q1
      intro θ2 H2 wz l2 s2 r2
      exact q1 θ2 H2 _ l2 ((l2.rpE (l1.rpE he)).set r2 i) s2
  · exact q.elim
/-! ## loops -/
/-- the turns of a while, at most -/
abbrev WF : Nat := 1000000
def sWhile (t : BM) (b : SM) : Nat → SM
  | 0 => fun _ _ => .bad
  | n + 1 => fun ρ μ => (t ρ μ).st ρ fun c μ => if c = true then match b ρ μ with
      | .nx ρ μ => sWhile t b n ρ μ
      | .ct ρ μ => sWhile t b n ρ μ
      | .bk ρ μ => .nx ρ μ
      | r => r
    else .nx ρ μ
theorem s_while {t : BM} {m : SM} {body : List Stmt} (n : Nat) (hp : PassesOwn (model X.prog X.w) X.A X.env X.xe) (ht : DTs xt W X c t) (hb : DSs xt W X body m) : DSt xt W X (.While c body [] pos) (sWhile t m n) := by
  refine imS (ps_while hp ht hb) fun D σ H ⟨θ, ρ, μ, he, hst, q⟩ => ?_
  refine ⟨fun k σ H => ∃ θ ρ μ, RpE X.K θ H ρ σ ∧ Sto X.K θ H μ ∧ PoS X.K xt W (sWhile t m k ρ μ) θ H D, ⟨n, θ, ρ, μ, he, hst, q⟩, ?_⟩
  rintro k σ H ⟨θ, ρ, μ, he, hst, q⟩
  cases k with
  | zero => exact q.elim
  | succ k =>
    refine ⟨θ, ρ, μ, he, hst, ?_⟩
    refine (Po.st he q).imp fun w H1 ⟨θ1, μ1, u, l1, s1, r1, q1⟩ => ?_
    subst r1
    cases u with
    | false => exact q1 θ1 H1 σ .refl (l1.rpE he) s1
    | true =>
      refine ⟨fun σ' H' => ∃ θ ρ μ, RpE X.K θ H' ρ σ' ∧ Sto X.K θ H' μ ∧ PoS X.K xt W (sWhile t m k ρ μ) θ H' D, fun σ' H' h => ⟨k, Nat.lt_succ_self k, h⟩, θ1, ρ, μ1, l1.rpE he, s1, ?_⟩
      replace q1 : PoS X.K xt W (match m ρ μ1 with | .nx ρ μ => sWhile t m k ρ μ | .ct ρ μ => sWhile t m k ρ μ | .bk ρ μ => .nx ρ μ | r => r) θ1 H1 D := q1
      cases em : m ρ μ1 with
      | nx ρ2 μ2 => rw [em] at q1; exact fun θ2 H2 σ2 l2 he2 s2 => ⟨θ2, ρ2, μ2, he2, s2, PoS.later q1 l2⟩
      | ct ρ2 μ2 => rw [em] at q1; exact fun θ2 H2 σ2 l2 he2 s2 => ⟨θ2, ρ2, μ2, he2, s2, PoS.later q1 l2⟩
      | bk ρ2 μ2 => rw [em] at q1; exact q1
      | rt v μ2 => rw [em] at q1; exact q1
      | ex e ρ2 μ2 => rw [em] at q1; exact q1
      | bad => rw [em] at q1; exact q1
def sFor (mi : IM) (t : GM) (b : SM) : SM := fun ρ μ => (mi ρ μ).st ρ fun s μ => go s s.1 ρ μ
where go (s : Src) : List DV → SM
  | [] => fun ρ μ => if okAt s.2 s.1 μ = true then .nx ρ μ else .bad
  | x :: xs => fun ρ μ => if okAt s.2 s.1 μ = true then match t x ρ μ with
      | some ρ1 => match b ρ1 μ with
        | .nx ρ2 μ2 => go s xs ρ2 μ2
        | .ct ρ2 μ2 => go s xs ρ2 μ2
        | .bk ρ2 μ2 => .nx ρ2 μ2
        | r => r
      | none => .bad
    else .bad
theorem s_for {mi : IM} {t : GM} {is : List Nat} {m : SM} {body : List Stmt} (hp : PassesOwn (model X.prog X.w) X.A X.env X.xe) (hc : X.calm = true) (hi : DIt xt W X tg e mi) (hg : DTg X tg t is) (hb : DSs xt W X body m)
    (hs : ∀ x, foldedSetIterable e X.env x = pure x := by intro _; rfl) : DSt xt W X (.For tg e body [] pos) (sFor mi t m) := by
  refine imS (ps_for hp hc hi hg hb hs) fun D σ H ⟨θ, ρ, μ, he, hst, q⟩ => ⟨θ, ρ, μ, he, hst, ?_⟩
  refine (Po.st he q).imp fun J H1 ⟨θ1, μ1, s, l1, s1, hJ, q1⟩ => ?_
  refine ⟨fun i k σ Hc => k = s.1.length - i ∧ i ≤ s.1.length ∧ ∃ θc ρc μc, Lt θ1 θc H1 Hc ∧ RpE X.K θc Hc ρc σ ∧ Sto X.K θc Hc μc ∧ PoS X.K xt W (sFor.go t m s (s.1.drop i) ρc μc) θc Hc D, ⟨_, rfl, Nat.zero_le _, θ1, ρ, μ1, .refl, l1.rpE he, s1, q1⟩, ?_⟩
  rintro i k σ Hc ⟨rfl, hi, θc, ρc, μc, lc, hec, sc, qc⟩
  by_cases hlt : i < s.1.length
  · have hd : s.1.drop i = s.1[i] :: s.1.drop (i + 1) := List.drop_eq_getElem_cons hlt
    have hx : s.1[i]? = some s.1[i] := List.getElem?_eq_getElem hlt
    rw [hd] at qc
    simp only [sFor.go] at qc
    split at qc
    · rename_i hok
      obtain ⟨hgo, hyl⟩ := (hJ θc Hc μc lc sc hok).1 i _ hx
      refine .inr ⟨hgo, fun σ' H' => ∃ m', m' < s.1.length - i ∧ (m' = s.1.length - (i + 1) ∧ i + 1 ≤ s.1.length ∧ ∃ θc ρc μc, Lt θ1 θc H1 H' ∧ RpE X.K θc H' ρc σ' ∧ Sto X.K θc H' μc ∧ PoS X.K xt W (sFor.go t m s (s.1.drop (i + 1)) ρc μc) θc H' D), fun σ' H' h => h, fun w H2 hy => ?_⟩
      obtain ⟨l2, s2, r2⟩ := hyl w H2 hy
      split at qc
      · rename_i ρ1 ht
        refine ⟨θc, ρc, μc, _, ρ1, l2.rpE hec, s2, r2, ht, fun σ' he' hl' hk' => ⟨θc, ρ1, μc, he', s2, ?_⟩⟩
        cases em : m ρ1 μc with
        | nx ρ2 μ2 => rw [em] at qc; exact fun θ3 H3 σ3 l3 he3 s3 => ⟨_, by omega, rfl, hlt, θ3, ρ2, μ2, (lc.trans l2).trans l3, he3, s3, PoS.later qc (l2.trans l3)⟩
        | ct ρ2 μ2 => rw [em] at qc; exact fun θ3 H3 σ3 l3 he3 s3 => ⟨_, by omega, rfl, hlt, θ3, ρ2, μ2, (lc.trans l2).trans l3, he3, s3, PoS.later qc (l2.trans l3)⟩
        | bk ρ2 μ2 => rw [em] at qc; exact fun θ3 H3 σ3 l3 => qc θ3 H3 σ3 (l2.trans l3)
        | rt v μ2 => rw [em] at qc; exact fun θ3 H3 w3 l3 => qc θ3 H3 w3 (l2.trans l3)
        | ex e ρ2 μ2 => rw [em] at qc; exact fun θ3 H3 σ3 c d l3 => qc θ3 H3 σ3 c d (l2.trans l3)
        | bad => rw [em] at qc; exact qc.elim
      · exact qc.elim
    · exact qc.elim
  · have e : i = s.1.length := by omega
    subst e
    rw [List.drop_length] at qc
    simp only [sFor.go] at qc
    split at qc
    · rename_i hok
      exact .inl ⟨(hJ θc Hc μc lc sc hok).2 _ rfl, qc θc Hc σ .refl hec sc⟩
    · exact qc.elim
end
end Md

namespace Md
open PySem L2
/-! ## calls -/
/-- an exception's field -/
def DX.val (e : DX) : DV := match e.fld with
  | none => .non
  | some (_, v) => v
def tidyE (μ0 : DM) (e : DX) (μ : DM) : DR DV := if tidyOk μ0 e.val μ then .ex e (μ.take μ0.length) else .ex e μ
def runFn (N n : Nat) (body : SM) : Fn := fun ds μ => if ds.length = n then match body (ds.map some ++ List.replicate (N - n) none) μ with
  | .rt v μ' => tidy μ v μ'
  | .nx _ μ' => tidy μ .non μ'
  | .ex e _ μ' => tidyE μ e μ'
  | _ => .bad
  else .bad
def spD (K : PySem.W.Frag) (xt : String → Option Addr) (n : Nat) (f : Fn) : Sp := fun vs H Q E => vs.length = n ∧ ∃ θ μ ds, Sto K θ H μ ∧ RpL K θ H ds vs ∧ Po K xt (fun cls d _ H' => E cls d H') (Rp K) (f ds μ) θ H [] Q
section
variable {K : PySem.W.Frag} {xt : String → Option Addr} {θ θ' : List Addr} {H H' : Hp}
mutual
theorem rp_und : ∀ (v : DV) (w : V), Rp K θ H v w → v.und θ.length = true
  | .non, _, _ => rfl
  | .bl _, _, _ => rfl
  | .int _, _, _ => rfl
  | .str _, _, _ => rfl
  | .tup xs, w, h => by obtain ⟨a, vs, _, _, r⟩ := h; exact rpL_und xs vs r
  | .kl xs, w, h => by obtain ⟨a, vs, _, _, r⟩ := h; exact rpL_und xs vs r
  | .ref n, w, h => by obtain ⟨a, e, _⟩ := h; exact decide_eq_true (List.getElem?_eq_some_iff.mp e).1
theorem rpL_und : ∀ (v : List DV) (w : List V), RpL K θ H v w → DV.undL θ.length v = true
  | [], _, _ => rfl
  | x :: xs, w, h => by
    obtain ⟨v, vs, rfl, r, rs⟩ := h
    simp only [DV.undL, rp_und x v r, rpL_und xs vs rs, Bool.and_self]
end
mutual
theorem und_rp {t : List Addr} : ∀ (v : DV) (w : V), v.und θ.length = true → Rp K (θ ++ t) H v w → Rp K θ H v w
  | .non, _, _, h => h
  | .bl _, _, _, h => h
  | .int _, _, _, h => h
  | .str _, _, _, h => h
  | .tup xs, w, u, h => by obtain ⟨a, vs, e, s, r⟩ := h; exact ⟨a, vs, e, s, undL_rp xs vs u r⟩
  | .kl xs, w, u, h => by obtain ⟨a, vs, e, s, r⟩ := h; exact ⟨a, vs, e, s, undL_rp xs vs u r⟩
  | .ref n, w, u, h => by
    obtain ⟨a, e, r⟩ := h
    have hn : n < θ.length := of_decide_eq_true u
    rw [List.getElem?_append_left hn] at e
    exact ⟨a, e, r⟩
theorem undL_rp {t : List Addr} : ∀ (v : List DV) (w : List V), DV.undL θ.length v = true → RpL K (θ ++ t) H v w → RpL K θ H v w
  | [], _, _, h => h
  | x :: xs, w, u, h => by
    obtain ⟨v, vs, e, r, rs⟩ := h
    simp only [DV.undL, Bool.and_eq_true] at u
    exact ⟨v, vs, e, und_rp x v u.1 r, undL_rp xs vs u.2 rs⟩
end
theorem tidy_sto {μ μ' : DM} {v : DV} (s : Sto K θ H μ) (l : Lt θ θ' H H') (s' : Sto K θ' H' μ') (h : tidyOk μ v μ') : Lt θ θ H H' ∧ Sto K θ H' (μ'.take μ.length) ∧ ∃ t, θ' = θ ++ t := by
  obtain ⟨t, et⟩ := l.pre
  refine ⟨⟨⟨[], by simp⟩, fun a h => .inl h, l.keep⟩, ⟨?_, s.nd, fun n a c h1 h2 => ?_⟩, t, et⟩
  · rw [List.length_take, s.len]
    exact (Nat.min_eq_left h.2.1).symm
  · have hn : n < μ.length := by rw [← s.len]; exact (List.getElem?_eq_some_iff.mp h1).1
    rw [List.getElem?_take_of_lt hn] at h2
    have h1' : θ'[n]? = some a := l.get h1
    have hc := s'.cell n a c h1' h2
    have hu : c.und μ.length = true := by
      rcases h.2.2 n hn with e | e
      · rw [h2] at e
        have := s.cell n a c h1 e.symm
        cases c with
        | lst xs =>
          obtain ⟨vs, _, r⟩ := this
          have := rpL_und xs vs r
          rw [s.len] at this
          exact this
        | obj cls fs =>
          obtain ⟨C, dx, vs, _, _, r, _⟩ := this
          have := rpL_und _ vs r
          rw [s.len] at this
          exact this
        | dct kvs =>
          obtain ⟨ks, vs, _, _, r⟩ := this
          have := rpL_und _ vs r
          rw [s.len] at this
          exact this
      · rw [h2] at e
        exact e
    cases c with
    | lst xs =>
      obtain ⟨vs, e, r⟩ := hc
      rw [et] at r
      exact ⟨vs, e, undL_rp xs vs (by rw [s.len]; exact hu) r⟩
    | obj cls fs =>
      obtain ⟨C, dx, vs, h0, e, r, cf, na⟩ := hc
      rw [et] at r
      exact ⟨C, dx, vs, h0, e, undL_rp _ vs (by rw [s.len]; exact hu) r, cf, na⟩
    | dct kvs =>
      obtain ⟨ks, vs, h0, e, r⟩ := hc
      rw [et] at r
      exact ⟨ks, vs, h0, e, undL_rp _ vs (by rw [s.len]; exact hu) r⟩
theorem tidy_ok {W : WX} {μ μ' : DM} {v : DV} {w : V} {σ : L2.St} {Q : VK} (q : Po K xt W (Rp K) (tidy μ v μ') θ H σ Q) (s : Sto K θ H μ) (l : Lt θ θ' H H') (s' : Sto K θ' H' μ') (r : Rp K θ' H' v w) : Q w H' := by
  unfold tidy at q
  split at q
  · rename_i h
    obtain ⟨l2, s2, t, et⟩ := tidy_sto s l s' h
    rw [et] at r
    exact q θ H' w l2 s2 (und_rp v w (by rw [s.len]; exact h.1) r)
  · exact q θ' H' w l s' r
theorem tidyX_ok {W : WX} {μ μ' : DM} {e : DX} {cls : Value} {d : Option Addr} {σ : L2.St} {Q : VK} (q : Po K xt W (Rp K) (tidyE μ e μ') θ H σ Q) (s : Sto K θ H μ) (l : Lt θ θ' H H') (s' : Sto K θ' H' μ') (r : RpX K xt θ' H' e cls d) : W cls d σ H' := by
  unfold tidyE at q
  split at q
  · rename_i h
    obtain ⟨l2, s2, t, et⟩ := tidy_sto s l s' h
    refine q θ H' cls d l2 s2 ?_
    obtain ⟨A, h1, h2, h3⟩ := r
    refine ⟨A, h1, h2, ?_⟩
    obtain ⟨ec, ef⟩ := e
    cases ef with
    | none => exact h3
    | some fv =>
      obtain ⟨dx, w, e1, e2, e3⟩ := h3
      rw [et] at e3
      exact ⟨dx, w, e1, e2, und_rp _ w (by rw [s.len]; exact h.1) e3⟩
  · exact q θ' H' cls d l s' r
theorem rpE_start {ds : List DV} {vs : List V} (r : RpL K θ H ds vs) {N : List Str} {n : Nat} (hn : vs.length = n) : RpE K θ H (ds.map some ++ List.replicate (N.length - n) none) (L2.start N vs) := by
  refine ⟨by simp [L2.start, r.len, hn], fun i v e => ?_⟩
  by_cases hi : i < ds.length
  · rw [List.getElem?_append_left (by simpa using hi), List.getElem?_map] at e
    have e' : ds[i]? = some v := by
      cases q : ds[i]? with
      | none => rw [q] at e; cases e
      | some u => rw [q] at e; cases e; rfl
    obtain ⟨w, hw, rw'⟩ := r.get e'
    refine ⟨w, ?_, rw'⟩
    unfold L2.start
    rw [List.getElem?_append_left (by rw [List.length_map, ← r.len]; exact hi), List.getElem?_map, hw]
    rfl
  · rw [List.getElem?_append_right (by simpa using hi), List.getElem?_replicate] at e
    split at e <;> cases e
end
/-- THE RULE of a def -/
theorem fn_ok {P : Program} {w : World} {K : PySem.W.Frag} {mg : Str → Option Value} {base : Heap} {xt : String → Option Addr} {x qual : Str} {st : Stmt} {f : Addr} {fd : FuncData} {N ps : List Str} {k : Nat} {body : SM} (F : Fun K x qual st f fd) (S : FnScope N ps (defScope st))
    (h : ∀ (cdv : Value) (A : Around) (outer : List Env) (s : Shared) (H : Hp) (E : XK), Room k (cxOf (L2.CX P w) P w K mg base N qual (defScope st) f cdv A outer s H E).A →
      Takes (cxOf (L2.CX P w) P w K mg base N qual (defScope st) f cdv A outer s H E) (fun cls d _ H => E cls d H) →
      PassesOwn (model P w) (cxOf (L2.CX P w) P w K mg base N qual (defScope st) f cdv A outer s H E).A (cxOf (L2.CX P w) P w K mg base N qual (defScope st) f cdv A outer s H E).env (cxOf (L2.CX P w) P w K mg base N qual (defScope st) f cdv A outer s H E).xe →
      DSs xt (fun cls d _ H => E cls d H) (cxOf (L2.CX P w) P w K mg base N qual (defScope st) f cdv A outer s H E) (defBody st) body) :
    FnOk P w K mg base (L2.CX P w) (k + 1) f fd ps (spD K xt ps.length (runFn N.length ps.length body)) := by
  refine F.okX S (fun vs H Q E h => h.1) fun cdv A outer s H vs Q E hr ⟨hl, θ, μ, ds, hs, r, q⟩ => ⟨_, h cdv A outer s H E hr (takes_of rfl rfl rfl rfl) PassesOwn.leaving, ?_⟩
  refine ⟨θ, _, μ, rpE_start r hl, hs, ?_⟩
  unfold runFn at q
  rw [if_pos (r.len.trans hl)] at q
  revert q
  cases body (ds.map some ++ List.replicate (N.length - ps.length) none) μ with
  | nx ρ μ' => exact fun q θ1 H1 σ1 l1 he1 s1 => tidy_ok q hs l1 s1 rfl
  | rt v μ' => exact fun q θ1 H1 w l1 s1 r1 => tidy_ok q hs l1 s1 r1
  | ex e ρ μ' => exact fun q θ1 H1 σ1 c d l1 he1 s1 r1 => tidyX_ok q hs l1 s1 r1
  | bk ρ μ' => exact fun q => q.elim
  | ct ρ μ' => exact fun q => q.elim
  | bad => exact fun q => q.elim
section
variable {X : Cx} {xt : String → Option Addr} {W : WX} {a b c e o : Expr} {es : List Expr} {pos p apos : Pos} {tg : Expr} {st : Stmt} {sts : List Stmt}
def mCall (n : Nat) (f : Fn) (ms : LM) : EM := fun ρ μ => (ms ρ μ).bind fun ds μ => if ds.length = n then f ds μ else .bad
theorem d_call {k : Nat} {f : Addr} {fd : FuncData} {ps : List Str} {n : Nat} {fn : Fn} {x : Str} {ms : LM} (F : FnOk X.prog X.w X.K X.mg X.base (L2.CX X.prog X.w) k f fd ps (spD X.K xt n fn)) (hr : Room k X.A) (hm : X.mg x = some (.ref f)) (hk : PySem.W.keepIn X.K (.ref f) = true) (hb : Binds X.K fd ps [])
    (tk : Takes X W) (ha : DAs xt W X (e :: es) ms) (hg : Gl X x := by rfl) (hdb : (x == ("__debug__" : Str)) = false := by decide) (he : starEach (e :: es) X.env = (false, eval e X.env) :: starEach es X.env := by rfl) (hpl : (backTo pos (starEach es X.env)).any (·.1) = false := by rfl) :
    DEx xt W X (.Call (.Name x p) (e :: es) [] pos) (mCall n fn ms) := by
  refine imE (pe_callS F hr hg hm hk hb (fun σ => passAt tk σ) ha hdb he hpl) fun σ H Q ⟨θ, ρ, μ, hen, hs, q⟩ => ⟨θ, ρ, μ, hen, hs, ?_⟩
  refine q.bind.imp fun ws H1 ⟨θ1, μ1, ds, l1, s1, r1, q1⟩ => ?_
  split at q1
  · rename_i hl
    refine ⟨by rw [← r1.len]; exact hl, θ1, μ1, ds, s1, r1, ?_⟩
    revert q1
    cases fn ds μ1 with
    | ok v μ2 => exact id
    | ex e μ2 => exact id
    | bad => exact id
  · exact q1.elim
theorem d_call0 {k : Nat} {f : Addr} {fd : FuncData} {ps : List Str} {fn : Fn} {x : Str} (F : FnOk X.prog X.w X.K X.mg X.base (L2.CX X.prog X.w) k f fd ps (spD X.K xt 0 fn)) (hr : Room k X.A) (hm : X.mg x = some (.ref f)) (hk : PySem.W.keepIn X.K (.ref f) = true) (hb : Binds X.K fd ps [])
    (hg : Gl X x := by rfl) (hdb : (x == ("__debug__" : Str)) = false := by decide) : DEx xt W X (.Call (.Name x p) [] [] pos) (fun _ μ => (fn [] μ).noex) := by
  refine imE (pe_call0 F hr hg hm hk hb .nil passL hdb) fun σ H Q ⟨θ, ρ, μ, hen, hs, q⟩ => ⟨rfl, θ, μ, [], hs, rfl, ?_⟩
  replace q : Po X.K xt W (Rp X.K) (fn [] μ).noex θ H σ Q := q
  revert q
  cases fn [] μ with
  | ok v μ2 => exact id
  | ex e μ2 => exact fun q => q.elim
  | bad => exact id
/-! ## raise -/
/-- C(), an own exception class without own __init__ -/
theorem pmk_no {C : Addr} {bmB : List Value} {B newId initId : String} {x : Str} (F : ExcBaseFacts B newId initId bmB) (hq : PySem.W.excIn X.K C bmB newId = true) (gC : X.mg x = some (.ref C)) (kC : PySem.W.keepIn X.K (.ref C) = true) (r : Raises X (.ref C)) (hg : Gl X x)
    (hdb : (x == ("__debug__" : Str)) = false := by decide) : PMk X (.Call (.Name x p) [] [] pos) (fun _ H Q => Q (.ref C) none H) := fun pins s σ H Q I hw => by
  refine wpAny_Call_Name_kw (ld_glob I hg gC (PySem.W.callWith_K0 I.kIn kC ?_) hdb)
  obtain ⟨bm, N, nm, qn, bs, hdct, sn, sub, ab, col, dd, k0, k1, k2, k3, k5, mN, hC, hN, hni, T⟩ := exc_obj I.kIn hq
  exact wpAny_call_exc_subT F T hC hN hni (fun h' e' hm => mk_of I hm r hw (I.hok.gone hm.new)) (Nat.zero_le _)
/-- what is known of an own exception class -/
structure ExK (K : PySem.W.Frag) (C : Addr) : Prop where
  x : PySem.W.excIn K C [.type "ValueError", .type "Exception", .type "BaseException", .type "object"] "ValueError.__new__" = true
  k : PySem.W.keepIn K (.ref C) = true
  b : PySem.W.subIn K (.ref C) (.type "BaseException") = some true
  t : PySem.W.typeIn K (.ref C) = some (.type "type")
def sRaise (n : String) : SM := fun ρ μ => .ex { cls := n } ρ μ
theorem s_raise {C : Addr} {x : Str} {p2 : Pos} (n : String) (hc : X.calm = true) (tk : Takes X W) (E : ExK X.K C) (gC : X.mg x = some (.ref C)) (hx : xt n = some C) (hg : Gl X x := by rfl) (hdb : (x == ("__debug__" : Str)) = false := by decide) :
    DSt xt W X (.Raise (some (.Call (.Name x p) [] [] p2)) none pos) (sRaise n) :=
  imS (ps_raise hc tk (pmk_no PySem.F.excBase_ValueError E.x gC E.k (raises_own E.b E.t) hg hdb)) fun D σ H ⟨θ, ρ, μ, he, hs, q⟩ => q θ H σ _ _ .refl he hs ⟨C, hx, rfl, rfl⟩
end
end Md

namespace Md
open PySem L2
/-! ## try .. except, several clauses, each with or without a name -/
/-- a clause: its class, the slot of its name, its suite -/
abbrev Cls3 := Value × Option Nat × (Addr → Value → Option Addr → TS)
def offEnds (D : Ends) : Option Nat → Ends
  | none => D
  | some i => { nx := fun τ G => D.nx (τ.set i none) G, rt := D.rt, bk := fun τ G => D.bk (τ.set i none) G, ct := fun τ G => D.ct (τ.set i none) G }
def onSlot (τ : L2.St) (a : Addr) : Option Nat → L2.St
  | none => τ
  | some i => τ.set i (some (.ref a))
def wMix (K : PySem.W.Frag) (Wo : WX) (D : Ends) : List Cls3 → WX
  | [] => Wo
  | (c, n, ts) :: l => fun cls d τ G => ∃ b, PySem.W.exmOne K cls c = some b ∧ (b = true → ∀ a, G a = none → ts a cls d (offEnds D n) (onSlot τ a n) G) ∧ (b = false → wMix K Wo D l cls d τ G)
abbrev Suite (X : Cx) (bs : List Stmt) (ts : Addr → Value → Option Addr → TS) : Prop := ∀ (a : Addr) (oe : Obj) (cls : Value) (d : Option Addr) (pn : List (Addr × Obj)), Zc cls d oe → (∃ vs, oe.data = .fields vs) → PSs (X.suite a ((a, oe) :: pn)) bs (ts a cls d)
inductive MixOk (X : Cx) : List ExceptHandler → List Cls3 → Prop
  | nil : MixOk X [] []
  | bare {x : Str} {c : Value} {ts : Addr → Value → Option Addr → TS} {b : Stmt} {bs : List Stmt} {np p : Pos} {hd : List ExceptHandler} {l : List Cls3} (hc : Names X x c) (hs : Suite X (b :: bs) ts) (r : MixOk X hd l) :
      MixOk X (.ExceptHandler (some (.Name x np)) none (b :: bs) p :: hd) ((c, none, ts) :: l)
  | named {x n : Str} {i : Nat} {c : Value} {ts : Addr → Value → Option Addr → TS} {b : Stmt} {bs : List Stmt} {np p : Pos} {hd : List ExceptHandler} {l : List Cls3} (hc : Names X x c) (hi : X.N[i]? = some n) (hn : X.env.kindOf n = some .local) (hs : Suite X (b :: bs) ts) (r : MixOk X hd l) :
      MixOk X (.ExceptHandler (some (.Name x np)) (some n) (b :: bs) p :: hd) ((c, some i, ts) :: l)
section
variable {X : Cx} {body : List Stmt} {hd0 : ExceptHandler} {hds : List ExceptHandler} {l : List Cls3} {pos : Pos} {tb : WX → TS} {Wo : WX}
theorem ps_try_mix (hst : X.stack = X.env :: X.outer) (hfr : X.env.frame = some X.env.locals) (hN : X.N.Nodup) (tk : Takes X Wo)
    (hb : ∀ (W : WX) (pn : List (Addr × Obj)) (xe : Value → Shared → Prop), Takes (X.tr pn xe) W → PassesOwn (model X.prog X.w) X.A X.env xe → PSs (X.tr pn xe) body (tb W))
    (hh : MixOk X (hd0 :: hds) l) : PS X (.Try body (hd0 :: hds) [] [] pos) (fun D σ H => tb (wMix X.K Wo D l) D σ H) := ⟨fun pins s σ H D I hw => by
  have okX := I.ok
  have frA : X.A.frames = some (X.env :: X.outer) := by rw [okX.frames, hst]
  refine wpAny_Try_except (wpAny_mono ((hb (wMix X.K Wo D l) (X.pn ++ pins) (fun e t1 => wpAny (model X.prog X.w) X.A (noteFrame e X.env) (fun _ t2 => wpAny (model X.prog X.w) X.A (setFlight e none)
    (fun _ t3 => wpAny (model X.prog X.w) X.A (handleBy e X.env (hd0 :: hds)) (SP X pins D) X.xe t3) X.xe t2) X.xe t1) (fun u t air => ?_) PassesOwn.looking).run [] s σ H D (I.toTry _) hw) (fun f t ends => ?_) fun _ _ z => z)
  · obtain ⟨a, B, t0, pins1, τ, G, cls, d, rfl, J0, nb, up, sky, na, os, ag, wish⟩ := air
    have J : Inv X pins τ G t0 := J0.ofTry okX
    rw [show (X.tr (X.pn ++ pins) _).stack = X.env :: X.outer from hst] at sky
    refine Sky.land Zc.steady frA hfr sky fun h1 fl1 up1 => ?_
    have J1 : Inv X pins τ G { t with heap := h1 } := J.landed nb fl1.1 (up.trans up1) os ag
    obtain ⟨o1, v1, g1, z1, d1⟩ := fl1.there
    have off : a ∉ frs (X.env :: X.outer) := fun hm => by
      obtain ⟨_, o', e', q'⟩ := fl1.2.2.1.mem hm
      rw [g1] at e'; cases e'
      exact q' _ d1
    have offL : a ≠ X.env.locals := fun q => off (List.mem_filterMap.mpr ⟨X.env, List.mem_cons_self, by rw [hfr, q]⟩)
    have offF : a ∉ X.fs := fun hm => by
      obtain ⟨e, q1, q2⟩ := List.mem_filterMap.mp hm
      exact off (List.mem_filterMap.mpr ⟨e, List.mem_cons_of_mem _ q1, q2⟩)
    have S1 := J1.suite g1 d1 na offL offF
    -- the class that a clause names, read
    have ask : ∀ {x : Str} {c : Value} {np : Pos} {Q E : Value → Shared → Prop}, Names X x c → Q c { t with heap := h1 } → wpAny (model X.prog X.w) (X.A.mark (some (.ref a))) (eval (.Name x np) X.env) Q E { t with heap := h1 } := fun {x c np Q E} hc q => by
      obtain ⟨hg, hdb, k | ⟨k1, k2, k3⟩⟩ := hc
      · exact ld_glob (X := X.suite a ((a, o1) :: (X.pn ++ pins))) S1 hg k q hdb
      · exact ld_blt (X := X.suite a ((a, o1) :: (X.pn ++ pins))) S1 hg k1 k2 q k3 hdb
    have cl : PySem.W.Looks (model X.prog X.w) h1 (typeOf (.ref a)) cls := fun A Q E s k q => wpAny_typeOf_ref (k _ _ g1) (by rw [z1.1]; exact q)
    have main : ∀ {hd : List ExceptHandler} {l : List Cls3}, MixOk X hd l → wMix X.K Wo D l cls d τ G → wpAny (model X.prog X.w) X.A (handleBy (.ref a) X.env hd) (SP X pins D) X.xe { t with heap := h1 } := by
      intro hd l hk
      induction hk with
      | nil =>
        intro wish
        refine wpAny_handleBy_nil ?_
        obtain ⟨k1, k2, k3, oe, vs, T, oT, ts', he, hz, hdt, hf1, hr⟩ := id fl1
        unfold PySem.passOn
        refine wpAny_bind (wpAny_field he hdt hf1 ?_)
        rw [if_neg (show ¬ ((Value.ref T == Value.none) = true) from by simp)]
        have out : wpAny (model X.prog X.w) X.A (setFlight (.ref a) X.env.frame) (fun _ t4 => wpAny (model X.prog X.w) X.A (throw (.ref a) : Sem Flow) (SP X pins D) X.xe t4) X.xe { t with heap := h1 } := by
          rw [hfr]
          exact HandSPX.setFlight_upZ fl1 fun h2 hh2 up2 => wpAny_throw (tk _ _ ⟨a, B, t0, pins, τ, G, cls, d, rfl, J, nb, (up.trans up1).trans up2, .inr (.inr (by rw [hst]; exact hh2)), na, os, ag, wish⟩)
        first
          | exact wpAny_bind (wpAny_pure (wpAny_bind out))
          | exact wpAny_bind out
      | @bare x c ts b bs np p hd2 l2 hc hs r ih =>
        rintro ⟨k, ek, yes, no⟩
        refine wpAny_handleBy_cons (codeAny_handlers_test (ask hc ((PySem.W.exm_one (M := model X.prog X.w) J1.kIn cl ek).here ?_))) (by intro q; cases q)
        cases k with
        | false => exact ih (no rfl)
        | true =>
          refine codeAny_handlers_suite (HandSPX.lands_againZ fl1 fun h2 fl2 up2 => ?_)
          have J2 : Inv X pins τ G { t with heap := h2 } := J.landed nb fl2.1 ((up.trans up1).trans up2) os ag
          obtain ⟨o2, v2, g2, z2, d2⟩ := fl2.there
          refine wpAny_mono ((hs a o2 cls d (X.pn ++ pins) z2 ⟨_, d2⟩).run [] _ _ G _ (J2.suite g2 d2 na offL offF) (yes rfl a na)) (fun f t6 ends => ?_) (fun _ _ z => False.elim z)
          cases f with
          | next => obtain ⟨_, _, S6, q6⟩ := ends; exact ⟨_, _, S6.unsuite okX, q6⟩
          | brk => obtain ⟨_, _, S6, q6⟩ := ends; exact ⟨_, _, S6.unsuite okX, q6⟩
          | cont => obtain ⟨_, _, S6, q6⟩ := ends; exact ⟨_, _, S6.unsuite okX, q6⟩
          | ret u => obtain ⟨_, _, _, S6, r6, q6⟩ := ends; exact ⟨_, _, _, S6.unsuite okX, r6, q6⟩
      | @named x n i c ts b bs np p hd2 l2 hc hi hn hs r ih =>
        rintro ⟨k, ek, yes, no⟩
        refine wpAny_handleBy_cons (codeAny_handlers_test (ask hc ((PySem.W.exm_one (M := model X.prog X.w) J1.kIn cl ek).here ?_))) (by intro q; cases q)
        cases k with
        | false => exact ih (no rfl)
        | true =>
          refine codeAny_handlers_suite_as (HandSPX.lands_againZ fl1 fun h2 fl2 up2 => ?_)
          have J2 : Inv X pins τ G { t with heap := h2 } := J.landed nb fl2.1 ((up.trans up1).trans up2) os ag
          obtain ⟨o2, v2, g2, z2, d2⟩ := fl2.there
          refine store_ok (X := X.suite a ((a, o2) :: (X.pn ++ pins))) (v := .ref a) (J2.suite g2 d2 na offL offF) hN hi (.inl hn) rfl (fun t5 S5 => ?_) (.inr hn)
          refine wpAny_mono ((hs a o2 cls d (X.pn ++ pins) z2 ⟨_, d2⟩).run [] t5 _ G _ S5 (yes rfl a na)) (fun f t6 ends => ?_) (fun _ _ z => False.elim z)
          cases f with
          | next => obtain ⟨_, _, S6, q6⟩ := ends; exact gone_ok (S6.unsuite okX) hN hi hn fun _ J7 => ⟨_, _, J7, q6⟩
          | brk => obtain ⟨_, _, S6, q6⟩ := ends; exact gone_ok (S6.unsuite okX) hN hi hn fun _ J7 => ⟨_, _, J7, q6⟩
          | cont => obtain ⟨_, _, S6, q6⟩ := ends; exact gone_ok (S6.unsuite okX) hN hi hn fun _ J7 => ⟨_, _, J7, q6⟩
          | ret u => obtain ⟨_, _, _, S6, r6, q6⟩ := ends; exact gone_ok (S6.unsuite okX) hN hi hn fun _ J7 => ⟨_, _, _, J7, r6, q6⟩
    exact main hh wish
  · cases f with
    | next => obtain ⟨_, _, J1, q⟩ := ends; exact wpAny_execs_nil ⟨_, _, J1.ofTry okX, q⟩
    | brk => obtain ⟨_, _, J1, q⟩ := ends; exact ⟨_, _, J1.ofTry okX, q⟩
    | cont => obtain ⟨_, _, J1, q⟩ := ends; exact ⟨_, _, J1.ofTry okX, q⟩
    | ret u => obtain ⟨_, _, _, J1, r, q⟩ := ends; exact ⟨_, _, _, J1.ofTry okX, r, q⟩⟩
end
/-! ## the same over plain data -/
/-- the classes of the package: each under the base -/
def subC (c c' : String) : Bool := c == c' || c' == "ShareError"
abbrev Hd := String × Option Nat × SM
def onS (ρ : DE) : Option Nat → DE
  | none => ρ
  | some i => ρ.set i none
def offS (r : SR) (n : Option Nat) : SR := match r with
  | .nx ρ μ => .nx (onS ρ n) μ
  | .rt v μ => .rt v μ
  | .bk ρ μ => .bk (onS ρ n) μ
  | .ct ρ μ => .ct (onS ρ n) μ
  | _ => .bad
def hdl : List Hd → DX → SM
  | [], e => fun ρ μ => .ex e ρ μ
  | (c, n, s) :: l, e => fun ρ μ => if subC e.cls c = true then offS (s (onS ρ n) μ) n else hdl l e ρ μ
def sTry (m : SM) (hs : List Hd) : SM := fun ρ μ => match m ρ μ with
  | .ex e ρ1 μ1 => hdl hs e ρ1 μ1
  | r => r
section
variable {X : Cx} {xt : String → Option Addr} {W : WX}
theorem RpE.onS {K : PySem.W.Frag} {θ : List Addr} {H : Hp} {ρ : DE} {σ : L2.St} (h : RpE K θ H ρ σ) (n : Option Nat) (a : Addr) : RpE K θ H (onS ρ n) (onSlot σ a n) := by
  cases n with
  | none => exact h
  | some i => exact h.unset i
theorem offS_ok {K : PySem.W.Frag} {r : SR} {n : Option Nat} {θ : List Addr} {H : Hp} {D : Ends} (q : PoS K xt W (offS r n) θ H D) : PoS K xt WN r θ H (offEnds D n) := by
  cases r with
  | nx ρ μ => cases n with
    | none => exact q
    | some i => exact fun θ' H' σ' l he s => q θ' H' _ l (he.unset i) s
  | bk ρ μ => cases n with
    | none => exact q
    | some i => exact fun θ' H' σ' l he s => q θ' H' _ l (he.unset i) s
  | ct ρ μ => cases n with
    | none => exact q
    | some i => exact fun θ' H' σ' l he s => q θ' H' _ l (he.unset i) s
  | rt v μ => cases n <;> exact q
  | ex e ρ μ => exact q.elim
  | bad => exact q.elim
abbrev DSuite (xt : String → Option Addr) (X : Cx) (bs : List Stmt) (s : SM) : Prop := ∀ (a : Addr) (oe : Obj) (pn : List (Addr × Obj)), DSs xt WN (X.suite a ((a, oe) :: pn)) bs s
/-- a class that a clause names -/
structure Named (X : Cx) (xt : String → Option Addr) (x : Str) (n : String) (C : Addr) : Prop where
  nm : Names X x (.ref C)
  sub : ∀ c A, xt c = some A → PySem.W.exmOne X.K (.ref A) (.ref C) = some (subC c n)
inductive DHs (xt : String → Option Addr) (X : Cx) : List ExceptHandler → List Hd → List Cls3 → Prop
  | nil : DHs xt X [] [] []
  | bare {x : Str} {n : String} {C : Addr} {b : Stmt} {bs : List Stmt} {np p : Pos} {s : SM} {hd : List ExceptHandler} {hs : List Hd} {l : List Cls3} (hc : Named X xt x n C) (h : DSuite xt X (b :: bs) s) (r : DHs xt X hd hs l) :
      DHs xt X (.ExceptHandler (some (.Name x np)) none (b :: bs) p :: hd) ((n, none, s) :: hs) ((.ref C, none, fun _ _ _ => tSt X.K xt WN s) :: l)
  | named {x y : Str} {n : String} {i : Nat} {C : Addr} {b : Stmt} {bs : List Stmt} {np p : Pos} {s : SM} {hd : List ExceptHandler} {hs : List Hd} {l : List Cls3} (hc : Named X xt x n C) (hi : X.N[i]? = some y) (hn : X.env.kindOf y = some .local) (h : DSuite xt X (b :: bs) s) (r : DHs xt X hd hs l) :
      DHs xt X (.ExceptHandler (some (.Name x np)) (some y) (b :: bs) p :: hd) ((n, some i, s) :: hs) ((.ref C, some i, fun _ _ _ => tSt X.K xt WN s) :: l)
theorem DHs.mix {hd : List ExceptHandler} {hs : List Hd} {l : List Cls3} (h : DHs xt X hd hs l) : MixOk X hd l := by
  induction h with
  | nil => exact .nil
  | bare hc h r ih => exact .bare hc.nm (fun a oe _ _ pn _ _ => h a oe pn) ih
  | named hc hi hn h r ih => exact .named hc.nm hi hn (fun a oe _ _ pn _ _ => h a oe pn) ih
theorem DHs.wish {hd : List ExceptHandler} {hs : List Hd} {l : List Cls3} (h : DHs xt X hd hs l) {D : Ends} {e : DX} {ρ : DE} {μ : DM} {θ : List Addr} {H : Hp} {σ : L2.St} {cls : Value} {d : Option Addr} (he : RpE X.K θ H ρ σ) (s : Sto X.K θ H μ) (rx : RpX X.K xt θ H e cls d)
    (q : PoS X.K xt W (hdl hs e ρ μ) θ H D) : wMix X.K W D l cls d σ H := by
  induction h with
  | nil => exact q θ H σ cls d .refl he s rx
  | bare hc h r ih =>
    obtain ⟨A, h1, rfl, h3⟩ := rx
    refine ⟨_, hc.sub _ _ h1, fun hy a ha => ?_, fun hn => ?_⟩
    · simp only [hdl] at q
      rw [if_pos hy] at q
      exact ⟨θ, _, μ, he.onS none a, s, offS_ok q⟩
    · simp only [hdl] at q
      rw [if_neg (by rw [hn]; exact Bool.false_ne_true)] at q
      exact ih q
  | named hc hi hn h r ih =>
    obtain ⟨A, h1, rfl, h3⟩ := rx
    refine ⟨_, hc.sub _ _ h1, fun hy a ha => ?_, fun hn => ?_⟩
    · simp only [hdl] at q
      rw [if_pos hy] at q
      exact ⟨θ, _, μ, he.onS _ a, s, offS_ok q⟩
    · simp only [hdl] at q
      rw [if_neg (by rw [hn]; exact Bool.false_ne_true)] at q
      exact ih q
theorem s_try {body : List Stmt} {hd0 : ExceptHandler} {hds : List ExceptHandler} {hs : List Hd} {l : List Cls3} {pos : Pos} {m : SM} (hst : X.stack = X.env :: X.outer) (hfr : X.env.frame = some X.env.locals) (hN : X.N.Nodup) (tk : Takes X W)
    (hb : ∀ (W : WX) (pn : List (Addr × Obj)) (xe : Value → Shared → Prop), Takes (X.tr pn xe) W → PassesOwn (model X.prog X.w) X.A X.env xe → DSs xt W (X.tr pn xe) body m)
    (hh : DHs xt X (hd0 :: hds) hs l) : DSt xt W X (.Try body (hd0 :: hds) [] [] pos) (sTry m hs) := by
  refine imS (ps_try_mix (tb := fun W => tSt X.K xt W m) hst hfr hN tk hb hh.mix) fun D σ H ⟨θ, ρ, μ, he, hs, q⟩ => ⟨θ, ρ, μ, he, hs, ?_⟩
  unfold sTry at q
  cases em : m ρ μ with
  | ex e ρ1 μ1 => rw [em] at q; exact fun θ1 H1 σ1 c d l1 he1 s1 r1 => hh.wish he1 s1 r1 (PoS.later q l1)
  | nx ρ1 μ1 => rw [em] at q; exact q
  | rt v μ1 => rw [em] at q; exact q
  | bk ρ1 μ1 => rw [em] at q; exact q
  | ct ρ1 μ1 => rw [em] at q; exact q
  | bad => rw [em] at q; exact q
end
/-! ## the end: a law is True at every script -/
def spLaw (K : PySem.W.Frag) : Sp := fun vs H Q _ => ∃ (a : Addr) (ns : List Int), vs = [.ref a] ∧ FrL K H a (ns.map V.int) ∧ ns.length ≤ 63 ∧ ∀ H', Q (.bl true) H'
theorem law_of {P : Program} {w : World} {K : PySem.W.Frag} {mg : Str → Option Value} {base : Heap} {xt : String → Option Addr} {k : Nat} {f : Addr} {fd : FuncData} {ps : List Str} {fn : Fn} (F : FnOk P w K mg base (L2.CX P w) k f fd ps (spD K xt 1 fn))
    (law : ∀ ns : List Int, ns.length ≤ 63 → ∃ μ, fn [.kl (ns.map .int)] [] = .ok (.bl true) μ) : FnOk P w K mg base (L2.CX P w) k f fd ps (spLaw K) :=
  F.imp fun vs H Q E ⟨a, ns, e, hf, hl, q⟩ => by
    obtain ⟨μ, em⟩ := law ns hl
    subst e
    refine ⟨rfl, [], [], [.kl (ns.map .int)], ⟨rfl, List.nodup_nil, fun n a c h => by simp at h⟩, ⟨_, _, rfl, ⟨a, _, rfl, hf, RpL.of_ints⟩, rfl⟩, ?_⟩
    rw [em]
    exact fun θ' H' w _ _ r => by cases r; exact q H'
theorem law_end {l : PySem.W.OpenLaw} {q : Program} {loose : List Str} {XP : (Str → Option Value) → Heap → Prop} {YP : World → Heap → Prop} {d : DefRec} {K : Params → PySem.W.Frag} {k : Nat} (hn : l.most = some 63) (hdf : d.params.defaults = []) (hr : Room k callerA)
    (hY : ∀ (w : World) (h : Heap), YP w h → (K w.params).In h)
    (F : ∀ (w : World) (mg : Str → Option Value) (fa : Addr) (h : Heap), (K w.params).In h → h.Ns mainGlobals mg → mg d.name = some (.ref fa) →
      ∃ fd : FuncData, (∀ (s : Shared) (u : Value), BindsTo s fd ⟨[u], []⟩ [("script", u)]) ∧ ∀ base : Heap, (K w.params).In base → base.Ns mainGlobals mg → FnOk l.prog w (K w.params) mg base (L2.CX l.prog w) k fa fd ["script"] (spLaw (K w.params))) :
    PySem.W.WalkO q loose XP YP l.row.toRowW d [] (fun f vs => PySem.call f vs) := by
  refine L2.walk_of (n := 63) (k := k) (x := "script") (CX := fun w => L2.CX l.prog w) (sp := fun w => spLaw (K w.params)) hn (by decide) hdf hr hY F (fun w H a ns hl hO hS => ?_) fun w H s e s' h => ?_
  · have hf : FrL (K w.params) H a (ns.map V.int) := by
      rcases hS with (h | h) | h
      · rcases hO a with e | ⟨o, xs, e⟩
        · rw [e] at h; cases h
        · rw [e] at h; cases h
      · exact .inl h
      · exact .inr h
    exact ⟨a, ns, rfl, hf, hl, fun _ => rfl⟩
  · obtain ⟨_, _, _, _, _, _, _, _, _, _, _, _, z⟩ := h
    exact z
end Md

namespace Md
open PySem L2
/-! ## defs that are called by their names -/
/-- where a def stands -/
def At (K : PySem.W.Frag) (mg : Str → Option Value) (x : Str) (st : Stmt) : Prop := ∃ f fd, mg x = some (.ref f) ∧ Fun K x x st f fd
/-- what a call of it is -/
def Cal (P : Program) (w : World) (K : PySem.W.Frag) (mg : Str → Option Value) (base : Heap) (xt : String → Option Addr) (x : Str) (k n : Nat) (fn : Fn) : Prop :=
  ∃ f fd ps, mg x = some (.ref f) ∧ PySem.W.keepIn K (.ref f) = true ∧ Binds K fd ps [] ∧ FnOk P w K mg base (L2.CX P w) k f fd ps (spD K xt n fn)
section
variable {P : Program} {w : World} {K : PySem.W.Frag} {mg : Str → Option Value} {base : Heap} {xt : String → Option Addr}
theorem Cal.mono {x : Str} {j k n : Nat} {fn : Fn} (C : Cal P w K mg base xt x j n fn) (h : j ≤ k) : Cal P w K mg base xt x k n fn :=
  let ⟨f, fd, ps, a, b, c, d⟩ := C; ⟨f, fd, ps, a, b, c, d.mono h⟩
abbrev BindH (st : Stmt) (x : Str) (ps : List Str) : Prop := ∀ (kV doc pm : Value) (an : Option Addr) (cdv ct : Value) (us : List Value), us.length = ps.length → bindArgs (PySem.W.fnOf x x (defArgs st) (defBody st) (defScope st) .none kV doc pm an cdv ct) ⟨us, []⟩ = pure (ps.zip us)
/-- what is shown of a def's body -/
abbrev DefH (P : Program) (w : World) (K : PySem.W.Frag) (mg : Str → Option Value) (base : Heap) (xt : String → Option Addr) (x : Str) (st : Stmt) (N : List Str) (f : Addr) (k : Nat) (body : SM) : Prop :=
  ∀ (cdv : Value) (A : Around) (outer : List Env) (s : Shared) (H : Hp) (E : XK), Room k (cxOf (L2.CX P w) P w K mg base N x (defScope st) f cdv A outer s H E).A →
      Takes (cxOf (L2.CX P w) P w K mg base N x (defScope st) f cdv A outer s H E) (fun cls d _ H => E cls d H) →
      PassesOwn (model P w) (cxOf (L2.CX P w) P w K mg base N x (defScope st) f cdv A outer s H E).A (cxOf (L2.CX P w) P w K mg base N x (defScope st) f cdv A outer s H E).env (cxOf (L2.CX P w) P w K mg base N x (defScope st) f cdv A outer s H E).xe →
      DSs xt (fun cls d _ H => E cls d H) (cxOf (L2.CX P w) P w K mg base N x (defScope st) f cdv A outer s H E) (defBody st) body
theorem At.cal {x : Str} {st : Stmt} {N ps : List Str} {k n : Nat} {body : SM} (A : At K mg x st) (S : FnScope N ps (defScope st)) (hb : BindH st x ps) (hn : ps.length = n)
    (h : ∀ f : Addr, DefH P w K mg base xt x st N f k body) : Cal P w K mg base xt x (k + 1) n (runFn N.length n body) := by
  obtain ⟨f, fd, hm, F⟩ := A
  subst hn
  exact ⟨f, fd, ps, hm, F.kp, F.binds hb, fn_ok F S (h f)⟩
/-- a def that is never asked -/
theorem At.bad {x : Str} {st : Stmt} {ps : List Str} {k n : Nat} (A : At K mg x st) (hb : BindH st x ps) (hn : ps.length = n) : Cal P w K mg base xt x k n (fun _ _ => .bad) := by
  obtain ⟨f, fd, hm, F⟩ := A
  subst hn
  exact ⟨f, fd, ps, hm, F.kp, F.binds hb, ⟨fun vs H Q E h => h.1, fun A outer s H args us vs Q E hr e0 hb r ⟨_, _, _, _, _, _, q⟩ => q.elim⟩⟩
end
section
variable {X : Cx} {xt : String → Option Addr} {W : WX} {a b c e o : Expr} {es : List Expr} {pos p apos : Pos}
theorem d_fn {j k n : Nat} {fn : Fn} {x : Str} {ms : LM} (C : Cal X.prog X.w X.K X.mg X.base xt x j n fn) (hr : Room k X.A) (tk : Takes X W) (ha : DAs xt W X (e :: es) ms) (hjk : j ≤ k := by decide) (hg : Gl X x := by rfl) (hdb : (x == ("__debug__" : Str)) = false := by decide)
    (he : starEach (e :: es) X.env = (false, eval e X.env) :: starEach es X.env := by rfl) (hpl : (backTo pos (starEach es X.env)).any (·.1) = false := by rfl) : DEx xt W X (.Call (.Name x p) (e :: es) [] pos) (mCall n fn ms) := by
  obtain ⟨f, fd, ps, hm, hk, hb, F⟩ := C
  exact d_call F (hr.mono hjk) hm hk hb tk ha hg hdb he hpl
def mCall0 (f : Fn) : EM := fun _ μ => (f [] μ).noex
theorem d_fn0 {j k : Nat} {fn : Fn} {x : Str} (C : Cal X.prog X.w X.K X.mg X.base xt x j 0 fn) (hr : Room k X.A) (hjk : j ≤ k := by decide) (hg : Gl X x := by rfl) (hdb : (x == ("__debug__" : Str)) = false := by decide) : DEx xt W X (.Call (.Name x p) [] [] pos) (mCall0 fn) := by
  obtain ⟨f, fd, ps, hm, hk, hb, F⟩ := C
  exact d_call0 F (hr.mono hjk) hm hk hb hg hdb
/-- a constant of the module -/
def Con' (K : PySem.W.Frag) (mg : Str → Option Value) (x : Str) (d : DV) : Prop := ∃ u v, mg x = some u ∧ RelV v u ∧ ∀ θ H, Rp K θ H d v
theorem d_con {x : Str} {d : DV} (C : Con' X.K X.mg x d) (hg : Gl X x := by rfl) (hd : (x == ("__debug__" : Str)) = false := by decide) : DEx xt W X (.Name x pos) (mC d) := by
  obtain ⟨u, v, hm, r, hr⟩ := C
  exact d_glob hg hm r hr hd
/-- an own exception class -/
structure ExN (K : PySem.W.Frag) (mg : Str → Option Value) (xt : String → Option Addr) (x : Str) (n : String) : Prop where
  ex : ∃ C, mg x = some (.ref C) ∧ ExK K C ∧ xt n = some C ∧ ∀ c A, xt c = some A → PySem.W.exmOne K (.ref A) (.ref C) = some (subC c n)
theorem s_rai {x : Str} {p2 : Pos} {n : String} (hc : X.calm = true) (tk : Takes X W) (E : ExN X.K X.mg xt x n) (hg : Gl X x := by rfl) (hdb : (x == ("__debug__" : Str)) = false := by decide) :
    DSt xt W X (.Raise (some (.Call (.Name x p) [] [] p2)) none pos) (sRaise n) := by
  obtain ⟨C, h1, h2, h3, h4⟩ := E.ex
  exact s_raise n hc tk h2 h1 h3 hg hdb
/-- a base class, not raised itself -/
structure ExB (K : PySem.W.Frag) (mg : Str → Option Value) (xt : String → Option Addr) (x : Str) (n : String) : Prop where
  ex : ∃ C, mg x = some (.ref C) ∧ ∀ c A, xt c = some A → PySem.W.exmOne K (.ref A) (.ref C) = some (subC c n)
theorem ExN.base {K : PySem.W.Frag} {mg : Str → Option Value} {x : Str} {n : String} (E : ExN K mg xt x n) : ExB K mg xt x n := let ⟨C, h1, _, _, h4⟩ := E.ex; ⟨C, h1, h4⟩
/-- the clauses, with their classes by name -/
def DHx (xt : String → Option Addr) (X : Cx) (hd : List ExceptHandler) (hs : List Hd) : Prop := ∃ l, DHs xt X hd hs l
theorem hx_nil : DHx xt X [] [] := ⟨_, .nil⟩
theorem hx_bare {x : Str} {n : String} {b : Stmt} {bs : List Stmt} {np p : Pos} {s : SM} {hd : List ExceptHandler} {hs : List Hd} (E : ExB X.K X.mg xt x n) (h : DSuite xt X (b :: bs) s) (r : DHx xt X hd hs) (hg : Gl X x := by rfl) (hdb : (x == ("__debug__" : Str)) = false := by decide) :
    DHx xt X (.ExceptHandler (some (.Name x np)) none (b :: bs) p :: hd) ((n, none, s) :: hs) := by
  obtain ⟨C, h1, h4⟩ := E.ex
  obtain ⟨l, r⟩ := r
  exact ⟨_, .bare ⟨⟨hg, hdb, .inl h1⟩, h4⟩ h r⟩
theorem hx_named {x y : Str} {n : String} (i : Nat) {b : Stmt} {bs : List Stmt} {np p : Pos} {s : SM} {hd : List ExceptHandler} {hs : List Hd} (E : ExB X.K X.mg xt x n) (h : DSuite xt X (b :: bs) s) (r : DHx xt X hd hs) (hi : X.N[i]? = some y := by rfl) (hn : X.env.kindOf y = some .local := by rfl)
    (hg : Gl X x := by rfl) (hdb : (x == ("__debug__" : Str)) = false := by decide) : DHx xt X (.ExceptHandler (some (.Name x np)) (some y) (b :: bs) p :: hd) ((n, some i, s) :: hs) := by
  obtain ⟨C, h1, h4⟩ := E.ex
  obtain ⟨l, r⟩ := r
  exact ⟨_, .named ⟨⟨hg, hdb, .inl h1⟩, h4⟩ hi hn h r⟩
theorem s_tri {body : List Stmt} {hd0 : ExceptHandler} {hds : List ExceptHandler} {hs : List Hd} {m : SM} (hN : X.N.Nodup) (tk : Takes X W)
    (hb : ∀ (W : WX) (pn : List (Addr × Obj)) (xe : Value → Shared → Prop), Takes (X.tr pn xe) W → PassesOwn (model X.prog X.w) X.A X.env xe → DSs xt W (X.tr pn xe) body m)
    (hh : DHx xt X (hd0 :: hds) hs) (hst : X.stack = X.env :: X.outer := by rfl) (hfr : X.env.frame = some X.env.locals := by rfl) : DSt xt W X (.Try body (hd0 :: hds) [] [] pos) (sTry m hs) := by
  obtain ⟨l, hh⟩ := hh
  exact s_try hst hfr hN tk hb hh
end
theorem Room.u65 {k : Nat} {A : Around} (hr : Room k A) : A.units + 65 < cLine := by have := hr.un; omega
/-! ## facts of the top -/
theorem at_of {K : PySem.W.Frag} {h : Heap} {mg : Str → Option Value} (X : K.In h) (G : h.Ns mainGlobals mg) {x : Str} {st : Stmt} {f : Addr} {oc : Value} {od an : Option Addr} {sl : Array (Option Value)} {kV dc pm cd ct : Value} (a : PySem.W.nsIn K mainGlobals x = some (some (.ref f)))
    (l : K.lookup f = some ⟨oc, od, .func (PySem.W.fnOf x x (defArgs st) (defBody st) (defScope st) .none kV dc pm an cd ct), sl⟩) (c : PySem.W.codeIn K cd x = true) (k : PySem.W.keepIn K (.ref f) = true) : At K mg x st :=
  ⟨f, _, PySem.W.mg_of X G a, fun_mk l c k⟩
theorem con_int {K : PySem.W.Frag} {h : Heap} {mg : Str → Option Value} (X : K.In h) (G : h.Ns mainGlobals mg) {x : Str} {i : Int} {t : Tok} (a : PySem.W.nsIn K mainGlobals x = some (some (.int i t))) : Con' K mg x (.int i) :=
  ⟨_, .int i, PySem.W.mg_of X G a, ⟨t, rfl⟩, fun _ _ => rfl⟩
mutual
/-- a written tuple of the module: its items one by one -/
def WrD (K : PySem.W.Frag) : DV → Value → Prop
  | .int i, u => ∃ t, u = .int i t
  | .str s, u => ∃ t, u = .str (Str.ofString s) t
  | .tup ds, u => ∃ (a : Addr) (dd : Option Addr) (n : Nat) (us : List Value) (sl : Array (Option Value)), u = .ref a ∧ K.lookup a = some ⟨.type "tuple", dd, .seq us.toArray n, sl⟩ ∧ us.length ≤ 1000 ∧ WrL K ds us
  | _, _ => False
def WrL (K : PySem.W.Frag) : List DV → List Value → Prop
  | [], us => us = []
  | d :: ds, us => ∃ v vs, us = v :: vs ∧ WrD K d v ∧ WrL K ds vs
end
mutual
theorem WrD.rp {K : PySem.W.Frag} : ∀ (d : DV) (u : Value), WrD K d u → ∃ v, RelV v u ∧ ∀ θ H, Rp K θ H d v
  | .int i, u, h => by obtain ⟨t, rfl⟩ := h; exact ⟨.int i, ⟨t, rfl⟩, fun _ _ => rfl⟩
  | .str s, u, h => by obtain ⟨t, rfl⟩ := h; exact ⟨.str _, ⟨t, rfl⟩, fun _ _ => rfl⟩
  | .tup ds, u, h => by
    obtain ⟨a, dd, n, us, sl, rfl, l, hl, h⟩ := h
    obtain ⟨vs, r, q⟩ := WrL.rp ds us h
    refine ⟨.ref a, rfl, fun θ H => ⟨a, vs, rfl, .inr ⟨_, us.toArray, n, l, rfl, rfl, ?_, r⟩, q θ H⟩⟩
    have hs : sizeLine = 16777216 := sizeLine_eq
    simp only [List.size_toArray]
    omega
  | .non, _, h => h.elim
  | .bl _, _, h => h.elim
  | .kl _, _, h => h.elim
  | .ref _, _, h => h.elim
theorem WrL.rp {K : PySem.W.Frag} : ∀ (d : List DV) (u : List Value), WrL K d u → ∃ v, Vals v u ∧ ∀ θ H, RpL K θ H d v
  | [], u, h => by cases h; exact ⟨[], .nil, fun _ _ => rfl⟩
  | d :: ds, u, h => by
    obtain ⟨v, vs, rfl, h1, h2⟩ := h
    obtain ⟨w, r1, q1⟩ := WrD.rp d v h1
    obtain ⟨ws, r2, q2⟩ := WrL.rp ds vs h2
    exact ⟨w :: ws, .cons r1 r2, fun θ H => ⟨w, ws, rfl, q1 θ H, q2 θ H⟩⟩
end
theorem con_tup {K : PySem.W.Frag} {h : Heap} {mg : Str → Option Value} (X : K.In h) (G : h.Ns mainGlobals mg) {x : Str} {d : DV} {u : Value} (a : PySem.W.nsIn K mainGlobals x = some (some u)) (hd : WrD K d u) : Con' K mg x d := by
  obtain ⟨v, r, q⟩ := WrD.rp d u hd
  exact ⟨u, v, PySem.W.mg_of X G a, r, q⟩
/-- the classes by their names -/
def xtOf (l : List (String × Addr)) : String → Option Addr := fun c => l.lookup c
theorem xt_mem {l : List (String × Addr)} {c : String} {A : Addr} (h : xtOf l c = some A) : (c, A) ∈ l := by
  unfold xtOf at h
  induction l with
  | nil => cases h
  | cons p l ih =>
    obtain ⟨d, B⟩ := p
    simp only [List.lookup] at h
    split at h
    · rename_i e
      cases h
      have := eq_of_beq e
      subst this
      exact List.mem_cons_self
    · exact List.mem_cons_of_mem _ (ih h)
theorem exn_of {K : PySem.W.Frag} {h : Heap} {mg : Str → Option Value} (X : K.In h) (G : h.Ns mainGlobals mg) {x : Str} {n : String} {C : Addr} {l : List (String × Addr)} (a : PySem.W.nsIn K mainGlobals x = some (some (.ref C))) (E : ExK K C) (hn : xtOf l n = some C)
    (hd : PySem.W.hasDictIn K C = true) (hs : ∀ p ∈ l, PySem.W.subIn K (.ref p.2) (.ref C) = some (subC p.1 n)) : ExN K mg (xtOf l) x n :=
  ⟨C, PySem.W.mg_of X G a, E, hn, fun c A e => PySem.W.exm_ref E.b hd E.t (hs _ (xt_mem e))⟩
theorem exb_of {K : PySem.W.Frag} {h : Heap} {mg : Str → Option Value} (X : K.In h) (G : h.Ns mainGlobals mg) {x : Str} {n : String} {C : Addr} {l : List (String × Addr)} (a : PySem.W.nsIn K mainGlobals x = some (some (.ref C))) (b : PySem.W.subIn K (.ref C) (.type "BaseException") = some true) (t : PySem.W.typeIn K (.ref C) = some (.type "type"))
    (hd : PySem.W.hasDictIn K C = true) (hs : ∀ p ∈ l, PySem.W.subIn K (.ref p.2) (.ref C) = some (subC p.1 n)) : ExB K mg (xtOf l) x n :=
  ⟨C, PySem.W.mg_of X G a, fun c A e => PySem.W.exm_ref b hd t (hs _ (xt_mem e))⟩
end Md

namespace Md
open PySem L2
/-! ## what a run of the plain form brings -/
def SR.thn (r : SR) (n : SM) : SR := match r with
  | .nx ρ μ => n ρ μ
  | r => r
def OkE {α : Type} (Q : α → DM → Prop) (E : DX → DM → Prop) : DR α → Prop
  | .ok a μ => Q a μ
  | .ex e μ => E e μ
  | .bad => False
structure EP where
  nx : DE → DM → Prop := fun _ _ => False
  rt : DV → DM → Prop := fun _ _ => False
  ex : DX → DE → DM → Prop := fun _ _ _ => False
  bk : DE → DM → Prop := fun _ _ => False
  ct : DE → DM → Prop := fun _ _ => False
def OkS (P : EP) : SR → Prop
  | .nx ρ μ => P.nx ρ μ
  | .rt v μ => P.rt v μ
  | .ex e ρ μ => P.ex e ρ μ
  | .bk ρ μ => P.bk ρ μ
  | .ct ρ μ => P.ct ρ μ
  | .bad => False
section
variable {α β : Type} {Q : α → DM → Prop} {E : DX → DM → Prop} {P : EP}
@[simp] theorem okE_ok {a : α} {μ : DM} : OkE Q E (.ok a μ) = Q a μ := rfl
@[simp] theorem okE_ex {e : DX} {μ : DM} : OkE Q E (.ex e μ) = E e μ := rfl
@[simp] theorem okE_bad : OkE Q E .bad = False := rfl
@[simp] theorem okE_bind {r : DR β} {f : β → DM → DR α} : OkE Q E (r.bind f) = OkE (fun a μ => OkE Q E (f a μ)) E r := by cases r <;> rfl
@[simp] theorem okE_noex {r : DR α} : OkE Q E r.noex = OkE Q (fun _ _ => False) r := by cases r <;> rfl
@[simp] theorem okE_ite {c : Prop} [Decidable c] {a b : DR α} : OkE Q E (if c then a else b) = if c then OkE Q E a else OkE Q E b := by split <;> rfl
@[simp] theorem okS_nx {ρ : DE} {μ : DM} : OkS P (.nx ρ μ) = P.nx ρ μ := rfl
@[simp] theorem okS_rt {v : DV} {μ : DM} : OkS P (.rt v μ) = P.rt v μ := rfl
@[simp] theorem okS_ex {e : DX} {ρ : DE} {μ : DM} : OkS P (.ex e ρ μ) = P.ex e ρ μ := rfl
@[simp] theorem okS_bk {ρ : DE} {μ : DM} : OkS P (.bk ρ μ) = P.bk ρ μ := rfl
@[simp] theorem okS_ct {ρ : DE} {μ : DM} : OkS P (.ct ρ μ) = P.ct ρ μ := rfl
@[simp] theorem okS_bad : OkS P .bad = False := rfl
@[simp] theorem okS_st {r : DR β} {ρ : DE} {k : β → DM → SR} : OkS P (r.st ρ k) = OkE (fun a μ => OkS P (k a μ)) (fun e μ => P.ex e ρ μ) r := by cases r <;> rfl
@[simp] theorem okS_ite {c : Prop} [Decidable c] {a b : SR} : OkS P (if c then a else b) = if c then OkS P a else OkS P b := by split <;> rfl
@[simp] theorem okS_thn {r : SR} {n : SM} : OkS P (r.thn n) = OkS { P with nx := fun ρ μ => OkS P (n ρ μ) } r := by
  cases r <;> rfl
@[simp] theorem st_ok {a : β} {μ : DM} {ρ : DE} {k : β → DM → SR} : (DR.ok a μ).st ρ k = k a μ := rfl
@[simp] theorem st_ex {e : DX} {μ : DM} {ρ : DE} {k : β → DM → SR} : (DR.ex e μ : DR β).st ρ k = .ex e ρ μ := rfl
@[simp] theorem noex_ex {e : DX} {μ : DM} : (DR.ex e μ : DR β).noex = .bad := rfl
@[simp] theorem noex_bad : (DR.bad : DR β).noex = .bad := rfl
theorem OkE.mono {Q' : α → DM → Prop} {E' : DX → DM → Prop} {r : DR α} (h : OkE Q E r) (hq : ∀ a μ, Q a μ → Q' a μ) (he : ∀ e μ, E e μ → E' e μ) : OkE Q' E' r := by
  cases r with
  | ok a μ => exact hq _ _ h
  | ex e μ => exact he _ _ h
  | bad => exact h
abbrev NoX : DX → DM → Prop := fun _ _ => False
theorem OkE.to {Q' : α → DM → Prop} {r : DR α} (h : OkE Q NoX r) (hq : ∀ a μ, Q a μ → Q' a μ) : OkE Q' E r := h.mono hq fun _ _ z => z.elim
theorem OkE.ok {r : DR α} (h : OkE Q NoX r) : ∃ a μ, r = .ok a μ ∧ Q a μ := by
  cases r with
  | ok a μ => exact ⟨a, μ, rfl, h⟩
  | ex e μ => exact h.elim
  | bad => exact h.elim
theorem OkS.mono {P P' : EP} {r : SR} (h : OkS P r) (h1 : ∀ ρ μ, P.nx ρ μ → P'.nx ρ μ) (h2 : ∀ v μ, P.rt v μ → P'.rt v μ) (h3 : ∀ e ρ μ, P.ex e ρ μ → P'.ex e ρ μ) (h4 : ∀ ρ μ, P.bk ρ μ → P'.bk ρ μ) (h5 : ∀ ρ μ, P.ct ρ μ → P'.ct ρ μ) : OkS P' r := by
  cases r with
  | nx ρ μ => exact h1 _ _ h
  | rt v μ => exact h2 _ _ h
  | ex e ρ μ => exact h3 _ _ _ h
  | bk ρ μ => exact h4 _ _ h
  | ct ρ μ => exact h5 _ _ h
  | bad => exact h
/-! ### the store at a call's end -/
theorem tidy_same {μ : DM} {v : DV} : tidy μ v μ = .ok v μ := by
  unfold tidy
  split <;> simp
theorem tidy_len {μ μ' : DM} {v : DV} (h : μ'.length = μ.length) : tidy μ v μ' = .ok v μ' := by
  unfold tidy
  rw [← h]
  split <;> simp
theorem tidyE_len {μ μ' : DM} {e : DX} (h : μ'.length = μ.length) : tidyE μ e μ' = .ex e μ' := by
  unfold tidyE
  rw [← h]
  split <;> simp
theorem tidyE_same {μ : DM} {e : DX} : tidyE μ e μ = .ex e μ := by
  unfold tidyE
  split <;> simp
mutual
theorem und_mono {n m : Nat} (hm : n ≤ m) : ∀ v : DV, v.und n = true → v.und m = true
  | .ref k, h => by simp only [DV.und, decide_eq_true_eq] at h ⊢; omega
  | .tup xs, h => undL_mono hm xs h
  | .kl xs, h => undL_mono hm xs h
  | .non, _ => rfl
  | .bl _, _ => rfl
  | .int _, _ => rfl
  | .str _, _ => rfl
theorem undL_mono {n m : Nat} (hm : n ≤ m) : ∀ v : List DV, DV.undL n v = true → DV.undL m v = true
  | [], _ => rfl
  | x :: xs, h => by
    simp only [DV.undL, Bool.and_eq_true] at h ⊢
    exact ⟨und_mono hm x h.1, undL_mono hm xs h.2⟩
end
mutual
theorem und_pure {n : Nat} : ∀ v : DV, v.pure = true → v.und n = true
  | .ref k, h => by cases h
  | .tup xs, h => undL_pure xs h
  | .kl xs, h => undL_pure xs h
  | .non, _ => rfl
  | .bl _, _ => rfl
  | .int _, _ => rfl
  | .str _, _ => rfl
theorem undL_pure {n : Nat} : ∀ v : List DV, DV.pureL v = true → DV.undL n v = true
  | [], _ => rfl
  | x :: xs, h => by
    simp only [DV.pureL, Bool.and_eq_true] at h
    simp only [DV.undL, Bool.and_eq_true]
    exact ⟨und_pure x h.1, undL_pure xs h.2⟩
end
theorem tidy_app {μ t : DM} {v : DV} (h : v.und μ.length = true) : tidy μ v (μ ++ t) = .ok v μ := by
  unfold tidy
  rw [if_pos]
  · simp
  · refine ⟨h, by simp, fun i hi => .inl ?_⟩
    rw [List.getElem?_append_left hi]
/-- the front of the store as it should be, with what stands behind it gone -/
theorem tidy_front {μ0 μ t : DM} {v : DV} (hl : μ.length = μ0.length) (h : v.und μ0.length = true) (hc : ∀ c ∈ μ, c ∈ μ0 ∨ c.und μ0.length = true) (hs : ∀ i, i < μ0.length → μ[i]? = μ0[i]? ∨ ((μ[i]?).all fun c => c.und μ0.length) = true) : tidy μ0 v (μ ++ t) = .ok v μ := by
  unfold tidy
  rw [if_pos]
  · rw [← hl]; simp
  · refine ⟨h, by simp [hl], fun i hi => ?_⟩
    rw [List.getElem?_append_left (by omega)]
    exact hs i hi
/-- both ways -/
theorem tidy_any {μ0 μ : DM} {v : DV} {Q : DV → DM → Prop} (h1 : tidyOk μ0 v μ → Q v (μ.take μ0.length)) (h2 : ¬ tidyOk μ0 v μ → Q v μ) : OkE Q E (tidy μ0 v μ) := by
  unfold tidy
  split
  · exact h1 ‹_›
  · exact h2 ‹_›
end
/-! ### calls -/
@[simp] theorem okE_call {Q : DV → DM → Prop} {E : DX → DM → Prop} {n : Nat} {f : Fn} {ms : LM} {ρ : DE} {μ : DM} : OkE Q E (mCall n f ms ρ μ) = OkE (fun ds μ => if ds.length = n then OkE Q E (f ds μ) else False) E (ms ρ μ) := by
  unfold mCall
  rw [okE_bind]
  congr 1
  funext ds μ
  rw [okE_ite]
  rfl
theorem okE_run {Q : DV → DM → Prop} {E : DX → DM → Prop} {N n : Nat} {b : SM} {ds : List DV} {μ : DM} (hn : ds.length = n)
    (h : OkS { nx := fun _ μ' => OkE Q E (tidy μ .non μ'), rt := fun v μ' => OkE Q E (tidy μ v μ'), ex := fun e _ μ' => OkE Q E (tidyE μ e μ') } (b (ds.map some ++ List.replicate (N - n) none) μ)) : OkE Q E (runFn N n b ds μ) := by
  unfold runFn
  rw [if_pos hn]
  cases q : b (ds.map some ++ List.replicate (N - n) none) μ <;> rw [q] at h <;> exact h
/-- a function that leaves the store as it was -/
theorem run_rt {N n : Nat} {b : SM} {ds : List DV} {μ : DM} {v : DV} (hn : ds.length = n) (h : b (ds.map some ++ List.replicate (N - n) none) μ = .rt v μ) : runFn N n b ds μ = .ok v μ := by
  unfold runFn
  rw [if_pos hn, h]
  exact tidy_same
theorem run_rtL {N n : Nat} {b : SM} {ds : List DV} {μ μ' : DM} {v : DV} (hn : ds.length = n) (hl : μ'.length = μ.length) (h : b (ds.map some ++ List.replicate (N - n) none) μ = .rt v μ') : runFn N n b ds μ = .ok v μ' := by
  unfold runFn
  rw [if_pos hn, h]
  exact tidy_len hl
theorem run_rtA {N n : Nat} {b : SM} {ds : List DV} {μ t : DM} {v : DV} (hn : ds.length = n) (hv : v.und μ.length = true) (h : b (ds.map some ++ List.replicate (N - n) none) μ = .rt v (μ ++ t)) : runFn N n b ds μ = .ok v μ := by
  unfold runFn
  rw [if_pos hn, h]
  exact tidy_app hv
theorem run_nx {N n : Nat} {b : SM} {ds : List DV} {μ : DM} {ρ : DE} (hn : ds.length = n) (h : b (ds.map some ++ List.replicate (N - n) none) μ = .nx ρ μ) : runFn N n b ds μ = .ok .non μ := by
  unfold runFn
  rw [if_pos hn, h]
  exact tidy_same
theorem run_ex {N n : Nat} {b : SM} {ds : List DV} {μ : DM} {ρ : DE} {e : DX} (hn : ds.length = n) (h : b (ds.map some ++ List.replicate (N - n) none) μ = .ex e ρ μ) : runFn N n b ds μ = .ex e μ := by
  unfold runFn
  rw [if_pos hn, h]
  exact tidyE_same
/-! ### walks -/
theorem lc_go {γ : Type} {enc : γ → DV} {s : Src} {ρ : DE} {t : GM} {tt : BM} {te : EM} {p : γ → Bool} {g : γ → DV} {μ : DM} (hok : okAt s.2 s.1 μ = true) : ∀ (L : List γ) (acc : List DV), acc.length + L.length ≤ LIM →
    (∀ x ∈ L, ∃ ρ1, t (enc x) ρ μ = some ρ1 ∧ tt ρ1 μ = .ok (p x) μ ∧ (p x = true → te ρ1 μ = .ok (g x) μ)) → mLc.go t tt te s ρ (L.map enc) acc μ = .ok (acc ++ (L.filter p).map g) μ
  | [], acc, _, _ => by simp [mLc.go, hok]
  | x :: L, acc, hl, h => by
    obtain ⟨ρ1, h1, h2, h3⟩ := h x (by simp)
    have hl' : acc.length < LIM := by simp at hl; omega
    have hr : ∀ x ∈ L, ∃ ρ1, t (enc x) ρ μ = some ρ1 ∧ tt ρ1 μ = .ok (p x) μ ∧ (p x = true → te ρ1 μ = .ok (g x) μ) := fun y hy => h y (List.mem_cons_of_mem _ hy)
    rw [List.map_cons, mLc.go, if_pos ⟨hok, hl'⟩]
    simp only [h1, h2, DR.noex_ok, DR.bind_ok]
    cases hp : p x with
    | true =>
      rw [if_pos rfl, h3 hp]
      simp only [DR.noex_ok, DR.bind_ok]
      rw [lc_go hok L _ (by simp at hl ⊢; omega) hr]
      simp [List.filter_cons, hp]
    | false =>
      rw [if_neg (by simp), lc_go hok L _ (by simp at hl ⊢; omega) hr]
      simp [List.filter_cons, hp]
/-- a comprehension that changes nothing -/
theorem lc_eq {γ : Type} (enc : γ → DV) (L : List γ) (p : γ → Bool) (g : γ → DV) {vs : List Nat} {mi : IM} {ρ : DE} {t : GM} {tt : BM} {te : EM} {c : Option Nat} {μ0 μ : DM} (hi : mi ρ μ0 = .ok (L.map enc, c) μ) (hc : okAt c (L.map enc) μ = true) (hl : L.length ≤ LIM)
    (h : ∀ x ∈ L, ∃ ρ1, t (enc x) (wipeD ρ vs) μ = some ρ1 ∧ tt ρ1 μ = .ok (p x) μ ∧ (p x = true → te ρ1 μ = .ok (g x) μ)) : mLc vs mi t tt te ρ μ0 = .ok ((L.filter p).map g) μ := by
  unfold mLc
  rw [hi, DR.bind_ok, lc_go hc L [] (by simpa using hl) h, List.nil_append]
theorem lc_map {γ : Type} (enc : γ → DV) (L : List γ) (g : γ → DV) {vs : List Nat} {mi : IM} {ρ : DE} {t : GM} {te : EM} {c : Option Nat} {μ0 μ : DM} (hi : mi ρ μ0 = .ok (L.map enc, c) μ) (hc : okAt c (L.map enc) μ = true) (hl : L.length ≤ LIM)
    (h : ∀ x ∈ L, ∃ ρ1, t (enc x) (wipeD ρ vs) μ = some ρ1 ∧ te ρ1 μ = .ok (g x) μ) : mLc vs mi t mYes te ρ μ0 = .ok (L.map g) μ := by
  rw [lc_eq enc L (fun _ => true) g hi hc hl fun x hx => by
    obtain ⟨ρ1, h1, h2⟩ := h x hx
    exact ⟨ρ1, h1, rfl, fun _ => h2⟩]
  rw [List.filter_eq_self.mpr fun _ _ => rfl]
/-- a comprehension with a part of the store that is changed -/
theorem lc_inv {Q : List DV → DM → Prop} {E : DX → DM → Prop} (I : List DV → List DV → DM → Prop) {s : Src} {ρ : DE} {t : GM} {tt : BM} {te : EM} (hok : ∀ l acc μ, I l acc μ → okAt s.2 s.1 μ = true ∧ acc.length + l.length ≤ LIM)
    (h : ∀ x l acc μ, I (x :: l) acc μ → ∃ ρ1, t x ρ μ = some ρ1 ∧ OkE (fun b μ => if b = true then OkE (fun y μ => I l (acc ++ [y]) μ) NoX (te ρ1 μ) else I l acc μ) NoX (tt ρ1 μ)) (hf : ∀ acc μ, I [] acc μ → Q acc μ) : ∀ (l acc : List DV) (μ : DM), I l acc μ → OkE Q E (mLc.go t tt te s ρ l acc μ)
  | [], acc, μ, i => by
    rw [mLc.go, if_pos (hok _ _ _ i).1]
    exact hf _ _ i
  | x :: l, acc, μ, i => by
    obtain ⟨o1, o2⟩ := hok _ _ _ i
    rw [mLc.go, if_pos ⟨o1, by simp at o2; omega⟩]
    obtain ⟨ρ1, h1, h2⟩ := h x l acc μ i
    rw [h1]
    simp only [okE_bind, okE_noex]
    refine h2.to fun b μ1 q => ?_
    cases b with
    | true =>
      simp only [if_pos, okE_bind, okE_noex] at q ⊢
      exact q.to fun y μ2 j => lc_inv I hok h hf l _ _ j
    | false =>
      simp only [Bool.false_eq_true, if_false] at q ⊢
      exact lc_inv I hok h hf l _ _ q
/-- a for -/
theorem for_inv {P : EP} (I : List DV → DE → DM → Prop) {s : Src} {t : GM} {b : SM} (hok : ∀ l ρ μ, I l ρ μ → okAt s.2 s.1 μ = true)
    (h : ∀ x l ρ μ, I (x :: l) ρ μ → ∃ ρ1, t x ρ μ = some ρ1 ∧ OkS { nx := fun ρ μ => I l ρ μ, ct := fun ρ μ => I l ρ μ, bk := P.nx, rt := P.rt, ex := P.ex } (b ρ1 μ)) (hf : ∀ ρ μ, I [] ρ μ → P.nx ρ μ) : ∀ (l : List DV) (ρ : DE) (μ : DM), I l ρ μ → OkS P (sFor.go t b s l ρ μ)
  | [], ρ, μ, i => by
    rw [sFor.go]
    show OkS P (if okAt s.2 s.1 μ = true then .nx ρ μ else .bad)
    rw [if_pos (hok _ _ _ i)]
    exact hf _ _ i
  | x :: l, ρ, μ, i => by
    rw [sFor.go]
    obtain ⟨ρ1, h1, h2⟩ := h x l ρ μ i
    simp only [if_pos (hok _ _ _ i), h1]
    cases q : b ρ1 μ with
    | nx ρ2 μ2 => rw [q] at h2; exact for_inv I hok h hf l _ _ h2
    | ct ρ2 μ2 => rw [q] at h2; exact for_inv I hok h hf l _ _ h2
    | bk ρ2 μ2 => rw [q] at h2; exact h2
    | rt v μ2 => rw [q] at h2; exact h2
    | ex e ρ2 μ2 => rw [q] at h2; exact h2
    | bad => rw [q] at h2; exact h2.elim
/-- a for that leaves the store as it is -/
theorem for_ind {γ : Type} {enc : γ → DV} {s : Src} {t : GM} {b : SM} {μ : DM} (R : List γ → DE → Prop) (hok : okAt s.2 s.1 μ = true) (h : ∀ x l ρ, R (x :: l) ρ → ∃ ρ1 ρ2, t (enc x) ρ μ = some ρ1 ∧ b ρ1 μ = .nx ρ2 μ ∧ R l ρ2) : ∀ (L : List γ) (ρ : DE), R L ρ → ∃ ρ', sFor.go t b s (L.map enc) ρ μ = .nx ρ' μ ∧ R [] ρ'
  | [], ρ, r => ⟨ρ, by simp [sFor.go, hok], r⟩
  | x :: l, ρ, r => by
    obtain ⟨ρ1, ρ2, h1, h2, r2⟩ := h x l ρ r
    obtain ⟨ρ', h3, r3⟩ := for_ind R hok h l ρ2 r2
    refine ⟨ρ', ?_, r3⟩
    rw [List.map_cons, sFor.go]
    simp only [if_pos hok, h1, h2, h3]
/-- a while: a number goes down -/
theorem while_inv {P : EP} (I : Nat → DE → DM → Prop) {t : BM} {b : SM}
    (h : ∀ n ρ μ, I n ρ μ → OkE (fun c μ => if c = true then OkS { nx := fun ρ μ => ∃ m, m < n ∧ I m ρ μ, ct := fun ρ μ => ∃ m, m < n ∧ I m ρ μ, bk := P.nx, rt := P.rt, ex := P.ex } (b ρ μ) else P.nx ρ μ) (fun e μ => P.ex e ρ μ) (t ρ μ)) : ∀ (k n : Nat) (ρ : DE) (μ : DM), n < k → I n ρ μ → OkS P (sWhile t b k ρ μ)
  | 0, n, ρ, μ, hn, i => by omega
  | k + 1, n, ρ, μ, hn, i => by
    rw [sWhile, okS_st]
    refine (h n ρ μ i).mono (fun c μ1 q => ?_) fun e μ q => q
    cases c with
    | false => simpa using q
    | true =>
      simp only [if_pos] at q ⊢
      cases e : b ρ μ1 with
      | nx ρ2 μ2 =>
        rw [e] at q
        obtain ⟨m, hm, j⟩ := q
        exact while_inv I h k m _ _ (by omega) j
      | ct ρ2 μ2 =>
        rw [e] at q
        obtain ⟨m, hm, j⟩ := q
        exact while_inv I h k m _ _ (by omega) j
      | bk ρ2 μ2 => rw [e] at q; exact q
      | rt v μ2 => rw [e] at q; exact q
      | ex x ρ2 μ2 => rw [e] at q; exact q
      | bad => rw [e] at q; exact q.elim
/-! ### the parts, laid open -/
section
variable {ρ : DE} {μ : DM}
@[simp] theorem x_var {i : Nat} {v : DV} (h : ρ[i]? = some (some v)) : mVar i ρ μ = .ok v μ := by unfold mVar; rw [h]
@[simp] theorem x_c {v : DV} : mC v ρ μ = .ok v μ := rfl
@[simp] theorem x_nil : mNil ρ μ = .ok [] μ := rfl
@[simp] theorem x_cons {m : EM} {ms : LM} : mCons m ms ρ μ = (m ρ μ).bind fun v μ => (ms ρ μ).bind fun vs μ => .ok (v :: vs) μ := rfl
@[simp] theorem x_op {g : DV → DV → DM → DR DV} {a b : EM} : mOp g a b ρ μ = (a ρ μ).bind fun u μ => (b ρ μ).bind fun v μ => (g u v μ).noex := rfl
@[simp] theorem x_bl {m : EM} : mBl m ρ μ = (m ρ μ).bind asBl := rfl
@[simp] theorem x_tru {m : EM} : mTru m ρ μ = (m ρ μ).bind DV.truth := rfl
@[simp] theorem asBl_bl {b : Bool} : asBl (.bl b) μ = .ok b μ := rfl
@[simp] theorem truth_bl {b : Bool} : DV.truth (.bl b) μ = .ok b μ := rfl
@[simp] theorem truth_int {b : Int} : DV.truth (.int b) μ = .ok (b != 0) μ := rfl
@[simp] theorem truth_tup {xs : List DV} : DV.truth (.tup xs) μ = .ok (!xs.isEmpty) μ := rfl
@[simp] theorem x_and {a b : BM} : mAnd a b ρ μ = (a ρ μ).bind fun c μ => if c = true then b ρ μ else .ok false μ := rfl
@[simp] theorem x_or {a b : BM} : mOr a b ρ μ = (a ρ μ).bind fun c μ => if c = true then .ok true μ else b ρ μ := rfl
@[simp] theorem x_not {a : BM} : mNot a ρ μ = (a ρ μ).bind fun c μ => .ok (!c) μ := rfl
@[simp] theorem x_andV {a b : EM} : mAndV a b ρ μ = (mBl a ρ μ).bind fun c μ => if c = true then b ρ μ else .ok (.bl false) μ := rfl
@[simp] theorem x_orV {a b : EM} : mOrV a b ρ μ = (mBl a ρ μ).bind fun c μ => if c = true then .ok (.bl true) μ else b ρ μ := rfl
@[simp] theorem x_notV {a : EM} : mNotV a ρ μ = (mBl a ρ μ).bind fun c μ => .ok (.bl (!c)) μ := rfl
@[simp] theorem x_if {t : BM} {a b : EM} : mIf t a b ρ μ = (t ρ μ).bind fun c μ => if c = true then a ρ μ else b ρ μ := rfl
@[simp] theorem x_tup {ms : LM} : mTup ms ρ μ = (ms ρ μ).bind fun vs μ => if vs.length ≤ LIM then .ok (.tup vs) μ else .bad := rfl
@[simp] theorem x_keep {ms : LM} : mKeep ms ρ μ = (ms ρ μ).bind fun vs μ => .ok (.ref μ.length) (μ ++ [.lst vs]) := rfl
@[simp] theorem x_lst {ms : LM} : mLst ms ρ μ = (ms ρ μ).bind fun vs μ => if vs.length ≤ LIM then .ok vs μ else .bad := rfl
@[simp] theorem x_call {n : Nat} {f : Fn} {ms : LM} : mCall n f ms ρ μ = (ms ρ μ).bind fun ds μ => if ds.length = n then f ds μ else .bad := rfl
@[simp] theorem x_chain {g g' : DV → DV → DM → DR DV} {a b c : EM} : mChain g g' a b c ρ μ = (a ρ μ).bind fun u μ => (b ρ μ).bind fun v μ => (g u v μ).noex.bind fun z μ => (asBl z μ).bind fun k μ => if k = true then (c ρ μ).bind fun w μ => (g' v w μ).noex else .ok (.bl false) μ := by
  unfold mChain
  rfl
@[simp] theorem x_neg {m : EM} : mNeg m ρ μ = (m ρ μ).bind fun v μ => match v with
  | .int i => .ok (.int (-i)) μ
  | _ => .bad := rfl
@[simp] theorem x_int {m : EM} : mInt m ρ μ = (m ρ μ).bind fun v μ => match v with
  | .int i => .ok (.int i) μ
  | .bl k => .ok (.int (if k then 1 else 0)) μ
  | _ => .bad := rfl
@[simp] theorem x_abs {m : EM} : mAbs m ρ μ = (m ρ μ).bind fun v μ => match v with
  | .int i => .ok (.int (if i < 0 then -i else i)) μ
  | _ => .bad := rfl
@[simp] theorem x_gcd {m n : EM} : mGcd m n ρ μ = (m ρ μ).bind fun v μ => (n ρ μ).bind fun u μ => match v, u with
  | .int i, .int j => .ok (.int ((Nat.gcd i.natAbs j.natAbs : Nat) : Int)) μ
  | _, _ => .bad := rfl
@[simp] theorem x_len {m : EM} : mLen m ρ μ = (m ρ μ).bind fun v μ => match v.seq μ with
  | some xs => .ok (.int xs.length) μ
  | none => .bad := rfl
@[simp] theorem x_tupOf {m : EM} : mTupOf m ρ μ = (m ρ μ).bind fun v μ => match v.seq μ with
  | some xs => .ok (.tup xs) μ
  | none => .bad := rfl
@[simp] theorem x_tupF {m : LM} : mTupF m ρ μ = (m ρ μ).bind fun xs μ => .ok (.tup xs) μ := rfl
@[simp] theorem x_listOf {m : EM} : mListOf m ρ μ = (m ρ μ).bind fun v μ => match v.seq μ with
  | some xs => .ok xs μ
  | none => .bad := rfl
@[simp] theorem x_l1F {g : List DV → DM → DR DV} {m : LM} : mL1F g m ρ μ = (m ρ μ).bind fun xs μ => (g xs μ).noex := rfl
@[simp] theorem x_isi {T : String} {m : EM} : mIsi T m ρ μ = (m ρ μ).bind fun v μ => match v with
  | .ref n => if n < μ.length then .ok (.bl (isTy T (tyAt μ n))) μ else .bad
  | v => .ok (.bl (isOf T v)) μ := rfl
@[simp] theorem g_len {xs : List DV} : gLen xs μ = .ok (.int xs.length) μ := rfl
theorem blsOf_mapf {γ : Type} (f : γ → Bool) : ∀ L : List γ, blsOf (L.map fun x => .bl (f x)) = some (L.map f)
  | [] => rfl
  | x :: L => by simp [blsOf, blsOf_mapf f L]
@[simp] theorem g_all {γ : Type} {f : γ → Bool} {L : List γ} : gAll (L.map fun x => .bl (f x)) μ = .ok (.bl (L.all f)) μ := by
  unfold gAll
  rw [blsOf_mapf]
  simp [List.all_map, Function.comp_def]
@[simp] theorem g_any {γ : Type} {f : γ → Bool} {L : List γ} : gAny (L.map fun x => .bl (f x)) μ = .ok (.bl (L.any f)) μ := by
  unfold gAny
  rw [blsOf_mapf]
  simp [List.any_map, Function.comp_def]
@[simp] theorem gI_int {C : Int → Int → Prop} [∀ i j, Decidable (C i j)] {g : Int → Int → DV} {i j : Int} : gI C g (.int i) (.int j) μ = if C i j then .ok (g i j) μ else .bad := rfl
@[simp] theorem CT_true {i j : Int} : CT i j ↔ True := Iff.rfl
@[simp] theorem gAdd_int {i j : Int} : gAdd (.int i) (.int j) μ = .ok (.int (i + j)) μ := rfl
@[simp] theorem gAdd_tup {xs ys : List DV} : gAdd (.tup xs) (.tup ys) μ = if xs.length + ys.length ≤ LIM then .ok (.tup (xs ++ ys)) μ else .bad := rfl
@[simp] theorem gMul_tup {xs : List DV} {k : Int} : gMul (.tup xs) (.int k) μ = if -1000 ≤ k ∧ k ≤ 1000 ∧ xs.length ≤ 1000 then .ok (.tup (List.replicate k.toNat xs).flatten) μ else .bad := rfl
@[simp] theorem gMul_int {i j : Int} : gMul (.int i) (.int j) μ = if CMw i j then .ok (.int (i * j)) μ else .bad := rfl
@[simp] theorem seq_tup {xs : List DV} : (DV.tup xs).seq μ = some xs := rfl
@[simp] theorem seq_kl {xs : List DV} : (DV.kl xs).seq μ = some xs := rfl
theorem seq_ref {n : Nat} {xs : List DV} (h : μ[n]? = some (.lst xs)) : (DV.ref n).seq μ = some xs := by simp [DV.seq, h]
theorem lst_ref {n : Nat} {xs : List DV} (h : μ[n]? = some (.lst xs)) : (DV.ref n).lst μ = some xs := by simp [DV.lst, h]
@[simp] theorem gEq_int {neg : Bool} {i j : Int} : gEq neg (.int i) (.int j) μ = .ok (.bl (if neg then !(i == j) else i == j)) μ := by
  simp [gEq, rsv, rsW, DV.dp, dEq]
@[simp] theorem gEq_str {neg : Bool} {i j : String} : gEq neg (.str i) (.str j) μ = .ok (.bl (if neg then !(i == j) else i == j)) μ := by
  simp [gEq, rsv, rsW, DV.dp, dEq]
@[simp] theorem gEq_bl {neg : Bool} {i j : Bool} : gEq neg (.bl i) (.bl j) μ = .ok (.bl (if neg then !(i == j) else i == j)) μ := by
  simp [gEq, rsv, rsW, DV.dp, dEq]
theorem gIx_tup {xs : List DV} {i : Int} {x : DV} (h : atI xs i = some x) : gIx (.tup xs) (.int i) μ = .ok x μ := by simp [gIx, h]
theorem gIx_ref {n : Nat} {xs : List DV} {i : Int} {x : DV} (hn : μ[n]? = some (.lst xs)) (h : atI xs i = some x) : gIx (.ref n) (.int i) μ = .ok x μ := by simp [gIx, seq_ref hn, h]
theorem atI_nat {α : Type} {xs : List α} {k : Nat} : atI xs (k : Int) = xs[k]? := by
  unfold atI ixN
  rw [if_pos (by omega)]
  by_cases h : k < xs.length
  · rw [if_pos (by omega)]
    rfl
  · rw [if_neg (by omega), List.getElem?_eq_none (by omega)]
    rfl
theorem gIx_nat {xs : List DV} {k : Nat} {x : DV} (h : xs[k]? = some x) : gIx (.tup xs) (.int k) μ = .ok x μ := gIx_tup (atI_nat.trans h)
theorem gIx_refn {n : Nat} {xs : List DV} {k : Nat} {x : DV} (hn : μ[n]? = some (.lst xs)) (h : xs[k]? = some x) : gIx (.ref n) (.int k) μ = .ok x μ := gIx_ref hn (atI_nat.trans h)
@[simp] theorem gIx_0 {x : DV} {xs : List DV} : gIx (.tup (x :: xs)) (.int 0) μ = .ok x μ := gIx_nat (k := 0) rfl
@[simp] theorem gIx_1 {x y : DV} {xs : List DV} : gIx (.tup (x :: y :: xs)) (.int 1) μ = .ok y μ := gIx_nat (k := 1) rfl
@[simp] theorem gIx_2 {x y z : DV} {xs : List DV} : gIx (.tup (x :: y :: z :: xs)) (.int 2) μ = .ok z μ := gIx_nat (k := 2) rfl
@[simp] theorem x_sNil : sNil ρ μ = .nx ρ μ := rfl
@[simp] theorem x_sRet {m : EM} : sRet m ρ μ = (m ρ μ).st ρ fun v μ => .rt v μ := rfl
@[simp] theorem x_sRetN : sRetN ρ μ = .rt .non μ := rfl
@[simp] theorem x_sExpr {m : EM} : sExpr m ρ μ = (m ρ μ).st ρ fun _ μ => .nx ρ μ := rfl
@[simp] theorem x_sIf {t : BM} {a b : SM} : sIf t a b ρ μ = (t ρ μ).st ρ fun c μ => if c = true then a ρ μ else b ρ μ := rfl
@[simp] theorem x_sAsg {m : EM} {t : GM} : sAsg m t ρ μ = (m ρ μ).st ρ fun v μ => match t v ρ μ with
  | some ρ' => .nx ρ' μ
  | none => .bad := rfl
@[simp] theorem x_sPar {i j : Nat} {ms : LM} : sPar i j ms ρ μ = (ms ρ μ).st ρ fun vs μ => match vs with
  | [v, w] => if i < ρ.length ∧ j < ρ.length then .nx ((ρ.set i (some v)).set j (some w)) μ else .bad
  | _ => .bad := rfl
@[simp] theorem x_sPar3 {i j k : Nat} {ms : LM} : sPar3 i j k ms ρ μ = (ms ρ μ).st ρ fun vs μ => match vs with
  | [u, v, w] => if i < ρ.length ∧ j < ρ.length ∧ k < ρ.length then .nx (((ρ.set i (some u)).set j (some v)).set k (some w)) μ else .bad
  | _ => .bad := rfl
@[simp] theorem x_sSub {mo mi me : EM} : sSub mo mi me ρ μ = (me ρ μ).st ρ fun v μ => (mo ρ μ).st ρ fun u μ => (mi ρ μ).st ρ fun i μ => match u, i with
  | .ref n, .int k => match μ[n]? with
    | some (.lst xs) => match ixN xs.length k with
      | some j => .nx ρ (μ.set n (.lst (xs.set j v)))
      | none => .bad
    | _ => .bad
  | _, _ => .bad := rfl
@[simp] theorem x_append {mo mv : EM} : mAppend mo mv ρ μ = (mo ρ μ).bind fun u μ => match u.lst μ with
  | none => .bad
  | some _ => (mv ρ μ).bind fun v μ => match u with
    | .ref n => match μ[n]? with
      | some (.lst xs) => if xs.length < LIM then .ok .non (μ.set n (.lst (xs ++ [v]))) else .bad
      | _ => .bad
    | _ => .bad := rfl
theorem x_aug {g : DV → DV → DM → DR DV} {i : Nat} {me : EM} {u : DV} (h : ρ[i]? = some (some u)) : sAug g i me ρ μ = (me ρ μ).st ρ fun v μ => (g u v μ).noex.st ρ fun w μ => .nx (ρ.set i (some w)) μ := by
  unfold sAug
  rw [h]
theorem ixN_nat {n k : Nat} (h : k < n) : ixN n (k : Int) = some k := by
  unfold ixN
  rw [if_pos (by omega), if_pos (by omega)]
  rfl
@[simp] theorem x_sl {m : EM} {lo hi : DE → DM → DR (Option Int)} : mSl m lo hi ρ μ = (m ρ μ).bind fun v μ => (lo ρ μ).bind fun l μ => (hi ρ μ).bind fun h μ => match v with
  | .tup xs => .ok (.tup (cutD xs l h)) μ
  | .kl xs => .ok (.ref μ.length) (μ ++ [.lst (cutD xs l h)])
  | .ref n => match μ[n]? with
    | some (.lst xs) => .ok (.ref μ.length) (μ ++ [.lst (cutD xs l h)])
    | _ => .bad
  | _ => .bad := rfl
@[simp] theorem x_noP : mNoP ρ μ = .ok none μ := rfl
@[simp] theorem x_P {m : EM} : mP m ρ μ = (m ρ μ).bind fun v μ => match v with
  | .int i => .ok (some i) μ
  | _ => .bad := rfl
theorem cut_to {xs : List DV} {k : Nat} : cutD xs none (some (k : Int)) = xs.take k := by
  unfold cutD
  rw [HT.sIx_nat, HT.sIx_none, List.drop_zero, Nat.sub_zero]
  by_cases h : k ≤ xs.length
  · rw [Nat.min_eq_left h]
  · rw [Nat.min_eq_right (by omega), List.take_of_length_le (Nat.le_refl _), List.take_of_length_le (by omega)]
theorem cut_from {xs : List DV} {k : Nat} : cutD xs (some (k : Int)) none = xs.drop k := by
  unfold cutD
  rw [HT.sIx_nat, HT.sIx_none]
  by_cases h : k ≤ xs.length
  · rw [Nat.min_eq_left h, List.take_of_length_le (by simp)]
  · rw [Nat.min_eq_right (by omega), List.drop_of_length_le (Nat.le_refl _), List.drop_of_length_le (by omega), List.take_nil]
@[simp] theorem x_sSetF {m : LM} {i : Nat} : sSetF m i ρ μ = (m ρ μ).st ρ fun xs μ => if i < ρ.length then .nx (ρ.set i (some (.ref μ.length))) (μ ++ [.lst xs]) else .bad := rfl
@[simp] theorem x_sRaise {c : String} : sRaise c ρ μ = .ex { cls := c } ρ μ := rfl
@[simp] theorem x_seq {m n : SM} : sSeq m n ρ μ = (m ρ μ).thn n := rfl
@[simp] theorem thn_nx {n : SM} : (SR.nx ρ μ).thn n = n ρ μ := rfl
@[simp] theorem thn_rt {v : DV} {n : SM} : (SR.rt v μ).thn n = .rt v μ := rfl
@[simp] theorem thn_ex {e : DX} {n : SM} : (SR.ex e ρ μ).thn n = .ex e ρ μ := rfl
@[simp] theorem thn_bk {n : SM} : (SR.bk ρ μ).thn n = .bk ρ μ := rfl
@[simp] theorem thn_ct {n : SM} : (SR.ct ρ μ).thn n = .ct ρ μ := rfl
@[simp] theorem thn_bad {n : SM} : SR.bad.thn n = .bad := rfl
@[simp] theorem thn_ite {c : Prop} [Decidable c] {a b : SR} {n : SM} : (if c then a else b).thn n = if c then a.thn n else b.thn n := by split <;> rfl
@[simp] theorem bind_ite {α β : Type} {c : Prop} [Decidable c] {a b : DR α} {f : α → DM → DR β} : (if c then a else b).bind f = if c then a.bind f else b.bind f := by split <;> rfl
@[simp] theorem noex_ite {α : Type} {c : Prop} [Decidable c] {a b : DR α} : (if c then a else b).noex = if c then a.noex else b.noex := by split <;> rfl
@[simp] theorem st_ite {α : Type} {c : Prop} [Decidable c] {a b : DR α} {k : α → DM → SR} : (if c then a else b).st ρ k = if c then a.st ρ k else b.st ρ k := by split <;> rfl
@[simp] theorem st_bad {α : Type} {k : α → DM → SR} : (DR.bad : DR α).st ρ k = .bad := rfl
@[simp] theorem x_tgN {i : Nat} {x : DV} : tgN i x ρ μ = if i < ρ.length then some (ρ.set i (some x)) else none := rfl
@[simp] theorem x_tgNil {xs : List DV} : tgNil xs ρ μ = if xs = [] then some ρ else none := rfl
@[simp] theorem x_tgCons {t : GM} {u : GMs} {x : DV} {xs : List DV} : tgCons t u (x :: xs) ρ μ = (t x ρ μ).bind fun ρ1 => u xs ρ1 μ := rfl
@[simp] theorem x_tgTup {n : Nat} {t : GMs} {xs : List DV} : tgTup n t (.tup xs) ρ μ = if xs.length = n then t xs ρ μ else none := rfl
@[simp] theorem x_it {m : EM} : mIt m ρ μ = (m ρ μ).bind fun v μ => match v with
  | .tup xs => .ok (xs, none) μ
  | .kl xs => .ok (xs, none) μ
  | .ref n => match μ[n]? with
    | some (.lst xs) => .ok (xs, some n) μ
    | _ => .bad
  | _ => .bad := rfl
@[simp] theorem x_for {mi : IM} {t : GM} {b : SM} : sFor mi t b ρ μ = (mi ρ μ).st ρ fun s μ => sFor.go t b s s.1 ρ μ := rfl
def rgS (a b : Int) (μ : DM) : DR Src := if RgO a b then .ok (rgD a b, none) μ else .bad
theorem rgS_ok {a b : Int} (h : RgO a b) : rgS a b μ = .ok (rgD a b, none) μ := by unfold rgS; rw [if_pos h]
@[simp] theorem x_rg1 {m : EM} : mItR1 m ρ μ = (m ρ μ).bind fun v μ => match v with
  | .int n => rgS 0 n μ
  | _ => .bad := by
  unfold mItR1
  cases m ρ μ with
  | ok v μ => cases v <;> first | rfl | (unfold rgS; rfl)
  | _ => rfl
@[simp] theorem x_rg2 {m n : EM} : mItR2 m n ρ μ = (m ρ μ).bind fun v μ => (n ρ μ).bind fun u μ => match v, u with
  | .int a, .int b => rgS a b μ
  | _, _ => .bad := by
  unfold mItR2
  cases m ρ μ with
  | ok v μ => cases v <;> first | rfl | (rw [DR.bind_ok, DR.bind_ok]; cases n ρ μ with
    | ok u μ => cases u <;> first | rfl | (unfold rgS; rfl)
    | _ => rfl)
  | _ => rfl
theorem RgO_nat {a b : Nat} (h : b ≤ 1000000) (ha : a ≤ 1000000) : RgO (a : Int) (b : Int) := by
  show (Nat.ble a 10000000 && Nat.ble b 10000000) = true
  rw [Bool.and_eq_true, Nat.ble_eq, Nat.ble_eq]
  omega
theorem rgD_nat {a b : Nat} : rgD (a : Int) (b : Int) = (List.range' a (b - a)).map fun i : Nat => DV.int (i : Int) := by
  unfold rgD
  rw [List.range'_eq_map_range, List.map_map, show ((b : Int) - (a : Int)).toNat = b - a from by omega]
  rfl
theorem rgS_nat {a b : Nat} (h : b ≤ 1000000) (ha : a ≤ 1000000) : rgS (a : Int) (b : Int) μ = .ok ((List.range' a (b - a)).map fun i : Nat => DV.int (i : Int), none) μ := by
  rw [rgS_ok (RgO_nat h ha), rgD_nat]
@[simp] theorem rgS_0 {b : Nat} (h : b ≤ 1000000) : rgS 0 (b : Int) μ = .ok ((List.range b).map fun i : Nat => DV.int (i : Int), none) μ := by
  have := rgS_nat (μ := μ) (a := 0) h (Nat.zero_le _)
  rw [Nat.sub_zero, ← List.range_eq_range'] at this
  exact this
@[simp] theorem x_itF {m : LM} : mItF m ρ μ = (m ρ μ).bind fun xs μ => .ok (xs, none) μ := rfl
@[simp] theorem LIM_le {n : Nat} : (n ≤ LIM) = (n ≤ 16777216) := rfl
@[simp] theorem LIM_lt {n : Nat} : (n < LIM) = (n < 16777216) := rfl
end
end Md

namespace Md
open PySem L2
/-! ## fractions -/
def FR (q : Rat) : DV := .tup [.int q.num, .int q.den]
structure Sz (k : Nat) (q : Rat) : Prop where
  num : q.num.natAbs < 2 ^ k
  den : q.den < 2 ^ k
theorem Sz.mono {k l : Nat} {q : Rat} (h : Sz k q) (hl : k ≤ l) : Sz l q := ⟨Nat.lt_of_lt_of_le h.num (Nat.pow_le_pow_right (by omega) hl), Nat.lt_of_lt_of_le h.den (Nat.pow_le_pow_right (by omega) hl)⟩
theorem log2_le {n a : Nat} (h : n < 2 ^ a) : n.log2 ≤ a := by
  by_cases h0 : n = 0
  · subst h0; simp
  · exact Nat.le_of_lt ((Nat.log2_lt h0).mpr h)
theorem CMw_of {i j : Int} {a b : Nat} (hi : i.natAbs < 2 ^ a) (hj : j.natAbs < 2 ^ b) (h : a + b < 1000000) : CMw i j := by
  have := log2_le hi
  have := log2_le hj
  unfold CMw
  omega
theorem CMw_den {p q : Rat} {a b : Nat} (hp : Sz a p) (hq : Sz b q) (h : a + b < 1000000) : CMw p.num (q.den : Int) ∧ CMw q.num (p.den : Int) ∧ CMw (p.den : Int) (q.den : Int) :=
  ⟨CMw_of hp.num (by simpa using hq.den) h, CMw_of hq.num (by simpa using hp.den) (by omega), CMw_of (by simpa using hp.den) (by simpa using hq.den) h⟩
theorem CDv_of {i : Int} {n a : Nat} (h0 : 0 < n) (h : n < 2 ^ a) (ha : a < 9000) : CDv i (n : Int) := by
  have := log2_le h
  exact ⟨by omega, by simpa using Nat.lt_of_le_of_lt this ha⟩
theorem norm_num {n : Int} {d : Nat} (h : d ≠ 0) : (Rat.normalize n d h).num = n / ((Nat.gcd n.natAbs d : Nat) : Int) ∧ (Rat.normalize n d h).den = d / Nat.gcd n.natAbs d := by
  rw [Rat.normalize_eq]
  exact ⟨rfl, rfl⟩
theorem norm_sz {n : Int} {d k : Nat} (h : d ≠ 0) (hn : n.natAbs < 2 ^ k) (hd : d < 2 ^ k) : Sz k (Rat.normalize n d h) := by
  obtain ⟨e1, e2⟩ := norm_num (n := n) h
  have hg : 0 < Nat.gcd n.natAbs d := Nat.gcd_pos_of_pos_right _ (Nat.pos_of_ne_zero h)
  refine ⟨?_, ?_⟩
  · rw [e1]
    refine Nat.lt_of_le_of_lt ?_ hn
    exact Int.natAbs_ediv_le_natAbs _ _
  · rw [e2]
    exact Nat.lt_of_le_of_lt (Nat.div_le_self _ _) hd
theorem Sz.mulI {i j : Int} {a b : Nat} (hi : i.natAbs < 2 ^ a) (hj : j.natAbs < 2 ^ b) : (i * j).natAbs < 2 ^ (a + b) := by
  rw [Int.natAbs_mul, Nat.pow_add]
  exact Nat.mul_lt_mul_of_lt_of_le hi (Nat.le_of_lt hj) (Nat.lt_of_le_of_lt (Nat.zero_le _) hj)
theorem Sz.addI {i j : Int} {a : Nat} (hi : i.natAbs < 2 ^ a) (hj : j.natAbs < 2 ^ a) : (i + j).natAbs < 2 ^ (a + 1) := by
  rw [Nat.pow_succ]
  omega
theorem Sz.add {p q : Rat} {a b : Nat} (hp : Sz a p) (hq : Sz b q) : Sz (a + b + 1) (p + q) := by
  rw [Rat.add_def]
  refine norm_sz _ (Sz.addI (Sz.mulI hp.num (by simpa using hq.den)) (by rw [Nat.add_comm a b]; exact Sz.mulI hq.num (by simpa using hp.den))) ?_
  have := Sz.mulI (i := p.den) (j := q.den) (by simpa using hp.den) (by simpa using hq.den)
  rw [Nat.pow_succ]
  simp [Int.natAbs_mul] at this
  omega
theorem Sz.neg {p : Rat} {a : Nat} (hp : Sz a p) : Sz a (-p) := ⟨by rw [Rat.neg_num]; simpa using hp.num, by rw [Rat.neg_den]; exact hp.den⟩
theorem Sz.sub {p q : Rat} {a b : Nat} (hp : Sz a p) (hq : Sz b q) : Sz (a + b + 1) (p - q) := by
  rw [Rat.sub_eq_add_neg]
  exact hp.add hq.neg
theorem Sz.mul {p q : Rat} {a b : Nat} (hp : Sz a p) (hq : Sz b q) : Sz (a + b) (p * q) := by
  rw [Rat.mul_def]
  refine norm_sz _ (Sz.mulI hp.num hq.num) ?_
  have := Sz.mulI (i := p.den) (j := q.den) (by simpa using hp.den) (by simpa using hq.den)
  simpa [Int.natAbs_mul] using this
theorem Sz.zero : Sz 1 0 := ⟨by decide, by decide⟩
theorem Sz.one : Sz 1 1 := ⟨by decide, by decide⟩
theorem FR_zero : FR 0 = .tup [.int 0, .int 1] := rfl
theorem FR_one : FR 1 = .tup [.int 1, .int 1] := rfl
@[simp] theorem FR_ix0 {q : Rat} {μ : DM} : gIx (FR q) (.int 0) μ = .ok (.int q.num) μ := gIx_0
@[simp] theorem FR_ix1 {q : Rat} {μ : DM} : gIx (FR q) (.int 1) μ = .ok (.int q.den) μ := gIx_1
theorem FR_pure {q : Rat} : (FR q).pure = true := rfl
theorem FR_inj {p q : Rat} : FR p = FR q ↔ p = q := by
  constructor
  · intro h
    simp only [FR, DV.tup.injEq, List.cons.injEq, DV.int.injEq] at h
    exact Rat.ext h.1 (by omega)
  · intro h; rw [h]
theorem FR_dEq {p q : Rat} : dEq (FR p) (FR q) = decide (p = q) := by
  simp only [FR, dEq, dEqL]
  by_cases h : p = q
  · subst h; simp
  · simp only [h, decide_false]
    by_cases h1 : p.num = q.num
    · have : ¬ p.den = q.den := fun h2 => h (Rat.ext h1 h2)
      simp; omega
    · simp [h1]
@[simp] theorem FR_eq {neg : Bool} {p q : Rat} {μ : DM} : gEq neg (FR p) (FR q) μ = .ok (.bl (if neg then !decide (p = q) else decide (p = q))) μ := by
  have h1 : ∀ q : Rat, rsv μ (FR q) = some (FR q) := fun q => rfl
  have h2 : ∀ q : Rat, (FR q).dp = 1 := fun q => rfl
  simp [gEq, h1, h2, FR_dEq]
/-! ### the turns of the old way to a common part -/
def euM (a b : Nat) : Nat := if b = 0 then 0 else 1 + (a * b).log2 + if a < b then 1 else 0
theorem euM_lt {a b : Nat} (hb : 0 < b) : euM b (a % b) < euM a b := by
  have hr : a % b < b := Nat.mod_lt _ hb
  unfold euM
  rw [if_neg (show ¬ b = 0 by omega), if_neg (show ¬ b < a % b by omega)]
  split
  · omega
  · rename_i h0
    by_cases h : a < b
    · rw [if_pos h, Nat.mod_eq_of_lt h, Nat.mul_comm b a]
      omega
    · have h2 : b + a % b ≤ a := by
        have e := Nat.div_add_mod a b
        have : b * 1 ≤ b * (a / b) := Nat.mul_le_mul (Nat.le_refl _) ((Nat.le_div_iff_mul_le hb).mpr (by omega))
        omega
      have p0 : b * (a % b) ≠ 0 := Nat.mul_ne_zero (by omega) h0
      have p1 : a * b ≠ 0 := Nat.mul_ne_zero (by omega) (by omega)
      have : (b * (a % b)).log2 + 1 ≤ (a * b).log2 := by
        rw [Nat.le_log2 p1, Nat.pow_succ]
        have h3 := Nat.log2_self_le p0
        have h4 : b * (2 * (a % b)) ≤ b * a := Nat.mul_le_mul (Nat.le_refl _) (by omega)
        have h5 : b * (2 * (a % b)) = b * (a % b) * 2 := by rw [Nat.mul_comm 2, ← Nat.mul_assoc]
        have h6 : b * a = a * b := Nat.mul_comm _ _
        omega
      omega
theorem euM_le {a b k l : Nat} (ha : a < 2 ^ k) (hb : b < 2 ^ l) : euM a b ≤ k + l + 2 := by
  have h1 : a * b < 2 ^ (k + l) := by
    rw [Nat.pow_add]
    exact Nat.mul_lt_mul_of_lt_of_le ha (Nat.le_of_lt hb) (Nat.lt_of_le_of_lt (Nat.zero_le _) hb)
  have := log2_le h1
  unfold euM
  split
  · omega
  · split <;> omega
theorem fmod_nat {a b : Nat} : (a : Int).fmod (b : Int) = ((a % b : Nat) : Int) := by
  rw [Int.fmod_eq_emod_of_nonneg _ (by omega)]
  rfl
end Md

namespace Md
open PySem PySem.Spec PyProof.Rows L2
/-! ## enumerate of a list, of a tuple -/
theorem meets_enum1 {v : Value} {o : Obj} {H : Heap → Prop} (B : Begins v o H) :
    Meets (Builtin.«enumerate.__new__» ⟨[.type "enumerate", v], []⟩) (fun _ R s => H s.heap ∧
      R (.ok (.ret (.ref (s.heap.push o).objs.size))) { s with heap := (s.heap.push o).push { cls := .type "enumerate", data := .fields #[.none, .bool false, .ref s.heap.objs.size, rawInt 0, .none, .none] } }) :=
  .of_wp fun prog w A R s h => by
    obtain ⟨hp, g, d, tk, os⟩ := s; obtain ⟨h1, h⟩ := h
    have hsub := sub_enumerate
    have q1 : ∀ {A' : Around} {E : Value → Shared → Prop} {Q : Value → Shared → Prop}, Q (.ref hp.objs.size) ⟨hp.push o, g, d, tk, os⟩ → wpAny (model prog w) A' (pyIter v) Q E ⟨hp, g, d, tk, os⟩ :=
      fun q => B.iter prog w _ _ ⟨hp, g, d, tk, os⟩ _ h1 q
    wp_walk using q1
    refine wpAny_stack_any fun st => wpAny_pure ?_
    split
    · rename_i c _ _ _ _ _
      cases (c == Value.type "enumerate")
      · wp_walk using q1
        exact ⟨_, rfl, h⟩
      · wp_walk using q1
        exact ⟨_, rfl, h⟩
    · wp_walk using q1
      exact ⟨_, rfl, h⟩
theorem call_enumT {prog : Program} {w : World} {A : Around} {E : Value → Shared → Prop} {s : Shared} {l : Addr} {items : Array Value} {Q : Value → Shared → Prop} (hL : s.heap.IsTuple l items)
    (h : ∀ h', IsEnum h' (s.heap.objs.size + 1) s.heap.objs.size 0 .none → h'.IsTupleIter s.heap.objs.size l 0 → h'.objs.size = s.heap.objs.size + 2 →
      (∀ b o, s.heap.get? b = some o → h'.get? b = some o) → Q (.ref (s.heap.objs.size + 1)) { s with heap := h' }) :
    wpAny (model prog w) A (call (.type "enumerate") [.ref l]) Q E s := by
  refine callType_new F.called_enumerate (by decide) (F.typeCall_enumerate_1 _) (F.newCall_enumerate_1 _) (fun obj => F.args_object_init_2 obj _) F.entry_enumerate_new
    (meets_enum1 (begins_tuple l items)) ⟨hL, ?_⟩
  have hz : (s.heap.push { cls := .type "tuple_iterator", data := .fields #[.ref l, .int 0 0] }).objs.size = s.heap.objs.size + 1 := Heap.size_push ..
  show _ ∧ _
  rw [hz]
  have he : IsEnum ((s.heap.push { cls := .type "tuple_iterator", data := .fields #[.ref l, .int 0 0] }).push
      { cls := .type "enumerate", data := .fields #[.none, .bool false, .ref s.heap.objs.size, rawInt 0, .none, .none] }) (s.heap.objs.size + 1) s.heap.objs.size 0 .none := by
    have := Heap.get?_push_size (s.heap.push { cls := .type "tuple_iterator", data := .fields #[.ref l, .int 0 0] })
      (o := { cls := .type "enumerate", data := .fields #[.none, .bool false, .ref s.heap.objs.size, rawInt 0, .none, .none] }) rfl
    rw [hz] at this; exact this
  refine ⟨⟨_, he, rfl⟩, h _ he ⟨_, Heap.get?_push_of_some _ (Heap.get?_push_size _ rfl), rfl, rfl⟩ (by rw [Heap.size_push, hz]) fun b o x => Heap.get?_push_of_some _ (Heap.get?_push_of_some _ x)⟩
theorem enum_endT {prog : Program} {w : World} {A : Around} {E : Value → Shared → Prop} {s : Shared} {e it l : Addr} {c : Int} {i : Nat} {items : Array Value} {old : Value} {Q : Option Value → Shared → Prop} (hh : A.handled = none)
    (he : IsEnum s.heap e it c old) (hit : s.heap.IsTupleIter it l i) (hl : s.heap.IsTuple l items) (hx : items[i]? = none)
    (hQ : ∀ h', Heap.ExtBut it s.heap h' → Q none { s with heap := h' }) : wpAny (model prog w) A (pyNext (.ref e)) Q E s := by
  have hT : s.TypeIs (.ref e) "enumerate" := ⟨_, he, rfl⟩
  unfold pyNext
  refine wpAny_bind (wpAny_attempt (wpAny_callSpecial?_slot (name := Str.ofString "__next__") hT F.slot_enumerate_next
    (wpAny_call_entry F.slot_enumerate_next hT F.entry_enumerate_next ?_ (F.args_enumerate_next_1 _))))
  show wpAny _ _ (field (.ref e) 2 >>= _) _ _ _
  refine wpAny_bind (wpAny_field he rfl (x := .ref it) rfl ?_)
  refine wpAny_bind (wpAny_nextOf_tuple_end hh hit hl hx fun h' x he' hx' => ?_)
  obtain ⟨o, ho, hc⟩ := hx'
  refine wpAny_bind (wpAny_isInstance (T := "StopIteration") (b := true) ⟨o, ho, hc⟩ isSubtype_stop ?_)
  exact wpAny_pure (hQ _ he')
/-- the tuple at a, each item in a new pair -/
def IteT (K : PySem.W.Frag) (a : Addr) : It :=
  ⟨fun i H => ∃ (xs : List V) (x : V), SqT K H a xs ∧ xs[i]? = some x,
    fun i H v H' => ∃ T x, v = .ref T ∧ H T = none ∧ H' = upd H T (.tup [.int (i : Nat), x]) ∧ ∀ xs, SqT K H a xs → xs[i]? = some x,
    fun i H => ∃ xs : List V, SqT K H a xs ∧ xs.length ≤ i⟩
theorem turn_enumT {P : Program} {w : World} {K : PySem.W.Frag} {elts : List Expr} {kk : Nat} {tpos : Pos} (a e it : Addr) (ha : a ≠ it) (hae : e ≠ a) :
    Turn P w K (.Tuple elts kk tpos) (IteT K a) [e, it] e (fun i h => (∃ old, IsEnum h e it ((i : Nat) : Int) old) ∧ h.IsTupleIter it a i ∧ e ≠ it) where
  mem := by simp
  obj := fun i h st b hb => by
    obtain ⟨⟨old, he⟩, ⟨o, ho, hc, hd⟩, _⟩ := st
    have e' : b = e ∨ b = it := by simpa using hb
    rcases e' with z | z
    · rw [z]; exact ⟨_, he, fun v q => nomatch q⟩
    · rw [z]; exact ⟨o, ho, fun v q => by rw [hd] at q; cases q⟩
  keep := fun i h h' st k => let ⟨⟨old, he⟩, hi, hne⟩ := st; ⟨⟨old, k e (by simp) _ he⟩, hi.at fun o q => k it (by simp) o q, hne⟩
  item := by
    intro X hP hw hK hc i pins s σ H E I hf st hg
    subst hP hw hK
    obtain ⟨⟨old, he⟩, hit, hne⟩ := st
    obtain ⟨xs, x, hq, hx⟩ := hg
    obtain ⟨its, rv, p, hz⟩ := I.tuple hq
    obtain ⟨u, hu, ru⟩ := rv.get hx
    have hel : e < s.heap.objs.size := Heap.lt_size he
    have hil : it < s.heap.objs.size := by obtain ⟨_, q, _⟩ := hit; exact Heap.lt_size q
    have hil2 : i < its.toArray.size := by
      have := (List.getElem?_eq_some_iff.mp hu).1
      simpa using this
    have D := Draws.tuple (prog := X.prog) (w := X.w) (A := X.A.in1) (show X.A.in1.handled = none from I.ok.hd hc) it a ha its.toArray
    refine wpAny_pyNext_enum_itemC (c := ((i : Nat) : Int)) D he ⟨hit, p⟩ hil2 hne (by simp; exact ⟨hne, hae⟩) fun y h' tk hy ho hs' hT hsz hk => ?_
    have hyu : y = u := by
      have h1 : its.toArray[i]? = some u := by simpa using hu
      rw [h1] at hy
      exact (Option.some.inj hy).symm
    subst hyu
    refine ⟨_, rfl, wpAny_letOwnedTupleGo_enum (s := { s with heap := h', toks := tk + 1 }) ho fun h'' he' sb => ?_⟩
    have hT2 : h''.get? s.heap.objs.size = some { cls := .type "tuple", data := .seq #[.int i tk, y] } := (sb.2 _ (Nat.ne_of_gt hel)).trans hT
    have new : ObjOk X.prog X.w (upd H s.heap.objs.size (.tup [.int (i : Nat), x])) h'' s.heap.objs.size (.tup [.int (i : Nat), x]) :=
      ⟨by show 2 ≤ sizeLine; decide, [.int i tk, y], .cons ⟨_, rfl⟩ (.cons ru .nil), ⟨_, hT2, rfl, _, rfl⟩⟩
    have I1 : Inv X pins σ (upd H s.heap.objs.size (.tup [.int (i : Nat), x])) { s with heap := h'', toks := tk + 1 } :=
      I.turnedNew (ch := [e, it]) (fun b ob hb q => (sb.2 b (fun z => hb (by simp [z]))).trans (hk b ob (fun z => hb (by simp [z])) (fun z => hb (by simp [z])) q)) hf (Nat.le_refl _) new
    refine ⟨.ref s.heap.objs.size, _, I1, rfl, ⟨_, x, rfl, I.hok.fresh (Nat.le_refl _), rfl, fun ys hy => by rw [I.tuple_inj hy hq]; exact hx⟩, ⟨⟨y, ?_⟩, hs'.1.at fun o q => (sb.2 it (Ne.symm hne)).trans q, hne⟩, fun b hb => ?_⟩
    · have e1 : ((i + 1 : Nat) : Int) = (i : Int) + 1 := by omega
      rw [e1]; exact he'
    · have hb' : b < s.heap.objs.size := by
        have e' : b = e ∨ b = it := by simpa using hb
        rcases e' with z | z
        · rw [z]; exact hel
        · rw [z]; exact hil
      rw [upd_ne (Nat.ne_of_lt hb')]
      exact (hf b hb).1
  done := by
    intro X hP hw hK hc i pins s σ H E I hf st hg
    subst hP hw hK
    obtain ⟨⟨old, he⟩, hit, hne⟩ := st
    obtain ⟨xs, hq, hx⟩ := hg
    obtain ⟨its, rv, p, hz⟩ := I.tuple hq
    obtain ⟨f0, f1, f2, f3, f4, f5⟩ := hf it (by simp)
    have hl := rv.length
    exact enum_endT (I.ok.hd hc) he hit p (by simp; omega) fun h' eb => ⟨rfl, I.turned (t' := s.toks) (fun b o hb q => eb b o hb q) f0 f1 f3 f4 f5⟩
  self := fun A i s Q E st h => let ⟨⟨_, he⟩, _⟩ := st; wpAny_pyIter_enum he h
def iEnumA (K : PySem.W.Frag) (ta : TA) : TI := fun σ H R => ta σ H fun vs H1 => ∃ a xs, vs = [.ref a] ∧ ((SqL K H1 a xs ∧ R (Ite K a) H1) ∨ (SqT K H1 a xs ∧ R (IteT K a) H1))
theorem pi_enumA {X : Cx} {e : Expr} {ta : TA} {p pos tpos : Pos} {elts : List Expr} {kk : Nat} (hg : Gl X "enumerate") (hm : X.mg "enumerate" = none) (ha : PA X [e] ta) (hs : starEach [e] X.env = [(false, eval e X.env)] := by rfl) :
    PI X (.Tuple elts kk tpos) (.Call (.Name "enumerate" p) [e] [] pos) (iEnumA X.K ta) := by
  refine ⟨fun pins s σ H R I h => ?_⟩
  refine Call_ (ld_blt I hg hm boot_enumerate (PyProof.Rows.callWith_type1 (thn (ha.run pos pins s σ H _ I h) fun us s1 ⟨vs, H1, I1, r1, q1⟩ => ?_) hs rfl))
  obtain ⟨a, xs, ex, q⟩ := q1
  subst ex
  cases r1 with
  | cons r rr =>
    cases rr
    cases r
    have fresh : ∀ b, b ∈ [s1.heap.objs.size + 1, s1.heap.objs.size] → FpOk X pins H1 b := fun b hb => by
      have e' : b = s1.heap.objs.size + 1 ∨ b = s1.heap.objs.size := by simpa using hb
      have hle : s1.heap.objs.size ≤ b := by
        rcases e' with z | z
        · rw [z]; exact Nat.le_add_right _ _
        · rw [z]; exact Nat.le_refl _
      exact I1.fpOk hle (I1.hok.fresh hle)
    rcases q with ⟨hq, q⟩ | ⟨hq, q⟩
    · obtain ⟨its, rv, p', hz⟩ := I1.list hq
      refine call_enumerate_list p'.isList fun h' he hit hsz hk => wpAny_pyIter_enum he ?_
      have I2 : Inv X pins σ H1 { s1 with heap := h' } := I1.kept (t' := s1.toks) hk
      exact ⟨s1.heap.objs.size + 1, [s1.heap.objs.size + 1, s1.heap.objs.size], _, _, H1, rfl, I2, turn_enum a (s1.heap.objs.size + 1) s1.heap.objs.size, ⟨⟨.none, he⟩, hit, Nat.succ_ne_self _⟩, fresh, q⟩
    · obtain ⟨its, rv, p', hz⟩ := I1.tuple hq
      obtain ⟨o1, ho1, _⟩ := id p'
      have hlt : a < s1.heap.objs.size := Heap.lt_size ho1
      refine call_enumT (show s1.heap.IsTuple a its.toArray from p') fun h' he hit hsz hk => wpAny_pyIter_enum he ?_
      have I2 : Inv X pins σ H1 { s1 with heap := h' } := I1.kept (t' := s1.toks) hk
      exact ⟨s1.heap.objs.size + 1, [s1.heap.objs.size + 1, s1.heap.objs.size], _, _, H1, rfl, I2, turn_enumT a (s1.heap.objs.size + 1) s1.heap.objs.size (Nat.ne_of_lt hlt) (fun z => by rw [← z] at hlt; exact absurd hlt (Nat.not_lt.mpr (Nat.le_succ _))), ⟨⟨.none, he⟩, hit, Nat.succ_ne_self _⟩, fresh, q⟩
section
variable {X : Cx} {xt : String → Option Addr} {W : WX} {a : Expr} {p pos : Pos}
def enD (i : Nat) : List DV → List DV
  | [] => []
  | x :: xs => .tup [.int (i : Int), x] :: enD (i + 1) xs
theorem enD_get : ∀ {xs : List DV} {i j : Nat} {y : DV}, (enD i xs)[j]? = some y → ∃ x, xs[j]? = some x ∧ y = .tup [.int ((i + j : Nat) : Int), x]
  | [], i, j, y, h => by simp [enD] at h
  | x :: xs, i, 0, y, h => by simp [enD] at h; exact ⟨x, rfl, by simp [h]⟩
  | x :: xs, i, j + 1, y, h => by
    simp only [enD, List.getElem?_cons_succ] at h
    obtain ⟨z, h1, h2⟩ := enD_get h
    exact ⟨z, by simpa using h1, by rw [h2]; simp; omega⟩
theorem enD_len : ∀ {xs : List DV} {i : Nat}, (enD i xs).length = xs.length
  | [], _ => rfl
  | x :: xs, i => by simp [enD, enD_len]
def mEnum (m : EM) : IM := fun ρ μ => (m ρ μ).bind fun v μ => match v with
  | .tup xs => .ok (enD 0 xs, none) μ
  | _ => .bad
theorem it_enT {K : PySem.W.Frag} {θ : List Addr} {H : Hp} {xs : List DV} {vs : List V} {a : Addr} (h : SqT K H a vs) (r : RpL K θ H xs vs) : ItRel K θ H (enD 0 xs, none) (IteT K a) := by
  intro θ' H' μ' l s ho
  have hv := l.sqT h
  have rv := l.rpL r
  refine ⟨fun i x hx => ?_, fun i hi => ⟨vs, hv, ?_⟩⟩
  · obtain ⟨z, hz, rfl⟩ := enD_get hx
    obtain ⟨v, e, r1⟩ := rv.get hz
    refine ⟨⟨vs, v, hv, e⟩, fun u H'' ⟨T, v', e1, h1, e2, h3⟩ => ?_⟩
    have z1 := h3 vs hv
    rw [e] at z1; cases z1
    subst e1; subst e2
    have l2 := Lt.laid (θ := θ') (o := .tup [.int (i : Nat), v]) h1
    exact ⟨l2, s.fr h1, T, [.int (i : Nat), v], rfl, .inl (.inl upd_same), .int (i : Nat), [v], rfl, by simp [Rp], v, [], rfl, l2.rp r1, rfl⟩
  · rw [← rv.len]
    exact Nat.le_of_eq (by simpa [enD_len] using hi.symm)
theorem i_enum {m : EM} {elts : List Expr} {kk : Nat} {tpos : Pos} (hm : X.mg ("enumerate" : Str) = none) (h : DEx xt W X a m) (hg : Gl X ("enumerate" : Str) := by rfl)
    (na : starEach [a] X.env = [(false, eval a X.env)] := by rfl) : DIt xt W X (.Tuple elts kk tpos) (.Call (.Name "enumerate" p) [a] [] pos) (mEnum m) := by
  refine ⟨fun pins s σ H R I ⟨θ, ρ, μ, he, hst, q⟩ => (pi_enumA hg hm (pa_cons h pa_nil na) na).run pins s σ H R I ?_⟩
  refine ⟨θ, ρ, μ, he, hst, ?_⟩
  refine q.bind.imp fun w H1 ⟨θ1, μ1, v, l1, s1, r1, q1⟩ => ?_
  split at q1
  · obtain ⟨a, vs, rfl, sa, ra⟩ := r1
    exact ⟨a, vs, rfl, .inr ⟨sa, q1 θ1 H1 _ .refl s1 (it_enT sa ra)⟩⟩
  · exact q1.elim
end
end Md

namespace Md
open PySem L2
/-! ## instances of own classes -/
def fGet : List (String × DV) → String → Option DV
  | [], _ => none
  | (g, x) :: r, f => if f = g then some x else fGet r f
def fPut (f : String) (v : DV) : List (String × DV) → List (String × DV)
  | [] => [(f, v)]
  | (g, x) :: r => if g = f then (g, v) :: r else (g, x) :: fPut f v r
abbrev fNames (fs : List (String × DV)) : List Str := fs.map fun p => Str.ofString p.1
section
variable {K : PySem.W.Frag} {θ : List Addr} {H : Hp}
theorem fGet_rp {f : String} {d : DV} : ∀ {fs : List (String × DV)} {vs : List V}, RpL K θ H (fs.map (·.2)) vs → fGet fs f = some d → ∃ w, ((fNames fs).zip vs).lookup (Str.ofString f) = some w ∧ Rp K θ H d w
  | [], _, _, h => by cases h
  | (g, x) :: r, vs, hr, h => by
    obtain ⟨w, ws, rfl, h1, h2⟩ := hr
    simp only [fGet] at h
    show ∃ w', List.lookup (Str.ofString f) ((Str.ofString g, w) :: (fNames r).zip ws) = some w' ∧ _
    by_cases e : f = g
    · subst e
      rw [if_pos rfl] at h; cases h
      exact ⟨w, by simp, h1⟩
    · rw [if_neg e] at h
      obtain ⟨w', q, r'⟩ := fGet_rp h2 h
      refine ⟨w', ?_, r'⟩
      have ne : (Str.ofString f == Str.ofString g) = false := beq_eq_false_iff_ne.mpr fun z => e (ofString_inj z)
      rw [List.lookup_cons, ne]
      exact q
theorem fGet_none {f : String} : ∀ {fs : List (String × DV)} {vs : List V}, fGet fs f = none → ((fNames fs).zip vs).lookup (Str.ofString f) = none
  | [], _, _ => rfl
  | (g, x) :: r, [], h => rfl
  | (g, x) :: r, w :: ws, h => by
    simp only [fGet] at h
    show List.lookup (Str.ofString f) ((Str.ofString g, w) :: (fNames r).zip ws) = none
    by_cases e : f = g
    · rw [if_pos e] at h; cases h
    · rw [if_neg e] at h
      have ne : (Str.ofString f == Str.ofString g) = false := beq_eq_false_iff_ne.mpr fun z => e (ofString_inj z)
      rw [List.lookup_cons, ne]
      exact fGet_none h
theorem fPut_rp {f : String} {v : DV} {y : V} (hy : Rp K θ H v y) : ∀ {fs : List (String × DV)} {vs : List V}, RpL K θ H (fs.map (·.2)) vs →
    ∃ ws, putF (Str.ofString f) y ((fNames fs).zip vs) = (fNames (fPut f v fs)).zip ws ∧ RpL K θ H ((fPut f v fs).map (·.2)) ws
  | [], vs, h => by cases h; exact ⟨[y], rfl, y, [], rfl, hy, rfl⟩
  | (g, x) :: r, vs, h => by
    obtain ⟨w, ws, rfl, h1, h2⟩ := h
    show ∃ us, putF (Str.ofString f) y ((Str.ofString g, w) :: (fNames r).zip ws) = _ ∧ _
    simp only [fPut, putF]
    by_cases e : g = f
    · subst e
      rw [if_pos rfl, if_pos rfl]
      exact ⟨y :: ws, rfl, y, ws, rfl, hy, h2⟩
    · rw [if_neg (fun z => e (ofString_inj z)), if_neg e]
      obtain ⟨us, q, r'⟩ := fPut_rp hy h2
      exact ⟨w :: us, by rw [q]; rfl, w, us, rfl, h1, r'⟩
theorem fPut_mem {f : String} {v : DV} : ∀ {fs : List (String × DV)} {p : String × DV}, p ∈ fPut f v fs → p.1 = f ∨ ∃ q ∈ fs, q.1 = p.1
  | [], p, h => by simp [fPut] at h; exact .inl (by rw [h])
  | (g, x) :: r, p, h => by
    simp only [fPut] at h
    split at h
    · rename_i e
      rcases List.mem_cons.mp h with h | h
      · exact .inl (by rw [h]; exact e)
      · exact .inr ⟨p, List.mem_cons_of_mem _ h, rfl⟩
    · rcases List.mem_cons.mp h with h | h
      · exact .inr ⟨(g, x), List.mem_cons_self, by rw [h]⟩
      · rcases fPut_mem h with h | ⟨q, hq, e⟩
        · exact .inl h
        · exact .inr ⟨q, List.mem_cons_of_mem _ hq, e⟩
end
/-- an own class of the module: its name, the fields that are set -/
structure KCl (K : PySem.W.Frag) (mg : Str → Option Value) (cls : String) (fl : List String) : Prop where
  ex : ∃ C, PySem.W.nsIn K mainGlobals (Str.ofString cls) = some (some (.ref C)) ∧ mg (Str.ofString cls) = some (.ref C) ∧ CF K C ∧ ∀ f ∈ fl, NoAttr K C (Str.ofString f)
section
variable {X : Cx} {xt : String → Option Addr} {W : WX} {a b c e o : Expr} {es : List Expr} {pos p apos pos' : Pos}
def mFld (m : EM) (f : String) : EM := fun ρ μ => (m ρ μ).bind fun u μ => match u with
  | .ref n => match μ[n]? with
    | some (.obj _ fs) => match fGet fs f with
      | some d => .ok d μ
      | none => .bad
    | _ => .bad
  | _ => .bad
theorem d_fld {m : EM} (f : String) (h : DEx xt W X e m) (hb : attributeBase e (Str.ofString f) X.env (eval e X.env) = eval e X.env := by rfl) : DEx xt W X (.Attribute e (Str.ofString f) pos) (mFld m f) := by
  refine imE (pe_fld h hb) fun σ H Q ⟨θ, ρ, μ, he, hs, q⟩ => ⟨θ, ρ, μ, he, hs, ?_⟩
  refine q.bind.imp fun w H1 ⟨θ1, μ1, u, l1, s1, r1, q1⟩ => ?_
  cases u with
  | ref n =>
    obtain ⟨p, hp, rfl⟩ := r1
    replace q1 : Po X.K xt W (Rp X.K) (match μ1[n]? with | some (.obj _ fs) => (match fGet fs f with | some d => .ok d μ1 | none => .bad) | _ => .bad) θ1 H1 σ Q := q1
    split at q1
    · rename_i cls fs hc
      obtain ⟨C, dx, vs, hC, e1, r, cf, na⟩ := s1.cell n p _ hp hc
      split at q1
      · rename_i d hd
        obtain ⟨w, hw, rw'⟩ := fGet_rp r hd
        have hf : ∃ q ∈ fs, q.1 = f := by
          clear hc e1 r na hw q1
          induction fs with
          | nil => cases hd
          | cons q fs ih =>
            obtain ⟨g, x⟩ := q
            simp only [fGet] at hd
            by_cases e : f = g
            · exact ⟨_, List.mem_cons_self, e.symm⟩
            · rw [if_neg e] at hd
              obtain ⟨q, h1, h2⟩ := ih hd
              exact ⟨q, List.mem_cons_of_mem _ h1, h2⟩
        obtain ⟨q, h1, h2⟩ := hf
        exact ⟨p, C, dx, _, w, rfl, e1, cf.cls, h2 ▸ na q h1, hw, q1.ret s1 rw'⟩
      · exact q1.elim
    · exact q1.elim
  | _ => exact q1.elim
/-- o.f = e, o an instance of the class cls -/
def sFldS (cls : String) (mo me : EM) (f : String) : SM := fun ρ μ => (me ρ μ).st ρ fun v μ => (mo ρ μ).st ρ fun u μ => match u with
  | .ref n => match μ[n]? with
    | some (.obj c fs) => if c = cls ∧ fs.length < 1000 then .nx ρ (μ.set n (.obj c (fPut f v fs))) else .bad
    | _ => .bad
  | _ => .bad
theorem s_fld {mo me : EM} {cls : String} {fl : List String} (f : String) (KC : KCl X.K X.mg cls fl) (hf : f ∈ fl) (ho : DEx xt W X o mo) (hv : DEx xt W X e me) (hs : swapsWith e (some (.Attribute o (Str.ofString f) pos')) pos.line X.env = pure false := by rfl) :
    DSt xt W X (.Assign [.Attribute o (Str.ofString f) pos'] e pos) (sFldS cls mo me f) := by
  refine imS (ps_fld ho hv hs) fun D σ H ⟨θ, ρ, μ, he, hs, q⟩ => ⟨θ, ρ, μ, he, hs, ?_⟩
  refine (Po.st he q).imp fun y H1 ⟨θ1, μ1, v, l1, s1, r1, q1⟩ => ⟨θ1, ρ, μ1, l1.rpE he, s1, ?_⟩
  refine (Po.st (l1.rpE he) q1).imp fun x H2 ⟨θ2, μ2, u, l2, s2, r2, q2⟩ => ?_
  cases u with
  | ref n =>
    obtain ⟨p, hp, rfl⟩ := r2
    replace q2 : PoS X.K xt W (match μ2[n]? with | some (.obj c fs) => if c = cls ∧ fs.length < 1000 then .nx ρ (μ2.set n (.obj c (fPut f v fs))) else .bad | _ => .bad) θ2 H2 D := q2
    split at q2
    · rename_i c' fs hc
      obtain ⟨C, dx, vs, hC, e1, r, cf, na⟩ := s2.cell n p _ hp hc
      split at q2
      · rename_i hl
        obtain ⟨rfl, hl⟩ := hl
        obtain ⟨C2, k1, k2, k3, k4⟩ := KC.ex
        have eC : C2 = C := by rw [hC] at k1; cases k1; rfl
        subst eC
        have ry := l2.rp r1
        obtain ⟨ws, e2, r2'⟩ := fPut_rp (f := f) ry r
        refine ⟨p, C2, dx, _, rfl, e1, cf.cls, k4 f hf, ?_, ?_⟩
        · have := r.len
          simp only [List.length_map] at this
          simp only [List.length_zip, List.length_map]
          omega
        · rw [e2]
          have hput := s2.putC (c := .obj c' (fPut f v fs)) (o := .ins C2 dx ((fNames (fPut f v fs)).zip ws)) hp e1 id fun H' l e => ⟨C2, dx, ws, hC, e, l.rpL r2', cf, fun q hq => ?_⟩
          · exact q2 θ2 _ _ hput.2 (hput.2.rpE (l2.rpE (l1.rpE he))) hput.1
          · rcases fPut_mem hq with h | ⟨q', h1, h2⟩
            · rw [h]; exact k4 f hf
            · rw [← h2]; exact na q' h1
      · exact q2.elim
    · exact q2.elim
  | _ => exact q2.elim
end
end Md

namespace Md
open PySem L2
/-! ## targets that change the store -/
abbrev GS := DV → DE → DM → DR DE
abbrev GSs := List DV → DE → DM → DR DE
section
variable {K : PySem.W.Frag} {xt : String → Option Addr} {W : WX} {α β : Type} {R : List Addr → Hp → α → β → Prop} {θ θ1 : List Addr} {H H1 : Hp} {σ : L2.St}
def PoG (K : PySem.W.Frag) (r : DR DE) (θ : List Addr) (H : Hp) (Q : L2.St → Hp → Prop) : Prop := match r with
  | .ok ρ μ => ∀ θ' H' σ', Lt θ θ' H H' → RpE K θ' H' ρ σ' → Sto K θ' H' μ → Q σ' H'
  | _ => False
theorem PoG.later {r : DR DE} {Q : L2.St → Hp → Prop} (h : PoG K r θ H Q) (l : Lt θ θ1 H H1) : PoG K r θ1 H1 Q := by
  cases r with
  | ok ρ μ => exact fun θ2 H2 σ2 l2 => h θ2 H2 σ2 (l.trans l2)
  | ex e μ => exact h
  | bad => exact h
theorem PoG.bind {r : DR α} {k : α → DM → DR DE} {Q : L2.St → Hp → Prop} (h : PoG K (r.noex.bind k) θ H Q) :
    Po K xt W R r θ H σ fun w H1 => ∃ θ1 μ1 v, Lt θ θ1 H H1 ∧ Sto K θ1 H1 μ1 ∧ R θ1 H1 v w ∧ PoG K (k v μ1) θ1 H1 Q := by
  cases r with
  | ok v μ => exact fun θ2 H2 w l s p => ⟨θ2, μ, v, l, s, p, PoG.later h l⟩
  | ex e μ => exact h.elim
  | bad => exact h.elim
theorem PoG.imp {r : DR DE} {Q Q' : L2.St → Hp → Prop} (h : PoG K r θ H Q) (q : ∀ σ H', Q σ H' → Q' σ H') : PoG K r θ H Q' := by
  cases r with
  | ok ρ μ => exact fun θ2 H2 σ2 l2 he s => q _ _ (h θ2 H2 σ2 l2 he s)
  | ex e μ => exact h
  | bad => exact h
theorem PoG.split {r : DR DE} {k : DE → DM → DR DE} {Q : L2.St → Hp → Prop} (h : PoG K (r.bind k) θ H Q) :
    PoG K r θ H fun σ1 H1 => ∃ θ1 μ1 ρ1, Lt θ θ1 H H1 ∧ RpE K θ1 H1 ρ1 σ1 ∧ Sto K θ1 H1 μ1 ∧ PoG K (k ρ1 μ1) θ1 H1 Q := by
  cases r with
  | ok ρ μ => exact fun θ2 H2 σ2 l2 he s => ⟨θ2, μ, ρ, l2, he, s, PoG.later h l2⟩
  | ex e μ => exact h
  | bad => exact h
end
def tGs (K : PySem.W.Frag) (t : GS) : TG := fun w σ H Q => ∃ θ ρ μ x, RpE K θ H ρ σ ∧ Sto K θ H μ ∧ Rp K θ H x w ∧ PoG K (t x ρ μ) θ H Q
def tGss (K : PySem.W.Frag) (t : GSs) : TGs := fun w σ H Q => ∃ θ ρ μ x, RpE K θ H ρ σ ∧ Sto K θ H μ ∧ RpL K θ H x w ∧ PoG K (t x ρ μ) θ H Q
abbrev DSg (X : Cx) (tg : Expr) (t : GS) : Prop := PG X tg (tGs X.K t)
abbrev DSgs (X : Cx) (tg : List Expr) (t : GSs) : Prop := PGs X tg (tGss X.K t)
section
variable {X : Cx} {xt : String → Option Addr} {W : WX} {a b c e o i : Expr} {es : List Expr} {pos p apos ps : Pos} {tg : Expr}
def tsN (i : Nat) : GS := fun x ρ μ => if i < ρ.length then .ok (ρ.set i (some x)) μ else .bad
theorem h_name {y : Str} (i : Nat) (hN : X.N.Nodup) (hi : X.N[i]? = some y := by rfl) (hx : Loc X.env.scope y := by first | exact .inl rfl | exact .inr rfl) (hf : X.fn y = true ∨ X.env.scope.names.lookup y = some .local := by first | exact .inl rfl | exact .inr rfl) :
    DSg X (.Name y pos) (tsN i) := by
  refine imG (pg_name hN hi hx hf) fun w σ H Q ⟨θ, ρ, μ, x, he, hs, r, q⟩ => ?_
  unfold tsN at q
  split at q
  · exact q θ H _ .refl (he.set r i) hs
  · exact q.elim
/-- o[i] = v: a list's place, a dict's key -/
def kPut (kvs : List (DV × DV)) (k v : DV) : List (DV × DV) := if (kvs.any fun p => decide (p.1 = k)) = true then kvs.map (fun p => if p.1 = k then (p.1, v) else p) else kvs ++ [(k, v)]
def kGet (kvs : List (DV × DV)) (k : DV) : Option DV := (kvs.find? fun p => decide (p.1 = k)).map (·.2)
def setIx (u i v : DV) (μ : DM) : Option DM := match u, i with
  | .ref n, .int k => match μ[n]? with
    | some (.lst xs) => match ixN xs.length k with
      | some j => some (μ.set n (.lst (xs.set j v)))
      | none => none
    | _ => none
  | _, _ => none
def tsSub (mo mi : EM) : GS := fun v ρ μ => (mo ρ μ).noex.bind fun u μ => (mi ρ μ).noex.bind fun i μ => match setIx u i v μ with
  | some μ' => .ok ρ μ'
  | none => .bad
theorem h_sub {mo mi : EM} (ho : DEx xt W X o mo) (hi : DEx xt W X i mi)
    (ha : ∀ v, assign (.Subscript o i ps) X.env v = (do
      let ov ← holding [v] (eval o X.env)
      let iv ← holding [v, ov] (eval i X.env)
      standAt ps
      holding [v, ov, iv] (setItem ov iv v)
      release [v, ov, iv] []) := by intro _; rfl) : DSg X (.Subscript o i ps) (tsSub mo mi) := by
  refine imG (pg_sub ho hi set_list ha) fun w σ H Q ⟨θ, ρ, μ, x, he, hs, r, q⟩ => ⟨θ, ρ, μ, he, hs, ?_⟩
  refine (PoG.bind q).imp fun w1 H1 ⟨θ1, μ1, u, l1, s1, r1, q1⟩ => ⟨θ1, ρ, μ1, l1.rpE he, s1, ?_⟩
  refine (PoG.bind q1).imp fun w2 H2 ⟨θ2, μ2, i', l2, s2, r2, q2⟩ => ?_
  cases u with
  | ref n =>
    cases i' with
    | int k =>
      cases r2
      obtain ⟨p, hp, rfl⟩ := l2.rp r1
      split at q2
      · rename_i μ' hm
        simp only [setIx] at hm
        split at hm
        · rename_i xs hx
          obtain ⟨vs, ev, r0⟩ := s2.cell n p _ hp hx
          split at hm
          · rename_i j hj
            cases hm
            obtain ⟨s4, l4⟩ := s2.put hp ev (r0.set j (l2.rp (l1.rp r)))
            exact ⟨p, vs, k, j, rfl, rfl, ev, by rw [← r0.len]; exact hj, q2 _ _ σ l4 (l4.rpE (l2.rpE (l1.rpE he))) s4⟩
          · cases hm
        · cases hm
      · exact q2.elim
    | _ => exact q2.elim
  | _ => cases i' <;> exact q2.elim
def tsNil : GSs := fun xs ρ μ => if xs = [] then .ok ρ μ else .bad
def tsCons (t : GS) (u : GSs) : GSs := fun xs ρ μ => match xs with
  | x :: xs => (t x ρ μ).bind fun ρ1 μ1 => u xs ρ1 μ1
  | [] => .bad
theorem h_nil : DSgs X [] tsNil := imGs pgs_nil fun w σ H Q ⟨θ, ρ, μ, x, he, hs, r, q⟩ => by
  unfold tsNil at q
  split at q
  · rename_i e
    subst e
    cases r
    exact ⟨rfl, q θ H σ .refl he hs⟩
  · exact q.elim
theorem h_cons {t : GS} {u : GSs} (h : DSg X e t) (h2 : DSgs X es u) (hs : (assignEach (e :: es) X.env).map (·.2) = assign e X.env :: (assignEach es X.env).map (·.2) := by rfl) : DSgs X (e :: es) (tsCons t u) := by
  refine imGs (pgs_cons h h2 hs) fun w σ H Q ⟨θ, ρ, μ, xs, he, hs, r, q⟩ => ?_
  cases xs with
  | nil => exact q.elim
  | cons x xs =>
    obtain ⟨v, vs, rfl, r1, r2⟩ := r
    refine ⟨v, vs, rfl, θ, ρ, μ, x, he, hs, r1, ?_⟩
    exact (PoG.split q).imp fun σ1 H1 ⟨θ1, μ1, ρ1, l1, he1, s1, q1⟩ => ⟨θ1, ρ1, μ1, xs, he1, s1, l1.rpL r2, q1⟩
def tsTup (n : Nat) (t : GSs) : GS := fun x ρ μ => match x with
  | .tup xs => if xs.length = n then t xs ρ μ else .bad
  | _ => .bad
theorem h_tup {t : GSs} {k n : Nat} (hc : X.calm = true) (h : DSgs X es t) (hn : (assignEach es X.env).length = n := by rfl) (hst : (assignEach es X.env).findIdx? (·.1) = none := by rfl) : DSg X (.Tuple es k pos) (tsTup n t) := by
  refine imG (pg_tup hc h hn hst) fun w σ H Q ⟨θ, ρ, μ, x, he, hs, r, q⟩ => ?_
  cases x with
  | tup xs =>
    obtain ⟨a, vs, rfl, sp, r⟩ := r
    simp only [tsTup] at q
    split at q
    · rename_i hl
      exact ⟨a, vs, rfl, sp, by rw [← r.len]; exact hl, θ, ρ, μ, xs, he, hs, r, q⟩
    · exact q.elim
  | _ => exact q.elim
def sAsgS (m : EM) (t : GS) : SM := fun ρ μ => (m ρ μ).st ρ fun v μ => match t v ρ μ with
  | .ok ρ' μ' => .nx ρ' μ'
  | _ => .bad
theorem s_asgS {m : EM} {t : GS} (h : DEx xt W X e m) (hg : DSg X tg t) (hs : swapsWithSole [tg] e pos.line X.env = pure false := by rfl) (hw : swappedStores [tg] e X.env = pure none := by rfl)
    (h1 : (assignEach [tg] X.env).map (·.2) = [assign tg X.env] := by rfl) : DSt xt W X (.Assign [tg] e pos) (sAsgS m t) := by
  refine imS (ps_asg h hg hs hw h1) fun D σ H ⟨θ, ρ, μ, he, hst, q⟩ => ⟨θ, ρ, μ, he, hst, ?_⟩
  refine (Po.st he q).imp fun w H1 ⟨θ1, μ1, v, l1, s1, r1, q1⟩ => ⟨θ1, ρ, μ1, v, l1.rpE he, s1, r1, ?_⟩
  revert q1
  cases t v ρ μ1 with
  | ok ρ' μ' => exact fun q1 θ2 H2 σ2 l2 he2 s2 => q1 θ2 H2 σ2 l2 he2 s2
  | ex e μ' => exact id
  | bad => exact id
/-! ## dicts -/
theorem dKey_inj {x y : DV} {k : Key} (h1 : dKey x = some k) (h2 : dKey y = some k) : x = y := by
  cases x <;> cases y <;> simp only [dKey, Option.some.injEq, reduceCtorEq] at h1 h2 <;> subst h1 <;> simp at h2
  · rw [h2]
  · rw [ofString_inj h2]
theorem dKey_rel {K : PySem.W.Frag} {θ : List Addr} {H : Hp} {x : DV} {k : Key} {w : V} (h : dKey x = some k) (r : Rp K θ H x w) : w = kV k := by
  cases x <;> simp only [dKey, Option.some.injEq, reduceCtorEq] at h <;> subst h <;> exact r
section
variable {K : PySem.W.Frag} {θ : List Addr} {H : Hp}
theorem kGet_rp {k : DV} {y : Key} (hk : dKey k = some y) : ∀ {kvs : List (DV × DV)} {ks : List Key} {vs : List V}, (kvs.map fun p => dKey p.1) = ks.map some → RpL K θ H (kvs.map (·.2)) vs →
    (∀ d, kGet kvs k = some d → ∃ w, valV (ks.zip vs) y = some w ∧ Rp K θ H d w) ∧ (kGet kvs k = none → valV (ks.zip vs) y = none)
  | [], ks, vs, h, r => by
    cases ks with
    | nil => exact ⟨fun d h => by simp [kGet] at h, fun _ => rfl⟩
    | cons _ _ => simp at h
  | (q, d) :: kvs, ks, vs, h, r => by
    cases ks with
    | nil => simp at h
    | cons z ks =>
      obtain ⟨w, ws, rfl, r1, r2⟩ := r
      simp only [List.map_cons, List.cons.injEq] at h
      have ih := kGet_rp hk h.2 r2
      show (∀ d', kGet ((q, d) :: kvs) k = some d' → ∃ w', valV ((z, w) :: ks.zip ws) y = some w' ∧ _) ∧ (_ → valV ((z, w) :: ks.zip ws) y = none)
      by_cases e : q = k
      · subst e
        have ez : z = y := by have := h.1.symm.trans hk; simpa using this
        subst ez
        have g : kGet ((q, d) :: kvs) q = some d := by simp [kGet, List.find?_cons]
        rw [g]
        exact ⟨fun d' hd => by cases hd; exact ⟨w, valV_pos rfl, r1⟩, fun hd => by cases hd⟩
      · have ez : ¬ z = y := fun z' => e (dKey_inj (h.1.trans (by rw [z'])) hk)
        have g : kGet ((q, d) :: kvs) k = kGet kvs k := by simp [kGet, List.find?_cons, e]
        rw [g, valV_neg ez]
        exact ih
theorem kAny {k : DV} {y : Key} (hk : dKey k = some y) : ∀ {kvs : List (DV × DV)} {ks : List Key} {vs : List V}, (kvs.map fun p => dKey p.1) = ks.map some → RpL K θ H (kvs.map (·.2)) vs →
    (kvs.any fun p => decide (p.1 = k)) = ((ks.zip vs).any fun p => decide (p.1 = y))
  | [], ks, vs, h, r => by
    cases ks with
    | nil => rfl
    | cons _ _ => simp at h
  | (q, d) :: kvs, ks, vs, h, r => by
    cases ks with
    | nil => simp at h
    | cons z ks =>
      obtain ⟨w, ws, rfl, r1, r2⟩ := r
      simp only [List.map_cons, List.cons.injEq] at h
      have ih := kAny hk h.2 r2
      simp only [List.any_cons, List.zip_cons_cons, ih]
      congr 1
      by_cases e : q = k
      · subst e
        have ez : z = y := by have := h.1.symm.trans hk; simpa using this
        simp [ez]
      · have ez : ¬ z = y := fun z' => e (dKey_inj (h.1.trans (by rw [z'])) hk)
        simp [e, ez]
theorem kMap {k v : DV} {y : Key} {u : V} (hk : dKey k = some y) (hv : Rp K θ H v u) : ∀ {kvs : List (DV × DV)} {ks : List Key} {vs : List V}, (kvs.map fun p => dKey p.1) = ks.map some → RpL K θ H (kvs.map (·.2)) vs →
    ∃ ws, ((ks.zip vs).map fun p => if p.1 = y then (p.1, u) else p) = ks.zip ws ∧ ((kvs.map fun p => if p.1 = k then (p.1, v) else p).map fun p => dKey p.1) = ks.map some ∧ RpL K θ H ((kvs.map fun p => if p.1 = k then (p.1, v) else p).map (·.2)) ws
  | [], ks, vs, h, r => by
    cases ks with
    | nil => exact ⟨[], rfl, rfl, rfl⟩
    | cons _ _ => simp at h
  | (q, d) :: kvs, ks, vs, h, r => by
    cases ks with
    | nil => simp at h
    | cons z ks =>
      obtain ⟨w, ws, rfl, r1, r2⟩ := r
      simp only [List.map_cons, List.cons.injEq] at h
      obtain ⟨us, i1, i2, i3⟩ := kMap hk hv h.2 r2
      by_cases e : q = k
      · subst e
        have ez : z = y := by have := h.1.symm.trans hk; simpa using this
        subst ez
        refine ⟨u :: us, ?_, ?_, ?_⟩
        · simp [i1]
        · simp only [List.map_cons, if_pos, h.1]; rw [i2]
        · simp only [List.map_cons, if_pos]; exact ⟨u, us, rfl, hv, i3⟩
      · have ez : ¬ z = y := fun z' => e (dKey_inj (h.1.trans (by rw [z'])) hk)
        refine ⟨w :: us, ?_, ?_, ?_⟩
        · simp only [List.zip_cons_cons, List.map_cons, if_neg ez, i1]
        · simp only [List.map_cons, if_neg e, h.1]; rw [i2]
        · simp only [List.map_cons, if_neg e]; exact ⟨w, us, rfl, r1, i3⟩
theorem kPut_rp {k v : DV} {y : Key} {u : V} (hk : dKey k = some y) (hv : Rp K θ H v u) {kvs : List (DV × DV)} {ks : List Key} {vs : List V} (h : (kvs.map fun p => dKey p.1) = ks.map some) (r : RpL K θ H (kvs.map (·.2)) vs) :
    ∃ (ks' : List Key) (ws : List V), putK (ks.zip vs) y u = ks'.zip ws ∧ ((kPut kvs k v).map fun p => dKey p.1) = ks'.map some ∧ RpL K θ H ((kPut kvs k v).map (·.2)) ws := by
  unfold putK kPut
  rw [kAny hk h r]
  split
  · obtain ⟨ws, a, b, c⟩ := kMap hk hv h r
    exact ⟨ks, ws, a, b, c⟩
  · have hl : ks.length = vs.length := by
      have h1 := congrArg List.length h
      have h2 := r.len
      simp only [List.length_map] at h1 h2
      omega
    refine ⟨ks ++ [y], vs ++ [u], ?_, ?_, ?_⟩
    · rw [List.zip_append hl]; rfl
    · simp only [List.map_append, h, List.map_cons, List.map_nil, hk]
    · simp only [List.map_append, List.map_cons, List.map_nil]
      exact r.app (RpL.one hv)
end
/-- {} -/
def mDNew : EM := fun _ μ => .ok (.ref μ.length) (μ ++ [.dct []])
theorem d_dnew : DEx xt W X (.Dict [] [] pos) mDNew := by
  refine imE pe_dnewK fun σ H Q ⟨θ, ρ, μ, he, hs, q⟩ p hp => ?_
  exact q (θ ++ [p]) _ _ (Lt.push hp) ((hs.fr hp).pushC (hs.out hp) ⟨[], [], rfl, upd_same, rfl⟩) ⟨p, by rw [← hs.len, List.getElem?_append_right (Nat.le_refl _)]; simp, rfl⟩
/-- k in d, k not in d -/
def gDIn (neg : Bool) (k v : DV) (μ : DM) : DR DV := match v with
  | .ref n => match μ[n]? with
    | some (.dct kvs) => match dKey k with
      | some _ => .ok (.bl (neg != (kGet kvs k).isSome)) μ
      | none => .bad
    | _ => .bad
  | _ => .bad
theorem dget_of {K : PySem.W.Frag} {θ : List Addr} {H : Hp} {μ : DM} (s : Sto K θ H μ) {n : Nat} {p : Addr} {kvs : List (DV × DV)} {k : DV} {y : Key} {w : V} (hp : θ[n]? = some p) (hc : μ[n]? = some (.dct kvs)) (hk : dKey k = some y) (rk : Rp K θ H k w) :
    (∀ d, kGet kvs k = some d → ∃ u, DGet H p w (some u) ∧ Rp K θ H d u) ∧ (kGet kvs k = none → DGet H p w none) := by
  obtain ⟨ks, vs, h, e, r⟩ := s.cell n p _ hp hc
  have hw := dKey_rel hk rk
  subst hw
  obtain ⟨g1, g2⟩ := kGet_rp hk h r
  refine ⟨fun d hd => ?_, fun hd => ?_⟩
  · obtain ⟨u, hu, ru⟩ := g1 d hd
    exact ⟨u, by rw [← hu]; exact DGet.k e, ru⟩
  · rw [← g2 hd]; exact DGet.k e
theorem d_din {mk md : EM} (hu : X.A.units + 1 < cLine) (hk : DEx xt W X a mk) (hd : DEx xt W X b md) (h1 : behindInMarks .In b = false := by rfl) : DEx xt W X (.Compare a [.In] [b] pos) (mOp (gDIn false) mk md) := by
  refine imE (pe_cmp (pc_din hu hk hd) h1) fun σ H Q ⟨θ, ρ, μ, he, hs, q⟩ => ⟨θ, ρ, μ, he, hs, ?_⟩
  refine q.bind.imp fun w H1 ⟨θ1, μ1, k, l1, s1, r1, q1⟩ => ⟨θ1, ρ, μ1, l1.rpE he, s1, ?_⟩
  refine q1.bind.imp fun w2 H2 ⟨θ2, μ2, v, l2, s2, r2, q2⟩ => ?_
  cases v with
  | ref n =>
    obtain ⟨p, hp, rfl⟩ := r2
    replace q2 : Po X.K xt W (Rp X.K) (DR.noex (match μ2[n]? with | some (.dct kvs) => (match dKey k with | some _ => .ok (.bl (false != (kGet kvs k).isSome)) μ2 | none => .bad) | _ => .bad)) θ2 H2 σ Q := q2
    split at q2
    · rename_i kvs hc
      split at q2
      · rename_i y hy
        obtain ⟨g1, g2⟩ := dget_of s2 hp hc hy (l2.rp r1)
        cases hg : kGet kvs k with
        | none => exact ⟨p, none, rfl, g2 hg, by rw [hg] at q2; exact q2.ret s2 rfl⟩
        | some d =>
          obtain ⟨u, h3, h4⟩ := g1 d hg
          exact ⟨p, some u, rfl, h3, by rw [hg] at q2; exact q2.ret s2 rfl⟩
      · exact q2.elim
    · exact q2.elim
  | _ => exact q2.elim
theorem d_dnotin {mk md : EM} (hu : X.A.units + 1 < cLine) (hk : DEx xt W X a mk) (hd : DEx xt W X b md) (h1 : behindInMarks .NotIn b = false := by rfl) : DEx xt W X (.Compare a [.NotIn] [b] pos) (mOp (gDIn true) mk md) := by
  refine imE (pe_cmp (pc_dnotin hu hk hd) h1) fun σ H Q ⟨θ, ρ, μ, he, hs, q⟩ => ⟨θ, ρ, μ, he, hs, ?_⟩
  refine q.bind.imp fun w H1 ⟨θ1, μ1, k, l1, s1, r1, q1⟩ => ⟨θ1, ρ, μ1, l1.rpE he, s1, ?_⟩
  refine q1.bind.imp fun w2 H2 ⟨θ2, μ2, v, l2, s2, r2, q2⟩ => ?_
  cases v with
  | ref n =>
    obtain ⟨p, hp, rfl⟩ := r2
    replace q2 : Po X.K xt W (Rp X.K) (DR.noex (match μ2[n]? with | some (.dct kvs) => (match dKey k with | some _ => .ok (.bl (true != (kGet kvs k).isSome)) μ2 | none => .bad) | _ => .bad)) θ2 H2 σ Q := q2
    split at q2
    · rename_i kvs hc
      split at q2
      · rename_i y hy
        obtain ⟨g1, g2⟩ := dget_of s2 hp hc hy (l2.rp r1)
        cases hg : kGet kvs k with
        | none => exact ⟨p, none, rfl, g2 hg, by rw [hg] at q2; exact q2.ret s2 rfl⟩
        | some d =>
          obtain ⟨u, h3, h4⟩ := g1 d hg
          exact ⟨p, some u, rfl, h3, by rw [hg] at q2; exact q2.ret s2 rfl⟩
      · exact q2.elim
    · exact q2.elim
  | _ => exact q2.elim
theorem t_din {mk md : EM} (hu : X.A.units + 1 < cLine) (hk : DEx xt W X a mk) (hd : DEx xt W X b md) (h1 : behindInMarks .In b = false := by rfl) : DTs xt W X (.Compare a [.In] [b] pos) (mBl (mOp (gDIn false) mk md)) := by
  refine imT (pt_cmp (pc_din hu hk hd) h1) fun σ H Q q => ?_
  obtain ⟨θ, ρ, μ, he, hs, q⟩ := bl_run q
  refine ⟨θ, ρ, μ, he, hs, ?_⟩
  refine q.bind.imp fun w H1 ⟨θ1, μ1, k, l1, s1, r1, q1⟩ => ⟨θ1, ρ, μ1, l1.rpE he, s1, ?_⟩
  refine q1.bind.imp fun w2 H2 ⟨θ2, μ2, v, l2, s2, r2, q2⟩ => ?_
  cases v with
  | ref n =>
    obtain ⟨p, hp, rfl⟩ := r2
    replace q2 : Po X.K xt W (Rp X.K) (DR.noex (match μ2[n]? with | some (.dct kvs) => (match dKey k with | some _ => .ok (.bl (false != (kGet kvs k).isSome)) μ2 | none => .bad) | _ => .bad)) θ2 H2 σ (fun x H' => ∃ k, x = .bl k ∧ Q k H') := q2
    split at q2
    · rename_i kvs hc
      split at q2
      · rename_i y hy
        obtain ⟨g1, g2⟩ := dget_of s2 hp hc hy (l2.rp r1)
        cases hg : kGet kvs k with
        | none => exact ⟨p, none, rfl, g2 hg, by rw [hg] at q2; exact q2.ret s2 rfl⟩
        | some d =>
          obtain ⟨u, h3, h4⟩ := g1 d hg
          exact ⟨p, some u, rfl, h3, by rw [hg] at q2; exact q2.ret s2 rfl⟩
      · exact q2.elim
    · exact q2.elim
  | _ => exact q2.elim
theorem t_dnotin {mk md : EM} (hu : X.A.units + 1 < cLine) (hk : DEx xt W X a mk) (hd : DEx xt W X b md) (h1 : behindInMarks .NotIn b = false := by rfl) : DTs xt W X (.Compare a [.NotIn] [b] pos) (mBl (mOp (gDIn true) mk md)) := by
  refine imT (pt_cmp (pc_dnotin hu hk hd) h1) fun σ H Q q => ?_
  obtain ⟨θ, ρ, μ, he, hs, q⟩ := bl_run q
  refine ⟨θ, ρ, μ, he, hs, ?_⟩
  refine q.bind.imp fun w H1 ⟨θ1, μ1, k, l1, s1, r1, q1⟩ => ⟨θ1, ρ, μ1, l1.rpE he, s1, ?_⟩
  refine q1.bind.imp fun w2 H2 ⟨θ2, μ2, v, l2, s2, r2, q2⟩ => ?_
  cases v with
  | ref n =>
    obtain ⟨p, hp, rfl⟩ := r2
    replace q2 : Po X.K xt W (Rp X.K) (DR.noex (match μ2[n]? with | some (.dct kvs) => (match dKey k with | some _ => .ok (.bl (true != (kGet kvs k).isSome)) μ2 | none => .bad) | _ => .bad)) θ2 H2 σ (fun x H' => ∃ k, x = .bl k ∧ Q k H') := q2
    split at q2
    · rename_i kvs hc
      split at q2
      · rename_i y hy
        obtain ⟨g1, g2⟩ := dget_of s2 hp hc hy (l2.rp r1)
        cases hg : kGet kvs k with
        | none => exact ⟨p, none, rfl, g2 hg, by rw [hg] at q2; exact q2.ret s2 rfl⟩
        | some d =>
          obtain ⟨u, h3, h4⟩ := g1 d hg
          exact ⟨p, some u, rfl, h3, by rw [hg] at q2; exact q2.ret s2 rfl⟩
      · exact q2.elim
    · exact q2.elim
  | _ => exact q2.elim
/-- d[k] -/
def gDGet (v k : DV) (μ : DM) : DR DV := match v with
  | .ref n => match μ[n]? with
    | some (.dct kvs) => match dKey k, kGet kvs k with
      | some _, some d => .ok d μ
      | _, _ => .bad
    | _ => .bad
  | _ => .bad
theorem d_dget {mk md : EM} (hu : X.A.units + 1 < cLine) (hd : DEx xt W X o md) (hk : DEx xt W X i mk) (hs : NoSl i := by intro _ _; rfl) : DEx xt W X (.Subscript o i pos) (mOp gDGet md mk) := by
  refine imE (pe_dget hu hd hk hs) fun σ H Q ⟨θ, ρ, μ, he, hs, q⟩ => ⟨θ, ρ, μ, he, hs, ?_⟩
  refine q.bind.imp fun w H1 ⟨θ1, μ1, v, l1, s1, r1, q1⟩ => ⟨θ1, ρ, μ1, l1.rpE he, s1, ?_⟩
  refine q1.bind.imp fun w2 H2 ⟨θ2, μ2, k, l2, s2, r2, q2⟩ => ?_
  cases v with
  | ref n =>
    obtain ⟨p, hp, rfl⟩ := l2.rp r1
    replace q2 : Po X.K xt W (Rp X.K) (DR.noex (match μ2[n]? with | some (.dct kvs) => (match dKey k, kGet kvs k with | some _, some d => .ok d μ2 | _, _ => .bad) | _ => .bad)) θ2 H2 σ Q := q2
    split at q2
    · rename_i kvs hc
      split at q2
      · rename_i y d hy hg
        obtain ⟨g1, g2⟩ := dget_of s2 hp hc hy r2
        obtain ⟨u, h3, h4⟩ := g1 d hg
        exact ⟨p, u, rfl, h3, q2.ret s2 h4⟩
      · exact q2.elim
    · exact q2.elim
  | _ => exact q2.elim
/-- d[k] = e -/
def sDPut (mo mi me : EM) : SM := fun ρ μ => (me ρ μ).st ρ fun v μ => (mo ρ μ).st ρ fun u μ => (mi ρ μ).st ρ fun k μ => match u with
  | .ref n => match μ[n]? with
    | some (.dct kvs) => match dKey k with
      | some _ => if kvs.length < LIM then .nx ρ (μ.set n (.dct (kPut kvs k v))) else .bad
      | none => .bad
    | _ => .bad
  | _ => .bad
theorem s_dput {mo mi me : EM} (hu : X.A.units + 1 < cLine) (ho : DEx xt W X o mo) (hi : DEx xt W X i mi) (hv : DEx xt W X e me) (hs : swapsWith e (some (.Subscript o i ps)) pos.line X.env = pure false := by rfl) : DSt xt W X (.Assign [.Subscript o i ps] e pos) (sDPut mo mi me) := by
  refine imS (ps_dput hu ho hi hv hs) fun D σ H ⟨θ, ρ, μ, he, hst, q⟩ => ⟨θ, ρ, μ, he, hst, ?_⟩
  refine (Po.st he q).imp fun w H1 ⟨θ1, μ1, v, l1, s1, r1, q1⟩ => ⟨θ1, ρ, μ1, l1.rpE he, s1, ?_⟩
  refine (Po.st (l1.rpE he) q1).imp fun w2 H2 ⟨θ2, μ2, u, l2, s2, r2, q2⟩ => ⟨θ2, ρ, μ2, l2.rpE (l1.rpE he), s2, ?_⟩
  refine (Po.st (l2.rpE (l1.rpE he)) q2).imp fun w3 H3 ⟨θ3, μ3, k, l3, s3, r3, q3⟩ => ?_
  cases u with
  | ref n =>
    obtain ⟨p, hp, rfl⟩ := l3.rp r2
    replace q3 : PoS X.K xt W (match μ3[n]? with | some (.dct kvs) => (match dKey k with | some _ => if kvs.length < LIM then .nx ρ (μ3.set n (.dct (kPut kvs k v))) else .bad | none => .bad) | _ => .bad) θ3 H3 D := q3
    split at q3
    · rename_i kvs hc
      split at q3
      · rename_i y hy
        split at q3
        · rename_i hl
          obtain ⟨ks, vs, h, e, r⟩ := s3.cell n p _ hp hc
          have hw := dKey_rel hy r3
          subst hw
          obtain ⟨ks', ws, g1, g2, g3⟩ := kPut_rp hy (l3.rp (l2.rp r1)) h r
          have hput := s3.putC (c := .dct (kPut kvs k v)) (o := .dK (ks'.zip ws)) hp e id fun H' l e' => ⟨ks', ws, g2, e', l.rpL g3⟩
          refine ⟨p, _, rfl, DPut.k e ?_, ?_⟩
          · have h1 := r.len
            have h2 := congrArg List.length h
            simp only [List.length_map] at h1 h2
            rw [List.length_zip, ← h2, ← h1, Nat.min_self, ← lim_line]
            exact hl
          · rw [g1]
            exact q3 θ3 _ σ hput.2 (hput.2.rpE (l3.rpE (l2.rpE (l1.rpE he)))) hput.1
        · exact q3.elim
      · exact q3.elim
    · exact q3.elim
  | _ => exact q3.elim
end
end Md

namespace Md
open PySem L2
/-! ## methods, new instances -/
/-- where a method stands: cls its class -/
def AtM (K : PySem.W.Frag) (cls : String) (m qual : Str) (st : Stmt) : Prop := ∃ C f fd, PySem.W.nsIn K mainGlobals (Str.ofString cls) = some (some (.ref C)) ∧ Meth K C m f ∧ Fun K m qual st f fd
/-- what a call of it is -/
def CalM (P : Program) (w : World) (K : PySem.W.Frag) (mg : Str → Option Value) (base : Heap) (xt : String → Option Addr) (cls : String) (m : Str) (k n : Nat) (fn : Fn) : Prop :=
  ∃ C f fd ps, PySem.W.nsIn K mainGlobals (Str.ofString cls) = some (some (.ref C)) ∧ Meth K C m f ∧ Binds K fd ps [] ∧ FnOk P w K mg base (L2.CX P w) k f fd ps (spD K xt n fn)
section
variable {P : Program} {w : World} {K : PySem.W.Frag} {mg : Str → Option Value} {base : Heap} {xt : String → Option Addr}
abbrev BindQ (st : Stmt) (x q : Str) (ps : List Str) : Prop := ∀ (kV doc pm : Value) (an : Option Addr) (cdv ct : Value) (us : List Value), us.length = ps.length → bindArgs (PySem.W.fnOf x q (defArgs st) (defBody st) (defScope st) .none kV doc pm an cdv ct) ⟨us, []⟩ = pure (ps.zip us)
theorem CalM.mono {cls : String} {x : Str} {j k n : Nat} {fn : Fn} (C : CalM P w K mg base xt cls x j n fn) (h : j ≤ k) : CalM P w K mg base xt cls x k n fn :=
  let ⟨C, f, fd, ps, a, b, c, d⟩ := C; ⟨C, f, fd, ps, a, b, c, d.mono h⟩
theorem AtM.cal {cls : String} {x q : Str} {st : Stmt} {N ps : List Str} {k n : Nat} {body : SM} (A : AtM K cls x q st) (S : FnScope N ps (defScope st)) (hb : BindQ st x q ps) (hn : ps.length = n)
    (h : ∀ f : Addr, DefH P w K mg base xt q st N f k body) : CalM P w K mg base xt cls x (k + 1) n (runFn N.length n body) := by
  obtain ⟨C, f, fd, hC, hm, F⟩ := A
  subst hn
  exact ⟨C, f, fd, ps, hC, hm, F.binds hb, fn_ok F S (h f)⟩
theorem AtM.bad {cls : String} {x q : Str} {st : Stmt} {ps : List Str} {k n : Nat} (A : AtM K cls x q st) (hb : BindQ st x q ps) (hn : ps.length = n) : CalM P w K mg base xt cls x k n (fun _ _ => .bad) := by
  obtain ⟨C, f, fd, hC, hm, F⟩ := A
  subst hn
  exact ⟨C, f, fd, ps, hC, hm, F.binds hb, ⟨fun vs H Q E h => h.1, fun A outer s H args us vs Q E hr e0 hb r ⟨_, _, _, _, _, _, q⟩ => q.elim⟩⟩
end
section
variable {X : Cx} {xt : String → Option Addr} {W : WX} {a b c e o : Expr} {es : List Expr} {pos p apos : Pos}
/-- u is an instance of the class, and m is no field of it -/
def isObj (cls m : String) (u : DV) (μ : DM) : Bool := match u with
  | .ref n => match μ[n]? with
    | some (.obj c fs) => decide (c = cls) && (fGet fs m).isNone
    | _ => false
  | _ => false
def mMeth (cls m : String) (n : Nat) (fn : Fn) (mo : EM) (ms : LM) : EM := fun ρ μ => (mo ρ μ).bind fun u μ => if isObj cls m u μ = true then (ms ρ μ).bind fun ds μ => if ds.length + 1 = n then (fn (u :: ds) μ).noex else .bad else .bad
theorem isObj_of {K : PySem.W.Frag} {θ : List Addr} {H : Hp} {μ : DM} (s : Sto K θ H μ) {cls m : String} {u : DV} {w : V} (r : Rp K θ H u w) (h : isObj cls m u μ = true) :
    ∃ p C dx fs, w = .ref p ∧ PySem.W.nsIn K mainGlobals (Str.ofString cls) = some (some (.ref C)) ∧ H p = some (.ins C dx fs) ∧ CF K C ∧ fs.lookup (Str.ofString m) = none := by
  cases u with
  | ref n =>
    obtain ⟨p, hp, rfl⟩ := r
    simp only [isObj] at h
    split at h
    · rename_i c' fs hc
      rw [Bool.and_eq_true] at h
      have h1 := of_decide_eq_true h.1
      subst h1
      obtain ⟨C, dx, vs, hC, e1, r, cf, na⟩ := s.cell n p _ hp hc
      exact ⟨p, C, dx, _, rfl, hC, e1, cf, fGet_none (Option.isNone_iff_eq_none.mp h.2)⟩
    · cases h
  | _ => cases h
theorem Po.fnoex {K : PySem.W.Frag} {fn : Fn} {ds : List DV} {μ : DM} {θ : List Addr} {H : Hp} {σ : L2.St} {Q : VK} (q : Po K xt W (Rp K) (fn ds μ).noex θ H σ Q) : Po K xt (fun cls d _ H' => E0 cls d H') (Rp K) (fn ds μ) θ H [] Q := by
  revert q
  cases fn ds μ with
  | ok v μ2 => exact id
  | ex e μ2 => exact fun q => q.elim
  | bad => exact id
theorem d_meth {j k n : Nat} {cls m : String} {fn : Fn} {mo : EM} {ms : LM} {pl : Sem Bool} (Cm : CalM X.prog X.w X.K X.mg X.base xt cls (Str.ofString m) j n fn) (hr : Room k X.A) (ho : DEx xt W X o mo) (ha : DAs xt W X (e :: es) ms) (hjk : j ≤ k := by decide)
    (hst : starEach (e :: es) X.env = (false, eval e X.env) :: starEach es X.env := by rfl) (hpl : (backTo pos (starEach es X.env)).any (·.1) = false := by rfl)
    (ht : eval (.Call (.Attribute o (Str.ofString m) apos) (e :: es) [] pos) X.env = (do
      let ov ← eval o X.env
      standAt apos.atName
      let (f, first) ← holding [ov] (getMethod ov (Str.ofString m) pl)
      callWith pos f first (backTo pos (starEach (e :: es) X.env)) (backToKw pos (keywordEach [] X.env))) := by rfl) :
    DEx xt W X (.Call (.Attribute o (Str.ofString m) apos) (e :: es) [] pos) (mMeth cls m n fn mo ms) := by
  obtain ⟨C, f, fd, ps, hC, hm, hb, F⟩ := Cm
  by_cases hcf : CF X.K C
  · refine imE (pe_meth ho hcf.cls hm (F.mono hjk) hr hb .nil passL ha hst hpl ht) fun σ H Q ⟨θ, ρ, μ, he, hs, q⟩ => ⟨θ, ρ, μ, he, hs, ?_⟩
    refine q.bind.imp fun w H1 ⟨θ1, μ1, u, l1, s1, r1, q1⟩ => ?_
    split at q1
    · rename_i hu
      obtain ⟨p, C', dx, fs, rfl, hC', e1, cf, hl⟩ := isObj_of s1 r1 hu
      have eC : C' = C := by rw [hC] at hC'; cases hC'; rfl
      subst eC
      refine ⟨p, dx, fs, rfl, e1, hl, θ1, ρ, μ1, l1.rpE he, s1, ?_⟩
      refine q1.bind.imp fun ws H2 ⟨θ2, μ2, ds, l2, s2, r2, q2⟩ => ?_
      split at q2
      · rename_i hl
        rw [List.append_nil]
        refine ⟨by rw [List.length_cons, ← r2.len]; exact hl, θ2, μ2, u :: ds, s2, ⟨_, _, rfl, l2.rp r1, r2⟩, q2.fnoex⟩
      · exact q2.elim
    · exact q1.elim
  · refine ⟨fun pins s σ H Q I q => ?_⟩
    refine PySem.W.methodCall_KW (pl := pl) (thn (ho.run pins s σ H (fun w H1 => False) I ?_) fun u s1 ⟨x, H1, I1, rx, z⟩ => z.elim) ht
    obtain ⟨θ, ρ, μ, he, hs, q⟩ := q
    refine ⟨θ, ρ, μ, he, hs, ?_⟩
    refine q.bind.imp fun w H1 ⟨θ1, μ1, u, l1, s1, r1, q1⟩ => ?_
    split at q1
    · rename_i hu
      obtain ⟨p, C', dx, fs, rfl, hC', e1, cf, hl⟩ := isObj_of s1 r1 hu
      have eC : C' = C := by rw [hC] at hC'; cases hC'; rfl
      subst eC
      exact hcf cf
    · exact q1.elim
theorem d_meth0 {j k : Nat} {cls m : String} {fn : Fn} {mo : EM} {pl : Sem Bool} (Cm : CalM X.prog X.w X.K X.mg X.base xt cls (Str.ofString m) j 1 fn) (hr : Room k X.A) (ho : DEx xt W X o mo) (hjk : j ≤ k := by decide)
    (ht : eval (.Call (.Attribute o (Str.ofString m) apos) [] [] pos) X.env = (do
      let ov ← eval o X.env
      standAt apos.atName
      let (f, first) ← holding [ov] (getMethod ov (Str.ofString m) pl)
      callWith pos f first (backTo pos (starEach [] X.env)) (backToKw pos (keywordEach [] X.env))) := by rfl) :
    DEx xt W X (.Call (.Attribute o (Str.ofString m) apos) [] [] pos) (mMeth cls m 1 fn mo mNil) := by
  obtain ⟨C, f, fd, ps, hC, hm, hb, F⟩ := Cm
  by_cases hcf : CF X.K C
  · refine imE (pe_meth0 ho hcf.cls hm (F.mono hjk) hr hb .nil passL ht) fun σ H Q ⟨θ, ρ, μ, he, hs, q⟩ => ⟨θ, ρ, μ, he, hs, ?_⟩
    refine q.bind.imp fun w H1 ⟨θ1, μ1, u, l1, s1, r1, q1⟩ => ?_
    split at q1
    · rename_i hu
      obtain ⟨p, C', dx, fs, rfl, hC', e1, cf, hl⟩ := isObj_of s1 r1 hu
      have eC : C' = C := by rw [hC] at hC'; cases hC'; rfl
      subst eC
      exact ⟨p, dx, fs, rfl, e1, hl, rfl, θ1, μ1, [u], s1, ⟨_, _, rfl, r1, rfl⟩, Po.fnoex (W := W) (σ := σ) q1⟩
    · exact q1.elim
  · refine ⟨fun pins s σ H Q I q => ?_⟩
    refine PySem.W.methodCall_KW (pl := pl) (thn (ho.run pins s σ H (fun w H1 => False) I ?_) fun u s1 ⟨x, H1, I1, rx, z⟩ => z.elim) ht
    obtain ⟨θ, ρ, μ, he, hs, q⟩ := q
    refine ⟨θ, ρ, μ, he, hs, ?_⟩
    refine q.bind.imp fun w H1 ⟨θ1, μ1, u, l1, s1, r1, q1⟩ => ?_
    split at q1
    · rename_i hu
      obtain ⟨p, C', dx, fs, rfl, hC', e1, cf, hl⟩ := isObj_of s1 r1 hu
      have eC : C' = C := by rw [hC] at hC'; cases hC'; rfl
      subst eC
      exact hcf cf
    · exact q1.elim
/-- C(..), an own class with an own __init__ -/
structure MkC (K : PySem.W.Frag) (mg : Str → Option Value) (cls : String) : Prop where
  ex : ∃ C f, PySem.W.nsIn K mainGlobals (Str.ofString cls) = some (some (.ref C)) ∧ mg (Str.ofString cls) = some (.ref C) ∧ CF K C ∧ Mk K C f ∧ PySem.W.findIn K (.ref C) "__init__" = some (some (.ref f))
def mNew (cls : String) (n : Nat) (fn : Fn) (ms : LM) : EM := fun ρ μ => (ms ρ μ).bind fun ds μ => if ds.length + 1 = n then ((fn (.ref μ.length :: ds) (μ ++ [.obj cls []])).noex).bind fun r μ2 => match r with
  | .non => .ok (.ref μ.length) μ2
  | _ => .bad
  else .bad
theorem d_new {j k n : Nat} {cls : String} {fn : Fn} {ms : LM} (M : MkC X.K X.mg cls) (Cm : CalM X.prog X.w X.K X.mg X.base xt cls "__init__" j n fn) (hr : Room k X.A) (ha : DAs xt W X (e :: es) ms) (hjk : j + 1 ≤ k := by decide)
    (hg : Gl X (Str.ofString cls) := by rfl) (hdb : (Str.ofString cls == ("__debug__" : Str)) = false := by decide) (he : starEach (e :: es) X.env = (false, eval e X.env) :: starEach es X.env := by rfl) (hpl : (backTo pos (starEach es X.env)).any (·.1) = false := by rfl) :
    DEx xt W X (.Call (.Name (Str.ofString cls) p) (e :: es) [] pos) (mNew cls n fn ms) := by
  obtain ⟨C, f, fd, ps, hC, hm, hb, F⟩ := Cm
  obtain ⟨C2, f2, hC2, hmg, cf, mk, _⟩ := M.ex
  have eC : C2 = C := by rw [hC] at hC2; cases hC2; rfl
  subst eC
  have ef : f2 = f := by have h1 := mk.init; have h2 := hm.at_; rw [h1] at h2; cases h2; rfl
  subst ef
  refine imE (pe_make mk F (hr.mono hjk) hg hmg hb .nil passL ha hdb he hpl) fun σ H Q ⟨θ, ρ, μ, hen, hs, q⟩ => ⟨θ, ρ, μ, hen, hs, ?_⟩
  refine q.bind.imp fun ws H1 ⟨θ1, μ1, ds, l1, s1, r1, q1⟩ x dx hx hdx ne => ?_
  split at q1
  · rename_i hl
    rw [List.append_nil]
    have hx' : upd H1 dx (.own x) x = none := by rw [upd_ne (Ne.symm ne)]; exact hx
    have l2 : Lt θ1 (θ1 ++ [x]) H1 (upd (upd H1 dx (.own x)) x (.ins C2 dx [])) := (Lt.laid (θ := θ1) hdx).trans (Lt.push hx')
    have s2 : Sto X.K (θ1 ++ [x]) (upd (upd H1 dx (.own x)) x (.ins C2 dx [])) (μ1 ++ [.obj cls []]) :=
      ((s1.fr hdx).fr hx').pushC (s1.out hx) ⟨C2, dx, [], hC, upd_same, rfl, cf, fun _ h => nomatch h⟩
    have rx : Rp X.K (θ1 ++ [x]) (upd (upd H1 dx (.own x)) x (.ins C2 dx [])) (.ref μ1.length) (.ref x) := ⟨x, by rw [← s1.len, List.getElem?_append_right (Nat.le_refl _)]; simp, rfl⟩
    refine ⟨by rw [List.length_cons, ← r1.len]; exact hl, _, _, .ref μ1.length :: ds, s2, ⟨_, _, rfl, rx, l2.rpL r1⟩, ?_⟩
    refine Po.fnoex (W := W) (σ := σ) ?_
    refine (Po.bind (Po.later q1 l2)).imp fun w H2 ⟨θ2, μ2, r, l3, s3, r3, q3⟩ => ?_
    cases r with
    | non =>
      cases r3
      exact ⟨rfl, q3.ret s3 (l3.rp rx)⟩
    | _ => exact q3.elim
  · exact q1.elim
end
end Md

namespace Md
open PySem L2 PySem.Spec PyProof.Rows
/-! ## what is turned round, t[::-1] -/
theorem adj_rev (n : Nat) : Builtin.Slice.sliceAdjust none none (-1) (n : Int) = ((n : Int) - 1, -1) := by
  unfold Builtin.Slice.sliceAdjust
  simp
theorem places_rev (n : Nat) : Builtin.Slice.slicePlaces ((n : Int) - 1) (-1) (-1) = n := by
  unfold Builtin.Slice.slicePlaces
  simp only [show ¬ ((-1 : Int) > 0) by omega, if_false, Int.neg_neg, Int.ediv_one]
  split <;> omega
theorem fm_map {α β : Type} {f : α → Option β} {g : α → β} : ∀ {l : List α}, (∀ m ∈ l, f m = some (g m)) → l.filterMap f = l.map g
  | [], _ => rfl
  | x :: l, h => by rw [List.filterMap_cons, h x List.mem_cons_self, List.map_cons]; exact congrArg _ (fm_map fun m hm => h m (List.mem_cons_of_mem _ hm))
theorem pick_rev (xs : Array Value) : ((List.range xs.size).filterMap fun (m : Nat) => xs[(((xs.size : Int) - 1) + (m : Int) * (-1)).toNat]?).toArray = xs.toList.reverse.toArray := by
  congr 1
  apply List.ext_getElem?
  intro i
  have e : ∀ m ∈ List.range xs.size, xs[(((xs.size : Int) - 1) + (m : Int) * (-1)).toNat]? = some (xs.toList.reverse.getD m .none) := fun m hm => by
    have hm' := List.mem_range.mp hm
    have e1 : (((xs.size : Int) - 1) + (m : Int) * (-1)).toNat = xs.size - 1 - m := by omega
    rw [e1, List.getD_eq_getElem?_getD, List.getElem?_reverse (by simpa using hm')]
    simp only [Array.length_toList, Array.getElem?_toList]
    rw [Array.getElem?_eq_getElem (by omega)]
    rfl
  have e2 : (List.range xs.size).filterMap (fun (m : Nat) => xs[(((xs.size : Int) - 1) + (m : Int) * (-1)).toNat]?) = (List.range xs.size).map fun m => xs.toList.reverse.getD m .none := by
    exact fm_map e
  rw [e2]
  by_cases hi : i < xs.size
  · rw [List.getElem?_map, List.getElem?_range hi, Option.map_some, List.getD_eq_getElem?_getD, List.getElem?_eq_getElem (l := xs.toList.reverse) (by simpa using hi)]
    rfl
  · rw [List.getElem?_eq_none (by simpa using hi), List.getElem?_eq_none (by simpa using hi)]
theorem applied_rev {prog : Program} {w : World} {A : Around} {E : Value → Shared → Prop} {s : Shared} {c : Addr} {u1 u2 u3 : Value} {n : Nat} {Q : Int × Int × Nat → Shared → Prop} (hc : s.heap.IsSliceOf c u1 u2 u3) (p1 : IsPart u1 none) (p2 : IsPart u2 none)
    (p3 : IsPart u3 (some (-1))) (q : Q ((n : Int) - 1, -1, n) s) : wpAny (model prog w) A (Builtin.Slice.sliceApplied (.ref c) (pure (n : Int))) Q E s := by
  obtain ⟨ob, h1, h2, h3⟩ := id hc
  unfold Builtin.Slice.sliceApplied Builtin.Slice.sliceFields
  refine wpAny_bind (wpAny_bind (wpAny_field h1 h3 (x := u1) rfl (wpAny_bind (wpAny_field h1 h3 (x := u2) rfl (wpAny_bind (wpAny_field h1 h3 (x := u3) rfl (wpAny_pure ?_)))))))
  refine wpAny_bind (HT.slicePart_ p3 ?_)
  show wpAny _ _ (if ((-1 : Int) == 0) = true then _ else _) _ _ s
  rw [if_neg (by decide)]
  refine wpAny_bind (HT.slicePart_ p1 (wpAny_bind (HT.slicePart_ p2 (wpAny_bind (wpAny_pure ?_)))))
  show wpAny _ _ (match Builtin.Slice.sliceAdjust none none (-1) (n : Int) with | (lo, hi) => pure (lo, (-1 : Int), Builtin.Slice.slicePlaces lo hi (-1))) _ _ s
  rw [adj_rev]
  show wpAny _ _ (pure ((n : Int) - 1, (-1 : Int), Builtin.Slice.slicePlaces ((n : Int) - 1) (-1) (-1))) _ _ s
  rw [places_rev]
  exact wpAny_pure q
theorem getItem_rev {prog : Program} {w : World} {A : Around} {E : Value → Shared → Prop} {s : Shared} {t c : Addr} {its : Array Value} {u1 u2 u3 : Value} {Q : Value → Shared → Prop} (ht : IsTup s.heap t its) (hc : s.heap.IsSliceOf c u1 u2 u3) (p1 : IsPart u1 none) (p2 : IsPart u2 none)
    (p3 : IsPart u3 (some (-1))) (hz : its.size ≤ sizeLine) (q : Q (.ref s.heap.objs.size) { s with heap := s.heap.push { cls := .type "tuple", data := .seq its.toList.reverse.toArray } }) : wpAny (model prog w) A (getItem (.ref t) (.ref c)) Q E s := by
  have hz' : sizeOk (.seq its.toList.reverse.toArray) := by
    show its.toList.reverse.toArray.size ≤ sizeLine
    simpa using hz
  obtain ⟨ob, h1, h2, h3⟩ := id hc
  have hT : s.TypeIs (.ref c) "slice" := ⟨ob, h1, h2⟩
  unfold getItem
  try with_reducible refine wpAny_holding ?_
  first | refine wpAny_bind (wpAny_pure ?_) | skip
  refine wpAny_bind (wpAny_sequenceKey ht.typeIs (by decide) (wpAny_bind ?_))
  refine wpAny_callSpecial?_slot (name := Str.ofString "__getitem__") ht.typeIs slot_tuple_getitem (wpAny_call_entry slot_tuple_getitem ht.typeIs entry_tuple_getitem ?_ (args_tuple_getitem _ _))
  show wpAny _ _ (Builtin.Tuple.tupleItemsOf (.ref t) >>= _) _ _ s
  refine wpAny_bind (tupleItemsOf_ ht (wpAny_bind (wpAny_typeOf hT ?_)))
  rw [if_pos (by decide)]
  refine wpAny_bind (applied_rev hc p1 p2 p3 ?_)
  have hno : ¬ ((((its.size : Int) - 1) == 0 && (-1 : Int) == 1 && its.size == its.size) = true) := by simp
  show wpAny _ _ (if (((its.size : Int) - 1) == 0 && (-1 : Int) == 1 && its.size == its.size) = true then _ else _) _ _ s
  rw [if_neg hno, pick_rev]
  first
    | exact wpAny_bind (m := Builtin.Tuple.tupleExact _) (wpAny_newObj_type (wpAny_pure ⟨_, rfl, wpAny_pure q⟩) hz')
    | exact wpAny_bind (m := Builtin.Tuple.tupleExact _) (wpAny_newObj_type (wpAny_bind (wpAny_pure (wpAny_pure ⟨_, rfl, wpAny_pure q⟩))) hz')
    | exact wpAny_bind (wpAny_bind (m := Builtin.Tuple.tupleExact _) (wpAny_newObj_type (wpAny_pure (wpAny_pure ⟨_, rfl, wpAny_pure q⟩)) hz'))
    | exact wpAny_bind (wpAny_bind (m := Builtin.Tuple.tupleExact _) (wpAny_newObj_type (wpAny_pure ⟨_, rfl, wpAny_pure q⟩) hz'))
/-- of a list a new list, of a tuple a new tuple -/
def tRevA (K : PySem.W.Frag) (te : TE) : TE := fun σ H Q => te σ H fun x H1 => ∃ a xs, x = .ref a ∧ ((SqL K H1 a xs ∧ ∀ p, H1 p = none → Q (.ref p) (upd H1 p (.lst xs.reverse))) ∨ (SqT K H1 a xs ∧ ∀ p, H1 p = none → Q (.ref p) (upd H1 p (.tup xs.reverse))))
theorem pe_revA {X : Cx} {e : Expr} {te : TE} {k : Nat} {p1 p2 p3 pos : Pos} (he : PE X e te) : PE X (.Subscript e (.Slice none none (some (.UnaryOp .USub (.Constant (.int 1) k p1) p2)) p3) pos) (tRevA X.K te) := by
  refine ⟨fun pins s σ H Q I h => Subscript_ (thn (he.run pins s σ H _ I h) fun v s1 ⟨x, H1, I1, r1, a, xs, ex, hx⟩ => ?_)⟩
  subst ex
  cases r1
  have hst : PO X (some (.UnaryOp .USub (.Constant (.int 1) k p1) p2)) (tPart (tUn (rU fun i => .int (-i)) (tC (.int 1)))) := po_some (pe_un un_neg pe_int)
  refine wpAny_Slice (thn (po_none.run pins s1 σ H1 (fun o G => o = none ∧ G = H1) I1 ⟨rfl, rfl⟩) fun u1 s2 ⟨o1, G1, J1, q1, e1, g1⟩ => ?_)
  subst e1 g1
  refine thn (po_none.run pins s2 σ G1 (fun o G => o = none ∧ G = G1) J1 ⟨rfl, rfl⟩) fun u2 s3 ⟨o2, G2, J2, q2, e2, g2⟩ => ?_
  subst e2 g2
  refine thn (hst.run pins s3 σ G2 (fun o G => o = some (-1) ∧ G = G2) J2 ⟨1, rfl, -1, rfl, rfl, rfl⟩) fun u3 s4 ⟨o3, G3, J3, q3, e3, g3⟩ => ?_
  subst e3 g3
  have J5 : Inv X pins σ G3 { s4 with heap := s4.heap.push { cls := .type "slice", data := .fields #[u1, u2, u3] } } := J3.kept (t' := s4.toks) fun b ob z => Heap.get?_push_of_some _ z
  show wpAny (model X.prog X.w) X.A (subscriptTail e (.Slice none none (some (.UnaryOp .USub (.Constant (.int 1) k p1) p2)) p3) (.ref a) (.ref s4.heap.objs.size)) (L2.EP X pins σ Q) X.xe { s4 with heap := s4.heap.push { cls := .type "slice", data := .fields #[u1, u2, u3] } }
  rcases hx with ⟨hx, q⟩ | ⟨hx, q⟩
  · obtain ⟨its, r, ht, hz⟩ := J5.list hx
    have hlen := r.length
    refine tail_any (ops := [.ref a, .ref s4.heap.objs.size]) ht.isList.typeIs (PySem.slot_list_getitem.lookup) ?_ (by with_unfolding_all rfl)
    refine wpAny_getItem_list_slice ht.isList (Heap.IsSliceOf.new _ u1 u2 u3) q1 q2 q3 (by decide) ?_ (by rw [List.size_toArray]; omega)
    rw [PySem.W.krv_pick]
    refine ⟨.ref _, _, J5.laid (t' := s4.toks) (o := .lst xs.reverse) (fun b ob z => Heap.get?_push_of_some _ z) (Nat.le_refl _) ?_, rfl, q _ (J5.hok.fresh (Nat.le_refl _))⟩
    exact ⟨by rw [List.length_reverse]; exact hz, _, 0, r.reverse, Heap.get?_push_size _ rfl⟩
  · obtain ⟨its, r, ht, hz⟩ := J5.tuple hx
    have hlen := r.length
    refine tail_any (ops := [.ref a, .ref s4.heap.objs.size]) ht.typeIs (PyProof.Rows.slot_tuple_getitem.lookup) ?_ (by with_unfolding_all rfl)
    refine getItem_rev ht (Heap.IsSliceOf.new _ u1 u2 u3) q1 q2 q3 (by rw [List.size_toArray]; omega) ?_
    refine ⟨.ref _, _, J5.laid (t' := s4.toks) (o := .tup xs.reverse) (fun b ob z => Heap.get?_push_of_some _ z) (Nat.le_refl _) ?_, rfl, q _ (J5.hok.fresh (Nat.le_refl _))⟩
    exact ⟨by rw [List.length_reverse]; exact hz, _, r.reverse, IsTup.new _ _⟩
theorem RpL.rev {K : PySem.W.Frag} {θ : List Addr} {H : Hp} : ∀ {xs : List DV} {vs : List V}, RpL K θ H xs vs → RpL K θ H xs.reverse vs.reverse
  | [], _, h => by cases h; exact rfl
  | x :: xs, _, h => by
    obtain ⟨v, vs, rfl, r, rs⟩ := h
    rw [List.reverse_cons, List.reverse_cons]
    exact RpL.app (RpL.rev rs) (RpL.one r)
section
variable {X : Cx} {xt : String → Option Addr} {W : WX} {a b c e o i : Expr} {es : List Expr} {pos p apos ps : Pos}
def mRev (m : EM) : EM := fun ρ μ => (m ρ μ).bind fun v μ => match v with
  | .tup xs => .ok (.tup xs.reverse) μ
  | .kl xs => .ok (.ref μ.length) (μ ++ [.lst xs.reverse])
  | .ref n => match μ[n]? with
    | some (.lst xs) => .ok (.ref μ.length) (μ ++ [.lst xs.reverse])
    | _ => .bad
  | _ => .bad
theorem d_rev {m : EM} {k : Nat} {p1 p2 p3 : Pos} (h : DEx xt W X e m) : DEx xt W X (.Subscript e (.Slice none none (some (.UnaryOp .USub (.Constant (.int 1) k p1) p2)) p3) pos) (mRev m) := by
  refine imE (pe_revA h) fun σ H Q ⟨θ, ρ, μ, he, hs, q⟩ => ⟨θ, ρ, μ, he, hs, ?_⟩
  refine q.bind.imp fun w H1 ⟨θ1, μ1, v, l1, s1, r1, q1⟩ => ?_
  cases v with
  | tup xs =>
    obtain ⟨p, vs, rfl, sp, r⟩ := r1
    exact ⟨p, vs, rfl, .inr ⟨sp, fun p' hp => q1 _ _ _ (Lt.laid hp) (s1.fr hp) ⟨p', _, rfl, .inl (.inl upd_same), (Lt.laid hp).rpL r.rev⟩⟩⟩
  | kl xs =>
    obtain ⟨p, vs, rfl, sp, r⟩ := r1
    exact ⟨p, vs, rfl, .inl ⟨sp.sq, fun p' hp => q1 _ _ _ (Lt.push hp) ((s1.fr hp).push (s1.out hp) upd_same ((Lt.laid hp).rpL r.rev)) ⟨p', by rw [← s1.len, List.getElem?_append_right (Nat.le_refl _)]; simp, rfl⟩⟩⟩
  | ref n =>
    obtain ⟨p, hp, rfl⟩ := r1
    replace q1 : Po X.K xt W (Rp X.K) (match μ1[n]? with | some (.lst xs) => .ok (.ref μ1.length) (μ1 ++ [.lst xs.reverse]) | _ => .bad) θ1 H1 σ Q := q1
    split at q1
    · rename_i xs hx
      obtain ⟨vs, ev, r⟩ := s1.cell n p _ hp hx
      exact ⟨p, vs, rfl, .inl ⟨SqL.of ev, fun p' hp => q1 _ _ _ (Lt.push hp) ((s1.fr hp).push (s1.out hp) upd_same ((Lt.laid hp).rpL r.rev)) ⟨p', by rw [← s1.len, List.getElem?_append_right (Nat.le_refl _)]; simp, rfl⟩⟩⟩
    · exact q1.elim
  | _ => exact q1.elim
end
/-! ## xs.extend(ys), ys a list or a tuple -/
theorem extT (l : Addr) (its : Array Value) (n : Nat) (b : Addr) (js : Array Value) (m : Nat) (dd : Option Addr) (sl : Array (Option Value)) (c0 : ¬ (!its.isEmpty && Builtin.List.listTooLong (its.size + js.size)) = true) (c1 : its.size ≤ sizeLine) (c2 : its.size + js.size ≤ sizeLine + 1) :
    Meets (Builtin.«list.extend» ⟨[.ref l, .ref b], []⟩) (fun _ R s => s.heap.get? l = some { cls := .type "list", dict := none, data := .seq its n, slots := #[] } ∧ s.heap.get? b = some { cls := .type "tuple", dict := dd, data := .seq js m, slots := sl } ∧
      R (.ok (.ret Value.none)) { s with heap := s.heap.update l (Obj.mapSeq fun x => x ++ js), toks := s.toks }) :=
  .of_wp fun prog w A R s h => by
    obtain ⟨hp, g, d, tk, os⟩ := s
    obtain ⟨hl, hb, h⟩ := h
    have f1 := AutoSeq1.idx_int
    have f2 := AutoSeq1.sub_tuple_tuple
    have f3 := AutoSeq1.sub_list_list
    have f4 := AutoSeq1.sub_tuple_list
    have f5 := AutoSeq1.sub_list_tuple
    have c3 : (its ++ js).size ≤ sizeLine + 1 := by rw [Array.size_append]; exact c2
    wp_walk using (wpAny_updateSeq hl rfl (hz := c1) (_hz' := c3)), wpAny_loadPart' hl, wpAny_loadPart' hb
    exact ⟨_, rfl, h⟩
def rExt (K : PySem.W.Frag) : V → List V → Hp → VK → Prop := fun x vs H Q => ∃ l b xs zs, x = .ref l ∧ vs = [.ref b] ∧ H l = some (.lst xs) ∧ (H b = some (.lst zs) ∨ SqT K H b zs) ∧ xs.length + zs.length ≤ sizeLine ∧ Q .non (upd H l (.lst (xs ++ zs)))
theorem mt_extA {X : Cx} : MtM X "list.extend" (rExt X.K) := by
  intro pins s σ H x vs v us Q I rx rv h
  obtain ⟨l, b, xs, zs, rfl, rfl, hl, hb, hz, q⟩ := h
  rcases hb with hb | hb
  · exact mt_extend pins s σ H _ _ v us Q I rx rv ⟨l, b, xs, zs, rfl, rfl, hl, hb, hz, q⟩
  · cases rx
    obtain ⟨u, rfl, ru⟩ := rv.one
    cases ru
    obtain ⟨z, its, n, r, k1, k2⟩ := I.lstM hl
    obtain ⟨js, r2, ⟨⟨cls, dd, data, sl⟩, ho, hc, m, hd⟩, z2⟩ := I.tuple hb
    simp only at hc hd
    subst hc hd
    have e1 : its.toArray.size + js.toArray.size ≤ sizeLine := by
      have := r.length
      have := r2.length
      simp only [List.size_toArray]
      omega
    have e2 : ¬ (!its.toArray.isEmpty && Builtin.List.listTooLong (its.toArray.size + js.toArray.size)) = true := by
      rw [notLongL e1, Bool.and_false]
      exact Bool.false_ne_true
    refine call_meets PySem.F.slot_list_extend ⟨_, k2, rfl⟩ PySem.F.entry_list_extend (PySem.F.args_list_extend_2 _ _) (extT l its.toArray n b js.toArray m dd sl e2 (by rw [List.size_toArray]; omega) (by omega)) ⟨k2, ho, ?_⟩
    refine ⟨.non, _, I.lset (its' := its ++ js) hl k2 (by simp) (r.append r2) ?_, rfl, q⟩
    rw [List.length_append]
    omega
end Md

namespace Md
open PySem L2
section
variable {X : Cx} {xt : String → Option Addr} {W : WX} {a b c e o i : Expr} {es : List Expr} {pos p apos ps : Pos}
/-! ## xs.extend(ys) -/
/-- the place of a list -/
def DV.at0 (v : DV) : Nat := match v with
  | .ref n => n
  | _ => 0
def mExtend (mo mv : EM) : EM := fun ρ μ => (mo ρ μ).bind fun u μ => match u.lst μ with
  | none => .bad
  | some _ => (mv ρ μ).bind fun v μ => match u.lst μ with
    | none => .bad
    | some xs => match v with
      | .tup ys => if xs.length + ys.length ≤ LIM then .ok .non (μ.set u.at0 (.lst (xs ++ ys))) else .bad
      | v => match v.lst μ with
        | some ys => if xs.length + ys.length ≤ LIM then .ok .non (μ.set u.at0 (.lst (xs ++ ys))) else .bad
        | none => .bad
theorem lst_at {K : PySem.W.Frag} {θ : List Addr} {H : Hp} {μ : DM} (s : Sto K θ H μ) {v : DV} {w : V} (r : Rp K θ H v w) {xs : List DV} (h : v.lst μ = some xs) : ∃ p vs, w = .ref p ∧ θ[v.at0]? = some p ∧ H p = some (.lst vs) ∧ RpL K θ H xs vs := by
  cases v with
  | ref n =>
    obtain ⟨p, hp, rfl⟩ := r
    simp only [DV.lst] at h
    split at h
    · rename_i ys hy
      cases h
      obtain ⟨vs, e, r⟩ := s.cell n p _ hp hy
      exact ⟨p, vs, rfl, hp, e, r⟩
    · cases h
  | _ => cases h
theorem d_extend {mo mv : EM} {cpos : Pos} (ho : DEx xt W X o mo) (hv : DEx xt W X e mv)
    (hbase : attributeBase o "extend" X.env (eval o X.env) = eval o X.env := by rfl)
    (hfew : ((backTo cpos (starEach [e] X.env)).all (fun x => !x.1) && (backToKw cpos (keywordEach [] X.env)).all (fun x => x.1.isSome) && decide (([e] : List Expr).length + ([] : List Keyword).length + (if ([] : List Keyword).isEmpty then 0 else 1) < 30)) = true := by rfl)
    (hline : (apos.endLine == cpos.line) = true := by rfl) (hs : starEach [e] X.env = (false, eval e X.env) :: starEach [] X.env := by rfl) (hplain : (backTo cpos (starEach [] X.env)).any (·.1) = false := by rfl) :
    DEx xt W X (.Call (.Attribute o "extend" apos) [e] [] cpos) (mExtend mo mv) := by
  refine imE (pe_bm PySem.F.plainAttrs_list PySem.F.slot_list_extend PySem.F.type_list_extend mt_extA ho (pa_cons hv pa_nil hs) hbase hfew hline hs hplain) fun σ H Q ⟨θ, ρ, μ, he, hs, q⟩ => ⟨θ, ρ, μ, he, hs, ?_⟩
  refine q.bind.imp fun w H1 ⟨θ1, μ1, u, l1, s1, r1, q1⟩ => ?_
  split at q1
  · exact q1.elim
  · rename_i ys hy
    obtain ⟨p, vs, rfl, hp, _⟩ := lst_of s1 r1 hy
    refine ⟨.inl ⟨rfl, _, SqL.of hp⟩, θ1, ρ, μ1, l1.rpE he, s1, ?_⟩
    refine q1.bind.imp fun w2 H2 ⟨θ2, μ2, v, l2, s2, r2, q2⟩ => ?_
    split at q2
    · exact q2.elim
    · rename_i xs hx
      obtain ⟨p', vs', e', hp', ev, r⟩ := lst_at s2 (l2.rp r1) hx
      cases e'
      split at q2
      · rename_i zs
        obtain ⟨b, ws, rfl, sb, rb⟩ := r2
        split at q2
        · rename_i hl
          obtain ⟨s3, l3⟩ := s2.put hp' ev (r.app rb)
          exact ⟨p, b, vs', ws, rfl, rfl, ev, .inr sb, by rw [← r.len, ← rb.len, ← lim_line]; exact hl, q2 _ _ _ l3 s3 rfl⟩
        · exact q2.elim
      · split at q2
        · rename_i zs hz
          obtain ⟨b, ws, rfl, sb, rb⟩ := lst_of s2 r2 hz
          split at q2
          · rename_i hl
            obtain ⟨s3, l3⟩ := s2.put hp' ev (r.app rb)
            exact ⟨p, b, vs', ws, rfl, rfl, ev, .inl sb, by rw [← r.len, ← rb.len, ← lim_line]; exact hl, q2 _ _ _ l3 s3 rfl⟩
          · exact q2.elim
        · exact q2.elim
/-! ## d.update(e) -/
def rUpd : V → List V → Hp → VK → Prop := fun x vs H Q => ∃ l b kvs mvs, x = .ref l ∧ vs = [.ref b] ∧ l ≠ b ∧ H l = some (.dK kvs) ∧ H b = some (.dK mvs) ∧ kvs.length + mvs.length ≤ sizeLine ∧ Q .non (upd H l (.dK (mergeK kvs mvs)))
theorem mt_upd : MtM X "dict.update" rUpd := by
  intro pins s σ H x vs v us Q I rx rv h
  obtain ⟨l, b, kvs, mvs, rfl, rfl, hne, hl, hb, hz, q⟩ := h
  cases rx
  obtain ⟨u, rfl, ru⟩ := rv.one
  cases ru
  obtain ⟨z1, lo1, vs1, rel1, d1⟩ := dk_of I.hok hl
  obtain ⟨z2, lo2, vs2, rel2, d2⟩ := dk_of I.hok hb
  refine call_meetsIn PySem.F.slot_dict_update d1.typeIs PySem.F.entry_dict_update (PySem.F.args_dict_update_2 _ _) (PySem.meets_dict_update (mixKind X.prog X.w) l b hne lo2)
    ⟨vs1, vs2, d1, d2, by rw [← rel1.length, ← rel2.length]; exact hz, fun h' dm _ sb => ?_⟩
  have hex : ∃ ob, h'.get? l = some ob := let ⟨ob, _, _, ho, _⟩ := dm; ⟨ob, ho⟩
  refine ⟨.non, _, d_write (t' := s.toks) I (by rw [hl]; exact True.intro) sb hex (dk_new (Nat.le_trans (length_mergeK mvs kvs) hz) lo1 (KV.merge rel2 rel1) dm), rfl, q⟩
def kMerge (kvs mvs : List (DV × DV)) : List (DV × DV) := mvs.foldl (fun acc q => kPut acc q.1 q.2) kvs
theorem kMerge_rp {K : PySem.W.Frag} {θ : List Addr} {H : Hp} : ∀ {mvs : List (DV × DV)} {ms : List Key} {us : List V} {kvs : List (DV × DV)} {ks : List Key} {vs : List V}, (mvs.map fun q => dKey q.1) = ms.map some → RpL K θ H (mvs.map (·.2)) us → (kvs.map fun q => dKey q.1) = ks.map some → RpL K θ H (kvs.map (·.2)) vs →
    ∃ (ks' : List Key) (ws : List V), mergeK (ks.zip vs) (ms.zip us) = ks'.zip ws ∧ ((kMerge kvs mvs).map fun q => dKey q.1) = ks'.map some ∧ RpL K θ H ((kMerge kvs mvs).map (·.2)) ws
  | [], ms, us, kvs, ks, vs, h1, r1, h2, r2 => by
    cases ms with
    | nil => cases r1; exact ⟨ks, vs, rfl, h2, r2⟩
    | cons _ _ => simp at h1
  | (k, d) :: mvs, ms, us, kvs, ks, vs, h1, r1, h2, r2 => by
    cases ms with
    | nil => simp at h1
    | cons m ms =>
      obtain ⟨w, us, rfl, q1, q2⟩ := r1
      simp only [List.map_cons, List.cons.injEq] at h1
      obtain ⟨ks', ws, g1, g2, g3⟩ := kPut_rp h1.1 q1 h2 r2
      obtain ⟨k2, w2, g4, g5, g6⟩ := kMerge_rp h1.2 q2 g2 g3
      refine ⟨k2, w2, ?_, g5, g6⟩
      show mergeK (putK (ks.zip vs) m w) (ms.zip us) = _
      rw [g1]
      exact g4
def DV.dct (v : DV) (μ : DM) : Option (List (DV × DV)) := match v with
  | .ref n => match μ[n]? with
    | some (.dct kvs) => some kvs
    | _ => none
  | _ => none
theorem dct_at {K : PySem.W.Frag} {θ : List Addr} {H : Hp} {μ : DM} (s : Sto K θ H μ) {v : DV} {w : V} (r : Rp K θ H v w) {kvs : List (DV × DV)} (h : v.dct μ = some kvs) :
    ∃ (p : Addr) (ks : List Key) (vs : List V), w = .ref p ∧ θ[v.at0]? = some p ∧ (kvs.map fun q => dKey q.1) = ks.map some ∧ H p = some (.dK (ks.zip vs)) ∧ RpL K θ H (kvs.map (·.2)) vs ∧ (ks.zip vs).length = kvs.length := by
  cases v with
  | ref n =>
    obtain ⟨p, hp, rfl⟩ := r
    simp only [DV.dct] at h
    split at h
    · rename_i ys hy
      cases h
      obtain ⟨ks, vs, h1, e, r⟩ := s.cell n p _ hp hy
      refine ⟨p, ks, vs, rfl, hp, h1, e, r, ?_⟩
      have g1 := congrArg List.length h1
      have g2 := r.len
      simp only [List.length_map] at g1 g2
      rw [List.length_zip]
      omega
    · cases h
  | _ => cases h
def mUpd (mo mv : EM) : EM := fun ρ μ => (mo ρ μ).bind fun u μ => match u.dct μ with
  | none => .bad
  | some _ => (mv ρ μ).bind fun v μ => match u.dct μ, v.dct μ with
    | some kvs, some mvs => if u.at0 ≠ v.at0 ∧ kvs.length + mvs.length ≤ LIM then .ok .non (μ.set u.at0 (.dct (kMerge kvs mvs))) else .bad
    | _, _ => .bad
theorem d_upd {mo mv : EM} {cpos : Pos} (ho : DEx xt W X o mo) (hv : DEx xt W X e mv)
    (hbase : attributeBase o "update" X.env (eval o X.env) = eval o X.env := by rfl)
    (hfew : ((backTo cpos (starEach [e] X.env)).all (fun x => !x.1) && (backToKw cpos (keywordEach [] X.env)).all (fun x => x.1.isSome) && decide (([e] : List Expr).length + ([] : List Keyword).length + (if ([] : List Keyword).isEmpty then 0 else 1) < 30)) = true := by rfl)
    (hline : (apos.endLine == cpos.line) = true := by rfl) (hs : starEach [e] X.env = (false, eval e X.env) :: starEach [] X.env := by rfl) (hplain : (backTo cpos (starEach [] X.env)).any (·.1) = false := by rfl) :
    DEx xt W X (.Call (.Attribute o "update" apos) [e] [] cpos) (mUpd mo mv) := by
  refine imE (pe_bm PySem.F.plainAttrs_dict PySem.F.slot_dict_update PySem.F.type_dict_update mt_upd ho (pa_cons hv pa_nil hs) hbase hfew hline hs hplain) fun σ H Q ⟨θ, ρ, μ, he, hs, q⟩ => ⟨θ, ρ, μ, he, hs, ?_⟩
  refine q.bind.imp fun w H1 ⟨θ1, μ1, u, l1, s1, r1, q1⟩ => ?_
  split at q1
  · exact q1.elim
  · rename_i ys hy
    obtain ⟨p, ks0, vs0, rfl, _, _, hp, _⟩ := dct_at s1 r1 hy
    refine ⟨.inr (.inr (.inl ⟨rfl, .inl ⟨_, hp⟩⟩)), θ1, ρ, μ1, l1.rpE he, s1, ?_⟩
    refine q1.bind.imp fun w2 H2 ⟨θ2, μ2, v, l2, s2, r2, q2⟩ => ?_
    split at q2
    · rename_i kvs mvs hk hm
      obtain ⟨p', ks, vs, e', hp', h1, e1, g1, n1⟩ := dct_at s2 (l2.rp r1) hk
      cases e'
      obtain ⟨b, ms, us, rfl, hb, h2, e2, g2, n2⟩ := dct_at s2 r2 hm
      split at q2
      · rename_i hl
        have hne : p ≠ b := fun e => by
          subst e
          have z1 := List.getElem?_eq_some_iff.mp hp'
          have z2 := List.getElem?_eq_some_iff.mp hb
          exact hl.1 ((List.getElem_inj s2.nd).mp (z1.2.trans z2.2.symm))
        obtain ⟨k2, w2, g4, g5, g6⟩ := kMerge_rp h2 g2 h1 g1
        have hput := s2.putC (c := .dct (kMerge kvs mvs)) (o := .dK (k2.zip w2)) hp' e1 id fun H' l e' => ⟨k2, w2, g5, e', l.rpL g6⟩
        refine ⟨p, b, _, _, rfl, rfl, hne, e1, e2, by rw [n1, n2, ← lim_line]; exact hl.2, ?_⟩
        rw [g4]
        exact q2 _ _ _ hput.2 hput.1 rfl
      · exact q2.elim
    · exact q2.elim
/-! ## len(d), sorted(d) -/
def mLenD (m : EM) : EM := fun ρ μ => (m ρ μ).bind fun v μ => match v.dct μ with
  | some kvs => .ok (.int kvs.length) μ
  | none => .bad
theorem d_lenD {m : EM} (hm : X.mg ("len" : Str) = none) (h : DEx xt W X a m) (hg : Gl X ("len" : Str) := by rfl)
    (he : starEach [a] X.env = (false, eval a X.env) :: starEach [] X.env := by rfl) (hpl : (backTo pos (starEach [] X.env)).any (·.1) = false := by rfl) : DEx xt W X (.Call (.Name "len" p) [a] [] pos) (mLenD m) := by
  refine imE (pe_callB call_lenD hg hm (by decide +kernel) (pa_cons h pa_nil he) (by decide) (by decide) he hpl) fun σ H Q ⟨θ, ρ, μ, he, hs, q⟩ => ⟨θ, ρ, μ, he, hs, ?_⟩
  refine q.bind.imp fun w H1 ⟨θ1, μ1, v, l1, s1, r1, q1⟩ => ?_
  split at q1
  · rename_i kvs hk
    obtain ⟨p', ks, vs, rfl, hp', h1, e1, g1, n1⟩ := dct_at s1 r1 hk
    exact ⟨p', _, rfl, e1, by rw [n1]; exact q1.ret s1 rfl⟩
  · exact q1.elim
def mSortedD (m : EM) : LM := fun ρ μ => (m ρ μ).bind fun v μ => match v.dct μ with
  | some kvs => match intsOf (kvs.map (·.1)) with
    | some ns => if ns.length < 64 then .ok ((srtD ns).map .int) μ else .bad
    | none => .bad
  | none => .bad
theorem d_sortedD {m : EM} (hc : X.calm = true) (hm : X.mg ("sorted" : Str) = none) (h : DEx xt W X a m) (hg : Gl X ("sorted" : Str) := by rfl)
    (he : starEach [a] X.env = (false, eval a X.env) :: starEach [] X.env := by rfl) (hpl : (backTo pos (starEach [] X.env)).any (·.1) = false := by rfl) : DFr xt W X (.Call (.Name "sorted" p) [a] [] pos) (mSortedD m) := by
  refine imE (pe_callB (call_sortedDI hc) hg hm (by decide +kernel) (pa_cons h pa_nil he) (by decide) (by decide) he hpl) fun σ H Q ⟨θ, ρ, μ, he, hs, q⟩ => ⟨θ, ρ, μ, he, hs, ?_⟩
  refine (PoF.of q).imp fun w H1 ⟨θ1, μ1, v, l1, s1, r1, q1⟩ => ?_
  split at q1
  · rename_i kvs hk
    obtain ⟨p', ks, vs, rfl, hp', h1, e1, g1, n1⟩ := dct_at s1 r1 hk
    split at q1
    · rename_i ns hn
      split at q1
      · rename_i hl
        have hks : ks = ns.map Sum.inl := by
          have e2 := intsOf_eq hn
          have e3 : (kvs.map fun q => dKey q.1) = (ns.map Sum.inl).map some := by
            rw [show (kvs.map fun q => dKey q.1) = (kvs.map (·.1)).map dKey by simp, e2]
            simp [dKey]
          exact (List.map_inj_right (fun _ _ h => Option.some.inj h)).mp (h1.symm.trans e3)
        have hlen : ks.length = vs.length := by
          have z1 := congrArg List.length h1
          have z2 := g1.len
          simp only [List.length_map] at z1 z2
          omega
        refine ⟨p', _, ns, rfl, .inl e1, ?_, hl, fun ns' p2 h4 h5 h6 => ?_⟩
        · rw [← hks]
          exact List.map_fst_zip (Nat.le_of_eq hlen)
        · rw [srt_one (h4.trans (srtD_perm ns).symm) h5 (srtD_srt ns)]
          exact q1.ret s1 RpL.of_ints p2 h6
      · exact q1.elim
    · exact q1.elim
  · exact q1.elim
/-! ## in: a sign of a text, an item of a tuple of flat things -/
def DV.flat : DV → Bool
  | .non => true
  | .bl _ => true
  | .int _ => true
  | .str _ => true
  | _ => false
def gInX (neg : Bool) (u v : DV) (μ : DM) : DR DV := match v with
  | .str b => match u with
    | .str a => match a.toList with
      | [ch] => .ok (.bl (if neg then !b.toList.contains ch else b.toList.contains ch)) μ
      | _ => .bad
    | _ => .bad
  | .tup ys => if u.flat = true ∧ ys.all DV.flat = true then .ok (.bl (if neg then !ys.any (fun y => dEq y u) else ys.any (fun y => dEq y u))) μ else .bad
  | v => gIn neg u v μ
theorem cps_of (s : String) : (Str.ofString s).cps.toList = s.toList.map Char.toNat := by rw [Str.ofString_eq_toList]
theorem sign_mem {b : String} {ch : Char} : decide (ch.toNat ∈ (Str.ofString b).cps.toList) = b.toList.contains ch := by
  rw [cps_of]
  rw [List.contains_eq_mem]
  congr 1
  apply propext
  constructor
  · intro h
    obtain ⟨c2, h1, h2⟩ := List.mem_map.mp h
    have : c2 = ch := by
      apply Char.ext
      apply UInt32.toNat_inj.mp
      exact h2
    exact this ▸ h1
  · exact fun h => List.mem_map_of_mem h
theorem flat_rp {K : PySem.W.Frag} {θ : List Addr} {H : Hp} {u : DV} {w : V} (r : Rp K θ H u w) (h : u.flat = true) : flatV w = true := by
  cases u <;> simp [DV.flat] at h <;> cases r <;> rfl
theorem str_beq (a b : String) : (Str.ofString a == Str.ofString b) = (a == b) := by
  by_cases e : a = b
  · subst e; rw [beq_self_eq_true, beq_self_eq_true]
  · rw [beq_eq_false_iff_ne.mpr e, beq_eq_false_iff_ne.mpr (fun z => e (ofString_inj z))]
theorem flat_eq {K : PySem.W.Frag} {θ : List Addr} {H : Hp} {u v : DV} {w z : V} (r : Rp K θ H u w) (h : u.flat = true) (r2 : Rp K θ H v z) (h2 : v.flat = true) : eqV w z = dEq u v := by
  cases u <;> simp only [DV.flat, reduceCtorEq] at h <;> cases r <;> cases v <;> simp only [DV.flat, reduceCtorEq] at h2 <;> cases r2 <;> simp only [eqV, dEq, str_beq]
theorem flat_all {K : PySem.W.Frag} {θ : List Addr} {H : Hp} {u : DV} {w : V} (r : Rp K θ H u w) (h : u.flat = true) : ∀ {ys : List DV} {vs : List V}, RpL K θ H ys vs → ys.all DV.flat = true → vs.all flatV = true ∧ inV w vs = ys.any fun y => dEq y u
  | [], _, rl, _ => by cases rl; exact ⟨rfl, rfl⟩
  | y :: ys, _, rl, hy => by
    obtain ⟨v, vs, rfl, r1, r2⟩ := rl
    simp only [List.all_cons, Bool.and_eq_true] at hy
    obtain ⟨i1, i2⟩ := flat_all r h r2 hy.2
    refine ⟨by simp [flat_rp r1 hy.1, i1], ?_⟩
    unfold inV at i2 ⊢
    rw [List.any_cons, List.any_cons, i2, flat_eq r1 hy.1 r h]
theorem inX_run {K : PySem.W.Frag} {neg : Bool} {x y : V} {H : Hp} {Q : VK} (q : rG K (gInX neg) x y H Q) : (∃ (c : Nat) (z : Str), x = .str ⟨#[c]⟩ ∧ y = .str z ∧ Q (.bl (if neg then !decide (c ∈ z.cps.toList) else decide (c ∈ z.cps.toList))) H) ∨ rIn K neg x y H Q ∨ rG K (gIn neg) x y H Q := by
  obtain ⟨θ, μ, u, v, s, ru, rv, q⟩ := q
  cases v with
  | str b =>
    cases u with
    | str a =>
      cases ru; cases rv
      simp only [gInX] at q
      split at q
      · rename_i ch hc
        refine .inl ⟨ch.toNat, _, ?_, rfl, ?_⟩
        · have : (Str.ofString a).cps.toList = [ch.toNat] := by rw [cps_of, hc]; rfl
          have e : (Str.ofString a) = ⟨#[ch.toNat]⟩ := by
            cases hs : Str.ofString a with
            | mk cps => rw [hs] at this; simp only at this; congr 1; apply Array.toList_inj.mp; exact this
          rw [e]
        · rw [sign_mem]
          exact q.fin s rfl
      · exact q.elim
    | _ => exact q.elim
  | tup ys =>
    obtain ⟨p, vs, rfl, sp, r⟩ := rv
    replace q : Po K (fun _ => none) (fun _ _ _ _ => False) (Rp K) (DR.noex (if u.flat = true ∧ ys.all DV.flat = true then .ok (.bl (if neg then !ys.any (fun y => dEq y u) else ys.any (fun y => dEq y u))) μ else .bad)) θ H [] Q := q
    split at q
    · rename_i hf
      obtain ⟨i1, i2⟩ := flat_all ru hf.1 r hf.2
      exact .inr (.inl ⟨p, vs, rfl, .inr sp, flat_rp ru hf.1, i1, by rw [i2]; exact q.fin s rfl⟩)
    · exact q.elim
  | _ => exact .inr (.inr ⟨θ, μ, u, _, s, ru, rv, q⟩)
theorem o_inX (hu : X.A.units + 65 < cLine) : OpD X (compareOp .In) (gInX false) := imO (op_in_sign.or (op_in_seq.or (o_in hu))) fun x y H Q q => inX_run q
theorem o_notInX (hu : X.A.units + 65 < cLine) : OpD X (compareOp .NotIn) (gInX true) := imO (op_notIn_sign.or (op_notIn_seq.or (o_notIn hu))) fun x y H Q q => inX_run q
/-! ## a dict of the module -/
def KPairs (K : PySem.W.Frag) : List (String × DV) → List DictEntry → Prop
  | [], es => es = []
  | (k, v) :: l, es => ∃ d ds, es = d :: ds ∧ (∃ t, d.key = .str (Str.ofString k) t) ∧ WrD K v d.val ∧ KPairs K l ds
structure KDc (K : PySem.W.Frag) (w : World) (mg : Str → Option Value) (x : Str) (l : List (String × DV)) : Prop where
  ex : ∃ d es n, mg x = some (.ref d) ∧ KDict K w d es n ∧ KPairs K l es.toList
def kFind : List (String × DV) → String → Option DV
  | [], _ => none
  | (k, v) :: l, s => if s = k then some v else kFind l s
theorem KPairs.find {K : PySem.W.Frag} {s : String} : ∀ {l : List (String × DV)} {es : List DictEntry}, KPairs K l es → (match kFind l s with | some v => ∃ d, es.find? (·.key.isStr (Str.ofString s)) = some d ∧ WrD K v d.val | none => es.find? (·.key.isStr (Str.ofString s)) = none ∧ es.any (·.refKey) = false)
  | [], es, h => by cases h; exact ⟨rfl, rfl⟩
  | (k, v) :: l, es, h => by
    obtain ⟨d, ds, rfl, ⟨t, hk⟩, hv, h2⟩ := h
    have ih := KPairs.find (s := s) h2
    simp only [kFind]
    by_cases e : s = k
    · subst e
      rw [if_pos rfl]
      refine ⟨d, ?_, hv⟩
      rw [List.find?_cons, hk]
      simp [Value.isStr]
    · rw [if_neg e]
      have hn : d.key.isStr (Str.ofString s) = false := by
        rw [hk]
        have : Str.ofString k ≠ Str.ofString s := fun z => e (ofString_inj z).symm
        simp [Value.isStr, this]
      have hr : d.refKey = false := by unfold DictEntry.refKey; rw [hk]
      rw [List.find?_cons, hn, List.any_cons, hr]
      exact ih
theorem KDc.ns {K : PySem.W.Frag} {w : World} {d : Addr} {es : Array DictEntry} {n : Nat} {l : List (String × DV)} (D : KDict K w d es n) (h : KPairs K l es.toList) (s : String) :
    match kFind l s with | some v => ∃ u, PySem.W.nsIn K d (Str.ofString s) = some (some u) ∧ WrD K v u | none => PySem.W.nsIn K d (Str.ofString s) = some none := by
  have hf := KPairs.find (s := s) h
  unfold PySem.W.nsIn
  rw [D.at_]
  cases hk : kFind l s with
  | some v =>
    rw [hk] at hf
    obtain ⟨e, h1, h2⟩ := hf
    exact ⟨e.val, by simp only [h1], h2⟩
  | none =>
    rw [hk] at hf
    simp only [hf.1, hf.2]
    rfl
def mKIn (neg : Bool) (l : List (String × DV)) (m : EM) : EM := fun ρ μ => (m ρ μ).bind fun v μ => match v with
  | .str s => .ok (.bl (if neg then !(kFind l s).isSome else (kFind l s).isSome)) μ
  | _ => .bad
def mKGet (l : List (String × DV)) (m : EM) : EM := fun ρ μ => (m ρ μ).bind fun v μ => match v with
  | .str s => match kFind l s with
    | some d => .ok d μ
    | none => .bad
  | _ => .bad
end
end Md

namespace Md
open PySem L2
section
variable {X : Cx} {xt : String → Option Addr} {W : WX} {a b c e o i : Expr} {es : List Expr} {pos p apos ps : Pos}
/-- a value that is True or False, as a test -/
theorem t_val {m : EM} (h : DEx xt W X e m) (he : ∀ whole, isTrue e X.env whole = (do let v ← whole; standAt e.pos; holding [v] (truthy v)) := by intro _; rfl) : DTs xt W X e (mBl m) :=
  imT (pt_val h he) fun σ H Q q => bl_run q
theorem d_kin {x : Str} {l : List (String × DV)} {m : EM} (D : KDc X.K X.w X.mg x l) (h : DEx xt W X a m) (hg : Gl X x := by rfl) (hdb : (x == ("__debug__" : Str)) = false := by decide) (h1 : behindInMarks .In (.Name x p) = false := by rfl) : DEx xt W X (.Compare a [.In] [.Name x p] pos) (mKIn false l m) := by
  obtain ⟨d, en, n, hm, D, hp⟩ := D.ex
  refine imE (pe_cmpR (op_in_kd D) h (pe_glob (v := .ref d) hg hm rfl hdb) h1) fun σ H Q ⟨θ, ρ, μ, he, hs, q⟩ => ⟨θ, ρ, μ, he, hs, ?_⟩
  refine q.bind.imp fun w H1 ⟨θ1, μ1, v, l1, s1, r1, q1⟩ => ?_
  cases v with
  | str s =>
    cases r1
    have hn := KDc.ns D hp s
    replace q1 := q1.ret s1 rfl
    cases hk : kFind l s with
    | some v =>
      rw [hk] at hn q1
      obtain ⟨u, h1, h2⟩ := hn
      exact ⟨_, _, rfl, rfl, h1, q1⟩
    | none =>
      rw [hk] at hn q1
      exact ⟨_, _, rfl, rfl, hn, q1⟩
  | _ => exact q1.elim
theorem d_knotin {x : Str} {l : List (String × DV)} {m : EM} (D : KDc X.K X.w X.mg x l) (h : DEx xt W X a m) (hg : Gl X x := by rfl) (hdb : (x == ("__debug__" : Str)) = false := by decide) (h1 : behindInMarks .NotIn (.Name x p) = false := by rfl) : DEx xt W X (.Compare a [.NotIn] [.Name x p] pos) (mKIn true l m) := by
  obtain ⟨d, en, n, hm, D, hp⟩ := D.ex
  refine imE (pe_cmpR (op_notIn_kd D) h (pe_glob (v := .ref d) hg hm rfl hdb) h1) fun σ H Q ⟨θ, ρ, μ, he, hs, q⟩ => ⟨θ, ρ, μ, he, hs, ?_⟩
  refine q.bind.imp fun w H1 ⟨θ1, μ1, v, l1, s1, r1, q1⟩ => ?_
  cases v with
  | str s =>
    cases r1
    have hn := KDc.ns D hp s
    replace q1 := q1.ret s1 rfl
    cases hk : kFind l s with
    | some v =>
      rw [hk] at hn q1
      obtain ⟨u, h1, h2⟩ := hn
      exact ⟨_, _, rfl, rfl, h1, q1⟩
    | none =>
      rw [hk] at hn q1
      exact ⟨_, _, rfl, rfl, hn, q1⟩
  | _ => exact q1.elim
theorem t_kin {x : Str} {l : List (String × DV)} {m : EM} (D : KDc X.K X.w X.mg x l) (h : DEx xt W X a m) (hg : Gl X x := by rfl) (hdb : (x == ("__debug__" : Str)) = false := by decide) (h1 : behindInMarks .In (.Name x p) = false := by rfl) : DTs xt W X (.Compare a [.In] [.Name x p] pos) (mBl (mKIn false l m)) := by
  obtain ⟨d, en, n, hm, D, hp⟩ := D.ex
  refine imT (pt_cmpR (op_in_kd D) h (pe_glob (v := .ref d) hg hm rfl hdb) h1) fun σ H Q q => ?_
  obtain ⟨θ, ρ, μ, he, hs, q⟩ := bl_run q
  refine ⟨θ, ρ, μ, he, hs, ?_⟩
  refine q.bind.imp fun w H1 ⟨θ1, μ1, v, l1, s1, r1, q1⟩ => ?_
  cases v with
  | str s =>
    cases r1
    have hn := KDc.ns D hp s
    replace q1 := q1.ret s1 rfl
    cases hk : kFind l s with
    | some v =>
      rw [hk] at hn q1
      obtain ⟨u, h1, h2⟩ := hn
      exact ⟨_, _, rfl, rfl, h1, q1⟩
    | none =>
      rw [hk] at hn q1
      exact ⟨_, _, rfl, rfl, hn, q1⟩
  | _ => exact q1.elim
theorem t_knotin {x : Str} {l : List (String × DV)} {m : EM} (D : KDc X.K X.w X.mg x l) (h : DEx xt W X a m) (hg : Gl X x := by rfl) (hdb : (x == ("__debug__" : Str)) = false := by decide) (h1 : behindInMarks .NotIn (.Name x p) = false := by rfl) : DTs xt W X (.Compare a [.NotIn] [.Name x p] pos) (mBl (mKIn true l m)) := by
  obtain ⟨d, en, n, hm, D, hp⟩ := D.ex
  refine imT (pt_cmpR (op_notIn_kd D) h (pe_glob (v := .ref d) hg hm rfl hdb) h1) fun σ H Q q => ?_
  obtain ⟨θ, ρ, μ, he, hs, q⟩ := bl_run q
  refine ⟨θ, ρ, μ, he, hs, ?_⟩
  refine q.bind.imp fun w H1 ⟨θ1, μ1, v, l1, s1, r1, q1⟩ => ?_
  cases v with
  | str s =>
    cases r1
    have hn := KDc.ns D hp s
    replace q1 := q1.ret s1 rfl
    cases hk : kFind l s with
    | some v =>
      rw [hk] at hn q1
      obtain ⟨u, h1, h2⟩ := hn
      exact ⟨_, _, rfl, rfl, h1, q1⟩
    | none =>
      rw [hk] at hn q1
      exact ⟨_, _, rfl, rfl, hn, q1⟩
  | _ => exact q1.elim
theorem d_kget {x : Str} {l : List (String × DV)} {m : EM} (D : KDc X.K X.w X.mg x l) (h : DEx xt W X i m) (hg : Gl X x := by rfl) (hdb : (x == ("__debug__" : Str)) = false := by decide) (hs : PlainIx i := by intro _ _; rfl) : DEx xt W X (.Subscript (.Name x p) i pos) (mKGet l m) := by
  obtain ⟨d, en, n, hm, D, hp⟩ := D.ex
  refine imE (pe_ix ix_kdict (pe_glob (v := .ref d) hg hm rfl hdb) h hs) fun σ H Q ⟨θ, ρ, μ, he, hs, q⟩ => ⟨θ, ρ, μ, he, hs, ?_⟩
  refine q.bind.imp fun w H1 ⟨θ1, μ1, v, l1, s1, r1, q1⟩ => ?_
  cases v with
  | str s =>
    cases r1
    have hn := KDc.ns D hp s
    replace q1 : Po X.K xt W (Rp X.K) (match kFind l s with | some d => .ok d μ1 | none => .bad) θ1 H1 σ Q := q1
    split at q1
    · rename_i v hk
      rw [hk] at hn
      obtain ⟨u, h1, h2⟩ := hn
      obtain ⟨z, r, hz⟩ := WrD.rp v u h2
      exact ⟨d, _, z, rfl, rfl, ⟨en, n, u, D.at_, D.lit, h1, r⟩, q1.ret s1 (hz _ _)⟩
    · exact q1.elim
  | _ => exact q1.elim
end
end Md

namespace Md
open PySem PySem.Spec PyProof.Rows L2
/-! ## zip of a text and a tuple -/
/-- the signs of a text x with the items of the tuple at b, in new pairs -/
def ItzS (K : PySem.W.Frag) (x : Str) (b : Addr) : It :=
  ⟨fun i H => ∃ (ys : List V) (c : Nat) (y : V), SqT K H b ys ∧ x.cps[i]? = some c ∧ ys[i]? = some y,
    fun i H v H' => ∃ T c y, v = .ref T ∧ H T = none ∧ H' = upd H T (.tup [.str ⟨#[c]⟩, y]) ∧ x.cps[i]? = some c ∧ ∀ ys, SqT K H b ys → ys[i]? = some y,
    fun i H => ∃ ys : List V, SqT K H b ys ∧ i ≤ x.cps.size ∧ i ≤ ys.length ∧ (i = x.cps.size ∨ i = ys.length)⟩
theorem turn_zipS {P : Program} {w : World} {K : PySem.W.Frag} {elts : List Expr} {kk : Nat} {tpos : Pos} {z TI TO i1 i2 b : Addr} {x : Str} {t : Tok} (D : ZipSep2 z TI TO i1 i2 [i1] [i2, b]) (hb : b ≠ i2) (hz1 : TI ≠ b) :
    Turn P w K (.Tuple elts kk tpos) (ItzS K x b) [z, TI, TO, i1, i2] z (fun i h => IsZip h z TI TO .none ∧ IsTupOf2 h TI (.ref i1) (.ref i2) ∧ (∃ u v, IsTupOf2 h TO u v) ∧ h.IsStrIter i1 (strIterType x) x t i ∧ h.IsTupleIter i2 b i) where
  mem := by simp
  obj := fun i h st c hc => by
    obtain ⟨hz, hTI, ⟨u, v, hTO⟩, ⟨o1, e1, _, d1⟩, ⟨o2, e2, _, d2⟩⟩ := st
    simp only [List.mem_cons, List.not_mem_nil, or_false] at hc
    rcases hc with q | q | q | q | q <;> subst q
    · exact ⟨_, hz, fun v q => nomatch q⟩
    · exact ⟨_, hTI, fun v q => nomatch q⟩
    · exact ⟨_, hTO, fun v q => nomatch q⟩
    · exact ⟨o1, e1, fun v q => by rw [d1] at q; cases q⟩
    · exact ⟨o2, e2, fun v q => by rw [d2] at q; cases q⟩
  keep := fun i h h' st k => by
    obtain ⟨hz, hTI, ⟨u, v, hTO⟩, ⟨o1, g1⟩, h2⟩ := st
    exact ⟨k z (by simp) _ hz, k TI (by simp) _ hTI, ⟨u, v, k TO (by simp) _ hTO⟩, ⟨o1, k i1 (by simp) _ g1.1, g1.2⟩, h2.at fun o q => k i2 (by simp) o q⟩
  item := by
    intro X hP hw hK hc i pins s σ H E I hf st hg
    subst hP hw hK
    obtain ⟨hz, hTI, ⟨u0, v0, hTO⟩, h1, h2⟩ := st
    obtain ⟨ys, c, y, hqy, hx, hy⟩ := hg
    obtain ⟨its, rv, p, _⟩ := I.tuple hqy
    obtain ⟨u, hu, ru⟩ := rv.get hy
    have hzl : z < s.heap.objs.size := Heap.lt_size hz
    have hd : X.A.in1.handled = none := I.ok.hd hc
    have hi1 : i < x.cps.size := (Array.getElem?_eq_some_iff.mp hx).1
    have hi2 : i < its.toArray.size := by
      have := (List.getElem?_eq_some_iff.mp hu).1
      simpa using this
    refine wpAny_pyNext_zipD2_item D (Draws.text (prog := X.prog) (w := X.w) hd i1 x t) (Draws.tuple (prog := X.prog) (w := X.w) hd i2 b hb its.toArray) hz hTI hTO h1 ⟨h2, p⟩ hi1 hi2 fun g1 g2 h' tk k1 k2 z' TO' h1' h2' hT hsz hk => ?_
    refine ⟨_, rfl, wpAny_letOwnedTupleGo_zip (s := { s with heap := h', toks := tk }) z' fun h'' z'' sb => ?_⟩
    obtain ⟨c2, tu, e1, e2⟩ := k1
    rw [hx] at e1
    cases e1
    subst e2
    have e3 : g2 = u := by
      have e4 : its.toArray[i]? = some u := by simpa using hu
      rw [e4] at k2
      exact (Option.some.inj k2).symm
    subst e3
    have hT2 : h''.get? s.heap.objs.size = some { cls := .type "tuple", data := .seq #[.str ⟨#[c]⟩ tu, g2] } := (sb.2 _ (Nat.ne_of_gt hzl)).trans hT
    have nw : ObjOk X.prog X.w (upd H s.heap.objs.size (.tup [.str ⟨#[c]⟩, y])) h'' s.heap.objs.size (.tup [.str ⟨#[c]⟩, y]) :=
      ⟨by show 2 ≤ sizeLine; decide, [.str ⟨#[c]⟩ tu, g2], .cons ⟨_, rfl⟩ (.cons ru .nil), ⟨_, hT2, rfl, _, rfl⟩⟩
    have I1 : Inv X pins σ (upd H s.heap.objs.size (.tup [.str ⟨#[c]⟩, y])) { s with heap := h'', toks := tk } :=
      I.turnedNew (ch := [z, TI, TO, i1, i2]) (fun b' o hb' q => (sb.2 b' (fun q' => hb' (by simp [q']))).trans (hk b' o (fun q' => hb' (by simp [q'])) (fun q' => hb' (by simp [q'])) (fun q' => hb' (by simp [q'])) (fun q' => hb' (by simp [q'])) q)) hf (Nat.le_refl _) nw
    refine ⟨.ref s.heap.objs.size, _, I1, rfl, ⟨_, c, y, rfl, I.hok.fresh (Nat.le_refl _), rfl, hx, fun l hl => by rw [I.tuple_inj hl hqy]; exact hy⟩, ⟨z'', ?_, ⟨_, _, (sb.2 _ D.TOz).trans TO'⟩, ?_, h2'.1.at fun o q => (sb.2 _ D.zi2.symm).trans q⟩, fun b' hb' => ?_⟩
    · exact (sb.2 _ D.TIz).trans (hk _ _ D.TIz D.TITO D.TIi1 D.TIi2 hTI)
    · obtain ⟨o1, q1, q2⟩ := h1'
      exact ⟨o1, (sb.2 _ D.zi1.symm).trans q1, q2⟩
    · have hlt : b' < s.heap.objs.size := by
        simp only [List.mem_cons, List.not_mem_nil, or_false] at hb'
        rcases hb' with q | q | q | q | q <;> subst q
        · exact hzl
        · exact Heap.lt_size hTI
        · exact Heap.lt_size hTO
        · obtain ⟨o, e, _⟩ := h1; exact Heap.lt_size e
        · obtain ⟨o, e, _⟩ := h2; exact Heap.lt_size e
      rw [upd_ne (Nat.ne_of_lt hlt)]
      exact (hf b' hb').1
  done := by
    intro X hP hw hK hc i pins s σ H E I hf st hg
    subst hP hw hK
    obtain ⟨hz, hTI, ⟨u0, v0, hTO⟩, h1, h2⟩ := st
    obtain ⟨ys, hqy, l1, l2, l3⟩ := hg
    obtain ⟨its, rv, p, _⟩ := I.tuple hqy
    have hl := rv.length
    have hd : X.A.in1.handled = none := I.ok.hd hc
    refine wpAny_pyNext_zipD2_end D (Draws.text (prog := X.prog) (w := X.w) hd i1 x t) (Draws.tuple (prog := X.prog) (w := X.w) hd i2 b hb its.toArray) hz hTI hTO h1 ⟨h2, p⟩ l1 (by simp; omega) (by simp; omega) fun h' tk hk => ⟨rfl, ?_⟩
    exact I.turnedL (ch := [z, TI, TO, i1, i2]) (fun b' o hb' q => hk b' o (fun q' => hb' (by simp [q'])) (fun q' => hb' (by simp [q'])) (fun q' => hb' (by simp [q'])) (fun q' => hb' (by simp [q'])) q) hf
  self := fun A i s Q E st h => wpAny_pyIter_zip st.1 h
def iZipS (K : PySem.W.Frag) (ta : TA) : TI := fun σ H R => ta σ H fun vs H1 => ∃ x b ys, vs = [.str x, .ref b] ∧ SqT K H1 b ys ∧ R (ItzS K x b) H1
theorem pi_zipS {X : Cx} {e e2 : Expr} {ta : TA} {p pos tpos : Pos} {elts : List Expr} {kk : Nat} (hg : Gl X "zip") (hm : X.mg "zip" = none) (ha : PA X [e, e2] ta)
    (hs : starEach [e, e2] X.env = (false, eval e X.env) :: starEach [e2] X.env := by rfl) (hpl : (backTo pos (starEach [e2] X.env)).any (·.1) = false := by rfl) :
    PI X (.Tuple elts kk tpos) (.Call (.Name "zip" p) [e, e2] [] pos) (iZipS X.K ta) := by
  refine ⟨fun pins s σ H R I h => ?_⟩
  refine Call_ (ld_blt I hg hm PyProof.Rows.boot_zip (PyProof.Rows.callWith_type1 (thn (ha.run pos pins s σ H _ I h) fun us s1 ⟨vs, H1, I1, r1, x, b, ys, ex, hq, q⟩ => ?_) hs hpl))
  subst ex
  obtain ⟨u1, u2, rfl, ra, rb⟩ := vals2 r1
  obtain ⟨t, rfl⟩ := ra
  cases rb
  have fresh5 : ∀ c, c ∈ [s1.heap.objs.size + 4, s1.heap.objs.size + 2, s1.heap.objs.size + 3, s1.heap.objs.size, s1.heap.objs.size + 1] → FpOk X pins H1 c := fun c hcm => by
    have hle : s1.heap.objs.size ≤ c := by
      simp only [List.mem_cons, List.not_mem_nil, or_false] at hcm
      rcases hcm with q | q | q | q | q <;> subst q <;> first | exact Nat.le_refl _ | exact Nat.le_add_right _ _
    exact I1.fpOk hle (I1.hok.fresh hle)
  obtain ⟨its, rv, p', _⟩ := I1.tuple hq
  obtain ⟨ob, hob, _⟩ := id p'
  have hlt : b < s1.heap.objs.size := Heap.lt_size hob
  refine zip_begins2 (begins_text x t) (begins_tuple b its.toArray) trivial (show s1.heap.IsTuple b its.toArray from p') fun h' hz hTI hTO g1 g2 hsz hk => wpAny_pyIter_zip hz ?_
  have I2 : Inv X pins σ H1 { s1 with heap := h' } := I1.kept (t' := s1.toks) hk
  exact ⟨s1.heap.objs.size + 4, [s1.heap.objs.size + 4, s1.heap.objs.size + 2, s1.heap.objs.size + 3, s1.heap.objs.size, s1.heap.objs.size + 1], _, _, H1, rfl, I2,
    turn_zipS (t := t) (zip_sep2 (fp1 := []) (fp2 := [b]) (fun _ h => nomatch h) (fun b' h => by simp at h; subst h; exact hlt)) (Nat.ne_of_lt (Nat.lt_succ_of_lt hlt)) (fun z => by rw [← z] at hlt; exact absurd hlt (Nat.not_lt.mpr (Nat.le_add_right _ _))),
    ⟨hz, hTI, ⟨_, _, hTO⟩, ⟨_, g1, rfl, rfl⟩, ⟨_, g2, rfl, rfl⟩⟩, fresh5, q⟩
/-- a text's signs -/
def sgD (s : String) : List DV := s.toList.map fun c => .str (String.singleton c)
def zpD (xs ys : List DV) : List DV := (xs.zip ys).map fun z => .tup [z.1, z.2]
def mZipS (m n : EM) : IM := fun ρ μ => (m ρ μ).bind fun v μ => (n ρ μ).bind fun u μ => match v, u with
  | .str s, .tup ys => .ok (zpD (sgD s) ys, none) μ
  | _, _ => .bad
theorem single_cps (c : Char) : Str.ofString (String.singleton c) = ⟨#[c.toNat]⟩ := by
  have h : (Str.ofString (String.singleton c)).cps.toList = [c.toNat] := by
    rw [cps_of]
    simp
  cases hs : Str.ofString (String.singleton c) with
  | mk cps => rw [hs] at h; simp only at h; congr 1; apply Array.toList_inj.mp; exact h
theorem sgD_get {s : String} {i : Nat} {x : DV} (h : (sgD s)[i]? = some x) : ∃ c, (Str.ofString s).cps[i]? = some c ∧ x = .str (String.singleton (Char.ofNat c)) ∧ Str.ofString (String.singleton (Char.ofNat c)) = ⟨#[c]⟩ := by
  simp only [sgD, List.getElem?_map, Option.map_eq_some_iff] at h
  obtain ⟨c, hc, rfl⟩ := h
  refine ⟨c.toNat, ?_, by simp, ?_⟩
  · rw [← Array.getElem?_toList, cps_of, List.getElem?_map, hc]
    rfl
  · rw [Char.ofNat_toNat, single_cps]
theorem sgD_len (s : String) : (sgD s).length = (Str.ofString s).cps.size := by
  rw [← Array.length_toList, cps_of]
  simp [sgD]
theorem it_zipS {K : PySem.W.Frag} {θ : List Addr} {H : Hp} {s : String} {ys : List DV} {ws : List V} {b : Addr} (h2 : SqT K H b ws) (r2 : RpL K θ H ys ws) : ItRel K θ H (zpD (sgD s) ys, none) (ItzS K (Str.ofString s) b) := by
  intro θ' H' μ' l s' ho
  have hw := l.sqT h2
  have rw' := l.rpL r2
  refine ⟨fun i x hx => ?_, fun i hi => ⟨ws, hw, ?_⟩⟩
  · simp only [zpD, List.getElem?_map, Option.map_eq_some_iff] at hx
    obtain ⟨z, hz, rfl⟩ := hx
    obtain ⟨hz1, hz2⟩ := List.getElem?_zip_eq_some.mp hz
    obtain ⟨c, e1, e2, e3⟩ := sgD_get hz1
    obtain ⟨w, e', r1'⟩ := rw'.get hz2
    refine ⟨⟨ws, c, w, hw, e1, e'⟩, fun u H'' ⟨T, c', w', g1, g2, g3, g4, g5⟩ => ?_⟩
    have z1 := g5 ws hw
    rw [e'] at z1; cases z1
    rw [e1] at g4; cases g4
    subst g1; subst g3
    have l2 := Lt.laid (θ := θ') (o := .tup [.str ⟨#[c]⟩, w]) g2
    refine ⟨l2, s'.fr g2, T, [.str ⟨#[c]⟩, w], rfl, .inl (.inl upd_same), .str ⟨#[c]⟩, [w], rfl, ?_, w, [], rfl, l2.rp r1', rfl⟩
    rw [e2]
    show V.str ⟨#[c]⟩ = .str (Str.ofString _)
    rw [e3]
  · have hi' : i = min (sgD s).length ys.length := by simpa [zpD] using hi
    rw [sgD_len] at hi'
    rw [← rw'.len]
    omega
section
variable {X : Cx} {xt : String → Option Addr} {W : WX} {a b : Expr} {p pos : Pos}
theorem i_zipS {m n : EM} {elts : List Expr} {kk : Nat} {tpos : Pos} (hm : X.mg ("zip" : Str) = none) (h : DEx xt W X a m) (h2 : DEx xt W X b n) (hg : Gl X ("zip" : Str) := by rfl)
    (nb : starEach [b] X.env = (false, eval b X.env) :: starEach [] X.env := by rfl) (na : starEach [a, b] X.env = (false, eval a X.env) :: starEach [b] X.env := by rfl)
    (hpl : (backTo pos (starEach [b] X.env)).any (·.1) = false := by rfl) : DIt xt W X (.Tuple elts kk tpos) (.Call (.Name "zip" p) [a, b] [] pos) (mZipS m n) := by
  refine ⟨fun pins s σ H R I ⟨θ, ρ, μ, he, hst, q⟩ => (pi_zipS hg hm (pa_cons h (pa_cons h2 pa_nil nb) na) na hpl).run pins s σ H R I ?_⟩
  refine ⟨θ, ρ, μ, he, hst, ?_⟩
  refine q.bind.imp fun w H1 ⟨θ1, μ1, v, l1, s1, r1, q1⟩ => ⟨θ1, ρ, μ1, l1.rpE he, s1, ?_⟩
  refine q1.bind.imp fun w2 H2 ⟨θ2, μ2, u, l2, s2, r2, q2⟩ => ?_
  have r1' := l2.rp r1
  split at q2
  · cases r1'
    obtain ⟨b, ws, rfl, sb, rb⟩ := r2
    exact ⟨_, b, ws, rfl, sb, q2 θ2 H2 _ .refl s2 (it_zipS sb rb)⟩
  · exact q2.elim
end
end Md

namespace Md
open PySem L2
/-! ## {k: v for x in xs} -/
section
variable {X : Cx} {xt : String → Option Addr} {W : WX} {a b c e o : Expr} {es : List Expr} {pos p apos : Pos} {tg : Expr}
theorem Stay.ownG {K : PySem.W.Frag} {θ : List Addr} {H : Hp} {D : Addr} {u u2 : HO} (h : H D = some u) (hf : ¬ Fx u) : Stay K θ θ H (upd H D u2) := by
  have ne : ∀ {a : Addr} {o : HO}, H a = some o → Fx o → a ≠ D := fun {a o} e n z => by
    subst z
    rw [h] at e; cases e
    exact hf n
  refine ⟨fun a vs q => ?_, fun a vs q => ?_, fun _ _ q => q⟩
  · rcases q with (q | ⟨o, q⟩) | q
    · exact .inl (.inl (by rw [upd_ne (ne q trivial)]; exact q))
    · exact .inl (.inr ⟨o, by rw [upd_ne (ne q trivial)]; exact q⟩)
    · exact .inr q
  · rcases q with ⟨o, q⟩ | q
    · exact .inl ⟨o, by rw [upd_ne (ne q trivial)]; exact q⟩
    · exact .inr q
theorem Sto.ownG {K : PySem.W.Frag} {θ : List Addr} {H : Hp} {μ : DM} {D : Addr} {u u2 : HO} (s : Sto K θ H μ) (h : H D = some u) (hf : ¬ Fx u) (hD : D ∉ θ) : Sto K θ (upd H D u2) μ :=
  ⟨s.len, s.nd, fun n a c h1 h2 => (s.cell n a c h1 h2).of (Stay.ownG h hf) (upd_ne fun e => hD (e ▸ List.mem_of_getElem? h1))⟩
def mDc (vs : List Nat) (mi : IM) (t : GM) (tk tv : EM) : EM := fun ρ μ => (mi ρ μ).bind fun s μ => (go s (wipeD ρ vs) s.1 [] μ).bind fun kvs μ => .ok (.ref μ.length) (μ ++ [.dct kvs])
where go (s : Src) (ρ : DE) : List DV → List (DV × DV) → DM → DR (List (DV × DV))
  | [], acc, μ => if okAt s.2 s.1 μ = true then .ok acc μ else .bad
  | x :: xs, acc, μ => if okAt s.2 s.1 μ = true ∧ acc.length < LIM then match t x ρ μ with
      | some ρ1 => (tk ρ1 μ).noex.bind fun k μ => (tv ρ1 μ).noex.bind fun v μ => if (dKey k).isSome = true then go s ρ xs (kPut acc k v) μ else .bad
      | none => .bad
    else .bad
abbrev dcFin (r : DR (List (DV × DV))) : DR DV := r.bind fun kvs μ => .ok (.ref μ.length) (μ ++ [.dct kvs])
theorem dc_run {K : PySem.W.Frag} {vs is : List Nat} {mi : IM} {t : GM} {tk tv : EM} (his : ∀ j ∈ is, j ∈ vs) {σ : L2.St} {H : Hp} {Q : VK} (q : tE K xt W (mDc vs mi t tk tv) σ H Q) :
    tDc (tG K xt W (ItRel K) mi) (tGt K t is) (tTs K xt WN mYes) (tE K xt WN tk) (tE K xt WN tv) vs σ H Q := by
  obtain ⟨θ, ρ, μ, he, hs, q⟩ := q
  refine ⟨θ, ρ, μ, he, hs, ?_⟩
  refine (Po.bind q).imp fun J H1 ⟨θ1, μ1, s, l1, s1, hJ, q1⟩ D hD => ?_
  have hw : RpE K θ1 H1 (wipeD ρ vs) (wipe σ vs) := (l1.rpE he).wipe vs
  refine ⟨fun i m Hc => m = s.1.length - i ∧ i ≤ s.1.length ∧ ∃ (θc : List Addr) (μc : DM) (acc : List (DV × DV)) (ks : List Key) (ws : List V), Lt θ1 θc H1 Hc ∧ Sto K θc Hc μc ∧ D ∉ θc ∧ Hc D = some (.dK ((ks : List Key).zip (ws : List V))) ∧ (acc.map fun (p : DV × DV) => dKey p.1) = ks.map some ∧ RpL K θc Hc (acc.map (·.2)) ws ∧
      Po K xt W (Rp K) (dcFin (mDc.go t tk tv s (wipeD ρ vs) (s.1.drop i) acc μc)) θ1 H1 σ Q,
    ⟨_, rfl, Nat.zero_le _, θ1, μ1, [], [], [], Lt.laid hD, s1.fr hD, s1.out hD, upd_same, rfl, rfl, q1⟩, ?_⟩
  rintro i m Hc ⟨rfl, hi, θc, μc, acc, ks, ws, lc, sc, hDc, hDw, hks, ra, qc⟩
  by_cases hlt : i < s.1.length
  · have hd : s.1.drop i = s.1[i] :: s.1.drop (i + 1) := List.drop_eq_getElem_cons hlt
    have hx : s.1[i]? = some s.1[i] := List.getElem?_eq_getElem hlt
    rw [hd] at qc
    simp only [mDc.go] at qc
    split at qc
    · rename_i hok
      obtain ⟨hgo, hyl⟩ := (hJ θc Hc μc lc sc hok.1).1 i _ hx
      refine .inr ⟨hgo, fun H' => ∃ m', m' < s.1.length - i ∧ (m' = s.1.length - (i + 1) ∧ i + 1 ≤ s.1.length ∧ ∃ (θc : List Addr) (μc : DM) (acc : List (DV × DV)) (ks : List Key) (ws : List V), Lt θ1 θc H1 H' ∧ Sto K θc H' μc ∧ D ∉ θc ∧ H' D = some (.dK ((ks : List Key).zip (ws : List V))) ∧ (acc.map fun (p : DV × DV) => dKey p.1) = ks.map some ∧ RpL K θc H' (acc.map (·.2)) ws ∧
        Po K xt W (Rp K) (dcFin (mDc.go t tk tv s (wipeD ρ vs) (s.1.drop (i + 1)) acc μc)) θ1 H1 σ Q), fun H' h => h, fun w H2 hy => ?_⟩
      obtain ⟨l2, s2, r2⟩ := hyl w H2 hy
      split at qc
      · rename_i ρ1 ht
        refine ⟨θc, wipeD ρ vs, μc, _, ρ1, (lc.trans l2).rpE hw, s2, r2, ht, fun σ' he' hl' hk' => ?_⟩
        refine ⟨wipe_eq (hl'.trans (wipe_length σ vs)) fun j hj => hk' j fun z => hj (his j z), θc, ρ1, μc, he', s2, ?_⟩
        have hD2 : H2 D = some (.dK (ks.zip ws)) := l2.keep D _ hDw (.inl hDc)
        intro θ3 H3 b' l3 s3 eb
        subst eb
        have hD3 : H3 D = some (.dK (ks.zip ws)) := l3.keep D _ hD2 (.inl hDc)
        have hn3 : D ∉ θ3 := l3.notin hD2 hDc
        refine ⟨θ3, ρ1, μc, l3.rpE he', s3, ?_⟩
        cases ek : tk ρ1 μc with
        | ex e μ2 => rw [ek] at qc; exact qc.elim
        | bad => rw [ek] at qc; exact qc.elim
        | ok k μ4 =>
          rw [ek] at qc
          intro θ4 H4 wk l4 s4 rk
          refine ⟨θ4, ρ1, μ4, l4.rpE (l3.rpE he'), s4, ?_⟩
          replace qc : Po K xt W (Rp K) (dcFin ((tv ρ1 μ4).noex.bind fun v μ => if (dKey k).isSome = true then mDc.go t tk tv s (wipeD ρ vs) (s.1.drop (i + 1)) (kPut acc k v) μ else .bad)) θ1 H1 σ Q := qc
          cases ev : tv ρ1 μ4 with
          | ex e μ2 => rw [ev] at qc; exact qc.elim
          | bad => rw [ev] at qc; exact qc.elim
          | ok v μ5 =>
            rw [ev] at qc
            replace qc : Po K xt W (Rp K) (dcFin (if (dKey k).isSome = true then mDc.go t tk tv s (wipeD ρ vs) (s.1.drop (i + 1)) (kPut acc k v) μ5 else .bad)) θ1 H1 σ Q := qc
            intro θ5 H5 wv l5 s5 rv
            cases hk : dKey k with
            | none => rw [hk] at qc; exact qc.elim
            | some y =>
              rw [hk] at qc
              have hD5 : H5 D = some (.dK (ks.zip ws)) := l5.keep D _ (l4.keep D _ hD3 (.inl hn3)) (.inl (l4.notin hD3 hn3))
              have hn5 : D ∉ θ5 := l5.notin (l4.keep D _ hD3 (.inl hn3)) (l4.notin hD3 hn3)
              have L : Lt θ1 θ5 H1 H5 := (((lc.trans l2).trans l3).trans l4).trans l5
              obtain ⟨ks', ws', g1, g2, g3⟩ := kPut_rp hk rv hks ((((l2.trans l3).trans l4).trans l5).rpL ra)
              have hlen : (ks.zip ws).length < sizeLine := by
                have z1 := congrArg List.length hks
                have z2 := ra.len
                simp only [List.length_map] at z1 z2
                rw [List.length_zip, ← z1, ← z2, Nat.min_self, ← lim_line]
                exact hok.2
              refine ⟨_, y, dKey_rel hk (l5.rp rk), hD5, hlen, _, by omega, rfl, hlt, θ5, μ5, kPut acc k v, ks', ws', ?_, s5.ownG hD5 id hn5, hn5, by rw [upd_same, g1], g2, RpL.of (Stay.ownG hD5 id) _ _ g3, qc⟩
              exact ⟨L.pre, L.new, fun a o h1 h2 => by rw [upd_ne (ne_of_none h1 hD)]; exact L.keep a o h1 h2⟩
      · exact qc.elim
    · exact qc.elim
  · have e : i = s.1.length := by omega
    subst e
    rw [List.drop_length] at qc
    simp only [mDc.go] at qc
    split at qc
    · rename_i hok
      refine .inl ⟨(hJ θc Hc μc lc sc hok).2 _ rfl, ?_⟩
      obtain ⟨tl, et⟩ := lc.pre
      refine qc (θc ++ [D]) Hc (.ref D) ⟨⟨tl ++ [D], by rw [et, List.append_assoc]⟩, fun b hb => ?_, lc.keep⟩ (sc.pushC hDc ⟨ks, ws, hks, hDw, ra⟩) ⟨D, ?_, rfl⟩
      · rcases List.mem_append.mp hb with hb | hb
        · exact lc.new b hb
        · simp at hb; subst hb; exact .inr hD
      · rw [← sc.len, List.getElem?_append_right (Nat.le_refl _)]
        simp
    · exact qc.elim
theorem d_dc {kx vx iter : Expr} {scope : Scope} {own : List (Str × Nat)} {is : List Nat} {mi : IM} {t : GM} {tk tv : EM} (hc : X.calm = true) (hN : X.N.Nodup) (hi : DIt xt W X tg iter mi) (ok : BlkOk X.N X.env.scope scope own) (his : ∀ j ∈ is, j ∈ own.map (·.2))
    (hg : ∀ (s : Shared) (H : Hp) (C : Addr) (cl : List (Str × Addr)) (fp : List Addr), DTg (X.blk s H scope (compEnvC scope cl C X.env) fp) tg t is)
    (hk : ∀ (s : Shared) (H : Hp) (C : Addr) (cl : List (Str × Addr)) (fp : List Addr), DEx xt WN (X.blk s H scope (compEnvC scope cl C X.env) fp) kx tk)
    (he : ∀ (s : Shared) (H : Hp) (C : Addr) (cl : List (Str × Addr)) (fp : List Addr), DEx xt WN (X.blk s H scope (compEnvC scope cl C X.env) fp) vx tv) (hs : ∀ x, foldedSetIterable iter X.env x = pure x := by intro _; rfl) :
    DEx xt W X (.DictComp kx vx [⟨tg, iter, [], 0⟩] scope pos) (mDc (own.map (·.2)) mi t tk tv) :=
  imE (pe_dc hc hN hi ok hg (fun _ _ _ _ _ => q_nil) hk he hs) fun _ _ _ q => dc_run his q
/-- len of a text -/
def mLenS (m : EM) : EM := fun ρ μ => (m ρ μ).bind fun v μ => match v with
  | .str s => if s.toList.length ≤ LIM then .ok (.int (s.toList.length : Int)) μ else .bad
  | _ => .bad
theorem len_str (s : String) : (Str.ofString s).length = s.toList.length := by
  show (Str.ofString s).cps.size = _
  rw [← Array.length_toList, cps_of]
  simp
theorem d_lenS {m : EM} (hm : X.mg ("len" : Str) = none) (h : DEx xt W X a m) (hg : Gl X ("len" : Str) := by rfl)
    (he : starEach [a] X.env = (false, eval a X.env) :: starEach [] X.env := by rfl) (hpl : (backTo pos (starEach [] X.env)).any (·.1) = false := by rfl) : DEx xt W X (.Call (.Name "len" p) [a] [] pos) (mLenS m) := by
  refine imE (pe_callB call_len_str hg hm (by decide +kernel) (pa_cons h pa_nil he) (by decide) (by decide) he hpl) fun σ H Q ⟨θ, ρ, μ, he, hs, q⟩ => ⟨θ, ρ, μ, he, hs, ?_⟩
  refine q.bind.imp fun w H1 ⟨θ1, μ1, v, l1, s1, r1, q1⟩ => ?_
  cases v with
  | str s =>
    cases r1
    replace q1 : Po X.K xt W (Rp X.K) (if s.toList.length ≤ LIM then .ok (.int (s.toList.length : Int)) μ1 else .bad) θ1 H1 σ Q := q1
    split at q1
    · rename_i hl
      refine ⟨_, rfl, by rw [len_str, ← lim_line]; exact hl, ?_⟩
      rw [len_str]
      exact q1.ret s1 rfl
    · exact q1.elim
  | _ => exact q1.elim
end
end Md

namespace Md
open PySem L2
/-! ## a, b = e, e a tuple or a list -/
section
variable {X : Cx} {xt : String → Option Addr} {W : WX} {a b c e o : Expr} {es : List Expr} {pos p apos : Pos} {tg : Expr}
def gSq (K : PySem.W.Frag) (n : Nat) (t : TGs) : TG := fun v σ H Q => gTup K n t v σ H Q ∨ gLst K n t v σ H Q
theorem pg_sq {k : Nat} {t : TGs} {n : Nat} (hc : X.calm = true) (h : PGs X es t) (hn : (assignEach es X.env).length = n := by rfl) (hst : (assignEach es X.env).findIdx? (·.1) = none := by rfl) : PG X (.Tuple es k pos) (gSq X.K n t) :=
  ⟨fun pins s σ H v u Q I r hw => hw.elim (fun q => (pg_tup hc h hn hst).run pins s σ H v u Q I r q) fun q => (pg_lst hc h hn hst).run pins s σ H v u Q I r q⟩
def tgSq (n : Nat) (t : GMs) : GM := fun x ρ μ => match x with
  | .tup xs => if xs.length = n then t xs ρ μ else none
  | x => match x.lst μ with
    | some xs => if xs.length = n then t xs ρ μ else none
    | none => none
theorem g_sq {t : GMs} {is : List Nat} {k n : Nat} (hc : X.calm = true) (h : DTgs X es t is) (hn : (assignEach es X.env).length = n := by rfl) (hst : (assignEach es X.env).findIdx? (·.1) = none := by rfl) : DTg X (.Tuple es k pos) (tgSq n t) is := by
  refine imG (pg_sq hc h hn hst) fun w σ H Q ⟨θ, ρ, μ, x, ρ', he, hs, r, ht, q⟩ => ?_
  unfold tgSq at ht
  split at ht
  · rename_i xs
    obtain ⟨a, vs, rfl, sp, r⟩ := r
    split at ht
    · rename_i hl
      exact .inl ⟨a, vs, rfl, sp, by rw [← r.len]; exact hl, θ, ρ, μ, xs, ρ', he, hs, r, ht, q⟩
    · cases ht
  · split at ht
    · rename_i xs hx
      obtain ⟨a, vs, rfl, ea, r⟩ := lst_of hs r hx
      split at ht
      · rename_i hl
        exact .inr ⟨a, vs, rfl, SqL.of ea, by rw [← r.len]; exact hl, θ, ρ, μ, xs, ρ', he, hs, r, ht, q⟩
      · cases ht
    · cases ht
end
/-- an own class is none of the built-in ones -/
theorem kit_sub {K : PySem.W.Frag} {C : Addr} {T : String} (hT : PySem.W.kitMeta T = true) (h : PySem.W.subIn K (.ref C) (.type T) = some false) : PySem.W.kitOne K (.ref C) (.type T) = some false := by
  unfold PySem.W.kitOne
  have e : (Value.ref C == Value.type T) = false := rfl
  rw [e]
  show (if PySem.W.kitMeta T = true then PySem.W.subIn K (.ref C) (.type T) else none) = some false
  rw [if_pos hT]
  exact h
theorem cf_of {K : PySem.W.Frag} {C : Addr} (c : Cls K C) (ha : PySem.W.findIn K (.ref C) "__class__" = some (some (.builtin "object.__class__"))) (hn : PySem.W.specialIn K (.builtin "object.__class__") "__get__" = some (some (.builtin "getset_descriptor.__get__")))
    (ht : PySem.W.takesIn K (.builtin "object.__class__") = some true) (hm : PySem.W.mroIn K C (.type "object") = some true) (h1 : PySem.W.subIn K (.ref C) (.type "int") = some false) (h2 : PySem.W.subIn K (.ref C) (.type "bool") = some false)
    (h3 : PySem.W.subIn K (.ref C) (.type "tuple") = some false) (h4 : PySem.W.subIn K (.ref C) (.type "list") = some false) (h5 : PySem.W.subIn K (.ref C) (.type "str") = some false) : CF K C :=
  ⟨c, ha, hn, ht, hm, fun T hT => by
    simp only [List.mem_cons, List.not_mem_nil, or_false] at hT
    rcases hT with rfl | rfl | rfl | rfl | rfl
    · exact kit_sub (by decide +kernel) h1
    · exact kit_sub (by decide +kernel) h2
    · exact kit_sub (by decide +kernel) h3
    · exact kit_sub (by decide +kernel) h4
    · exact kit_sub (by decide +kernel) h5⟩
end Md

namespace Md
open PySem L2
/-! ## range(a, b, -1) -/
section
variable {X : Cx} {xt : String → Option Addr} {W : WX} {a b c : Expr} {pos p : Pos} {tg : Expr}
def rgDn (i : Int) (n : Nat) : List DV := (List.range n).map fun k => DV.int (i + (k : Nat) * (-1))
theorem it_dn {K : PySem.W.Frag} {θ : List Addr} {H : Hp} {i : Int} {n : Nat} : ItRel K θ H (rgDn i n, none) (Itc i (-1) n) := by
  intro θ' H' μ' l s ho
  refine ⟨fun k x hx => ?_, fun k hk => by show n ≤ k; exact Nat.le_of_eq (by simpa [rgDn] using hk.symm)⟩
  simp only [rgDn, List.getElem?_map, Option.map_eq_some_iff] at hx
  obtain ⟨j, hj, rfl⟩ := hx
  have hlt : k < n := by simpa using (List.getElem?_eq_some_iff.mp hj).1
  have ej : j = k := by
    have := (List.getElem?_eq_some_iff.mp hj).2
    simp at this; exact this.symm
  subst ej
  refine ⟨hlt, fun w' H'' ⟨e1, h1⟩ => ?_⟩
  subst e1; subst h1
  exact ⟨.refl, s, rfl⟩
def RgN (i j : Int) : Prop := -1000000 ≤ i ∧ i ≤ 1000000 ∧ -1000000 ≤ j ∧ j ≤ 1000000
instance (i j : Int) : Decidable (RgN i j) := inferInstanceAs (Decidable (_ ∧ _ ∧ _ ∧ _))
def mItR3 (m n l : EM) : IM := fun ρ μ => (m ρ μ).bind fun v μ => (n ρ μ).bind fun u μ => (l ρ μ).bind fun w μ => match v, u, w with
  | .int i, .int j, .int k => if RgN i j ∧ k = -1 then .ok (rgDn i (i - j).toNat, none) μ else .bad
  | _, _, _ => .bad
theorem i_rg3 {m n l : EM} (hm : X.mg ("range" : Str) = none) (h : DEx xt W X a m) (h2 : DEx xt W X b n) (h3 : DEx xt W X c l) (hg : Gl X ("range" : Str) := by rfl)
    (nc : starEach [c] X.env = (false, eval c X.env) :: starEach [] X.env := by rfl) (nb : starEach [b, c] X.env = (false, eval b X.env) :: starEach [c] X.env := by rfl) (na : starEach [a, b, c] X.env = (false, eval a X.env) :: starEach [b, c] X.env := by rfl)
    (hpl : (backTo pos (starEach [b, c] X.env)).any (·.1) = false := by rfl) : DIt xt W X tg (.Call (.Name "range" p) [a, b, c] [] pos) (mItR3 m n l) := by
  refine ⟨fun pins s σ H R I ⟨θ, ρ, μ, he, hst, q⟩ => (pi_range3 hg hm (pa_cons h (pa_cons h2 (pa_cons h3 pa_nil nc) nb) na) na hpl).run pins s σ H R I ?_⟩
  refine ⟨θ, ρ, μ, he, hst, ?_⟩
  refine q.bind.imp fun w H1 ⟨θ1, μ1, v, l1, s1, r1, q1⟩ => ⟨θ1, ρ, μ1, l1.rpE he, s1, ?_⟩
  refine q1.bind.imp fun w2 H2 ⟨θ2, μ2, u, l2, s2, r2, q2⟩ => ⟨θ2, ρ, μ2, l2.rpE (l1.rpE he), s2, ?_⟩
  refine q2.bind.imp fun w3 H3 ⟨θ3, μ3, t, l3, s3, r3, q3⟩ => ?_
  cases v with
  | int i =>
    cases u with
    | int j =>
      cases t with
      | int k =>
        cases r1; cases r2; cases r3
        replace q3 : Po X.K xt W (ItRel X.K) (if RgN i j ∧ k = -1 then .ok (rgDn i (i - j).toNat, none) μ3 else .bad) θ3 H3 σ R := q3
        split at q3
        · rename_i hr
          obtain ⟨⟨b1, b2, b3, b4⟩, rfl⟩ := hr
          exact ⟨i, j, -1, _, rfl, RgC.neg (by omega) (by omega) (by omega) (by omega), q3 θ3 H3 _ .refl s3 it_dn⟩
        · exact q3.elim
      | _ => exact q3.elim
    | _ => exact q3.elim
  | _ => exact q3.elim
end
end Md

namespace Md
open PySem L2
/-! ## what the new words compute, for simp -/
section
variable {ρ : DE} {μ : DM} {m n l mo mi mv me : EM} {ms : LM}
@[simp] theorem x_fld {f : String} : mFld m f ρ μ = (m ρ μ).bind fun u μ => match u with
  | .ref n => match μ[n]? with
    | some (.obj _ fs) => match fGet fs f with
      | some d => .ok d μ
      | none => .bad
    | _ => .bad
  | _ => .bad := rfl
@[simp] theorem x_sFld {c f : String} : sFldS c mo me f ρ μ = (me ρ μ).st ρ fun v μ => (mo ρ μ).st ρ fun u μ => match u with
  | .ref n => match μ[n]? with
    | some (.obj c' fs) => if c' = c ∧ fs.length < 1000 then .nx ρ (μ.set n (.obj c' (fPut f v fs))) else .bad
    | _ => .bad
  | _ => .bad := rfl
@[simp] theorem x_meth {c m' : String} {k : Nat} {fn : Fn} : mMeth c m' k fn mo ms ρ μ = (mo ρ μ).bind fun u μ => if isObj c m' u μ = true then (ms ρ μ).bind fun ds μ => if ds.length + 1 = k then (fn (u :: ds) μ).noex else .bad else .bad := rfl
@[simp] theorem x_new {c : String} {k : Nat} {fn : Fn} : mNew c k fn ms ρ μ = (ms ρ μ).bind fun ds μ => if ds.length + 1 = k then ((fn (.ref μ.length :: ds) (μ ++ [.obj c []])).noex).bind fun r μ2 => match r with
  | .non => .ok (.ref μ.length) μ2
  | _ => .bad
  else .bad := rfl
@[simp] theorem x_dnew : mDNew ρ μ = .ok (.ref μ.length) (μ ++ [.dct []]) := rfl
@[simp] theorem x_dput : sDPut mo mi me ρ μ = (me ρ μ).st ρ fun v μ => (mo ρ μ).st ρ fun u μ => (mi ρ μ).st ρ fun k μ => match u with
  | .ref n => match μ[n]? with
    | some (.dct kvs) => match dKey k with
      | some _ => if kvs.length < LIM then .nx ρ (μ.set n (.dct (kPut kvs k v))) else .bad
      | none => .bad
    | _ => .bad
  | _ => .bad := rfl
@[simp] theorem x_rev : mRev m ρ μ = (m ρ μ).bind fun v μ => match v with
  | .tup xs => .ok (.tup xs.reverse) μ
  | .kl xs => .ok (.ref μ.length) (μ ++ [.lst xs.reverse])
  | .ref n => match μ[n]? with
    | some (.lst xs) => .ok (.ref μ.length) (μ ++ [.lst xs.reverse])
    | _ => .bad
  | _ => .bad := rfl
@[simp] theorem x_extend : mExtend mo mv ρ μ = (mo ρ μ).bind fun u μ => match u.lst μ with
  | none => .bad
  | some _ => (mv ρ μ).bind fun v μ => match u.lst μ with
    | none => .bad
    | some xs => match v with
      | .tup ys => if xs.length + ys.length ≤ LIM then .ok .non (μ.set u.at0 (.lst (xs ++ ys))) else .bad
      | v => match v.lst μ with
        | some ys => if xs.length + ys.length ≤ LIM then .ok .non (μ.set u.at0 (.lst (xs ++ ys))) else .bad
        | none => .bad := rfl
@[simp] theorem x_upd : mUpd mo mv ρ μ = (mo ρ μ).bind fun u μ => match u.dct μ with
  | none => .bad
  | some _ => (mv ρ μ).bind fun v μ => match u.dct μ, v.dct μ with
    | some kvs, some mvs => if u.at0 ≠ v.at0 ∧ kvs.length + mvs.length ≤ LIM then .ok .non (μ.set u.at0 (.dct (kMerge kvs mvs))) else .bad
    | _, _ => .bad := rfl
@[simp] theorem x_lenD : mLenD m ρ μ = (m ρ μ).bind fun v μ => match v.dct μ with
  | some kvs => .ok (.int kvs.length) μ
  | none => .bad := rfl
@[simp] theorem x_lenS : mLenS m ρ μ = (m ρ μ).bind fun v μ => match v with
  | .str s => if s.toList.length ≤ LIM then .ok (.int (s.toList.length : Int)) μ else .bad
  | _ => .bad := rfl
@[simp] theorem x_kin {neg : Bool} {d : List (String × DV)} : mKIn neg d m ρ μ = (m ρ μ).bind fun v μ => match v with
  | .str s => .ok (.bl (if neg then !(kFind d s).isSome else (kFind d s).isSome)) μ
  | _ => .bad := rfl
@[simp] theorem x_kget {d : List (String × DV)} : mKGet d m ρ μ = (m ρ μ).bind fun v μ => match v with
  | .str s => match kFind d s with
    | some d => .ok d μ
    | none => .bad
  | _ => .bad := rfl
@[simp] theorem x_zipS : mZipS m n ρ μ = (m ρ μ).bind fun v μ => (n ρ μ).bind fun u μ => match v, u with
  | .str s, .tup ys => .ok (zpD (sgD s) ys, none) μ
  | _, _ => .bad := rfl
@[simp] theorem x_it3 : mItR3 m n l ρ μ = (m ρ μ).bind fun v μ => (n ρ μ).bind fun u μ => (l ρ μ).bind fun w μ => match v, u, w with
  | .int i, .int j, .int k => if RgN i j ∧ k = -1 then .ok (rgDn i (i - j).toNat, none) μ else .bad
  | _, _, _ => .bad := rfl
@[simp] theorem x_sAsgS {t : GS} : sAsgS m t ρ μ = (m ρ μ).st ρ fun v μ => match t v ρ μ with
  | .ok ρ' μ' => .nx ρ' μ'
  | _ => .bad := rfl
@[simp] theorem x_tsN {i : Nat} {x : DV} : tsN i x ρ μ = if i < ρ.length then .ok (ρ.set i (some x)) μ else .bad := rfl
@[simp] theorem x_tsSub {v : DV} : tsSub mo mi v ρ μ = (mo ρ μ).noex.bind fun u μ => (mi ρ μ).noex.bind fun i μ => match setIx u i v μ with
  | some μ' => .ok ρ μ'
  | none => .bad := rfl
@[simp] theorem x_tsNil : tsNil [] ρ μ = .ok ρ μ := rfl
@[simp] theorem x_tsCons {t : GS} {u : GSs} {x : DV} {xs : List DV} : tsCons t u (x :: xs) ρ μ = (t x ρ μ).bind fun ρ1 μ1 => u xs ρ1 μ1 := rfl
@[simp] theorem x_tsTup {k : Nat} {t : GSs} {xs : List DV} : tsTup k t (.tup xs) ρ μ = if xs.length = k then t xs ρ μ else .bad := rfl
@[simp] theorem x_tgSqT {k : Nat} {t : GMs} {xs : List DV} : tgSq k t (.tup xs) ρ μ = if xs.length = k then t xs ρ μ else none := rfl
theorem x_tgSqL {k : Nat} {t : GMs} {n : Nat} {xs : List DV} (h : μ[n]? = some (.lst xs)) : tgSq k t (.ref n) ρ μ = if xs.length = k then t xs ρ μ else none := by
  simp [tgSq, DV.lst, h]
@[simp] theorem x_inS {neg : Bool} {a b : String} : gInX neg (.str a) (.str b) μ = match a.toList with
  | [ch] => .ok (.bl (if neg then !b.toList.contains ch else b.toList.contains ch)) μ
  | _ => .bad := rfl
@[simp] theorem x_inT {neg : Bool} {u : DV} {ys : List DV} : gInX neg u (.tup ys) μ = if u.flat = true ∧ ys.all DV.flat = true then .ok (.bl (if neg then !ys.any (fun y => dEq y u) else ys.any (fun y => dEq y u))) μ else .bad := rfl
end
/-- a row of pairs -/
@[simp] theorem fGet_hd {f : String} {x : DV} {r : List (String × DV)} : fGet ((f, x) :: r) f = some x := by simp [fGet]
end Md

/-! ## what each def computes, printed by gen.py -/
namespace Lw
open PySem L2 Md
abbrev WG : Nat := 10000000000000000000000000000000000000000000000000000000000000000000000000000000
def kd_FORMS : List (String × DV) := [("cut", .str "apsq"), ("part", .str "apsq"), ("like", .str "aprq"), ("best", .str "amq"), ("ask", .str "aprbb"), ("over", .str "apsbb"), ("there", .str "pbb"), ("give", .str "ap"), ("move", .str "pq"), ("swap", .str "pq"), ("rounds", .str "kb"), ("do", .str "h")]
def b_is_integer : SM :=
  sRet (mAndV (mIsi "int" (mVar 0)) (mNotV (mIsi "bool" (mVar 0))))
def f_is_integer : Fn := runFn 1 1 b_is_integer
def b_is_between : SM :=
  sRet (mAndV (mCall 1 f_is_integer (mCons (mVar 0) (mNil))) (mChain qLe qLe (mVar 1) (mVar 0) (mVar 2)))
def f_is_between : Fn := runFn 3 3 b_is_between
def b_is_tuple_of : SM :=
  sRet (mAndV (mIsi "tuple" (mVar 0)) (mOp (gEq false) (mLen (mVar 0)) (mVar 1)))
def f_is_tuple_of : Fn := runFn 2 2 b_is_tuple_of
def b_is_fraction : SM :=
  sSeq (sIf (mOr (mNot (mTru (mCall 2 f_is_tuple_of (mCons (mVar 0) (mCons (mC (.int 2)) (mNil)))))) (mNot (mTru (mL1F gAll (mLc [1] (mIt (mVar 0)) (tgN 1) (mYes) (mCall 1 f_is_integer (mCons (mVar 1) (mNil)))))))) (sRet (mC (.bl false))) (sNil)) <|
  sRet (mAndV (mOp qGt (mOp gIx (mVar 0) (mC (.int 1))) (mC (.int 0))) (mOp (gEq false) (mGcd (mAbs (mOp gIx (mVar 0) (mC (.int 0)))) (mOp gIx (mVar 0) (mC (.int 1)))) (mC (.int 1))))
def f_is_fraction : Fn := runFn 2 1 b_is_fraction
def b_is_share : SM :=
  sRet (mAndV (mCall 1 f_is_fraction (mCons (mVar 0) (mNil))) (mChain qLe qLe (mC (.int 0)) (mOp gIx (mVar 0) (mC (.int 0))) (mOp gIx (mVar 0) (mC (.int 1)))))
def f_is_share : Fn := runFn 1 1 b_is_share
def b_blocks_in : SM :=
  sRet (mKeep (mLc [2, 1] (mZipS (mKGet kd_FORMS (mOp gIx (mVar 0) (mC (.int 0)))) (mSl (mVar 0) (mP (mC (.int 1))) (mNoP))) (tgTup 2 (tgCons (tgN 2) (tgCons (tgN 1) (tgNil)))) (mBl (mOp (gEq false) (mVar 2) (mC (.str "b")))) (mVar 1)))
def f_blocks_in : Fn := runFn 3 1 b_blocks_in
def b_Sizes_size (r_Sizes_size : Fn) (r_Sizes_size_of : Fn) : SM :=
  sSeq (sAsg (mTup (mCons (mC (.int 0)) (mCons (mC (.int 0)) (mCons (mC (.int 0)) (mNil))))) (tgTup 3 (tgCons (tgN 2) (tgCons (tgN 3) (tgCons (tgN 4) (tgNil)))))) <|
  sSeq (sFor (mIt (mVar 1)) (tgN 5) (sSeq (sAsg (mMeth "Sizes" "size_of" 2 r_Sizes_size_of (mVar 0) (mCons (mVar 5) (mNil))) (tgN 6)) <|
  sPar3 2 3 4 (mCons (mOp gAdd (mVar 2) (mOp gIx (mVar 6) (mC (.int 0)))) (mCons (mOp gAdd (mVar 3) (mOp gIx (mVar 6) (mC (.int 1)))) (mCons (mOp gAdd (mVar 4) (mOp gIx (mVar 6) (mC (.int 2)))) (mNil)))))) <|
  sRet (mTup (mCons (mVar 2) (mCons (mVar 3) (mCons (mVar 4) (mNil)))))
def b_Sizes_size_of (r_Sizes_size : Fn) (r_Sizes_size_of : Fn) : SM :=
  sSeq (sIf (mBl (mOp (gEq false) (mOp gIx (mVar 1) (mC (.int 0))) (mC (.str "do")))) (sRet (mOp gIx (mFld (mVar 0) "helps") (mOp gIx (mVar 1) (mC (.int 1))))) (sNil)) <|
  sSeq (sIf (mBl (mOp (gEq false) (mOp gIx (mVar 1) (mC (.int 0))) (mC (.str "rounds")))) (sRet (mTupF (mLc [6] (mIt (mMeth "Sizes" "size" 2 r_Sizes_size (mVar 0) (mCons (mOp gIx (mVar 1) (mC (.int 2))) (mNil)))) (tgN 6) (mYes) (mOp gMul (mOp gIx (mVar 1) (mC (.int 1))) (mVar 6))))) (sNil)) <|
  sSeq (sSetF (mLc [5] (mIt (mCall 1 f_blocks_in (mCons (mVar 1) (mNil)))) (tgN 5) (mYes) (mMeth "Sizes" "size" 2 r_Sizes_size (mVar 0) (mCons (mVar 5) (mNil)))) 2) <|
  sSeq (sAsg (mOp gAdd (mC (.int 1)) (mL1F gSum (mLc [6] (mIt (mVar 2)) (tgN 6) (mYes) (mOp gIx (mVar 6) (mC (.int 0)))))) (tgN 3)) <|
  sSeq (sAsg (mOp gAdd (mL1 gMax (mOp gAdd (mKeep (mLc [6] (mIt (mVar 2)) (tgN 6) (mYes) (mOp gIx (mVar 6) (mC (.int 1))))) (mKeep (mLst (mCons (mC (.int 0)) (mNil)))))) (mIf (mBl (mOp (gInX false) (mOp gIx (mVar 1) (mC (.int 0))) (mC (.tup [.str "cut", .str "part", .str "like"])))) (mC (.int 1)) (mC (.int 0)))) (tgN 4)) <|
  sRet (mTup (mCons (mVar 3) (mCons (mVar 4) (mCons (mOp gAdd (mL1 gMax (mOp gAdd (mKeep (mLc [6] (mIt (mVar 2)) (tgN 6) (mYes) (mOp gIx (mVar 6) (mC (.int 2))))) (mKeep (mLst (mCons (mC (.int 0)) (mNil)))))) (mIf (mBl (mOp (gInX false) (mOp gIx (mVar 1) (mC (.int 0))) (mC (.tup [.str "best", .str "ask", .str "over"])))) (mC (.int 1)) (mC (.int 0)))) (mNil)))))
mutual
def f_Sizes_size_n : Nat → Fn
  | 0 => fun _ _ => .bad
  | n + 1 => runFn 7 2 (b_Sizes_size (f_Sizes_size_n n) (f_Sizes_size_of_n n))
def f_Sizes_size_of_n : Nat → Fn
  | 0 => fun _ _ => .bad
  | n + 1 => runFn 7 2 (b_Sizes_size_of (f_Sizes_size_n n) (f_Sizes_size_of_n n))
end
abbrev f_Sizes_size : Fn := f_Sizes_size_n 24
abbrev f_Sizes_size_of : Fn := f_Sizes_size_of_n 24
def b_Judge_are_pieces : SM :=
  sSeq (sIf (mOr (mNot (mTru (mIsi "tuple" (mVar 1)))) (mNot (mTru (mL1F gAll (mLc [3] (mIt (mVar 1)) (tgN 3) (mYes) (mCall 3 f_is_between (mCons (mVar 3) (mCons (mC (.int 0)) (mCons (mOp qSub (mFld (mVar 0) "pieces") (mC (.int 1))) (mNil)))))))))) (sRet (mC (.bl false))) (sNil)) <|
  sRet (mAndV (mOp qGt (mLen (mVar 1)) (mC (.int 0))) (mL1F gAll (mLc [2] (mItR2 (mC (.int 1)) (mLen (mVar 1))) (tgN 2) (mYes) (mOp qLt (mOp gIx (mVar 1) (mOp qSub (mVar 2) (mC (.int 1)))) (mOp gIx (mVar 1) (mVar 2))))))
def f_Judge_are_pieces : Fn := runFn 4 2 b_Judge_are_pieces
def b_Judge_is_part : SM :=
  sSeq (sIf (mBl (mOp (gEq false) (mVar 1) (mC (.str "a")))) (sRet (mCall 3 f_is_between (mCons (mVar 2) (mCons (mC (.int 0)) (mCons (mOp qSub (mFld (mVar 0) "sharers") (mC (.int 1))) (mNil)))))) (sNil)) <|
  sSeq (sIf (mBl (mOp (gInX false) (mVar 1) (mC (.str "prq")))) (sRet (mCall 3 f_is_between (mCons (mVar 2) (mCons (mC (.int 0)) (mCons (mOp qSub (mFld (mVar 0) "pieces") (mC (.int 1))) (mNil)))))) (sNil)) <|
  sSeq (sIf (mBl (mOp (gEq false) (mVar 1) (mC (.str "s")))) (sRet (mCall 1 f_is_share (mCons (mVar 2) (mNil)))) (sNil)) <|
  sSeq (sIf (mBl (mOp (gEq false) (mVar 1) (mC (.str "k")))) (sRet (mCall 3 f_is_between (mCons (mVar 2) (mCons (mC (.int 0)) (mCons (mC (.int 4)) (mNil)))))) (sNil)) <|
  sSeq (sIf (mBl (mOp (gEq false) (mVar 1) (mC (.str "h")))) (sRet (mCall 3 f_is_between (mCons (mVar 2) (mCons (mC (.int 0)) (mCons (mOp qSub (mFld (mVar 0) "helps") (mC (.int 1))) (mNil)))))) (sNil)) <|
  sRet (mOrV (mOp (gEq false) (mVar 1) (mC (.str "b"))) (mMeth "Judge" "are_pieces" 2 f_Judge_are_pieces (mVar 0) (mCons (mVar 2) (mNil))))
def f_Judge_is_part : Fn := runFn 3 3 b_Judge_is_part
def b_Judge_is_block (r_Judge_is_block : Fn) (r_Judge_is_statement : Fn) : SM :=
  sSeq (sIf (mOr (mNot (mTru (mIsi "tuple" (mVar 1)))) (mOr (mBl (mOp qGt (mLen (mVar 1)) (mC (.int 20)))) (mBl (mOp (gEq false) (mVar 2) (mC (.int 0)))))) (sRet (mC (.bl false))) (sNil)) <|
  sRet (mL1F gAll (mLc [3] (mIt (mVar 1)) (tgN 3) (mYes) (mMeth "Judge" "is_statement" 3 r_Judge_is_statement (mVar 0) (mCons (mVar 3) (mCons (mVar 2) (mNil))))))
def b_Judge_is_statement (r_Judge_is_block : Fn) (r_Judge_is_statement : Fn) : SM :=
  sSeq (sIf (mOr (mNot (mTru (mIsi "tuple" (mVar 1)))) (mOr (mBl (mOp (gEq false) (mLen (mVar 1)) (mC (.int 0)))) (mOr (mNot (mTru (mIsi "str" (mOp gIx (mVar 1) (mC (.int 0)))))) (mBl (mKIn true kd_FORMS (mOp gIx (mVar 1) (mC (.int 0)))))))) (sRet (mC (.bl false))) (sNil)) <|
  sSeq (sAsg (mKGet kd_FORMS (mOp gIx (mVar 1) (mC (.int 0)))) (tgN 3)) <|
  sSeq (sIf (mOr (mBl (mOp (gEq true) (mLen (mVar 1)) (mOp gAdd (mLenS (mVar 3)) (mC (.int 1))))) (mNot (mTru (mL1F gAll (mLc [7, 5] (mZipS (mVar 3) (mSl (mVar 1) (mP (mC (.int 1))) (mNoP))) (tgTup 2 (tgCons (tgN 7) (tgCons (tgN 5) (tgNil)))) (mYes) (mMeth "Judge" "is_part" 3 f_Judge_is_part (mVar 0) (mCons (mVar 7) (mCons (mVar 5) (mNil))))))))) (sRet (mC (.bl false))) (sNil)) <|
  sSeq (sSetF (mLc [7, 5] (mZipS (mVar 3) (mSl (mVar 1) (mP (mC (.int 1))) (mNoP))) (tgTup 2 (tgCons (tgN 7) (tgCons (tgN 5) (tgNil)))) (mBl (mOp (gInX false) (mVar 7) (mC (.str "prq")))) (mVar 5)) 4) <|
  sSeq (sIf (mBl (mOp (gInX false) (mC (.str "m")) (mVar 3))) (sExpr (mExtend (mVar 4) (mOp gIx (mVar 1) (mC (.int 2))))) (sNil)) <|
  sSeq (sIf (mBl (mOp (gEq true) (mLenD (mDc [6] (mIt (mVar 4)) (tgN 6) (mVar 6) (mC (.bl true)))) (mLen (mVar 4)))) (sRet (mC (.bl false))) (sNil)) <|
  sRet (mL1F gAll (mLc [7, 5] (mZipS (mVar 3) (mSl (mVar 1) (mP (mC (.int 1))) (mNoP))) (tgTup 2 (tgCons (tgN 7) (tgCons (tgN 5) (tgNil)))) (mBl (mOp (gEq false) (mVar 7) (mC (.str "b")))) (mMeth "Judge" "is_block" 3 r_Judge_is_block (mVar 0) (mCons (mVar 5) (mCons (mOp qSub (mVar 2) (mC (.int 1))) (mNil))))))
mutual
def f_Judge_is_block_n : Nat → Fn
  | 0 => fun _ _ => .bad
  | n + 1 => runFn 4 3 (b_Judge_is_block (f_Judge_is_block_n n) (f_Judge_is_statement_n n))
def f_Judge_is_statement_n : Nat → Fn
  | 0 => fun _ _ => .bad
  | n + 1 => runFn 8 3 (b_Judge_is_statement (f_Judge_is_block_n n) (f_Judge_is_statement_n n))
end
abbrev f_Judge_is_block : Fn := f_Judge_is_block_n 24
abbrev f_Judge_is_statement : Fn := f_Judge_is_statement_n 24
def b_Sizes___init__ : SM :=
  sSeq (sFldS "Sizes" (mVar 0) (mKeep (mLst (mNil))) "helps") <|
  sFor (mIt (mVar 1)) (tgN 2) (sExpr (mAppend (mFld (mVar 0) "helps") (mMeth "Sizes" "size" 2 f_Sizes_size (mVar 0) (mCons (mVar 2) (mNil)))))
def f_Sizes___init__ : Fn := runFn 3 2 b_Sizes___init__
def b_Judge___init__ : SM :=
  sSeq (sFldS "Judge" (mVar 0) (mVar 1) "sharers") <|
  sSeq (sFldS "Judge" (mVar 0) (mVar 2) "pieces") <|
  sFldS "Judge" (mVar 0) (mVar 3) "helps"
def f_Judge___init__ : Fn := runFn 4 4 b_Judge___init__
def b_is_program : SM :=
  sSeq (sIf (mOr (mNot (mTru (mCall 2 f_is_tuple_of (mCons (mVar 0) (mCons (mC (.int 4)) (mNil)))))) (mNot (mTru (mCall 3 f_is_between (mCons (mOp gIx (mVar 0) (mC (.int 0))) (mCons (mC (.int 1)) (mCons (mC (.int 4)) (mNil)))))))) (sRet (mC (.bl false))) (sNil)) <|
  sSeq (sIf (mOr (mNot (mTru (mCall 3 f_is_between (mCons (mOp gIx (mVar 0) (mC (.int 1))) (mCons (mC (.int 1)) (mCons (mC (.int 8)) (mNil))))))) (mOr (mNot (mTru (mIsi "tuple" (mOp gIx (mVar 0) (mC (.int 2)))))) (mBl (mOp qGt (mLen (mOp gIx (mVar 0) (mC (.int 2)))) (mC (.int 4)))))) (sRet (mC (.bl false))) (sNil)) <|
  sSeq (sAsg (mVar 0) (tgTup 4 (tgCons (tgN 1) (tgCons (tgN 2) (tgCons (tgN 3) (tgCons (tgN 4) (tgNil))))))) <|
  sSeq (sIf (mNot (mTru (mL1F gAll (mLc [8, 9] (mEnum (mVar 3)) (tgTup 2 (tgCons (tgN 8) (tgCons (tgN 9) (tgNil)))) (mYes) (mMeth "Judge" "is_block" 3 f_Judge_is_block (mNew "Judge" 4 f_Judge___init__ (mCons (mVar 1) (mCons (mVar 2) (mCons (mVar 8) (mNil))))) (mCons (mVar 9) (mCons (mC (.int 5)) (mNil)))))))) (sRet (mC (.bl false))) (sNil)) <|
  sSeq (sIf (mNot (mTru (mMeth "Judge" "is_block" 3 f_Judge_is_block (mNew "Judge" 4 f_Judge___init__ (mCons (mVar 1) (mCons (mVar 2) (mCons (mLen (mVar 3)) (mNil))))) (mCons (mVar 4) (mCons (mC (.int 5)) (mNil)))))) (sRet (mC (.bl false))) (sNil)) <|
  sSeq (sAsg (mMeth "Sizes" "size" 2 f_Sizes_size (mNew "Sizes" 2 f_Sizes___init__ (mCons (mVar 3) (mNil))) (mCons (mVar 4) (mNil))) (tgTup 3 (tgCons (tgN 5) (tgCons (tgN 6) (tgCons (tgN 7) (tgNil)))))) <|
  sRet (mAndV (mOp qLe (mVar 5) (mC (.int 150))) (mAndV (mOp qLe (mVar 6) (mC (.int 12))) (mOp qLe (mVar 7) (mC (.int 16)))))
def f_is_program : Fn := runFn 10 1 b_is_program
def b__law_hand : SM :=
  sSeq (sSetF (mLc [2] (mIt (mSl (mVar 0) (mNoP) (mP (mC (.int 63))))) (tgN 2) (mYes) (mAbs (mInt (mVar 2)))) 1) <|
  sRet (mKeep (mLst (mCons (mVar 1) (mCons (mC (.int 0)) (mCons (mC (.int 0)) (mCons (mOp gAdd (mC (.int 41)) (mOp gMul (mC (.int 7)) (mLen (mVar 1)))) (mCons (mC (.int 0)) (mNil))))))))
def f__law_hand : Fn := runFn 3 1 b__law_hand
def b__law_draw : SM :=
  sSeq (sIf (mAnd (mBl (mOp (gEq false) (mOp gIx (mVar 0) (mC (.int 2))) (mC (.int 0)))) (mBl (mOp qLt (mOp gIx (mVar 0) (mC (.int 1))) (mLen (mOp gIx (mVar 0) (mC (.int 0))))))) (sSeq (sAsg (mOp gIx (mOp gIx (mVar 0) (mC (.int 0))) (mOp gIx (mVar 0) (mC (.int 1)))) (tgN 2)) <|
  sSeq (sSub (mVar 0) (mC (.int 1)) (mOp gAdd (mOp gIx (mVar 0) (mC (.int 1))) (mC (.int 1)))) <|
  sSeq (sSub (mVar 0) (mC (.int 3)) (mOp qMod (mInt (mOp gAdd (mOp gAdd (mOp gMul (mOp gIx (mVar 0) (mC (.int 3))) (mC (.int 48271))) (mVar 2)) (mC (.int 13)))) (mC (.int 2147483647)))) <|
  sIf (mBl (mOp qGe (mVar 2) (mOp qPow (mC (.int 10)) (mC (.int 18))))) (sSub (mVar 0) (mC (.int 2)) (mVar 2)) (sNil)) (sNil)) <|
  sSeq (sIf (mBl (mOp qGt (mOp gIx (mVar 0) (mC (.int 2))) (mC (.int 0)))) (sSeq (sAsg (mOp qMod (mInt (mOp gIx (mVar 0) (mC (.int 2)))) (mVar 1)) (tgN 3)) <|
  sSeq (sSub (mVar 0) (mC (.int 2)) (mOp qFdiv (mOp gIx (mVar 0) (mC (.int 2))) (mVar 1))) <|
  sRet (mVar 3)) (sNil)) <|
  sSeq (sSub (mVar 0) (mC (.int 4)) (mOp gAdd (mOp gIx (mVar 0) (mC (.int 4))) (mC (.int 1)))) <|
  sSeq (sAsg (mOp qMod (mInt (mOp gMul (mInt (mOp gAdd (mOp gIx (mVar 0) (mC (.int 3))) (mOp gMul (mC (.int 6007)) (mOp gIx (mVar 0) (mC (.int 4)))))) (mC (.int 69621)))) (mC (.int 2147483629))) (tgN 4)) <|
  sSeq (sAsg (mOp qMod (mInt (mOp gMul (mVar 4) (mOp gAdd (mOp qFdiv (mVar 4) (mC (.int 1013))) (mC (.int 48271))))) (mC (.int 2147483647))) (tgN 4)) <|
  sSeq (sAsg (mOp qMod (mInt (mOp gMul (mVar 4) (mOp gAdd (mOp qFdiv (mVar 4) (mC (.int 2011))) (mC (.int 16807))))) (mC (.int 2147483587))) (tgN 4)) <|
  sRet (mOp qMod (mInt (mOp qFdiv (mVar 4) (mC (.int 32)))) (mVar 1))
def f__law_draw : Fn := runFn 5 2 b__law_draw
def b__law_some : SM :=
  sRet (mOp gIx (mVar 1) (mCall 2 f__law_draw (mCons (mVar 0) (mCons (mLen (mVar 1)) (mNil)))))
def f__law_some : Fn := runFn 2 2 b__law_some
def b__law_mixed : SM :=
  sSeq (sPar 2 3 (mCons (mKeep (mListOf (mVar 1))) (mCons (mKeep (mLst (mNil))) (mNil)))) <|
  sSeq (sWhile (mBl (mOp qGt (mLen (mVar 2)) (mC (.int 0)))) (sExpr (mAppend (mVar 3) (mPopAt (mVar 2) (mCall 2 f__law_draw (mCons (mVar 0) (mCons (mLen (mVar 2)) (mNil))))))) WF) <|
  sRet (mVar 3)
def f__law_mixed : Fn := runFn 4 2 b__law_mixed
def b__law_part : SM :=
  sSeq (sPar 2 3 (mCons (mAbs (mVar 0)) (mCons (mVar 1) (mNil)))) <|
  sSeq (sWhile (mBl (mOp qGt (mVar 3) (mC (.int 0)))) (sPar 2 3 (mCons (mVar 3) (mCons (mOp qMod (mInt (mVar 2)) (mVar 3)) (mNil)))) WF) <|
  sRet (mTup (mCons (mOp qFdiv (mVar 0) (mVar 2)) (mCons (mOp qFdiv (mVar 1) (mVar 2)) (mNil))))
def f__law_part : Fn := runFn 4 2 b__law_part
def b__law_plus : SM :=
  sRet (mCall 2 f__law_part (mCons (mOp gAdd (mOp gMul (mOp gIx (mVar 0) (mC (.int 0))) (mOp gIx (mVar 1) (mC (.int 1)))) (mOp gMul (mOp gIx (mVar 1) (mC (.int 0))) (mOp gIx (mVar 0) (mC (.int 1))))) (mCons (mOp gMul (mOp gIx (mVar 0) (mC (.int 1))) (mOp gIx (mVar 1) (mC (.int 1)))) (mNil))))
def f__law_plus : Fn := runFn 2 2 b__law_plus
def b__law_times : SM :=
  sRet (mCall 2 f__law_part (mCons (mOp gMul (mOp gIx (mVar 0) (mC (.int 0))) (mOp gIx (mVar 1) (mC (.int 0)))) (mCons (mOp gMul (mOp gIx (mVar 0) (mC (.int 1))) (mOp gIx (mVar 1) (mC (.int 1)))) (mNil))))
def f__law_times : Fn := runFn 2 2 b__law_times
def b__law_less : SM :=
  sRet (mOp qLt (mOp gMul (mOp gIx (mVar 0) (mC (.int 0))) (mOp gIx (mVar 1) (mC (.int 1)))) (mOp gMul (mOp gIx (mVar 1) (mC (.int 0))) (mOp gIx (mVar 0) (mC (.int 1)))))
def f__law_less : Fn := runFn 2 2 b__law_less
def b__law_ahead : SM :=
  sSeq (sIf (mBl (mOp (gEq true) (mOp gIx (mVar 0) (mC (.int 0))) (mOp gIx (mVar 1) (mC (.int 0))))) (sRet (mCall 2 f__law_less (mCons (mOp gIx (mVar 0) (mC (.int 0))) (mCons (mOp gIx (mVar 1) (mC (.int 0))) (mNil))))) (sNil)) <|
  sRet (mNotV (mCall 2 f__law_less (mCons (mOp gIx (mVar 1) (mC (.int 1))) (mCons (mOp gIx (mVar 0) (mC (.int 1))) (mNil)))))
def f__law_ahead : Fn := runFn 2 2 b__law_ahead
def b__law_joined : SM :=
  sSeq (sPar 2 3 (mCons (mKeep (mListOf (mVar 0))) (mCons (mKeep (mListOf (mVar 1))) (mNil)))) <|
  sSeq (sFor (mIt (mVar 3)) (tgN 4) (sSeq (sAsg (mL1F gLen (mLc [6] (mIt (mVar 2)) (tgN 6) (mTru (mCall 2 f__law_ahead (mCons (mVar 6) (mCons (mVar 4) (mNil))))) (mVar 6))) (tgN 5)) <|
  sAsg (mOp gAdd (mOp gAdd (mSl (mVar 2) (mNoP) (mP (mVar 5))) (mKeep (mLst (mCons (mVar 4) (mNil))))) (mSl (mVar 2) (mP (mVar 5)) (mNoP))) (tgN 2))) <|
  sRet (mTupOf (mVar 2))
def f__law_joined : Fn := runFn 7 2 b__law_joined
def b__law_cut : SM :=
  sRet (mTup (mCons (mOp gAdd (mSl (mVar 0) (mNoP) (mP (mVar 1))) (mTup (mCons (mTup (mCons (mOp gIx (mOp gIx (mVar 0) (mVar 1)) (mC (.int 0))) (mCons (mVar 2) (mNil)))) (mNil)))) (mCons (mOp gAdd (mTup (mCons (mTup (mCons (mVar 2) (mCons (mOp gIx (mOp gIx (mVar 0) (mVar 1)) (mC (.int 1))) (mNil)))) (mNil))) (mSl (mVar 0) (mP (mOp gAdd (mVar 1) (mC (.int 1)))) (mNoP))) (mNil))))
def f__law_cut : Fn := runFn 3 3 b__law_cut
def b__law_share : SM :=
  sRet (mCall 2 f__law_some (mCons (mVar 0) (mCons (mKeep (mLst (mCons (mTup (mCons (mC (.int 1)) (mCons (mC (.int 2)) (mNil)))) (mCons (mTup (mCons (mC (.int 1)) (mCons (mC (.int 3)) (mNil)))) (mCons (mTup (mCons (mC (.int 2)) (mCons (mC (.int 3)) (mNil)))) (mCons (mTup (mCons (mC (.int 1)) (mCons (mC (.int 4)) (mNil)))) (mCons (mTup (mCons (mC (.int 3)) (mCons (mC (.int 4)) (mNil)))) (mCons (mTup (mCons (mC (.int 0)) (mCons (mC (.int 1)) (mNil)))) (mCons (mTup (mCons (mC (.int 1)) (mCons (mC (.int 1)) (mNil)))) (mCons (mTup (mCons (mC (.int 2)) (mCons (mC (.int 5)) (mNil)))) (mCons (mTup (mCons (mC (.int 1)) (mCons (mC (.int 2)) (mNil)))) (mNil)))))))))))) (mNil))))
def f__law_share : Fn := runFn 1 1 b__law_share
def b__law_plain : SM :=
  sSeq (sPar 4 5 (mCons (mCall 2 f__law_some (mCons (mVar 0) (mCons (mVar 3) (mNil)))) (mCons (mCall 2 f__law_draw (mCons (mVar 0) (mCons (mVar 1) (mNil)))) (mNil)))) <|
  sSeq (sAsg (mCall 2 f__law_mixed (mCons (mVar 0) (mCons (mKeep (mRg1 (mVar 2))) (mNil)))) (tgN 6)) <|
  sSeq (sIf (mBl (mOp (gIn false) (mVar 4) (mKeep (mLst (mCons (mC (.str "cut")) (mCons (mC (.str "part")) (mNil))))))) (sRet (mTup (mCons (mVar 4) (mCons (mVar 5) (mCons (mOp gIx (mVar 6) (mC (.int 0))) (mCons (mCall 1 f__law_share (mCons (mVar 0) (mNil))) (mCons (mOp gIx (mVar 6) (mC (.int 1))) (mNil)))))))) (sNil)) <|
  sSeq (sIf (mBl (mOp (gEq false) (mVar 4) (mC (.str "like")))) (sRet (mTup (mCons (mVar 4) (mCons (mVar 5) (mCons (mOp gIx (mVar 6) (mC (.int 0))) (mCons (mOp gIx (mVar 6) (mC (.int 2))) (mCons (mOp gIx (mVar 6) (mC (.int 1))) (mNil)))))))) (sNil)) <|
  sSeq (sIf (mBl (mOp (gEq false) (mVar 4) (mC (.str "best")))) (sRet (mTup (mCons (mVar 4) (mCons (mVar 5) (mCons (mTupF (mSorted (mSl (mVar 6) (mP (mC (.int 1))) (mP (mOp gAdd (mC (.int 2)) (mCall 2 f__law_draw (mCons (mVar 0) (mCons (mOp qSub (mVar 2) (mC (.int 1))) (mNil))))))))) (mCons (mOp gIx (mVar 6) (mC (.int 0))) (mNil))))))) (sNil)) <|
  sRet (mIf (mBl (mOp (gEq false) (mVar 4) (mC (.str "give")))) (mTup (mCons (mVar 4) (mCons (mVar 5) (mCons (mOp gIx (mVar 6) (mC (.int 0))) (mNil))))) (mTup (mCons (mVar 4) (mCons (mOp gIx (mVar 6) (mC (.int 0))) (mCons (mOp gIx (mVar 6) (mC (.int 1))) (mNil))))))
def f__law_plain : Fn := runFn 7 4 b__law_plain
def b__law_statement (r__law_statement : Fn) (r__law_block : Fn) : SM :=
  sSeq (sAsg (mCall 2 f__law_draw (mCons (mVar 0) (mCons (mC (.int 10)) (mNil)))) (tgN 5)) <|
  sSeq (sAsg (mCall 2 f__law_mixed (mCons (mVar 0) (mCons (mKeep (mRg1 (mVar 2))) (mNil)))) (tgN 6)) <|
  sSeq (sIf (mAnd (mBl (mOp qGt (mVar 3) (mC (.int 0)))) (mBl (mOp qLt (mVar 5) (mC (.int 4))))) (sSeq (sAsg (mTupF (mLc [8] (mItR1 (mC (.int 2))) (tgN 8) (mYes) (mCall 6 r__law_block (mCons (mVar 0) (mCons (mVar 1) (mCons (mVar 2) (mCons (mOp qSub (mVar 3) (mC (.int 1))) (mCons (mVar 4) (mCons (mOp qSub (mOp gAdd (mC (.int 1)) (mCall 2 f__law_draw (mCons (mVar 0) (mCons (mC (.int 2)) (mNil))))) (mVar 8)) (mNil)))))))))) (tgN 7)) <|
  sSeq (sIf (mBl (mOp (gEq false) (mVar 5) (mC (.int 0)))) (sRet (mOp gAdd (mTup (mCons (mC (.str "ask")) (mCons (mCall 2 f__law_draw (mCons (mVar 0) (mCons (mVar 1) (mNil)))) (mCons (mOp gIx (mVar 6) (mC (.int 0))) (mCons (mOp gIx (mVar 6) (mC (.int 1))) (mNil)))))) (mVar 7))) (sNil)) <|
  sSeq (sIf (mBl (mOp (gEq false) (mVar 5) (mC (.int 1)))) (sRet (mOp gAdd (mTup (mCons (mC (.str "over")) (mCons (mCall 2 f__law_draw (mCons (mVar 0) (mCons (mVar 1) (mNil)))) (mCons (mOp gIx (mVar 6) (mC (.int 0))) (mCons (mCall 1 f__law_share (mCons (mVar 0) (mNil))) (mNil)))))) (mVar 7))) (sNil)) <|
  sRet (mIf (mBl (mOp (gEq false) (mVar 5) (mC (.int 2)))) (mOp gAdd (mTup (mCons (mC (.str "there")) (mCons (mOp gIx (mVar 6) (mC (.int 0))) (mNil)))) (mVar 7)) (mTup (mCons (mC (.str "rounds")) (mCons (mCall 2 f__law_draw (mCons (mVar 0) (mCons (mC (.int 3)) (mNil)))) (mCons (mOp gIx (mVar 7) (mC (.int 0))) (mNil))))))) (sNil)) <|
  sSeq (sIf (mAnd (mBl (mOp (gEq false) (mVar 5) (mC (.int 4)))) (mBl (mOp qGt (mVar 4) (mC (.int 0))))) (sRet (mTup (mCons (mC (.str "do")) (mCons (mCall 2 f__law_draw (mCons (mVar 0) (mCons (mVar 4) (mNil)))) (mNil))))) (sNil)) <|
  sRet (mCall 4 f__law_plain (mCons (mVar 0) (mCons (mVar 1) (mCons (mVar 2) (mCons (mKeep (mLst (mCons (mC (.str "cut")) (mCons (mC (.str "cut")) (mCons (mC (.str "part")) (mCons (mC (.str "like")) (mCons (mC (.str "best")) (mCons (mC (.str "best")) (mCons (mC (.str "give")) (mCons (mC (.str "give")) (mCons (mC (.str "move")) (mCons (mC (.str "swap")) (mNil))))))))))))) (mNil))))))
def b__law_block (r__law_statement : Fn) (r__law_block : Fn) : SM :=
  sRet (mTupF (mLc [6] (mItR1 (mVar 5)) (tgN 6) (mYes) (mCall 5 r__law_statement (mCons (mVar 0) (mCons (mVar 1) (mCons (mVar 2) (mCons (mVar 3) (mCons (mVar 4) (mNil)))))))))
mutual
def f__law_statement_n : Nat → Fn
  | 0 => fun _ _ => .bad
  | n + 1 => runFn 9 5 (b__law_statement (f__law_statement_n n) (f__law_block_n n))
def f__law_block_n : Nat → Fn
  | 0 => fun _ _ => .bad
  | n + 1 => runFn 7 6 (b__law_block (f__law_statement_n n) (f__law_block_n n))
end
abbrev f__law_statement : Fn := f__law_statement_n 24
abbrev f__law_block : Fn := f__law_block_n 24
def b__law_out_1 (r__law_out : Fn) : SM :=
  sAsg (mOp gAdd (mVar 2) (mKeep (mListOf (mCall 2 r__law_out (mCons (mOp gIx (mVar 3) (mC (.int 2))) (mCons (mVar 1) (mNil))))))) (tgN 2)
def b__law_out_2 (r__law_out : Fn) : SM :=
  sIf (mBl (mOp (gEq false) (mOp gIx (mVar 3) (mC (.int 0))) (mC (.str "do")))) (sAsg (mOp gAdd (mVar 2) (mKeep (mListOf (mOp gIx (mVar 1) (mOp gIx (mVar 3) (mC (.int 1))))))) (tgN 2)) (sIf (mBl (mOp (gEq false) (mOp gIx (mVar 3) (mC (.int 0))) (mC (.str "rounds")))) (sFor (mItR1 (mOp gIx (mVar 3) (mC (.int 1)))) (tgN 4) ((b__law_out_1 r__law_out))) (sIf (mBl (mOp (gIn false) (mOp gIx (mVar 3) (mC (.int 0))) (mKeep (mLst (mCons (mC (.str "ask")) (mCons (mC (.str "over")) (mNil))))))) (sExpr (mAppend (mVar 2) (mOp gAdd (mSl (mVar 3) (mNoP) (mP (mC (.int 4)))) (mTup (mCons (mCall 2 r__law_out (mCons (mOp gIx (mVar 3) (mC (.int 4))) (mCons (mVar 1) (mNil)))) (mCons (mCall 2 r__law_out (mCons (mOp gIx (mVar 3) (mC (.int 5))) (mCons (mVar 1) (mNil)))) (mNil))))))) (sIf (mBl (mOp (gEq false) (mOp gIx (mVar 3) (mC (.int 0))) (mC (.str "there")))) (sExpr (mAppend (mVar 2) (mOp gAdd (mSl (mVar 3) (mNoP) (mP (mC (.int 2)))) (mTup (mCons (mCall 2 r__law_out (mCons (mOp gIx (mVar 3) (mC (.int 2))) (mCons (mVar 1) (mNil)))) (mCons (mCall 2 r__law_out (mCons (mOp gIx (mVar 3) (mC (.int 3))) (mCons (mVar 1) (mNil)))) (mNil))))))) (sExpr (mAppend (mVar 2) (mVar 3))))))
def b__law_out (r__law_out : Fn) : SM :=
  sSeq (sAsg (mKeep (mLst (mNil))) (tgN 2)) <|
  sSeq (sFor (mIt (mVar 0)) (tgN 3) ((b__law_out_2 r__law_out))) <|
  sRet (mTupOf (mVar 2))
def f__law_out_n : Nat → Fn
  | 0 => fun _ _ => .bad
  | n + 1 => runFn 5 2 (b__law_out (f__law_out_n n))
abbrev f__law_out : Fn := f__law_out_n 24
def b__law_told : SM :=
  sSeq (sAsg (mKeep (mLst (mNil))) (tgN 1)) <|
  sSeq (sFor (mIt (mOp gIx (mVar 0) (mC (.int 2)))) (tgN 2) (sExpr (mAppend (mVar 1) (mCall 2 f__law_out (mCons (mVar 2) (mCons (mVar 1) (mNil))))))) <|
  sRet (mCall 2 f__law_out (mCons (mOp gIx (mVar 0) (mC (.int 3))) (mCons (mVar 1) (mNil))))
def f__law_told : Fn := runFn 3 1 b__law_told
def b__law_yard : SM :=
  sSeq (sAsg (mOp gMul (mKeep (mLst (mCons (mTup (mNil)) (mNil)))) (mOp gIx (mVar 0) (mC (.int 1)))) (tgN 1)) <|
  sSeq (sSub (mVar 1) (mC (.int 0)) (mTup (mCons (mTup (mCons (mTup (mCons (mC (.int 0)) (mCons (mC (.int 1)) (mNil)))) (mCons (mTup (mCons (mC (.int 1)) (mCons (mC (.int 1)) (mNil)))) (mNil)))) (mNil)))) <|
  sRet (mKeep (mLst (mCons (mVar 1) (mCons (mOp gMul (mKeep (mLst (mCons (mTup (mNil)) (mNil)))) (mOp gIx (mVar 0) (mC (.int 0)))) (mCons (mRev (mKeep (mListOf (mCall 1 f__law_told (mCons (mVar 0) (mNil)))))) (mNil))))))
def f__law_yard : Fn := runFn 2 1 b__law_yard
def b__law_on_1 : SM :=
  sAsgS (mTup (mCons (mCall 2 f__law_joined (mCons (mOp gIx (mVar 1) (mOp gIx (mVar 4) (mC (.int 3)))) (mCons (mOp gIx (mVar 1) (mVar 6)) (mNil)))) (mCons (mTup (mNil)) (mNil)))) (tsTup 2 (tsCons (tsSub (mVar 1) (mOp gIx (mVar 4) (mC (.int 3)))) (tsCons (tsSub (mVar 1) (mVar 6)) (tsNil))))
def b__law_on_2 : SM :=
  sSeq (sAsg (mPop (mVar 3)) (tgN 4)) <|
  sSeq (sIf (mOr (mBl (mOp (gIn false) (mOp gIx (mVar 4) (mC (.int 0))) (mKeep (mLst (mCons (mC (.str "ask")) (mCons (mC (.str "over")) (mNil))))))) (mAnd (mBl (mOp (gIn false) (mOp gIx (mVar 4) (mC (.int 0))) (mKeep (mLst (mCons (mC (.str "cut")) (mCons (mC (.str "part")) (mCons (mC (.str "like")) (mNil)))))))) (mBl (mOp qGt (mLen (mOp gIx (mVar 1) (mOp gIx (mVar 4) (mC (.int 2))))) (mC (.int 0)))))) (sRet (mVar 4)) (sNil)) <|
  sIf (mBl (mOp (gEq false) (mOp gIx (mVar 4) (mC (.int 0))) (mC (.str "best")))) (sSeq (sSetF (mLc [6] (mIt (mOp gIx (mVar 4) (mC (.int 2)))) (tgN 6) (mBl (mOp qGt (mLen (mOp gIx (mVar 1) (mVar 6))) (mC (.int 0)))) (mVar 6)) 5) <|
  sSeq (sIf (mBl (mOp qGt (mLen (mVar 5)) (mC (.int 1)))) (sRet (mVar 4)) (sNil)) <|
  sFor (mIt (mVar 5)) (tgN 6) (b__law_on_1)) (sIf (mBl (mOp (gEq false) (mOp gIx (mVar 4) (mC (.int 0))) (mC (.str "there")))) (sExpr (mExtend (mVar 3) (mRev (mIf (mBl (mOp qGt (mLen (mOp gIx (mVar 1) (mOp gIx (mVar 4) (mC (.int 1))))) (mC (.int 0)))) (mOp gIx (mVar 4) (mC (.int 2))) (mOp gIx (mVar 4) (mC (.int 3))))))) (sIf (mBl (mOp (gEq false) (mOp gIx (mVar 4) (mC (.int 0))) (mC (.str "give")))) (sAsgS (mTup (mCons (mCall 2 f__law_joined (mCons (mOp gIx (mVar 2) (mOp gIx (mVar 4) (mC (.int 1)))) (mCons (mOp gIx (mVar 1) (mOp gIx (mVar 4) (mC (.int 2)))) (mNil)))) (mCons (mTup (mNil)) (mNil)))) (tsTup 2 (tsCons (tsSub (mVar 2) (mOp gIx (mVar 4) (mC (.int 1)))) (tsCons (tsSub (mVar 1) (mOp gIx (mVar 4) (mC (.int 2)))) (tsNil))))) (sIf (mBl (mOp (gEq false) (mOp gIx (mVar 4) (mC (.int 0))) (mC (.str "move")))) (sAsgS (mTup (mCons (mCall 2 f__law_joined (mCons (mOp gIx (mVar 1) (mOp gIx (mVar 4) (mC (.int 2)))) (mCons (mOp gIx (mVar 1) (mOp gIx (mVar 4) (mC (.int 1)))) (mNil)))) (mCons (mTup (mNil)) (mNil)))) (tsTup 2 (tsCons (tsSub (mVar 1) (mOp gIx (mVar 4) (mC (.int 2)))) (tsCons (tsSub (mVar 1) (mOp gIx (mVar 4) (mC (.int 1)))) (tsNil))))) (sIf (mBl (mOp (gEq false) (mOp gIx (mVar 4) (mC (.int 0))) (mC (.str "swap")))) (sAsgS (mTup (mCons (mOp gIx (mVar 1) (mOp gIx (mVar 4) (mC (.int 2)))) (mCons (mOp gIx (mVar 1) (mOp gIx (mVar 4) (mC (.int 1)))) (mNil)))) (tsTup 2 (tsCons (tsSub (mVar 1) (mOp gIx (mVar 4) (mC (.int 1)))) (tsCons (tsSub (mVar 1) (mOp gIx (mVar 4) (mC (.int 2)))) (tsNil))))) (sNil)))))
def b__law_on : SM :=
  sSeq (sAsg (mVar 0) (tgSq 3 (tgCons (tgN 1) (tgCons (tgN 2) (tgCons (tgN 3) (tgNil)))))) <|
  sSeq (sWhile (mBl (mOp qGt (mLen (mVar 3)) (mC (.int 0)))) (b__law_on_2) WF) <|
  sRet (mC .non)
def f__law_on : Fn := runFn 7 1 b__law_on
def b__law_answered : SM :=
  sSeq (sAsg (mVar 0) (tgSq 3 (tgCons (tgN 3) (tgCons (tgN 4) (tgCons (tgN 5) (tgNil)))))) <|
  sIf (mBl (mOp (gIn false) (mOp gIx (mVar 1) (mC (.int 0))) (mKeep (mLst (mCons (mC (.str "cut")) (mCons (mC (.str "part")) (mCons (mC (.str "like")) (mNil)))))))) (sSeq (sAsgS (mCall 3 f__law_cut (mCons (mOp gIx (mVar 3) (mOp gIx (mVar 1) (mC (.int 2)))) (mCons (mOp gIx (mVar 2) (mC (.int 0))) (mCons (mOp gIx (mVar 2) (mC (.int 1))) (mNil))))) (tsTup 2 (tsCons (tsN 6) (tsCons (tsSub (mVar 3) (mOp gIx (mVar 1) (mC (.int 2)))) (tsNil))))) <|
  sSub (mVar 3) (mOp gIx (mVar 1) (mC (.int 4))) (mCall 2 f__law_joined (mCons (mOp gIx (mVar 3) (mOp gIx (mVar 1) (mC (.int 4)))) (mCons (mVar 6) (mNil))))) (sIf (mBl (mOp (gEq false) (mOp gIx (mVar 1) (mC (.int 0))) (mC (.str "best")))) (sAsgS (mTup (mCons (mCall 2 f__law_joined (mCons (mOp gIx (mVar 3) (mOp gIx (mVar 1) (mC (.int 3)))) (mCons (mOp gIx (mVar 3) (mVar 2)) (mNil)))) (mCons (mTup (mNil)) (mNil)))) (tsTup 2 (tsCons (tsSub (mVar 3) (mOp gIx (mVar 1) (mC (.int 3)))) (tsCons (tsSub (mVar 3) (mVar 2)) (tsNil))))) (sExpr (mExtend (mVar 5) (mRev (mIf (mTru (mVar 2)) (mOp gIx (mVar 1) (mC (.int 4))) (mOp gIx (mVar 1) (mC (.int 5))))))))
def f__law_answered : Fn := runFn 7 3 b__law_answered
def b__law_copy : SM :=
  sRet (mKeep (mLc [1] (mIt (mVar 0)) (tgN 1) (mYes) (mKeep (mListOf (mVar 1)))))
def f__law_copy : Fn := runFn 2 1 b__law_copy
def b__law_options : SM :=
  sSeq (sIf (mBl (mOp (gEq false) (mOp gIx (mVar 1) (mC (.int 0))) (mC (.str "cut")))) (sRet (mKeep (mRg1 (mLen (mOp gIx (mOp gIx (mVar 0) (mC (.int 0))) (mOp gIx (mVar 1) (mC (.int 2)))))))) (sNil)) <|
  sSeq (sIf (mBl (mOp (gIn false) (mOp gIx (mVar 1) (mC (.int 0))) (mKeep (mLst (mCons (mC (.str "part")) (mCons (mC (.str "like")) (mNil))))))) (sRet (mKeep (mRg1 (mOp gMul (mC (.int 2)) (mLen (mOp gIx (mOp gIx (mVar 0) (mC (.int 0))) (mOp gIx (mVar 1) (mC (.int 2))))))))) (sNil)) <|
  sRet (mIf (mBl (mOp (gEq false) (mOp gIx (mVar 1) (mC (.int 0))) (mC (.str "best")))) (mKeep (mLc [2] (mIt (mOp gIx (mVar 1) (mC (.int 2)))) (tgN 2) (mBl (mOp qGt (mLen (mOp gIx (mOp gIx (mVar 0) (mC (.int 0))) (mVar 2))) (mC (.int 0)))) (mVar 2))) (mKeep (mLst (mCons (mC (.int 0)) (mCons (mC (.int 1)) (mNil))))))
def f__law_options : Fn := runFn 3 2 b__law_options
def b__law_by : SM :=
  sSeq (sIf (mBl (mOp (gIn false) (mOp gIx (mVar 1) (mC (.int 0))) (mKeep (mLst (mCons (mC (.str "cut")) (mCons (mC (.str "part")) (mCons (mC (.str "like")) (mNil)))))))) (sSeq (sAsg (mIf (mBl (mOp (gEq false) (mOp gIx (mVar 1) (mC (.int 0))) (mC (.str "cut")))) (mVar 2) (mOp qFdiv (mVar 2) (mC (.int 2)))) (tgN 3)) <|
  sSeq (sAsg (mOp gIx (mOp gIx (mOp gIx (mVar 0) (mC (.int 0))) (mOp gIx (mVar 1) (mC (.int 2)))) (mVar 3)) (tgTup 2 (tgCons (tgN 4) (tgCons (tgN 5) (tgNil))))) <|
  sRet (mTup (mCons (mVar 3) (mCons (mCall 2 f__law_times (mCons (mTup (mCons (mC (.int 1)) (mCons (mC (.int 2)) (mNil)))) (mCons (mCall 2 f__law_plus (mCons (mVar 4) (mCons (mVar 5) (mNil)))) (mNil)))) (mNil))))) (sNil)) <|
  sRet (mIf (mBl (mOp (gEq false) (mOp gIx (mVar 1) (mC (.int 0))) (mC (.str "best")))) (mVar 2) (mOp (gEq false) (mVar 2) (mC (.int 1))))
def f__law_by : Fn := runFn 6 3 b__law_by
def b__law_ways_1 : SM :=
  sSeq (sAsg (mCall 1 f__law_copy (mCons (mVar 5) (mNil))) (tgN 8)) <|
  sSeq (sExpr (mCall 3 f__law_answered (mCons (mVar 8) (mCons (mVar 6) (mCons (mCall 3 f__law_by (mCons (mVar 8) (mCons (mVar 6) (mCons (mVar 7) (mNil))))) (mNil)))))) <|
  sExpr (mAppend (mVar 3) (mTup (mCons (mOp gAdd (mVar 4) (mTup (mCons (mVar 7) (mNil)))) (mCons (mVar 8) (mNil)))))
def b__law_ways_2 : SM :=
  sSeq (sAsg (mPop (mVar 3)) (tgTup 2 (tgCons (tgN 4) (tgCons (tgN 5) (tgNil))))) <|
  sSeq (sAsg (mCall 1 f__law_on (mCons (mVar 5) (mNil))) (tgN 6)) <|
  sIf (mBl (mOp (gIs false) (mVar 6) (mC .non))) (sSeq (sExpr (mAppend (mVar 2) (mVar 4))) <|
  sIf (mBl (mOp qGt (mLen (mVar 2)) (mVar 1))) (sRet (mC .non)) (sNil)) (sFor (mIt (mRev (mCall 2 f__law_options (mCons (mVar 5) (mCons (mVar 6) (mNil)))))) (tgN 7) (b__law_ways_1))
def b__law_ways : SM :=
  sSeq (sPar 2 3 (mCons (mKeep (mLst (mNil))) (mCons (mKeep (mLst (mCons (mTup (mCons (mTup (mNil)) (mCons (mCall 1 f__law_yard (mCons (mVar 0) (mNil))) (mNil)))) (mNil)))) (mNil)))) <|
  sSeq (sWhile (mBl (mOp qGt (mLen (mVar 3)) (mC (.int 0)))) (b__law_ways_2) WG) <|
  sRet (mVar 2)
def f__law_ways : Fn := runFn 9 2 b__law_ways
def b__law_counts_1 (r__law_counts : Fn) : SM :=
  sSeq (sAsg (mIf (mBl (mOp (gIn false) (mOp gIx (mVar 4) (mC (.int 0))) (mKeep (mLst (mCons (mC (.str "ask")) (mCons (mC (.str "over")) (mNil))))))) (mKeep (mLc [6] (mIt (mSl (mVar 4) (mP (mC (.int 4))) (mP (mC (.int 6))))) (tgN 6) (mYes) (mCall 1 r__law_counts (mCons (mVar 6) (mNil))))) (mIf (mBl (mOp (gEq false) (mOp gIx (mVar 4) (mC (.int 0))) (mC (.str "there")))) (mKeep (mLc [6] (mIt (mSl (mVar 4) (mP (mC (.int 2))) (mP (mC (.int 4))))) (tgN 6) (mYes) (mCall 1 r__law_counts (mCons (mVar 6) (mNil))))) (mKeep (mLst (mNil))))) (tgN 5)) <|
  sSeq (sAsg (mOp gAdd (mOp gAdd (mVar 1) (mC (.int 1))) (mL1F gSum (mLc [6] (mIt (mVar 5)) (tgN 6) (mYes) (mOp gIx (mVar 6) (mC (.int 0)))))) (tgN 1)) <|
  sSeq (sAsg (mOp gAdd (mOp gAdd (mVar 2) (mIf (mBl (mOp (gIn false) (mOp gIx (mVar 4) (mC (.int 0))) (mKeep (mLst (mCons (mC (.str "cut")) (mCons (mC (.str "part")) (mCons (mC (.str "like")) (mNil)))))))) (mC (.int 1)) (mC (.int 0)))) (mL1 gMax (mOp gAdd (mKeep (mLst (mCons (mC (.int 0)) (mNil)))) (mKeep (mLc [6] (mIt (mVar 5)) (tgN 6) (mYes) (mOp gIx (mVar 6) (mC (.int 1)))))))) (tgN 2)) <|
  sAsg (mOp gAdd (mOp gAdd (mVar 3) (mIf (mBl (mOp (gIn false) (mOp gIx (mVar 4) (mC (.int 0))) (mKeep (mLst (mCons (mC (.str "best")) (mCons (mC (.str "ask")) (mCons (mC (.str "over")) (mNil)))))))) (mC (.int 1)) (mC (.int 0)))) (mL1 gMax (mOp gAdd (mKeep (mLst (mCons (mC (.int 0)) (mNil)))) (mKeep (mLc [6] (mIt (mVar 5)) (tgN 6) (mYes) (mOp gIx (mVar 6) (mC (.int 2)))))))) (tgN 3)
def b__law_counts (r__law_counts : Fn) : SM :=
  sSeq (sAsg (mTup (mCons (mC (.int 0)) (mCons (mC (.int 0)) (mCons (mC (.int 0)) (mNil))))) (tgTup 3 (tgCons (tgN 1) (tgCons (tgN 2) (tgCons (tgN 3) (tgNil)))))) <|
  sSeq (sFor (mIt (mVar 0)) (tgN 4) ((b__law_counts_1 r__law_counts))) <|
  sRet (mTup (mCons (mVar 1) (mCons (mVar 2) (mCons (mVar 3) (mNil)))))
def f__law_counts_n : Nat → Fn
  | 0 => fun _ _ => .bad
  | n + 1 => runFn 7 1 (b__law_counts (f__law_counts_n n))
abbrev f__law_counts : Fn := f__law_counts_n 24
def b__law_program_1 : SM :=
  sSeq (sAsg (mTup (mCons (mVar 3) (mCons (mVar 4) (mCons (mVar 5) (mCons (mOp gAdd (mVar 6) (mTup (mCons (mCall 5 f__law_statement (mCons (mVar 0) (mCons (mVar 3) (mCons (mVar 4) (mCons (mC (.int 2)) (mCons (mLen (mVar 5)) (mNil))))))) (mNil)))) (mNil)))))) (tgN 8)) <|
  sSeq (sAsg (mCall 1 f__law_counts (mCons (mCall 1 f__law_told (mCons (mVar 8) (mNil))) (mNil))) (tgN 9)) <|
  sIf (mAnd (mBl (mOp qLt (mOp gIx (mVar 9) (mC (.int 0))) (mC (.int 60)))) (mAnd (mBl (mOp qLe (mOp gIx (mVar 9) (mC (.int 1))) (mVar 1))) (mAnd (mBl (mOp qLt (mOp gIx (mVar 9) (mC (.int 2))) (mC (.int 12)))) (mBl (mOp (gIs true) (mCall 2 f__law_ways (mCons (mVar 8) (mCons (mVar 2) (mNil)))) (mC .non)))))) (sAsg (mOp gIx (mVar 8) (mC (.int 3))) (tgN 6)) (sNil)
def b__law_program : SM :=
  sSeq (sAsg (mTup (mCons (mOp gAdd (mC (.int 1)) (mCall 2 f__law_draw (mCons (mVar 0) (mCons (mC (.int 3)) (mNil))))) (mCons (mOp gAdd (mC (.int 3)) (mCall 2 f__law_draw (mCons (mVar 0) (mCons (mC (.int 2)) (mNil))))) (mNil)))) (tgTup 2 (tgCons (tgN 3) (tgCons (tgN 4) (tgNil))))) <|
  sSeq (sAsg (mTupF (mLc [10] (mItR1 (mCall 2 f__law_draw (mCons (mVar 0) (mCons (mC (.int 3)) (mNil))))) (tgN 10) (mYes) (mCall 6 f__law_block (mCons (mVar 0) (mCons (mVar 3) (mCons (mVar 4) (mCons (mC (.int 1)) (mCons (mVar 10) (mCons (mOp gAdd (mC (.int 1)) (mCall 2 f__law_draw (mCons (mVar 0) (mCons (mC (.int 2)) (mNil))))) (mNil)))))))))) (tgN 5)) <|
  sSeq (sAsg (mTup (mCons (mTup (mCons (mC (.str "cut")) (mCons (mCall 2 f__law_draw (mCons (mVar 0) (mCons (mVar 3) (mNil)))) (mCons (mC (.int 0)) (mCons (mCall 1 f__law_share (mCons (mVar 0) (mNil))) (mCons (mC (.int 1)) (mNil))))))) (mNil))) (tgN 6)) <|
  sSeq (sFor (mItR1 (mOp gAdd (mC (.int 4)) (mCall 2 f__law_draw (mCons (mVar 0) (mCons (mC (.int 5)) (mNil)))))) (tgN 7) (b__law_program_1)) <|
  sRet (mTup (mCons (mVar 3) (mCons (mVar 4) (mCons (mVar 5) (mCons (mVar 6) (mNil))))))
def f__law_program : Fn := runFn 11 3 b__law_program
def b__law_no_program : SM :=
  sSeq (sAsg (mVar 1) (tgTup 4 (tgCons (tgN 2) (tgCons (tgN 3) (tgCons (tgN 4) (tgCons (tgN 5) (tgNil))))))) <|
  sSeq (sAsg (mKeep (mLst (mCons (mC .non) (mCons (mTup (mCons (mVar 2) (mCons (mVar 3) (mCons (mVar 4) (mNil))))) (mCons (mKeep (mLst (mCons (mVar 2) (mCons (mVar 3) (mCons (mVar 4) (mCons (mVar 5) (mNil))))))) (mCons (mTup (mCons (mC (.int 0)) (mCons (mVar 3) (mCons (mVar 4) (mCons (mVar 5) (mNil)))))) (mCons (mTup (mCons (mC (.int 5)) (mCons (mVar 3) (mCons (mVar 4) (mCons (mVar 5) (mNil)))))) (mCons (mTup (mCons (mC (.bl true)) (mCons (mVar 3) (mCons (mVar 4) (mCons (mVar 5) (mNil)))))) (mNil))))))))) (tgN 6)) <|
  sSeq (sAsg (mOp gAdd (mVar 6) (mKeep (mLst (mCons (mTup (mCons (mVar 2) (mCons (mC (.int 0)) (mCons (mVar 4) (mCons (mVar 5) (mNil)))))) (mCons (mTup (mCons (mVar 2) (mCons (mC (.int 9)) (mCons (mVar 4) (mCons (mVar 5) (mNil)))))) (mCons (mTup (mCons (mVar 2) (mCons (mVar 3) (mCons (mKeep (mListOf (mVar 4))) (mCons (mVar 5) (mNil)))))) (mCons (mTup (mCons (mVar 2) (mCons (mVar 3) (mCons (mVar 4) (mCons (mKeep (mListOf (mVar 5))) (mNil)))))) (mNil)))))))) (tgN 6)) <|
  sSeq (sAsg (mCall 2 f__law_some (mCons (mVar 0) (mCons (mKeep (mLst (mCons (mTup (mCons (mC (.str "cut")) (mCons (mVar 2) (mCons (mC (.int 0)) (mCons (mTup (mCons (mC (.int 1)) (mCons (mC (.int 2)) (mNil)))) (mCons (mC (.int 1)) (mNil))))))) (mCons (mTup (mCons (mC (.str "cut")) (mCons (mC (.int 0)) (mCons (mC (.int 0)) (mCons (mTup (mCons (mC (.int 1)) (mCons (mC (.int 2)) (mNil)))) (mCons (mC (.int 0)) (mNil))))))) (mCons (mTup (mCons (mC (.str "cut")) (mCons (mC (.int 0)) (mCons (mC (.int 0)) (mCons (mTup (mCons (mC (.int 3)) (mCons (mC (.int 2)) (mNil)))) (mCons (mC (.int 1)) (mNil))))))) (mCons (mTup (mCons (mC (.str "cut")) (mCons (mC (.int 0)) (mCons (mC (.int 0)) (mCons (mTup (mCons (mC (.int 2)) (mCons (mC (.int 4)) (mNil)))) (mCons (mC (.int 1)) (mNil))))))) (mNil))))))) (mNil)))) (tgN 7)) <|
  sSeq (sAsg (mCall 2 f__law_some (mCons (mVar 0) (mCons (mKeep (mLst (mCons (mVar 7) (mCons (mVar 7) (mCons (mTup (mCons (mC (.str "give")) (mCons (mC (.int 0)) (mNil)))) (mCons (mTup (mCons (mC (.str "give")) (mCons (mC (.int 0)) (mCons (mVar 3) (mNil))))) (mCons (mTup (mCons (mC (.str "move")) (mCons (mC (.int 1)) (mCons (mC (.int 1)) (mNil))))) (mCons (mC .non) (mNil))))))))) (mNil)))) (tgN 7)) <|
  sSeq (sAsg (mCall 2 f__law_some (mCons (mVar 0) (mCons (mKeep (mLst (mCons (mTup (mCons (mC (.str "best")) (mCons (mC (.int 0)) (mCons (mTup (mNil)) (mCons (mC (.int 1)) (mNil)))))) (mCons (mTup (mCons (mC (.str "best")) (mCons (mC (.int 0)) (mCons (mTup (mCons (mC (.int 0)) (mCons (mC (.int 0)) (mNil)))) (mCons (mC (.int 1)) (mNil)))))) (mCons (mTup (mCons (mC (.str "best")) (mCons (mC (.int 0)) (mCons (mTup (mCons (mC (.int 0)) (mCons (mC (.int 1)) (mNil)))) (mCons (mC (.int 1)) (mNil)))))) (mCons (mTup (mCons (mC (.str "best")) (mCons (mC (.int 0)) (mCons (mKeep (mLst (mCons (mC (.int 0)) (mNil)))) (mCons (mC (.int 1)) (mNil)))))) (mCons (mTup (mCons (mC (.str "rounds")) (mCons (mC (.int 5)) (mCons (mTup (mNil)) (mNil))))) (mCons (mTup (mCons (mC (.str "rounds")) (mCons (mC (.bl true)) (mCons (mTup (mNil)) (mNil))))) (mCons (mTup (mCons (mC (.str "do")) (mCons (mLen (mVar 4)) (mNil)))) (mNil)))))))))) (mNil)))) (tgN 8)) <|
  sSeq (sAsg (mCall 2 f__law_some (mCons (mVar 0) (mCons (mKeep (mLst (mCons (mVar 8) (mCons (mVar 8) (mCons (mTup (mCons (mC (.str "there")) (mCons (mC (.int 0)) (mCons (mTup (mNil)) (mNil))))) (mCons (mTup (mCons (mC (.str "skip")) (mNil))) (mCons (mKeep (mLst (mCons (mC (.str "move")) (mCons (mC (.int 0)) (mCons (mC (.int 1)) (mNil)))))) (mNil)))))))) (mNil)))) (tgN 8)) <|
  sSeq (sAsg (mOp gAdd (mVar 6) (mKeep (mLst (mCons (mTup (mCons (mVar 2) (mCons (mVar 3) (mCons (mVar 4) (mCons (mOp gAdd (mVar 5) (mTup (mCons (mVar 7) (mNil)))) (mNil)))))) (mCons (mTup (mCons (mVar 2) (mCons (mVar 3) (mCons (mVar 4) (mCons (mOp gAdd (mVar 5) (mTup (mCons (mVar 8) (mNil)))) (mNil)))))) (mCons (mTup (mCons (mVar 2) (mCons (mVar 3) (mCons (mVar 4) (mCons (mOp gMul (mTup (mCons (mTup (mCons (mC (.str "move")) (mCons (mC (.int 0)) (mCons (mC (.int 1)) (mNil))))) (mNil))) (mC (.int 21))) (mNil)))))) (mNil))))))) (tgN 6)) <|
  sRet (mCall 2 f__law_some (mCons (mVar 0) (mCons (mOp gAdd (mVar 6) (mKeep (mLst (mCons (mTup (mCons (mVar 2) (mCons (mVar 3) (mCons (mOp gMul (mTup (mCons (mTup (mNil)) (mNil))) (mC (.int 5))) (mCons (mVar 5) (mNil)))))) (mCons (mTup (mCons (mVar 2) (mCons (mVar 3) (mCons (mVar 4) (mCons (mOp gMul (mTup (mCons (mTup (mCons (mC (.str "cut")) (mCons (mC (.int 0)) (mCons (mC (.int 0)) (mCons (mTup (mCons (mC (.int 1)) (mCons (mC (.int 2)) (mNil)))) (mCons (mC (.int 1)) (mNil))))))) (mNil))) (mC (.int 13))) (mNil)))))) (mCons (mC (.str "program")) (mNil))))))) (mNil))))
def f__law_no_program : Fn := runFn 9 2 b__law_no_program
def b_law_1 : SM :=
  sIf (mBl (mOp (gIs true) (mCall 1 f_is_program (mCons (mCall 2 f__law_no_program (mCons (mVar 1) (mCons (mVar 3) (mNil)))) (mNil))) (mC (.bl false)))) (sRet (mC (.bl false))) (sNil)
def b_law_2 : SM :=
  sSeq (sAsg (mCall 3 f__law_program (mCons (mVar 1) (mCons (mC (.int 5)) (mCons (mC (.int 40)) (mNil))))) (tgN 3)) <|
  sSeq (sAsg (mVar 3) (tgTup 4 (tgCons (tgN 4) (tgCons (tgN 5) (tgCons (tgN 6) (tgCons (tgN 7) (tgNil))))))) <|
  sSeq (sIf (mBl (mOp (gIs true) (mCall 1 f_is_program (mCons (mVar 3) (mNil))) (mC (.bl true)))) (sRet (mC (.bl false))) (sNil)) <|
  sSeq (sFor (mItR1 (mC (.int 4))) (tgN 8) (b_law_1)) <|
  sSeq (sAsg (mTup (mCons (mTup (mCons (mC (.str "cut")) (mCons (mC (.int 0)) (mCons (mC (.int 0)) (mCons (mTup (mCons (mC (.int 1)) (mCons (mC (.int 2)) (mNil)))) (mCons (mC (.int 1)) (mNil))))))) (mCons (mTup (mCons (mC (.str "ask")) (mCons (mC (.int 0)) (mCons (mC (.int 0)) (mCons (mC (.int 1)) (mCons (mTup (mNil)) (mCons (mTup (mNil)) (mNil)))))))) (mNil)))) (tgTup 2 (tgCons (tgN 9) (tgCons (tgN 10) (tgNil))))) <|
  sSeq (sAsg (mTup (mCons (mC (.str "rounds")) (mCons (mC (.int 4)) (mCons (mOp gMul (mTup (mCons (mVar 9) (mNil))) (mC (.int 3))) (mNil))))) (tgN 11)) <|
  sSeq (sIf (mOr (mBl (mOp (gIs true) (mCall 1 f_is_program (mCons (mTup (mCons (mC (.int 1)) (mCons (mC (.int 2)) (mCons (mTup (mNil)) (mCons (mTup (mCons (mVar 11) (mNil))) (mNil)))))) (mNil))) (mC (.bl true)))) (mBl (mOp (gIs true) (mCall 1 f_is_program (mCons (mTup (mCons (mC (.int 1)) (mCons (mC (.int 2)) (mCons (mTup (mNil)) (mCons (mTup (mCons (mVar 11) (mCons (mVar 9) (mNil)))) (mNil)))))) (mNil))) (mC (.bl false))))) (sRet (mC (.bl false))) (sNil)) <|
  sSeq (sIf (mOr (mBl (mOp (gIs true) (mCall 1 f_is_program (mCons (mTup (mCons (mC (.int 1)) (mCons (mC (.int 2)) (mCons (mTup (mNil)) (mCons (mTup (mCons (mTup (mCons (mC (.str "rounds")) (mCons (mC (.int 4)) (mCons (mOp gMul (mTup (mCons (mVar 10) (mNil))) (mC (.int 4))) (mNil))))) (mNil))) (mNil)))))) (mNil))) (mC (.bl true)))) (mBl (mOp (gIs true) (mCall 1 f_is_program (mCons (mTup (mCons (mC (.int 1)) (mCons (mC (.int 2)) (mCons (mTup (mNil)) (mCons (mTup (mCons (mTup (mCons (mC (.str "rounds")) (mCons (mC (.int 4)) (mCons (mOp gMul (mTup (mCons (mVar 10) (mNil))) (mC (.int 4))) (mNil))))) (mCons (mVar 10) (mNil)))) (mNil)))))) (mNil))) (mC (.bl false))))) (sRet (mC (.bl false))) (sNil)) <|
  sSeq (sAsg (mTup (mCons (mC (.str "ask")) (mCons (mC (.int 0)) (mCons (mC (.int 0)) (mCons (mC (.int 1)) (mCons (mOp gMul (mTup (mCons (mVar 9) (mNil))) (mC (.int 12))) (mCons (mOp gMul (mTup (mCons (mVar 9) (mNil))) (mC (.int 12))) (mNil)))))))) (tgN 12)) <|
  sIf (mOr (mBl (mOp (gIs true) (mCall 1 f_is_program (mCons (mTup (mCons (mC (.int 1)) (mCons (mC (.int 2)) (mCons (mTup (mNil)) (mCons (mTup (mCons (mVar 12) (mNil))) (mNil)))))) (mNil))) (mC (.bl true)))) (mBl (mOp (gIs true) (mCall 1 f_is_program (mCons (mTup (mCons (mC (.int 1)) (mCons (mC (.int 2)) (mCons (mTup (mNil)) (mCons (mTup (mCons (mVar 12) (mCons (mVar 9) (mNil)))) (mNil)))))) (mNil))) (mC (.bl false))))) (sRet (mC (.bl false))) (sNil)
def b_law_3 : SM :=
  sAsg (mTup (mCons (mTup (mCons (mC (.str "there")) (mCons (mC (.int 0)) (mCons (mVar 13) (mCons (mTup (mNil)) (mNil)))))) (mNil))) (tgN 13)
def b_law : SM :=
  sSeq (sAsg (mCall 1 f__law_hand (mCons (mVar 0) (mNil))) (tgN 1)) <|
  sSeq (sFor (mItR1 (mC (.int 8))) (tgN 2) (b_law_2)) <|
  sSeq (sAsg (mTup (mNil)) (tgN 13)) <|
  sSeq (sFor (mItR1 (mC (.int 4))) (tgN 14) (b_law_3)) <|
  sSeq (sIf (mOr (mBl (mOp (gIs true) (mCall 1 f_is_program (mCons (mTup (mCons (mC (.int 1)) (mCons (mC (.int 2)) (mCons (mTup (mNil)) (mCons (mVar 13) (mNil)))))) (mNil))) (mC (.bl true)))) (mBl (mOp (gIs true) (mCall 1 f_is_program (mCons (mTup (mCons (mC (.int 1)) (mCons (mC (.int 2)) (mCons (mTup (mNil)) (mCons (mTup (mCons (mTup (mCons (mC (.str "there")) (mCons (mC (.int 0)) (mCons (mVar 13) (mCons (mTup (mNil)) (mNil)))))) (mNil))) (mNil)))))) (mNil))) (mC (.bl false))))) (sRet (mC (.bl false))) (sNil)) <|
  sSeq (sAsg (mOp gMul (mTup (mCons (mTup (mCons (mC (.str "move")) (mCons (mC (.int 0)) (mCons (mC (.int 1)) (mNil))))) (mNil))) (mC (.int 15))) (tgN 15)) <|
  sSeq (sIf (mOr (mBl (mOp (gIs true) (mCall 1 f_is_program (mCons (mTup (mCons (mC (.int 1)) (mCons (mC (.int 2)) (mCons (mTup (mCons (mVar 15) (mNil))) (mCons (mOp gMul (mTup (mCons (mTup (mCons (mC (.str "do")) (mCons (mC (.int 0)) (mNil)))) (mNil))) (mC (.int 10))) (mNil)))))) (mNil))) (mC (.bl true)))) (mBl (mOp (gIs true) (mCall 1 f_is_program (mCons (mTup (mCons (mC (.int 1)) (mCons (mC (.int 2)) (mCons (mTup (mCons (mVar 15) (mNil))) (mCons (mOp gAdd (mOp gMul (mTup (mCons (mTup (mCons (mC (.str "do")) (mCons (mC (.int 0)) (mNil)))) (mNil))) (mC (.int 10))) (mTup (mCons (mTup (mCons (mC (.str "give")) (mCons (mC (.int 0)) (mCons (mC (.int 1)) (mNil))))) (mNil)))) (mNil)))))) (mNil))) (mC (.bl false))))) (sRet (mC (.bl false))) (sNil)) <|
  sSeq (sAsg (mTup (mCons (mTup (mCons (mTup (mCons (mC (.str "do")) (mCons (mC (.int 1)) (mNil)))) (mNil))) (mCons (mTup (mCons (mTup (mCons (mC (.str "move")) (mCons (mC (.int 0)) (mCons (mC (.int 1)) (mNil))))) (mNil))) (mNil)))) (tgN 16)) <|
  sRet (mAndV (mOp (gIs false) (mCall 1 f_is_program (mCons (mTup (mCons (mC (.int 1)) (mCons (mC (.int 2)) (mCons (mVar 16) (mCons (mTup (mNil)) (mNil)))))) (mNil))) (mC (.bl false))) (mAndV (mOp (gIs false) (mCall 1 f_is_program (mCons (mTup (mCons (mC (.int 1)) (mCons (mC (.int 2)) (mCons (mRev (mVar 16)) (mCons (mTup (mNil)) (mNil)))))) (mNil))) (mC (.bl false))) (mOp (gIs false) (mCall 1 f_is_program (mCons (mTup (mCons (mC (.int 1)) (mCons (mC (.int 2)) (mCons (mTup (mCons (mOp gIx (mVar 16) (mC (.int 1))) (mCons (mTup (mCons (mTup (mCons (mC (.str "do")) (mCons (mC (.int 0)) (mNil)))) (mNil))) (mNil)))) (mCons (mTup (mCons (mTup (mCons (mC (.str "do")) (mCons (mC (.int 1)) (mNil)))) (mNil))) (mNil)))))) (mNil))) (mC (.bl true)))))
def f_law : Fn := runFn 17 1 b_law
end Lw

namespace Lw
open PySem L2 Md
/-! ### the law's own -/
theorem l_lpart {n : Int} {d k l : Nat} {μ : DM} (h : d ≠ 0) (hn : n.natAbs < 2 ^ l) (hd : d < 2 ^ k) (hk : k < 9000) (hl : l < 900000) : f__law_part [.int n, .int d] μ = .ok (FR (Rat.normalize n d h)) μ := by
  have hg : 0 < Nat.gcd n.natAbs d := Nat.gcd_pos_of_pos_right _ (Nat.pos_of_ne_zero h)
  have hgd : Nat.gcd n.natAbs d < 2 ^ k := Nat.lt_of_le_of_lt (Nat.gcd_le_right _ (Nat.pos_of_ne_zero h)) hd
  have ha : (if n < 0 then -n else n) = ((n.natAbs : Nat) : Int) := by split <;> omega
  obtain ⟨e1, e2⟩ := norm_num (n := n) h
  have hw := while_inv (P := { nx := fun ρ μ' => ρ = [some (.int n), some (.int d), some (.int (Nat.gcd n.natAbs d : Nat)), some (.int 0)] ∧ μ' = μ })
    (fun m ρ μ' => ∃ a b : Nat, ρ = [some (.int n), some (.int d), some (.int a), some (.int b)] ∧ μ' = μ ∧ Nat.gcd a b = Nat.gcd n.natAbs d ∧ m = euM a b)
    (t := mBl (mOp qGt (mVar 3) (mC (.int 0)))) (b := sPar 2 3 (mCons (mVar 3) (mCons (mOp qMod (mInt (mVar 2)) (mVar 3)) (mNil))))
    (fun m ρ μ' ⟨a, b, e, e', g, hm⟩ => by
      subst e e' hm
      by_cases hb : 0 < b
      · have hb' : CNe (a : Int) (b : Int) := by unfold CNe; omega
        simp [hb, hb', fmod_nat]
        exact ⟨euM b (a % b), euM_lt hb, b, a % b, ⟨rfl, rfl⟩, by rw [← g, Nat.gcd_comm a b, Nat.gcd_rec b a, Nat.gcd_comm], rfl⟩
      · have : b = 0 := by omega
        subst this
        simp at g
        simp [g])
    WF (euM n.natAbs d) [some (.int n), some (.int d), some (.int n.natAbs), some (.int d)] μ
    (by have := euM_le hn hd; show _ < 1000000; omega) ⟨n.natAbs, d, rfl, rfl, rfl, rfl⟩
  generalize hr : sWhile (mBl (mOp qGt (mVar 3) (mC (.int 0)))) (sPar 2 3 (mCons (mVar 3) (mCons (mOp qMod (mInt (mVar 2)) (mVar 3)) (mNil)))) WF [some (.int n), some (.int d), some (.int n.natAbs), some (.int d)] μ = r at hw
  cases r <;> simp at hw
  obtain ⟨w1, w2⟩ := hw
  subst w1 w2
  refine run_rt rfl ?_
  simp only [b__law_part, x_seq]
  simp [ha] at hr ⊢
  simp [hr, CDv_of hg hgd hk, FR, e1, e2]
structure HOk (n : Nat) (C HD : DC) : Prop where
  ex : ∃ (cells : List Int) (i : Nat) (cur s cnt : Int), C = .lst (cells.map .int) ∧ (∀ c ∈ cells, 0 ≤ c) ∧ HD = .lst [.ref 1, .int i, .int cur, .int s, .int cnt] ∧ 0 ≤ cur ∧ 0 ≤ s ∧ s < 2147483647 ∧ 0 ≤ cnt ∧ cnt ≤ n
theorem HOk.mono {n m : Nat} {C HD : DC} (h : HOk n C HD) (hm : n ≤ m) : HOk m C HD := by
  obtain ⟨a, b, c, d, e, h1, h2, h3, h4, h5, h6, h7, h8⟩ := h.ex
  exact ⟨a, b, c, d, e, h1, h2, h3, h4, h5, h6, h7, by omega⟩
theorem fmod_lt {a m : Int} (hm : 0 < m) : 0 ≤ a.fmod m ∧ a.fmod m < m := ⟨Int.fmod_nonneg_of_pos a hm, Int.fmod_lt_of_pos a hm⟩
theorem CMw_lt {i j : Int} (hi : i.natAbs < 2 ^ 80) (hj : j.natAbs < 2 ^ 80) : CMw i j := CMw_of hi hj (by omega)
def drN (s c : Int) : Int := (((((s + 6007 * c) * 69621).fmod 2147483629 * (((s + 6007 * c) * 69621).fmod 2147483629 / 1013 + 48271)).fmod 2147483647) * (((((s + 6007 * c) * 69621).fmod 2147483629 * (((s + 6007 * c) * 69621).fmod 2147483629 / 1013 + 48271)).fmod 2147483647) / 2011 + 16807)).fmod 2147483587 / 32
theorem l_draw {n : Nat} {m : Int} {X C HD : DC} {rest : DM} (h : HOk n C HD) (hm : 0 < m) (hm2 : m < 2 ^ 62) (hn : n < 2 ^ 60) :
    ∃ d HD', f__law_draw [.ref 2, .int m] (X :: C :: HD :: rest) = .ok (.int d) (X :: C :: HD' :: rest) ∧ 0 ≤ d ∧ d < m ∧ HOk (n + 1) C HD' := by
  obtain ⟨cells, i, cur, s, cnt, rfl, hc, rfl, h4, h5, h6, h7, h8⟩ := h.ex
  have q1 : CMw s 48271 := CMw_lt (by omega) (by omega)
  have q2 : CMw 6007 (cnt + 1) := CMw_lt (by omega) (by omega)
  have cm : ∀ a : Int, CNe a 2147483647 ∧ CNe a 2147483629 ∧ CNe a 2147483587 ∧ CNe a m := fun a => ⟨by unfold CNe; omega, by unfold CNe; omega, by unfold CNe; omega, by unfold CNe; omega⟩
  have cd : ∀ a : Int, CDv a 1013 ∧ CDv a 2011 ∧ CDv a 32 ∧ CDv a m := fun a => ⟨CDv_of (n := 1013) (a := 62) (by omega) (by omega) (by omega), CDv_of (n := 2011) (a := 62) (by omega) (by omega) (by omega), CDv_of (n := 32) (a := 62) (by omega) (by omega) (by omega), by
    have := CDv_of (i := a) (n := m.toNat) (a := 62) (by omega) (by omega) (by omega)
    rwa [Int.toNat_of_nonneg (by omega)] at this⟩
  have cp : CPw 10 18 := by unfold CPw; omega
  have t1 : CMw (s + 6007 * (cnt + 1)) 69621 := CMw_lt (by omega) (by omega)
  have t1' : ∀ a : Int, CMw (a.fmod 2147483647 + 6007 * (cnt + 1)) 69621 := fun a => by
    have := fmod_lt (a := a) (m := 2147483647) (by omega)
    exact CMw_lt (by omega) (by omega)
  have t2 : ∀ a : Int, CMw (a.fmod 2147483629) (a.fmod 2147483629 / 1013 + 48271) := fun a => by
    have := fmod_lt (a := a) (m := 2147483629) (by omega)
    exact CMw_lt (by omega) (by omega)
  have t3 : ∀ a : Int, CMw (a.fmod 2147483647) (a.fmod 2147483647 / 2011 + 16807) := fun a => by
    have := fmod_lt (a := a) (m := 2147483647) (by omega)
    exact CMw_lt (by omega) (by omega)
  have e10 : (10 : Int) ^ (18 : Int).toNat = 1000000000000000000 := by decide
  by_cases hA : cur = 0 ∧ i < cells.length
  · obtain ⟨hA1, hA2⟩ := hA
    subst hA1
    have hcell : (cells.map DV.int)[i]? = some (.int cells[i]) := by simp [hA2]
    have hcp := hc cells[i] (List.getElem_mem _)
    have hs := fmod_lt (a := s * 48271 + cells[i] + 13) (m := 2147483647) (by omega)
    by_cases hB : 1000000000000000000 ≤ cells[i]
    · refine ⟨cells[i].fmod m, .lst [.ref 1, .int (i + 1), .int (cells[i] / m), .int ((s * 48271 + cells[i] + 13).fmod 2147483647), .int cnt], ?_, (fmod_lt hm).1, (fmod_lt hm).2, ?_⟩
      · refine run_rtL rfl (by simp) ?_
        have hp : 0 < cells[i] := by omega
        simp [b__law_draw, gIx, DV.seq, atI, ixN, hA2, hcell, q1, cm, cp, e10, hB, cd, hp]
      · exact ⟨cells, i + 1, _, _, _, rfl, hc, by push_cast; rfl, Int.ediv_nonneg hcp (by omega), hs.1, hs.2, h7, by omega⟩
    · refine ⟨(drN ((s * 48271 + cells[i] + 13).fmod 2147483647) (cnt + 1)).fmod m, .lst [.ref 1, .int (i + 1), .int 0, .int ((s * 48271 + cells[i] + 13).fmod 2147483647), .int (cnt + 1)], ?_, (fmod_lt hm).1, (fmod_lt hm).2, ?_⟩
      · refine run_rtL rfl (by simp) ?_
        simp [b__law_draw, gIx, DV.seq, atI, ixN, hA2, hcell, q1, q2, cm, cp, e10, hB, cd, t1', t2, t3, drN]
      · exact ⟨cells, i + 1, _, _, _, rfl, hc, by push_cast; rfl, by omega, hs.1, hs.2, by omega, by omega⟩
  · by_cases hB : 0 < cur
    · refine ⟨cur.fmod m, .lst [.ref 1, .int i, .int (cur / m), .int s, .int cnt], ?_, (fmod_lt hm).1, (fmod_lt hm).2, ?_⟩
      · refine run_rtL rfl (by simp) ?_
        have hp : ¬ cur = 0 := by omega
        simp [b__law_draw, gIx, DV.seq, atI, ixN, cm, cd, hp, hB]
      · exact ⟨cells, i, _, _, _, rfl, hc, rfl, Int.ediv_nonneg h4 (by omega), h5, h6, h7, by omega⟩
    · have hz : cur = 0 := by omega
      subst hz
      have hi : ¬ i < cells.length := fun z => hA ⟨rfl, z⟩
      refine ⟨(drN s (cnt + 1)).fmod m, .lst [.ref 1, .int i, .int 0, .int s, .int (cnt + 1)], ?_, (fmod_lt hm).1, (fmod_lt hm).2, ?_⟩
      · refine run_rtL rfl (by simp) ?_
        simp [b__law_draw, gIx, DV.seq, atI, ixN, hi, q2, cm, cd, t1, t2, t3, drN]
      · exact ⟨cells, i, _, _, _, rfl, hc, rfl, by omega, h5, h6, by omega, by omega⟩
theorem l_hand {ns : List Int} (h : ns.length ≤ 63) : ∃ X C HD, f__law_hand [.kl (ns.map .int)] [] = .ok (.ref 2) [X, C, HD] ∧ HOk 0 C HD := by
  have e1 : cutD (ns.map DV.int) none (some 63) = ns.map .int := by
    have := cut_to (xs := ns.map DV.int) (k := 63)
    rw [List.take_of_length_le (by simpa using h)] at this
    exact this
  have el := lc_map (μ0 := []) (μ := [.lst (ns.map .int)]) DV.int ns (fun z => DV.int (if z < 0 then -z else z)) (vs := [2]) (mi := mIt (mSl (mVar 0) (mNoP) (mP (mC (.int 63))))) (ρ := [some (.kl (ns.map .int)), none, none]) (t := tgN 2) (te := mAbs (mInt (mVar 2))) (c := some 0)
    (by simp [e1]) (by simp [okAt]) (by simp; omega) (fun z _ => ⟨_, rfl, by simp [wipeD]⟩)
  refine ⟨.lst (ns.map .int), .lst (ns.map fun z => DV.int (if z < 0 then -z else z)), .lst [.ref 1, .int 0, .int 0, .int (41 + 7 * ns.length), .int 0], ?_, ?_⟩
  · have hq : CMw 7 (ns.length : Int) := CMw_lt (by omega) (by omega)
    unfold f__law_hand runFn
    simp [b__law_hand, el, DV.seq, hq]
    unfold tidy
    rw [if_neg (fun z => by have := z.1; simp [DV.und] at this)]
  · exact ⟨ns.map fun z => if z < 0 then -z else z, 0, 0, _, 0, by simp [Function.comp_def], fun c hc => by
      obtain ⟨z, _, rfl⟩ := List.mem_map.mp hc
      split <;> omega, rfl, by omega, by omega, by omega, by omega, by omega⟩
theorem seq_step {P : EP} {s n : SM} {ρ ρ' : DE} {μ μ' : DM} (h : s ρ μ = .nx ρ' μ') (k : OkS P (n ρ' μ')) : OkS P (sSeq s n ρ μ) := by
  unfold sSeq
  rw [h]
  exact k
theorem seq_thn {P : EP} {s n : SM} {ρ : DE} {μ : DM} (h : OkS { P with nx := fun ρ μ => OkS P (n ρ μ) } (s ρ μ)) : OkS P (sSeq s n ρ μ) := by
  rw [x_seq, okS_thn]
  exact h
theorem go_nil {s : Src} {t : GM} {b : SM} {ρ : DE} {μ : DM} (hok : okAt s.2 s.1 μ = true) : sFor.go t b s [] ρ μ = .nx ρ μ := by
  simp [sFor.go, hok]
theorem go_cons {s : Src} {t : GM} {b : SM} {x : DV} {l : List DV} {ρ ρ1 ρ2 : DE} {μ μ2 : DM} (hok : okAt s.2 s.1 μ = true) (ht : t x ρ μ = some ρ1) (hb : b ρ1 μ = .nx ρ2 μ2) : sFor.go t b s (x :: l) ρ μ = sFor.go t b s l ρ2 μ2 := by
  rw [sFor.go]
  simp only [if_pos hok, ht, hb]
theorem tidy_hand {n : Nat} {X C HD HD' : DC} {rest t : DM} {v : DV} (hv : v.und (rest.length + 3) = true) (h : HOk n C HD') : tidy (X :: C :: HD :: rest) v (X :: C :: HD' :: (rest ++ t)) = .ok v (X :: C :: HD' :: rest) := by
  have e : X :: C :: HD' :: (rest ++ t) = (X :: C :: HD' :: rest) ++ t := rfl
  rw [e]
  obtain ⟨cells, i, cur, s, cnt, _, _, rfl, _⟩ := h.ex
  unfold tidy
  rw [if_pos]
  · simp
  · refine ⟨by simpa using hv, by simp, fun i hi => ?_⟩
    rw [List.getElem?_append_left (by simpa using hi)]
    match i with
    | 0 => exact .inl rfl
    | 1 => exact .inl rfl
    | 2 => right; simp [DC.und, DV.undL, DV.und]
    | i + 3 => exact .inl rfl
theorem l_some {n : Nat} {X C HD : DC} {rest : DM} {t : Nat} {xs : List DV} (h : HOk n C HD) (hn : n < 2 ^ 50) (ht : rest[t]? = some (.lst xs)) (h0 : 0 < xs.length) (hl : xs.length < 1000000) :
    ∃ v HD', f__law_some [.ref 2, .ref (t + 3)] (X :: C :: HD :: rest) = .ok v (X :: C :: HD' :: rest) ∧ v ∈ xs ∧ HOk (n + 1) C HD' := by
  obtain ⟨d, HD', e, p, q, h1⟩ := l_draw (X := X) (rest := rest) h (m := xs.length) (by omega) (by omega) (by omega)
  obtain ⟨d, rfl⟩ := Int.eq_ofNat_of_zero_le p
  have hd : d < xs.length := by omega
  refine ⟨xs[d], HD', ?_, List.getElem_mem _, h1⟩
  refine run_rtL rfl (by simp) ?_
  have s1 : (DV.ref (t + 3)).seq (X :: C :: HD :: rest) = some xs := seq_ref (by simpa using ht)
  have s2 := gIx_refn (μ := X :: C :: HD' :: rest) (n := t + 3) (xs := xs) (k := d) (x := xs[d]) (by simpa using ht) (by simp [hd])
  simp [b__law_some, s1, e, s2]
/-- a list that lies further back in the store -/
theorem st_get {X C H a : DC} {R T : DM} : (X :: C :: H :: (R ++ a :: T))[R.length + 3]? = some a := by simp
theorem st_set {X C H a b : DC} {R T : DM} : (X :: C :: H :: (R ++ a :: T)).set (R.length + 3) b = X :: C :: H :: (R ++ b :: T) := by simp
mutual
theorem rsW_pure {f : Nat → Option DV} : ∀ v : DV, v.pure = true → rsW f v = some v
  | .ref _, h => by cases h
  | .tup xs, h => by
    have := rsWL_pure (f := f) xs h
    simp only [rsW, this, Option.map_some]
  | .kl xs, h => by
    have := rsWL_pure (f := f) xs h
    simp only [rsW, this, Option.map_some]
  | .non, _ => rfl
  | .bl _, _ => rfl
  | .int _, _ => rfl
  | .str _, _ => rfl
theorem rsWL_pure {f : Nat → Option DV} : ∀ xs : List DV, DV.pureL xs = true → rsWL f xs = some xs
  | [], _ => rfl
  | x :: xs, h => by
    simp only [DV.pureL, Bool.and_eq_true] at h
    simp only [rsWL, rsW_pure x h.1, rsWL_pure xs h.2]
end
theorem rsv_pure {v : DV} {μ : DM} (h : v.pure = true) : rsv μ v = some v := rsW_pure v h
theorem rsv_lst {n : Nat} {xs : List DV} {μ : DM} (hn : μ[n]? = some (.lst xs)) (h : DV.pureL xs = true) : rsv μ (.ref n) = some (.kl xs) := by
  show rsR μ 4 n = _
  rw [rsR, hn]
  simp only [rsWL_pure xs h]
  rfl
theorem gEq_lst {neg : Bool} {a b : Nat} {xs ys : List DV} {μ : DM} (ha : μ[a]? = some (.lst xs)) (hb : μ[b]? = some (.lst ys)) (hx : DV.pureL xs = true) (hy : DV.pureL ys = true) (dx : DV.dpL xs ≤ 60) (dy : DV.dpL ys ≤ 60) :
    gEq neg (.ref a) (.ref b) μ = .ok (.bl (if neg then !dEqL xs ys else dEqL xs ys)) μ := by
  simp only [gEq, rsv_lst ha hx, rsv_lst hb hy]
  rw [if_pos ⟨by show DV.dpL xs + 1 ≤ 64; omega, by show DV.dpL ys + 1 ≤ 64; omega⟩]
  rfl
theorem gEq_pure {neg : Bool} {u v : DV} {μ : DM} (hx : u.pure = true) (hy : v.pure = true) (dx : u.dp ≤ 60) (dy : v.dp ≤ 60) :
    gEq neg u v μ = .ok (.bl (if neg then !dEq u v else dEq u v)) μ := by
  simp only [gEq, rsv_pure hx, rsv_pure hy]
  rw [if_pos ⟨by omega, by omega⟩]
/-! ### _law_kept -/
mutual
def dpt : DV → Nat
  | .tup xs => dptL xs + 1
  | .kl xs => dptL xs + 1
  | _ => 0
def dptL : List DV → Nat
  | [] => 0
  | x :: xs => max (dpt x) (dptL xs)
end
theorem dpt_mem : ∀ {xs : List DV} {x : DV}, x ∈ xs → dpt x ≤ dptL xs
  | y :: ys, x, h => by
    rcases List.mem_cons.mp h with h | h
    · subst h; simp only [dptL]; omega
    · have := dpt_mem h
      simp only [dptL]; omega
theorem pure_mem : ∀ {xs : List DV} {x : DV}, DV.pureL xs = true → x ∈ xs → x.pure = true
  | y :: ys, x, hp, h => by
    simp only [DV.pureL, Bool.and_eq_true] at hp
    rcases List.mem_cons.mp h with h | h
    · subst h; exact hp.1
    · exact pure_mem hp.2 h
/-- data of tuples alone -/
inductive Plain : Nat → DV → Prop
  | non {n : Nat} : Plain n .non
  | bl {n : Nat} {b : Bool} : Plain n (.bl b)
  | int {n : Nat} {i : Int} : Plain n (.int i)
  | str {n : Nat} {s : String} : Plain n (.str s)
  | tup {n : Nat} {xs : List DV} (hl : xs.length ≤ 1000000) (h : ∀ x ∈ xs, Plain n x) : Plain (n + 1) (.tup xs)
theorem l_lplus {p q : Rat} {a b : Nat} {μ : DM} (hp : Sz a p) (hq : Sz b q) (hs : a + b < 8000) : f__law_plus [FR p, FR q] μ = .ok (FR (p + q)) μ := by
  obtain ⟨c1, c2, c3⟩ := CMw_den hp hq (by omega)
  have hd := Sz.mulI (i := p.den) (j := q.den) (by simpa using hp.den) (by simpa using hq.den)
  have hn : (p.num * q.den + q.num * p.den).natAbs < 2 ^ (a + b + 1) := Sz.addI (Sz.mulI hp.num (by simpa using hq.den)) (by rw [Nat.add_comm a b]; exact Sz.mulI hq.num (by simpa using hp.den))
  have e := l_lpart (n := p.num * q.den + q.num * p.den) (d := p.den * q.den) (k := a + b) (μ := μ) (Nat.mul_ne_zero p.den_nz q.den_nz) hn (by simpa [Int.natAbs_mul] using hd) (by omega) (by omega)
  rw [← Rat.add_def] at e
  push_cast at e
  refine run_rt rfl ?_
  simp [b__law_plus, c1, c2, c3, e]
theorem l_lless {p q : Rat} {a b : Nat} {μ : DM} (hp : Sz a p) (hq : Sz b q) (hs : a + b < 8000) : f__law_less [FR p, FR q] μ = .ok (.bl (decide (p < q))) μ := by
  obtain ⟨c1, c2, c3⟩ := CMw_den hp hq (by omega)
  refine run_rt rfl ?_
  simp [b__law_less, c1, c2, Rat.lt_iff]
theorem l_is_integer {i : Int} {μ : DM} : f_is_integer [.int i] μ = .ok (.bl true) μ := by
  refine run_rt rfl ?_
  simp [b_is_integer, isOf, isTy, DV.ty]
theorem beq_nn {a b : Nat} : ((a : Int) == (b : Int)) = decide (a = b) := by
  by_cases h : a = b
  · simp [h]
  · have : ¬ (a : Int) = (b : Int) := by omega
    simp [h, this]
theorem beq_n1 {a : Nat} : ((a : Int) == 1) = decide (a = 1) := beq_nn (b := 1)
theorem l_is_tuple_of {xs : List DV} {n : Nat} {μ : DM} : f_is_tuple_of [.tup xs, .int n] μ = .ok (.bl (decide (xs.length = n))) μ := by
  refine run_rt rfl ?_
  simp [b_is_tuple_of, isOf, isTy, DV.ty, beq_nn]
theorem l_is_tuple_no {v : DV} {n : Nat} {μ : DM} (h : v.ty ≠ "tuple") (hr : ∀ k, v ≠ .ref k) : f_is_tuple_of [v, .int n] μ = .ok (.bl false) μ := by
  refine run_rt rfl ?_
  cases v <;> first | (exact absurd rfl h) | (exact absurd rfl (hr _)) | simp [b_is_tuple_of, isOf, isTy, DV.ty]
theorem l_is_tuple_ref {k n : Nat} {μ : DM} (h : k < μ.length) : f_is_tuple_of [.ref k, .int n] μ = .ok (.bl false) μ := by
  refine run_rt rfl ?_
  simp [b_is_tuple_of, isOf, isTy, h]
/-- on two whole numbers, the lower one above 0 or not -/
theorem l_is_fraction2 {a b : Int} {μ : DM} : f_is_fraction [.tup [.int a, .int b]] μ = .ok (.bl (decide (0 < b ∧ Nat.gcd a.natAbs b.natAbs = 1))) μ := by
  refine run_rt rfl ?_
  have el := lc_map (μ0 := μ) (μ := μ) DV.int [a, b] (fun i => DV.bl ((fun _ => true) i)) (vs := [1]) (mi := mIt (mVar 0)) (ρ := [some (.tup [.int a, .int b]), none]) (t := tgN 1)
    (te := mCall 1 f_is_integer (mCons (mVar 1) (mNil))) (c := none) (by simp) rfl (by simp) (fun i hi => ⟨_, rfl, by simp [wipeD, l_is_integer]⟩)
  have e2 := l_is_tuple_of (xs := [.int a, .int b]) (n := 2) (μ := μ)
  have ha : (if a < 0 then -a else a).natAbs = a.natAbs := by split <;> omega
  have e3 := g_all (μ := μ) (f := fun _ : Int => true) (L := [a, b])
  simp only [List.map_cons, List.map_nil] at el e3
  simp at e2 e3
  by_cases hb : 0 < b
  · simp [b_is_fraction, e2, el, e3, ha, hb, beq_n1]
  · simp [b_is_fraction, e2, el, e3, hb]
theorem l_is_fraction {q : Rat} {μ : DM} : f_is_fraction [FR q] μ = .ok (.bl true) μ := by
  have := l_is_fraction2 (a := q.num) (b := q.den) (μ := μ)
  have h1 := q.reduced
  have h2 := q.den_pos
  unfold Nat.Coprime at h1
  rw [FR, this]
  simp [h1, h2]
theorem l_is_share {q : Rat} {μ : DM} : f_is_share [FR q] μ = .ok (.bl (decide (0 ≤ q ∧ q ≤ 1))) μ := by
  refine run_rt rfl ?_
  have h1 : (0 ≤ q) ↔ 0 ≤ q.num := Rat.num_nonneg.symm
  have h2 : (q ≤ 1) ↔ q.num ≤ q.den := by rw [Rat.le_iff]; simp
  by_cases h : 0 ≤ q.num
  · simp [b_is_share, l_is_fraction, h1, h2, h]
  · simp [b_is_share, l_is_fraction, h1, h2, h]
abbrev ST := Rat × Rat
def PR (x : ST) : DV := .tup [FR x.1, FR x.2]
def PC (L : List ST) : DV := .tup (L.map PR)
structure SP (k : Nat) (x : ST) : Prop where
  a : Sz k x.1
  b : Sz k x.2
def okSt (x : ST) : Bool := decide (0 ≤ x.1 ∧ x.1 ≤ x.2 ∧ x.2 ≤ 1)
theorem okSt_iff {x : ST} : okSt x = true ↔ 0 ≤ x.1 ∧ x.1 ≤ x.2 ∧ x.2 ≤ 1 := by simp [okSt]
def chB (L : List ST) : Bool := (List.range' 1 (L.length - 1)).all fun i => decide ((L.getD (i - 1) (0, 0)).2 ≤ (L.getD i (0, 0)).1)
def pcB (L : List ST) : Bool := decide (L.length ≤ 60) && L.all okSt && chB L
@[simp] theorem PR_ix0 {x : ST} {μ : DM} : gIx (PR x) (.int 0) μ = .ok (FR x.1) μ := gIx_0
@[simp] theorem PR_ix1 {x : ST} {μ : DM} : gIx (PR x) (.int 1) μ = .ok (FR x.2) μ := gIx_1
theorem PC_ix {L : List ST} {i : Nat} {μ : DM} (h : i < L.length) : gIx (PC L) (.int i) μ = .ok (PR L[i]) μ := gIx_nat (by simp [h])
theorem chB_iff {L : List ST} (h : ∀ x ∈ L, x.1 ≤ x.2) : chB L = true ↔ L.Pairwise fun a b => a.2 ≤ b.1 := by
  rw [List.pairwise_iff_getElem]
  unfold chB
  rw [List.all_eq_true]
  constructor
  · intro c
    have step : ∀ i (hi : i + 1 < L.length), (L[i]'(by omega)).2 ≤ L[i + 1].1 := fun i hi => by
      have := c (i + 1) (by simp; omega)
      simpa [hi, show i < L.length by omega] using this
    have key : ∀ d i (hi : i + d + 1 < L.length), (L[i]'(by omega)).2 ≤ (L[i + d + 1]).1 := by
      intro d
      induction d with
      | zero => intro i hi; exact step i hi
      | succ d ih =>
        intro i hi
        have a1 := ih i (by omega)
        have a2 := step (i + d + 1) (by omega)
        have a3 := h (L[i + d + 1]) (List.getElem_mem _)
        have a4 : L[i + (d + 1) + 1] = L[i + d + 1 + 1] := rfl
        rw [a4]
        grind
    intro i j hi hj hij
    have := key (j - i - 1) i (by omega)
    have e : i + (j - i - 1) + 1 = j := by omega
    simpa [e] using this
  · intro c i hi
    simp at hi
    have := c (i - 1) i (by omega) (by omega) (by omega)
    simpa [show i - 1 < L.length by omega, show i < L.length by omega] using this
theorem pcB_iff {L : List ST} : pcB L = true ↔ L.length ≤ 60 ∧ (∀ x ∈ L, 0 ≤ x.1 ∧ x.1 ≤ x.2 ∧ x.2 ≤ 1) ∧ L.Pairwise fun a b => a.2 ≤ b.1 := by
  unfold pcB
  simp only [Bool.and_eq_true, decide_eq_true_eq, List.all_eq_true, okSt_iff]
  constructor
  · rintro ⟨⟨h1, h2⟩, h3⟩
    exact ⟨h1, h2, (chB_iff fun x hx => (h2 x hx).2.1).mp h3⟩
  · rintro ⟨h1, h2, h3⟩
    exact ⟨⟨h1, h2⟩, (chB_iff fun x hx => (h2 x hx).2.1).mpr h3⟩
def lexB (x y : ST) : Bool := if x.1 = y.1 then decide (x.2 ≤ y.2) else decide (x.1 ≤ y.1)
theorem l_lahead {x y : ST} {k : Nat} {μ : DM} (hx : SP k x) (hy : SP k y) (hk : k < 1000) : f__law_ahead [PR x, PR y] μ = .ok (.bl (lexB x y)) μ := by
  have e1 := l_lless (μ := μ) hx.a hy.a (by omega)
  have e2 := l_lless (μ := μ) hy.b hx.b (by omega)
  refine run_rt rfl ?_
  by_cases h : x.1 = y.1
  · simp [b__law_ahead, lexB, h, e2]
    grind
  · simp [b__law_ahead, lexB, h, e1]
    grind
theorem PC_pure {L : List ST} : (PC L).pure = true := by
  show DV.pureL (L.map PR) = true
  induction L with
  | nil => rfl
  | cons x l ih => rw [List.map_cons, DV.pureL, ih]; rfl
def PTI (A B : List ST) (μ : DM) (m : Nat) (ρ : DE) (μ' : DM) : Prop := ∃ (i j : Nat) (F : List ST), ρ = [some (PC A), some (PC B), some (.ref μ.length), some (.int i), some (.int j)] ∧ μ' = μ ++ [.lst (F.map PR)] ∧ i ≤ A.length ∧ j ≤ B.length ∧ F.length = i + j ∧ F ++ (A.drop i).merge (B.drop j) lexB = A.merge B lexB ∧ m = (A.length - i) + (B.length - j)
def qn (a b : Nat) : Rat := mkRat a b
theorem qn_norm {a b : Nat} (h : b ≠ 0) : Rat.normalize (a : Int) b h = qn a b := Rat.normalize_eq_mkRat h
theorem qn_mono {a b c : Nat} (h : a ≤ c) : qn a b ≤ qn c b := by
  unfold qn
  rw [Rat.mkRat_eq_div, Rat.mkRat_eq_div, Rat.div_def, Rat.div_def]
  refine Rat.mul_le_mul_of_nonneg_right (by exact_mod_cast h) ?_
  by_cases hb : b = 0
  · subst hb
    simp
  · exact Rat.le_of_lt (Rat.inv_pos.mpr (by exact_mod_cast Nat.pos_of_ne_zero hb))
theorem qn_zero {b : Nat} : qn 0 b = 0 := by
  unfold qn
  exact Rat.zero_mkRat b
theorem qn_one {b : Nat} (h : b ≠ 0) : qn b b = 1 := by
  unfold qn
  rw [Rat.mkRat_eq_div, Rat.div_def]
  exact Rat.mul_inv_cancel _ (by exact_mod_cast h)
theorem qn_sz {a b k : Nat} (h : b ≠ 0) (ha : a < 2 ^ k) (hb : b < 2 ^ k) : Sz k (qn a b) := by
  rw [← qn_norm h]
  exact norm_sz h (by simpa using ha) hb
structure GoodL (b low : Nat) (L : List ST) : Prop where
  sp : ∀ x ∈ L, SP 5 x
  ok : ∀ x ∈ L, 0 ≤ x.1 ∧ x.1 ≤ x.2 ∧ x.2 ≤ qn low b
  pw : L.Pairwise fun a b => a.2 ≤ b.1
def LPI (n most : Nat) (X C : DC) (rest : DM) (l : List DV) (ρ : DE) (μ' : DM) : Prop := ∃ (b low : Nat) (HD' : DC) (L : List ST) (w5 w6 w7 : Option DV), ρ = [some (.ref 2), some (.int most), some (.int b), some (.ref (rest.length + 3)), some (.int low), w5, w6, w7] ∧
  μ' = X :: C :: HD' :: (rest ++ [.lst (L.map PR)]) ∧ HOk (n + 2 + 3 * L.length) C HD' ∧ low ≤ b ∧ 1 ≤ b ∧ b ≤ 24 ∧ L.length + l.length ≤ most ∧ GoodL b low L
/-! ## what is judged, by plain functions over data -/
def isI (v : DV) : Bool := match v with
  | .int _ => true
  | _ => false
theorem l_isI {v : DV} {μ : DM} (h : v.und μ.length = true) : f_is_integer [v] μ = .ok (.bl (isI v)) μ := by
  cases v with
  | ref k =>
    simp only [DV.und, decide_eq_true_eq] at h
    refine run_rt rfl ?_
    simp [b_is_integer, isOf, isTy, DV.ty, isI, h]
  | _ => refine run_rt rfl ?_; simp [b_is_integer, isOf, isTy, DV.ty, isI]
def isTup (v : DV) (n : Nat) : Bool := match v with
  | .tup xs => decide (xs.length = n)
  | _ => false
theorem l_isTup {v : DV} {n : Nat} {μ : DM} (h : v.und μ.length = true) : f_is_tuple_of [v, .int n] μ = .ok (.bl (isTup v n)) μ := by
  cases v with
  | tup xs => exact l_is_tuple_of
  | ref k => exact l_is_tuple_ref (by simpa [DV.und] using h)
  | _ => exact l_is_tuple_no (by simp [DV.ty]) (by simp)
def isFr (v : DV) : Bool := match v with
  | .tup [.int a, .int b] => decide (0 < b ∧ Nat.gcd a.natAbs b.natAbs = 1)
  | _ => false
theorem isFr_two {x y : DV} (h : isI x = false ∨ isI y = false) : isFr (.tup [x, y]) = false := by
  cases x <;> cases y <;> first | rfl | (simp [isI] at h)
theorem isFr_len {xs : List DV} (h : xs.length ≠ 2) : isFr (.tup xs) = false := by
  match xs, h with
  | [], _ => rfl
  | [_], _ => simp [isFr]
  | [_, _], h => exact absurd rfl h
  | _ :: _ :: _ :: _, _ => simp [isFr]
theorem und_mem {n : Nat} : ∀ {xs : List DV} {x : DV}, DV.undL n xs = true → x ∈ xs → x.und n = true
  | y :: ys, x, hp, h => by
    simp only [DV.undL, Bool.and_eq_true] at hp
    rcases List.mem_cons.mp h with h | h
    · subst h; exact hp.1
    · exact und_mem hp.2 h
theorem l_isFr {v : DV} {μ : DM} (h : v.und μ.length = true) : f_is_fraction [v] μ = .ok (.bl (isFr v)) μ := by
  have e := l_isTup (v := v) (n := 2) (μ := μ) h
  simp only [Int.cast_ofNat_Int] at e
  cases q : isTup v 2 with
  | false =>
    have : isFr v = false := by
      cases v with
      | tup xs => exact isFr_len (by simpa [isTup] using q)
      | _ => rfl
    rw [this]
    rw [q] at e
    refine run_rt rfl ?_
    simp [b_is_fraction, e]
  | true =>
    obtain ⟨x, y, rfl⟩ : ∃ x y, v = .tup [x, y] := by
      cases v with
      | tup xs =>
        simp [isTup] at q
        match xs, q with
        | [x, y], _ => exact ⟨x, y, rfl⟩
      | _ => simp [isTup] at q
    have ux : x.und μ.length = true := und_mem (xs := [x, y]) h (by simp)
    have uy : y.und μ.length = true := und_mem (xs := [x, y]) h (by simp)
    cases hx : isI x with
    | true =>
      cases hy : isI y with
      | true =>
        cases x <;> simp [isI] at hx
        cases y <;> simp [isI] at hy
        exact l_is_fraction2
      | false =>
        rw [isFr_two (.inr hy)]
        have el := lc_map (μ0 := μ) (μ := μ) id [x, y] (fun i => DV.bl (isI i)) (vs := [1]) (mi := mIt (mVar 0)) (ρ := [some (.tup [x, y]), none]) (t := tgN 1)
          (te := mCall 1 f_is_integer (mCons (mVar 1) (mNil))) (c := none) (by simp) rfl (by simp) (fun i hi => ⟨_, rfl, by
            simp only [List.mem_cons, List.not_mem_nil, or_false] at hi
            rcases hi with rfl | rfl
            · simp [wipeD, l_isI ux]
            · simp [wipeD, l_isI uy]⟩)
        have e3 := g_all (μ := μ) (f := fun v : DV => isI v) (L := [x, y])
        simp only [List.map_cons, List.map_nil, id] at el e3
        rw [q] at e
        refine run_rt rfl ?_
        rw [show ([x, y].all fun v => isI v) = false from by simp [hy]] at e3
        simp [b_is_fraction, e, el, e3]
    | false =>
      rw [isFr_two (.inl hx)]
      have el := lc_map (μ0 := μ) (μ := μ) id [x, y] (fun i => DV.bl (isI i)) (vs := [1]) (mi := mIt (mVar 0)) (ρ := [some (.tup [x, y]), none]) (t := tgN 1)
        (te := mCall 1 f_is_integer (mCons (mVar 1) (mNil))) (c := none) (by simp) rfl (by simp) (fun i hi => ⟨_, rfl, by
          simp only [List.mem_cons, List.not_mem_nil, or_false] at hi
          rcases hi with rfl | rfl
          · simp [wipeD, l_isI ux]
          · simp [wipeD, l_isI uy]⟩)
      have e3 := g_all (μ := μ) (f := fun v : DV => isI v) (L := [x, y])
      simp only [List.map_cons, List.map_nil, id] at el e3
      rw [q] at e
      refine run_rt rfl ?_
      rw [show ([x, y].all fun v => isI v) = false from by simp [hx]] at e3
      simp [b_is_fraction, e, el, e3]
theorem isFr_FR {q : Rat} : isFr (FR q) = true := by
  have h1 := q.reduced
  unfold Nat.Coprime at h1
  simp [isFr, FR, h1, q.den_pos]
/-- the fraction that data tell -/
def frQ (v : DV) : Rat := match v with
  | .tup [.int a, .int b] => mkRat a b.toNat
  | _ => 0
theorem frQ_FR {q : Rat} : frQ (FR q) = q := by
  simp [frQ, FR]
theorem isFr_eq {v : DV} (h : isFr v = true) : v = FR (frQ v) := by
  unfold isFr at h
  split at h
  · rename_i a b
    simp only [decide_eq_true_eq] at h
    obtain ⟨h1, h2⟩ := h
    obtain ⟨b, rfl⟩ := Int.eq_ofNat_of_zero_le (Int.le_of_lt h1)
    have hb : b ≠ 0 := by omega
    have e : mkRat a b = ⟨a, b, hb, by simpa using h2⟩ := Rat.ext (by
      rw [← Rat.normalize_eq_mkRat hb]
      have := (norm_num (n := a) hb).1
      rw [this]
      simp at h2
      simp [h2]) (by
      rw [← Rat.normalize_eq_mkRat hb]
      have := (norm_num (n := a) hb).2
      rw [this]
      simp at h2
      simp [h2])
    simp [frQ, e, FR]
  · cases h
def isRow (v : DV) (n : Nat) : Bool := match v with
  | .tup xs => decide (xs.length = n) && xs.all isFr
  | _ => false
/-! ### rows of fractions -/
def RW (L : List Rat) : DV := .tup (L.map FR)
def MX (M : List (List Rat)) : DV := .tup (M.map RW)
theorem isRow_RW {L : List Rat} {n : Nat} : isRow (RW L) n = decide (L.length = n) := by
  have : (L.map FR).all isFr = true := by
    rw [List.all_eq_true]
    intro x hx
    obtain ⟨q, _, rfl⟩ := List.mem_map.mp hx
    exact isFr_FR
  simp only [RW, isRow, List.length_map, this, Bool.and_true]
theorem isRow_eq {v : DV} {n : Nat} (h : isRow v n = true) : ∃ L : List Rat, v = RW L ∧ L.length = n := by
  cases v with
  | tup xs =>
    simp only [isRow, Bool.and_eq_true, decide_eq_true_eq, List.all_eq_true] at h
    refine ⟨xs.map frQ, ?_, by simpa using h.1⟩
    rw [RW, List.map_map]
    congr 1
    have : xs.map (FR ∘ frQ) = xs.map id := List.map_congr_left fun x hx => (isFr_eq (h.2 x hx)).symm
    rw [this, List.map_id]
  | _ => simp [isRow] at h
/-! ## draws within comprehensions, mixing -/
/-- two lists, place by place -/
inductive All2 {α β : Type} (R : α → β → Prop) : List α → List β → Prop
  | nil : All2 R [] []
  | cons {a : α} {b : β} {l : List α} {m : List β} (h : R a b) (t : All2 R l m) : All2 R (a :: l) (b :: m)
theorem All2.len {α β : Type} {R : α → β → Prop} {l : List α} {m : List β} (h : All2 R l m) : l.length = m.length := by
  induction h with
  | nil => rfl
  | cons _ _ ih => simp [ih]
theorem All2.mem {α β : Type} {R : α → β → Prop} {l : List α} {m : List β} (h : All2 R l m) : ∀ b ∈ m, ∃ a ∈ l, R a b := by
  induction h with
  | nil => intro b hb; cases hb
  | cons h _ ih =>
    intro b hb
    rcases List.mem_cons.mp hb with rfl | hb
    · exact ⟨_, by simp, h⟩
    · obtain ⟨a, ha, r⟩ := ih b hb
      exact ⟨a, by simp [ha], r⟩
/-- the values as those of one kind -/
theorem All2.enc {α β γ : Type} {R : α → β → Prop} {P : γ → Prop} {f : γ → β} {l : List α} {m : List β} (h : All2 R l m) (hr : ∀ a b, R a b → ∃ c, b = f c ∧ P c) : ∃ cs : List γ, m = cs.map f ∧ (∀ c ∈ cs, P c) := by
  induction h with
  | nil => exact ⟨[], rfl, by simp⟩
  | cons h _ ih =>
    obtain ⟨c, rfl, hc⟩ := hr _ _ h
    obtain ⟨cs, rfl, hcs⟩ := ih
    exact ⟨c :: cs, rfl, by simp; exact ⟨hc, hcs⟩⟩
/-- a comprehension each element of which draws -/
theorem lc_drawn_go {R : DV → DV → Prop} {c N : Nat} {X C : DC} {rest : DM} {s : Src} {ρ : DE} {t : GM} {te : EM} (hs : s.2 = none) :
    ∀ (l acc : List DV) (n : Nat) (HD : DC), (∀ x ∈ l, ∀ HD n, HOk n C HD → n ≤ N → ∃ ρ1 v HD', t x ρ (X :: C :: HD :: rest) = some ρ1 ∧ te ρ1 (X :: C :: HD :: rest) = .ok v (X :: C :: HD' :: rest) ∧ R x v ∧ HOk (n + c) C HD') →
      HOk n C HD → n + c * l.length ≤ N → acc.length + l.length ≤ LIM → ∃ ys HD', mLc.go t mYes te s ρ l acc (X :: C :: HD :: rest) = .ok (acc ++ ys) (X :: C :: HD' :: rest) ∧ All2 R l ys ∧ HOk (n + c * l.length) C HD'
  | [], acc, n, HD, _, hh, _, _ => ⟨[], HD, by simp [mLc.go, okAt, hs], .nil, by simpa using hh⟩
  | x :: l, acc, n, HD, h, hh, hn, hl => by
    have hn' : n + c + c * l.length ≤ N := by simpa [Nat.mul_add, Nat.add_assoc, Nat.add_comm c] using hn
    obtain ⟨ρ1, v, HD1, h1, h2, h3, h4⟩ := h x (by simp) HD n hh (by omega)
    obtain ⟨ys, HD2, g1, g2, g3⟩ := lc_drawn_go (R := R) (c := c) (N := N) (X := X) (C := C) (rest := rest) (ρ := ρ) (t := t) (te := te) hs l (acc ++ [v]) (n + c) HD1 (fun y hy => h y (List.mem_cons_of_mem _ hy)) h4 hn' (by simp at hl ⊢; omega)
    refine ⟨v :: ys, HD2, ?_, .cons h3 g2, ?_⟩
    · rw [mLc.go, if_pos ⟨by rw [hs]; rfl, by simp at hl; show _ < 16777216; omega⟩, h1]
      simp only [mYes, DR.noex_ok, DR.bind_ok, if_pos, h2, g1]
      simp
    · have e : n + c + c * l.length = n + c * (x :: l).length := by simp [Nat.mul_add]; omega
      rw [← e]; exact g3
theorem lc_drawn {R : DV → DV → Prop} (c N : Nat) {n : Nat} {X C HD : DC} {rest : DM} {vs : List Nat} {mi : IM} {ρ : DE} {t : GM} {te : EM} {l : List DV} (hi : mi ρ (X :: C :: HD :: rest) = .ok (l, none) (X :: C :: HD :: rest))
    (h : ∀ x ∈ l, ∀ HD n, HOk n C HD → n ≤ N → ∃ ρ1 v HD', t x (wipeD ρ vs) (X :: C :: HD :: rest) = some ρ1 ∧ te ρ1 (X :: C :: HD :: rest) = .ok v (X :: C :: HD' :: rest) ∧ R x v ∧ HOk (n + c) C HD')
    (hh : HOk n C HD) (hn : n + c * l.length ≤ N) (hl : l.length ≤ LIM) : ∃ ys HD', mLc vs mi t mYes te ρ (X :: C :: HD :: rest) = .ok ys (X :: C :: HD' :: rest) ∧ All2 R l ys ∧ HOk (n + c * l.length) C HD' := by
  obtain ⟨ys, HD', g1, g2, g3⟩ := lc_drawn_go (R := R) (c := c) (N := N) (X := X) (C := C) (rest := rest) (s := (l, none)) (ρ := wipeD ρ vs) (t := t) (te := te) rfl l [] n HD h hh hn (by simpa using hl)
  exact ⟨ys, HD', by unfold mLc; rw [hi, DR.bind_ok, g1, List.nil_append], g2, g3⟩
@[simp] theorem x_popAt {ρ : DE} {μ : DM} {mo mi : EM} : mPopAt mo mi ρ μ = (mo ρ μ).bind fun u μ => match u.lst μ with
  | none => .bad
  | some _ => (mi ρ μ).bind fun v μ => match u, v with
    | .ref n, .int i => match μ[n]? with
      | some (.lst xs) => match ixN xs.length i with
        | some k => match xs[k]? with
          | some y => if xs.length ≤ LIM then .ok y (μ.set n (.lst (xs.eraseIdx k))) else .bad
          | none => .bad
        | none => .bad
      | _ => .bad
    | _, _ => .bad := rfl
theorem perm_cons_erase {α : Type} {l : List α} {k : Nat} (h : k < l.length) : l.Perm (l[k] :: l.eraseIdx k) := by
  induction l generalizing k with
  | nil => simp at h
  | cons x l ih =>
    cases k with
    | zero => exact .refl _
    | succ k =>
      simp only [List.length_cons, Nat.add_lt_add_iff_right] at h
      simp only [List.getElem_cons_succ, List.eraseIdx_cons_succ]
      exact (List.Perm.cons x (ih h)).trans (.swap _ _ _)
def MixQ (n : Nat) (X C : DC) (rest : DM) (xs : List DV) (w : DV) (μ : DM) : Prop := ∃ ys HD', w = .ref (rest.length + 4) ∧ μ = X :: C :: HD' :: (rest ++ [.lst [], .lst ys]) ∧ ys.Perm xs ∧ HOk (n + xs.length) C HD'
def MixI (n : Nat) (X C : DC) (rest : DM) (v : DV) (xs : List DV) (m : Nat) (ρ : DE) (μ : DM) : Prop := ∃ zs ys HD', m = zs.length ∧ ρ = [some (.ref 2), some v, some (.ref (rest.length + 3)), some (.ref (rest.length + 4))] ∧ μ = X :: C :: HD' :: (rest ++ [.lst zs, .lst ys]) ∧ (ys ++ zs).Perm xs ∧ HOk (n + ys.length) C HD'
/-- a mixed list: left over is an empty one, then what was found -/
theorem l_mixed {n : Nat} {X C HD : DC} {rest : DM} {v : DV} {xs : List DV} (hv : v.seq (X :: C :: HD :: rest) = some xs) (hh : HOk n C HD) (hn : n < 2 ^ 50) (hl : xs.length ≤ 100000) :
    ∃ ys HD', f__law_mixed [.ref 2, v] (X :: C :: HD :: rest) = .ok (.ref (rest.length + 4)) (X :: C :: HD' :: (rest ++ [.lst [], .lst ys])) ∧ ys.Perm xs ∧ HOk (n + xs.length) C HD' := by
  suffices hs : OkE (MixQ n X C rest xs) NoX (f__law_mixed [.ref 2, v] (X :: C :: HD :: rest)) by
    obtain ⟨w, μ, e, ys, HD', rfl, rfl, p, h'⟩ := hs.ok
    exact ⟨ys, HD', e, p, h'⟩
  refine okE_run rfl ?_
  refine seq_step (ρ' := [some (.ref 2), some v, some (.ref (rest.length + 3)), some (.ref (rest.length + 4))]) (μ' := X :: C :: HD :: (rest ++ [.lst xs, .lst []])) (by simp [hv]) ?_
  refine seq_thn ?_
  refine while_inv (MixI n X C rest v xs) (fun m ρ μ ⟨zs, ys, HD', e1, e2, e3, e4, e5⟩ => ?_) WF xs.length _ _ (by show _ < 1000000; omega) ⟨xs, [], HD, rfl, rfl, rfl, by simp, by simpa using hh⟩
  subst e1 e2 e3
  have hlen := e4.length_eq
  simp only [List.length_append] at hlen
  have s1 : (DV.ref (rest.length + 3)).seq (X :: C :: HD' :: (rest ++ [.lst zs, .lst ys])) = some zs := seq_ref (by simp)
  by_cases hz : zs.length = 0
  · have hz' : zs = [] := List.length_eq_zero_iff.mp hz
    subst hz'
    have el : mLen (mVar 2) [some (.ref 2), some v, some (.ref (rest.length + 3)), some (.ref (rest.length + 4))] (X :: C :: HD' :: (rest ++ [.lst [], .lst ys])) = .ok (.int 0) (X :: C :: HD' :: (rest ++ [.lst [], .lst ys])) := by simp [s1]
    simp only [x_bl, x_op, el, DR.bind_ok, x_c]
    simp
    unfold tidy
    rw [if_neg (fun z => by have := z.1; simp [DV.und] at this; omega)]
    exact ⟨ys, HD', rfl, rfl, by simpa using e4, e5.mono (by simp at hlen; omega)⟩
  · obtain ⟨d, H1, d1, d2, d3, d4⟩ := l_draw (X := X) (rest := rest ++ [.lst zs, .lst ys]) e5 (m := zs.length) (by omega) (by omega) (by omega)
    obtain ⟨d, rfl⟩ := Int.eq_ofNat_of_zero_le d2
    have hd : d < zs.length := by omega
    have g1 : (DV.ref (rest.length + 3)).lst (X :: C :: HD' :: (rest ++ [.lst zs, .lst ys])) = some zs := lst_ref (by simp)
    have g2 : (DV.ref (rest.length + 4)).lst (X :: C :: HD' :: (rest ++ [.lst zs, .lst ys])) = some ys := lst_ref (by simp)
    have hp : 0 < zs.length := by omega
    simp [s1, hp, g1, g2, d1, ixN_nat hd, hd, show zs.length ≤ 16777216 by omega, show ys.length < 16777216 by omega]
    refine ⟨zs.length - 1, by omega, zs.eraseIdx d, ys ++ [zs[d]], H1, by simp [List.length_eraseIdx, hd], rfl, ?_, ?_, ?_⟩
    · simp
    · refine List.Perm.trans ?_ e4
      rw [List.append_assoc]
      exact (perm_cons_erase hd).symm.append_left ys
    · exact d4.mono (by simp; omega)
theorem l_ltimes {p q : Rat} {a b : Nat} {μ : DM} (hp : Sz a p) (hq : Sz b q) (hs : a + b < 8000) : f__law_times [FR p, FR q] μ = .ok (FR (p * q)) μ := by
  obtain ⟨c1, c2, c3⟩ := CMw_den hp hq (by omega)
  have c4 : CMw p.num q.num := CMw_of hp.num hq.num (by omega)
  have hd := Sz.mulI (i := p.den) (j := q.den) (by simpa using hp.den) (by simpa using hq.den)
  have e := l_lpart (n := p.num * q.num) (d := p.den * q.den) (k := a + b) (l := a + b) (μ := μ) (Nat.mul_ne_zero p.den_nz q.den_nz) (Sz.mulI hp.num hq.num) (by simpa [Int.natAbs_mul] using hd) (by omega) (by omega)
  rw [← Rat.mul_def] at e
  push_cast at e
  refine run_rt rfl ?_
  simp [b__law_times, c4, c3, e]
theorem sum_szL {a : Nat} : ∀ {L : List Rat}, (∀ q ∈ L, Sz a q) → Sz ((a + 1) * L.length + 1) L.sum
  | [], _ => Sz.zero
  | q :: L, h => by
    rw [List.sum_cons]
    exact ((h q (by simp)).add (sum_szL fun r hr => h r (by simp [hr]))).mono (by simp [Nat.mul_add]; omega)
def dotQ (a b : List Rat) : Rat := ((a.zip b).map fun z => z.1 * z.2).sum
def formQ (F T : List (List Rat)) : Rat := ((F.zip T).map fun z => dotQ z.1 z.2).sum
theorem sum_filter0 {γ : Type} (f : γ → Rat) (p : γ → Bool) : ∀ {L : List γ}, (∀ x ∈ L, p x = false → f x = 0) → ((L.filter p).map f).sum = (L.map f).sum
  | [], _ => rfl
  | x :: L, h => by
    have ih := sum_filter0 f p (L := L) fun y hy => h y (List.mem_cons_of_mem _ hy)
    cases hp : p x with
    | true => simp [List.filter_cons, hp, ih]
    | false =>
      have := h x (by simp) hp
      simp [List.filter_cons, hp, ih, this, Rat.zero_add]
theorem zipFR {a b : List Rat} : ((a.map FR).zip (b.map FR)).map (fun z => DV.tup [z.1, z.2]) = (a.zip b).map fun z => DV.tup [FR z.1, FR z.2] := by
  rw [List.zip_map, List.map_map]
  rfl
theorem zip_mem1 {α β : Type} {a : List α} {b : List β} {z : α × β} (h : z ∈ a.zip b) : z.1 ∈ a ∧ z.2 ∈ b := ⟨(List.of_mem_zip (a := z.1) (b := z.2) h).1, (List.of_mem_zip (a := z.1) (b := z.2) h).2⟩
theorem pureL_map {γ : Type} {f : γ → DV} (h : ∀ x, (f x).pure = true) : ∀ L : List γ, DV.pureL (L.map f) = true
  | [] => rfl
  | x :: L => by simp only [List.map_cons, DV.pureL, h x, pureL_map h L, Bool.and_true]
theorem pureL_app : ∀ {a b : List DV}, DV.pureL a = true → DV.pureL b = true → DV.pureL (a ++ b) = true
  | [], _, _, h => h
  | x :: a, b, h, h2 => by
    simp only [List.cons_append, DV.pureL, Bool.and_eq_true] at h ⊢
    exact ⟨h.1, pureL_app h.2 h2⟩
theorem RW_pure {L : List Rat} : (RW L).pure = true := pureL_map (f := FR) (fun _ => rfl) L
theorem MX_pure {M : List (List Rat)} : (MX M).pure = true := pureL_map (f := RW) (fun _ => RW_pure) M
def isForm (v : DV) : Bool := match v with
  | .tup xs => decide (1 ≤ xs.length ∧ xs.length ≤ 4) && (match xs with
    | .tup ys :: _ => decide (ys.length ≠ 0) && xs.all fun r => isRow r ys.length
    | _ => false)
  | _ => false
def rowQ (v : DV) : List Rat := match v with
  | .tup xs => xs.map frQ
  | _ => []
@[simp] theorem rowQ_RW {L : List Rat} : rowQ (RW L) = L := by
  simp [rowQ, RW, Function.comp_def, frQ_FR]
def okRow (L : List Rat) : Bool := L.all (fun q => decide (0 ≤ q)) && decide (L.sum = 1)
def isTable (v : DV) (s m : Nat) : Bool := match v with
  | .tup xs => decide (xs.length = s) && xs.all (fun r => isRow r m) && xs.all fun r => okRow (rowQ r)
  | _ => false
theorem FR_eq1 {q : Rat} {μ : DM} {neg : Bool} : gEq neg (FR q) (.tup [.int 1, .int 1]) μ = .ok (.bl (if neg then !decide (q = 1) else decide (q = 1))) μ := by
  rw [← FR_one]
  exact FR_eq
theorem intsOf_map {γ : Type} (f : γ → Int) : ∀ L : List γ, intsOf (L.map fun x => .int (f x)) = some (L.map f)
  | [] => rfl
  | x :: L => by simp [intsOf, intsOf_map f L]
theorem dotQ_sz {a b : List Rat} {k l : Nat} (ha : ∀ q ∈ a, Sz k q) (hb : ∀ q ∈ b, Sz l q) : Sz ((k + l + 1) * min a.length b.length + 1) (dotQ a b) := by
  have h := sum_szL (L := (a.zip b).map fun z => z.1 * z.2) (a := k + l) (fun q hq => by
    obtain ⟨z, hz, rfl⟩ := List.mem_map.mp hq
    obtain ⟨m1, m2⟩ := zip_mem1 hz
    exact (ha _ m1).mul (hb _ m2))
  simpa [dotQ] using h
theorem rperm_sum {l m : List Rat} (h : l.Perm m) : l.sum = m.sum := by
  induction h with
  | nil => rfl
  | cons _ _ ih => simp [ih]
  | swap a b l => simp only [List.sum_cons]; grind
  | trans _ _ i j => exact i.trans j
theorem perm_FR {ys : List DV} {P : List Rat} (h : ys.Perm (P.map FR)) : ∃ Q : List Rat, ys = Q.map FR ∧ Q.Perm P := by
  refine ⟨ys.map frQ, ?_, ?_⟩
  · have : ys.map (FR ∘ frQ) = ys.map id := List.map_congr_left fun x hx => by
      obtain ⟨q, _, rfl⟩ := List.mem_map.mp (h.mem_iff.mp hx)
      simp [frQ_FR]
    rw [List.map_map, this, List.map_id]
  · have := h.map frQ
    rw [List.map_map, show frQ ∘ FR = id from by funext q; simp [frQ_FR], List.map_id] at this
    exact this
theorem qn_add {a b d : Nat} : qn a d + qn b d = qn (a + b) d := by
  unfold qn
  rw [Rat.mkRat_eq_div, Rat.mkRat_eq_div, Rat.mkRat_eq_div, Rat.div_def, Rat.div_def, Rat.div_def, ← Rat.add_mul]
  congr 1
  push_cast
  rfl
theorem qn_sum {d : Nat} (hd : d ≠ 0) : ∀ P : List Nat, (P.map fun p => qn p d).sum = qn P.sum d
  | [] => qn_zero.symm
  | p :: P => by rw [List.map_cons, List.sum_cons, List.sum_cons, qn_sum hd P, qn_add]
theorem qn_pos {a d : Nat} : 0 ≤ qn a d := by
  rw [← qn_zero (b := d)]
  exact qn_mono (by omega)
theorem l_lpartn {a b : Nat} {μ : DM} (hb : b ≠ 0) (ha : a < 2 ^ 60) (hb2 : b < 2 ^ 60) : f__law_part [.int a, .int b] μ = .ok (FR (qn a b)) μ := by
  have e := l_lpart (n := (a : Int)) (d := b) (k := 60) (l := 60) (μ := μ) hb (by simpa using ha) hb2 (by omega) (by omega)
  rw [qn_norm] at e
  exact e
def R1 (n m : Nat) (X C : DC) (rest : DM) (l : List DV) (ρ : DE) (μ : DM) : Prop := ∃ (HD : DC) (P : List Nat) (i left : Nat) (w4 w5 : Option DV),
  l = (List.range' i (m - i)).map (fun i : Nat => DV.int (i : Int)) ∧ i ≤ m ∧ ρ = [some (.ref 2), some (.int m), some (.int left), some (.ref (rest.length + 3)), w4, w5] ∧
  μ = X :: C :: HD :: (rest ++ [.lst (P.map fun p => FR (qn p 12))]) ∧ P.length = i ∧ P.sum + left = 12 ∧ (i = m → left = 0) ∧ HOk (n + i) C HD
theorem mem_le_sum : ∀ {P : List Nat} {p : Nat}, p ∈ P → p ≤ P.sum
  | q :: P, p, h => by
    rcases List.mem_cons.mp h with rfl | h
    · simp
    · have := mem_le_sum h
      simp; omega
def R1Q (n m : Nat) (X C : DC) (rest : DM) (w : DV) (μ : DM) : Prop := ∃ L HD', w = RW L ∧ μ = X :: C :: HD' :: rest ∧ L.length = m ∧ okRow L = true ∧ (∀ q ∈ L, Sz 4 q) ∧ HOk (n + 2 * m) C HD'
theorem okS_wr {P : EP} {r : SR} {ρ : DE} {μ : DM} (h : r = .nx ρ μ) (k : P.nx ρ μ) : OkS P r := by
  rw [h]; exact k
theorem cut_to1 {xs : List DV} {k : Nat} (h : 1 ≤ k) : cutD xs none (some ((k : Int) - 1)) = xs.take (k - 1) := by
  rw [show (k : Int) - 1 = ((k - 1 : Nat) : Int) by omega, cut_to]
theorem cut_to_1 {xs : List DV} : cutD xs none (some 1) = xs.take 1 := cut_to (k := 1)
theorem cut_fr_1 {xs : List DV} : cutD xs (some 1) none = xs.drop 1 := cut_from (k := 1)
theorem cut_fr_2 {xs : List DV} : cutD xs (some 2) none = xs.drop 2 := cut_from (k := 2)
theorem asg_eq {m : EM} {i : Nat} {ρ : DE} {μ μ' : DM} {v : DV} (h : m ρ μ = .ok v μ') (hi : i < ρ.length) : sAsg m (tgN i) ρ μ = .nx (ρ.set i (some v)) μ' := by
  simp [h, hi]
theorem if_f {t : BM} {a : SM} {ρ : DE} {μ μ' : DM} (h : t ρ μ = .ok false μ') : sIf t a sNil ρ μ = .nx ρ μ' := by simp [h]
theorem if_or {t u : BM} {a : SM} {ρ : DE} {μ μ1 μ2 : DM} (h : t ρ μ = .ok false μ1) (h2 : u ρ μ1 = .ok false μ2) : sIf (mOr t u) a sNil ρ μ = .nx ρ μ2 := by simp [h, h2]
theorem le_sumQ {q : Rat} : ∀ {L : List Rat}, (∀ p ∈ L, 0 ≤ p) → q ∈ L → q ≤ L.sum
  | p :: L, h, hq => by
    have h0 : 0 ≤ L.sum := by
      have : ∀ M : List Rat, (∀ p ∈ M, 0 ≤ p) → 0 ≤ M.sum := by
        intro M hM
        induction M with
        | nil => exact Rat.le_refl
        | cons a M ih =>
          have h1 := hM a (by simp)
          have h2 := ih fun x hx => hM x (by simp [hx])
          rw [List.sum_cons]; grind
      exact this L fun x hx => h x (by simp [hx])
    have hp := h p (by simp)
    rw [List.sum_cons]
    rcases List.mem_cons.mp hq with rfl | hq
    · grind
    · have := le_sumQ (fun x hx => h x (by simp [hx])) hq
      grind
theorem RW_inj' {a b : List Rat} (h : RW a = RW b) : a = b := by
  simp only [RW, DV.tup.injEq] at h
  have := congrArg (List.map frQ) h
  simpa [Function.comp_def, frQ_FR] using this
theorem MX_seq' {M : List (List Rat)} {μ : DM} : (MX M).seq μ = some (M.map RW) := rfl
theorem RW_seq' {L : List Rat} {μ : DM} : (RW L).seq μ = some (L.map FR) := rfl
theorem ne_one {μ : DM} {s : String} : gEq true (.ref μ.length) (.ref (μ.length + 1)) (μ ++ [.lst [.str s], .lst [.str s]]) = .ok (.bl false) (μ ++ [.lst [.str s], .lst [.str s]]) := by
  rw [gEq_lst (xs := [.str s]) (ys := [.str s]) (by simp) (by simp) rfl rfl (by simp [DV.dpL, DV.dp]) (by simp [DV.dpL, DV.dp])]
  simp [dEqL, dEq]
/-- a list told, beside the one that is due -/
theorem te_one {m : EM} {ρ : DE} {μ μ0 : DM} {s : String} (h : m ρ μ0 = .ok (.ref μ.length) (μ ++ [.lst [.str s]])) : mBl (mOp (gEq true) m (mKeep (mLst (mCons (mC (.str s)) (mNil))))) ρ μ0 = .ok false (μ ++ [.lst [.str s], .lst [.str s]]) := by
  simp only [x_bl, x_op, h, DR.bind_ok]
  simp [ne_one]
/-! ## comprehensions that draw and leave new lists behind -/
theorem lc_drawnG_go {R : DV → DV → Prop} {c N : Nat} {X C : DC} {s : Src} {ρ : DE} {t : GM} {te : EM} (hs : s.2 = none) :
    ∀ (l acc : List DV) (n : Nat) (HD : DC) (rest : DM), (∀ x ∈ l, ∀ HD n rest, HOk n C HD → n ≤ N → ∃ ρ1 v HD' T, t x ρ (X :: C :: HD :: rest) = some ρ1 ∧ te ρ1 (X :: C :: HD :: rest) = .ok v (X :: C :: HD' :: (rest ++ T)) ∧ R x v ∧ HOk (n + c) C HD') →
      HOk n C HD → n + c * l.length ≤ N → acc.length + l.length ≤ LIM → ∃ ys HD' T, mLc.go t mYes te s ρ l acc (X :: C :: HD :: rest) = .ok (acc ++ ys) (X :: C :: HD' :: (rest ++ T)) ∧ All2 R l ys ∧ HOk (n + c * l.length) C HD'
  | [], acc, n, HD, rest, _, hh, _, _ => ⟨[], HD, [], by simp [mLc.go, okAt, hs], .nil, by simpa using hh⟩
  | x :: l, acc, n, HD, rest, h, hh, hn, hl => by
    have hn' : n + c + c * l.length ≤ N := by simpa [Nat.mul_add, Nat.add_assoc, Nat.add_comm c] using hn
    obtain ⟨ρ1, v, HD1, T1, h1, h2, h3, h4⟩ := h x (by simp) HD n rest hh (by omega)
    obtain ⟨ys, HD2, T2, g1, g2, g3⟩ := lc_drawnG_go (R := R) (c := c) (N := N) (X := X) (C := C) (ρ := ρ) (t := t) (te := te) hs l (acc ++ [v]) (n + c) HD1 (rest ++ T1) (fun y hy => h y (List.mem_cons_of_mem _ hy)) h4 hn' (by simp at hl ⊢; omega)
    refine ⟨v :: ys, HD2, T1 ++ T2, ?_, .cons h3 g2, ?_⟩
    · rw [mLc.go, if_pos ⟨by rw [hs]; rfl, by simp at hl; show _ < 16777216; omega⟩, h1]
      simp only [mYes, DR.noex_ok, DR.bind_ok, if_pos, h2, g1]
      simp
    · have e : n + c + c * l.length = n + c * (x :: l).length := by simp [Nat.mul_add]; omega
      rw [← e]; exact g3
theorem lc_drawnG {R : DV → DV → Prop} (c N : Nat) {n : Nat} {X C HD : DC} {rest : DM} {vs : List Nat} {mi : IM} {ρ : DE} {t : GM} {te : EM} {l : List DV} {μ0 : DM} (hi : mi ρ μ0 = .ok (l, none) (X :: C :: HD :: rest))
    (h : ∀ x ∈ l, ∀ HD n rest, HOk n C HD → n ≤ N → ∃ ρ1 v HD' T, t x (wipeD ρ vs) (X :: C :: HD :: rest) = some ρ1 ∧ te ρ1 (X :: C :: HD :: rest) = .ok v (X :: C :: HD' :: (rest ++ T)) ∧ R x v ∧ HOk (n + c) C HD')
    (hh : HOk n C HD) (hn : n + c * l.length ≤ N) (hl : l.length ≤ LIM) : ∃ ys HD' T, mLc vs mi t mYes te ρ μ0 = .ok ys (X :: C :: HD' :: (rest ++ T)) ∧ All2 R l ys ∧ HOk (n + c * l.length) C HD' := by
  obtain ⟨ys, HD', T, g1, g2, g3⟩ := lc_drawnG_go (R := R) (c := c) (N := N) (X := X) (C := C) (s := (l, none)) (ρ := wipeD ρ vs) (t := t) (te := te) rfl l [] n HD rest h hh hn (by simpa using hl)
  exact ⟨ys, HD', T, by unfold mLc; rw [hi, DR.bind_ok, g1, List.nil_append], g2, g3⟩
theorem lc_drawn0 {R : DV → DV → Prop} (c N : Nat) {n : Nat} {X C HD : DC} {rest : DM} {vs : List Nat} {mi : IM} {ρ : DE} {t : GM} {te : EM} {l : List DV} {μ0 : DM} (hi : mi ρ μ0 = .ok (l, none) (X :: C :: HD :: rest))
    (h : ∀ x ∈ l, ∀ HD n, HOk n C HD → n ≤ N → ∃ ρ1 v HD', t x (wipeD ρ vs) (X :: C :: HD :: rest) = some ρ1 ∧ te ρ1 (X :: C :: HD :: rest) = .ok v (X :: C :: HD' :: rest) ∧ R x v ∧ HOk (n + c) C HD')
    (hh : HOk n C HD) (hn : n + c * l.length ≤ N) (hl : l.length ≤ LIM) : ∃ ys HD', mLc vs mi t mYes te ρ μ0 = .ok ys (X :: C :: HD' :: rest) ∧ All2 R l ys ∧ HOk (n + c * l.length) C HD' := by
  obtain ⟨ys, HD', g1, g2, g3⟩ := lc_drawn_go (R := R) (c := c) (N := N) (X := X) (C := C) (rest := rest) (s := (l, none)) (ρ := wipeD ρ vs) (t := t) (te := te) rfl l [] n HD h hh hn (by simpa using hl)
  exact ⟨ys, HD', by unfold mLc; rw [hi, DR.bind_ok, g1, List.nil_append], g2, g3⟩
/-- a function of the hand: what it made new goes -/
theorem run_hand {N n k : Nat} {b : SM} {ds : List DV} {X C HD HD' : DC} {rest t : DM} {v : DV} (hn : ds.length = n) (hv : v.und (rest.length + 3) = true) (hh : HOk k C HD') (h : b (ds.map some ++ List.replicate (N - n) none) (X :: C :: HD :: rest) = .rt v (X :: C :: HD' :: (rest ++ t))) : runFn N n b ds (X :: C :: HD :: rest) = .ok v (X :: C :: HD' :: rest) := by
  unfold runFn
  rw [if_pos hn, h]
  exact tidy_hand hv hh
/-- a walk whose body leaves all as it was, but for its own name -/
theorem for_each {s : Src} {t : GM} {b : SM} {μ : DM} (E : Option DV → DE) (hok : okAt s.2 s.1 μ = true) (ht : ∀ x w, t x (E w) μ = some (E (some x))) : ∀ (l : List DV) (w : Option DV), (∀ x ∈ l, b (E (some x)) μ = .nx (E (some x)) μ) → ∃ w', sFor.go t b s l (E w) μ = .nx (E w') μ
  | [], w, _ => ⟨w, go_nil hok⟩
  | x :: l, w, h => by
    obtain ⟨w', e⟩ := for_each E hok ht l (some x) fun y hy => h y (by simp [hy])
    exact ⟨w', by rw [go_cons hok (ht x w) (h x (by simp)), e]⟩
/-- the same, new lists being left behind -/
theorem for_eachG {s : Src} {t : GM} {b : SM} {X C HD : DC} (E : Option DV → DE) (hs : s.2 = none) (ht : ∀ x w μ, t x (E w) μ = some (E (some x))) : ∀ (l : List DV) (w : Option DV) (rest : DM), (∀ x ∈ l, ∀ rest, ∃ T, b (E (some x)) (X :: C :: HD :: rest) = .nx (E (some x)) (X :: C :: HD :: (rest ++ T))) → ∃ w' T, sFor.go t b s l (E w) (X :: C :: HD :: rest) = .nx (E w') (X :: C :: HD :: (rest ++ T))
  | [], w, rest, _ => ⟨w, [], by rw [go_nil (by rw [hs]; rfl), List.append_nil]⟩
  | x :: l, w, rest, h => by
    obtain ⟨T1, e1⟩ := h x (by simp) rest
    obtain ⟨w', T2, e⟩ := for_eachG E hs ht l (some x) (rest ++ T1) fun y hy => h y (by simp [hy])
    exact ⟨w', T1 ++ T2, by rw [go_cons (by rw [hs]; rfl) (ht x w _) e1, e, List.append_assoc]⟩
/-! ## claims, promises -/
def isBtw (v : DV) (a b : Int) : Bool := match v with
  | .int i => decide (a ≤ i ∧ i ≤ b)
  | _ => false
theorem l_btw {v : DV} {a b : Int} {μ : DM} (h : v.und μ.length = true) : f_is_between [v, .int a, .int b] μ = .ok (.bl (isBtw v a b)) μ := by
  have e := l_isI (v := v) (μ := μ) h
  refine run_rt rfl ?_
  cases v with
  | int i =>
    simp only [isI] at e
    by_cases h1 : a ≤ i
    · simp [b_is_between, e, h1, isBtw]
    · simp [b_is_between, e, h1, isBtw]
  | _ => simp only [isI] at e; simp [b_is_between, e, isBtw]
def allRows (v : DV) (s : Nat) : Bool := match v with
  | .tup rows => decide (rows.length = s) && rows.all fun r => isRow r s
  | _ => false
def isClaim (s : Nat) (v : DV) : Bool := match v with
  | .tup [M, x] => allRows M s && isFr x
  | _ => false
theorem isClaim_len {s : Nat} {xs : List DV} (h : xs.length ≠ 2) : isClaim s (.tup xs) = false := by
  match xs, h with
  | [], _ => rfl
  | [_], _ => rfl
  | [_, _], h => exact absurd rfl h
  | _ :: _ :: _ :: _, _ => rfl
theorem allRows_tup {M : DV} {s : Nat} (h : isTup M s = false) : allRows M s = false := by
  cases M with
  | tup rows => simp [isTup] at h; simp [allRows, h]
  | _ => rfl
def isProm (s : Nat) (v : DV) : Bool := match v with
  | .tup xs => decide (1 ≤ xs.length ∧ xs.length ≤ 12) && xs.all fun c => isClaim s c
  | _ => false
/-! ### what a claim comes to -/
def isMat (v : DV) : Bool := match v with
  | .tup [.tup rows, _] => decide (1 ≤ rows.length ∧ rows.length ≤ 4)
  | _ => false
def matLen (v : DV) : Nat := match v with
  | .tup [.tup rows, _] => rows.length
  | _ => 0
theorem isMat_len {xs : List DV} (h : xs.length ≠ 2) : isMat (.tup xs) = false := by
  match xs, h with
  | [], _ => rfl
  | [_], _ => simp [isMat]
  | [_, _], h => exact absurd rfl h
  | _ :: _ :: _ :: _, _ => simp [isMat]
end Lw

namespace Lw
open PySem L2 Md
/-! ## programs judged, by plain functions over data -/
structure JD where
  s : Int
  p : Int
  h : Int
def JD.obj (J : JD) : DC := .obj "Judge" [("sharers", .int J.s), ("pieces", .int J.p), ("helps", .int J.h)]
def isShr (v : DV) : Bool := isFr v && (match v with
  | .tup [.int a, .int b] => decide (0 ≤ a ∧ a ≤ b)
  | _ => false)
theorem isFr_inv {v : DV} (h : isFr v = true) : ∃ a b : Int, v = .tup [.int a, .int b] := by
  unfold isFr at h
  split at h
  · exact ⟨_, _, rfl⟩
  · cases h
theorem l_isShr {v : DV} {μ : DM} (h : v.und μ.length = true) : f_is_share [v] μ = .ok (.bl (isShr v)) μ := by
  have e := l_isFr h
  cases q : isFr v with
  | false =>
    rw [q] at e
    refine run_rt rfl ?_
    simp [b_is_share, e, isShr, q]
  | true =>
    rw [q] at e
    obtain ⟨a, b, rfl⟩ := isFr_inv q
    refine run_rt rfl ?_
    have e0 : gIx (.tup [.int a, .int b]) (.int 0) μ = .ok (.int a) μ := gIx_0
    have e1 : gIx (.tup [.int a, .int b]) (.int 1) μ = .ok (.int b) μ := gIx_1
    by_cases h1 : 0 ≤ a
    · by_cases h2 : a ≤ b
      · simp [b_is_share, e, e0, e1, isShr, q, h1, h2]
      · simp [b_is_share, e, e0, e1, isShr, q, h1, h2]
    · simp [b_is_share, e, e0, e1, isShr, q, h1]
/-- an ascending row of pieces -/
def ascAt (xs : List DV) (i : Nat) : Bool := match xs[i - 1]?, xs[i]? with
  | some (.int a), some (.int b) => decide (a < b)
  | _, _ => false
def isPcs (p : Int) (v : DV) : Bool := match v with
  | .tup xs => xs.all (fun x => isBtw x 0 (p - 1)) && (decide (0 < xs.length) && (List.range' 1 (xs.length - 1)).all (ascAt xs))
  | _ => false
theorem l_isPcs {J : JD} {o : Nat} {v : DV} {μ : DM} (ho : μ[o]? = some J.obj) (h : v.und μ.length = true) (hl : ∀ xs, v = .tup xs → xs.length ≤ 1000000) : f_Judge_are_pieces [.ref o, v] μ = .ok (.bl (isPcs J.p v)) μ := by
  have ho' : μ[o]? = some (.obj "Judge" [("sharers", .int J.s), ("pieces", .int J.p), ("helps", .int J.h)]) := ho
  refine run_rt rfl ?_
  cases v with
  | tup xs =>
    have hx := hl xs rfl
    have e1 := lc_map (μ0 := μ) (μ := μ) (id : DV → DV) xs (fun x => .bl (isBtw x 0 (J.p - 1))) (vs := [3]) (mi := mIt (mVar 1)) (ρ := [some (.ref o), some (.tup xs), none, none]) (t := tgN 3)
      (te := mCall 3 f_is_between (mCons (mVar 3) (mCons (mC (.int 0)) (mCons (mOp qSub (mFld (mVar 0) "pieces") (mC (.int 1))) (mNil))))) (c := none) (by simp) rfl (by simp; omega) (fun x hx' => ⟨_, rfl, by
        simp [wipeD, ho', fGet, l_btw (und_mem h hx')]⟩)
    have a1 := g_all (μ := μ) (f := fun x => isBtw x 0 (J.p - 1)) (L := xs)
    cases q : xs.all fun x => isBtw x 0 (J.p - 1) with
    | false =>
      rw [q] at a1
      simp [b_Judge_are_pieces, isOf, isTy, DV.ty, e1, a1, isPcs, q]
    | true =>
      rw [q] at a1
      by_cases h0 : 0 < xs.length
      · have hi : ∀ i, i < xs.length → ∃ k : Int, xs[i]? = some (.int k) := fun i hi => by
          have h1 := List.all_eq_true.mp q _ (List.getElem_mem hi)
          cases h2 : xs[i] with
          | int k => exact ⟨k, by rw [List.getElem?_eq_getElem hi, h2]⟩
          | _ => rw [h2] at h1; simp [isBtw] at h1
        have e2 := lc_map (μ0 := μ) (μ := μ) (fun i : Nat => DV.int (i : Int)) (List.range' 1 (xs.length - 1)) (fun i => .bl (ascAt xs i)) (vs := [2]) (mi := mItR2 (mC (.int 1)) (mLen (mVar 1))) (ρ := [some (.ref o), some (.tup xs), none, none]) (t := tgN 2)
          (te := mOp qLt (mOp gIx (mVar 1) (mOp qSub (mVar 2) (mC (.int 1)))) (mOp gIx (mVar 1) (mVar 2))) (c := none)
          (by
            have := rgS_nat (μ := μ) (a := 1) (b := xs.length) hx (by omega)
            simp at this
            simp [this]) rfl (by simp; omega) (fun i hi' => ⟨_, rfl, by
              have hi2 : 1 ≤ i ∧ i < xs.length := by simp at hi'; omega
              obtain ⟨a, ea⟩ := hi (i - 1) (by omega)
              obtain ⟨b, eb⟩ := hi i hi2.2
              have g0 : gIx (.tup xs) (.int ((i : Int) - 1)) μ = .ok (.int a) μ := by
                have := gIx_nat (μ := μ) ea
                rwa [show ((i - 1 : Nat) : Int) = (i : Int) - 1 by omega] at this
              have g1 : gIx (.tup xs) (.int (i : Int)) μ = .ok (.int b) μ := gIx_nat eb
              simp [wipeD, g0, g1, ascAt, ea, eb]⟩)
        have a2 := g_all (μ := μ) (f := ascAt xs) (L := List.range' 1 (xs.length - 1))
        simp [b_Judge_are_pieces, isOf, isTy, DV.ty, e1, a1, isPcs, q, e2, a2, h0]
      · simp [b_Judge_are_pieces, isOf, isTy, DV.ty, e1, a1, isPcs, q, h0]
  | ref k =>
    simp only [DV.und, decide_eq_true_eq] at h
    simp [b_Judge_are_pieces, h, isPcs]
  | _ => simp [b_Judge_are_pieces, isOf, isTy, DV.ty, isPcs]
/-- what stands behind a statement's word, by its letter -/
def isPart (J : JD) (c : Char) (v : DV) : Bool :=
  if c = 'a' then isBtw v 0 (J.s - 1) else if c = 'p' ∨ c = 'r' ∨ c = 'q' then isBtw v 0 (J.p - 1) else if c = 's' then isShr v else if c = 'k' then isBtw v 0 4 else if c = 'h' then isBtw v 0 (J.h - 1)
  else if c = 'b' then true else isPcs J.p v
theorem isObj_J {J : JD} {o : Nat} {μ : DM} (ho : μ[o]? = some J.obj) {m : String} (hm : m ≠ "sharers" ∧ m ≠ "pieces" ∧ m ≠ "helps") : Md.isObj "Judge" m (.ref o) μ = true := by
  simp [Md.isObj, ho, JD.obj, fGet, hm.1, hm.2.1, hm.2.2]
theorem l_isPart {J : JD} {o : Nat} {c : Char} {v : DV} {μ : DM} (ho : μ[o]? = some J.obj) (hc : c ∈ ['a', 'p', 'r', 'q', 's', 'k', 'h', 'b', 'm']) (h : v.und μ.length = true) (hl : ∀ xs, v = .tup xs → xs.length ≤ 1000000) :
    f_Judge_is_part [.ref o, .str (String.singleton c), v] μ = .ok (.bl (isPart J c v)) μ := by
  have ho' : μ[o]? = some (.obj "Judge" [("sharers", .int J.s), ("pieces", .int J.p), ("helps", .int J.h)]) := ho
  have eb := fun a b => l_btw (v := v) (a := a) (b := b) h
  have es := l_isShr h
  have ep := l_isPcs ho h hl
  have eo := isObj_J ho (m := "are_pieces") (by decide)
  refine run_rt rfl ?_
  simp only [List.mem_cons, List.not_mem_nil, or_false] at hc
  rcases hc with rfl | rfl | rfl | rfl | rfl | rfl | rfl | rfl | rfl
  · have e : String.singleton 'a' = "a" := by decide
    rw [e]; simp [b_Judge_is_part, isPart, ho', fGet, eb]
  · have e : String.singleton 'p' = "p" := by decide
    rw [e]; simp [b_Judge_is_part, isPart, ho', fGet, eb]
  · have e : String.singleton 'r' = "r" := by decide
    rw [e]; simp [b_Judge_is_part, isPart, ho', fGet, eb]
  · have e : String.singleton 'q' = "q" := by decide
    rw [e]; simp [b_Judge_is_part, isPart, ho', fGet, eb]
  · have e : String.singleton 's' = "s" := by decide
    rw [e]; simp [b_Judge_is_part, isPart, ho', fGet, es]
  · have e : String.singleton 'k' = "k" := by decide
    rw [e]; simp [b_Judge_is_part, isPart, ho', fGet, eb]
  · have e : String.singleton 'h' = "h" := by decide
    rw [e]; simp [b_Judge_is_part, isPart, ho', fGet, eb]
  · have e : String.singleton 'b' = "b" := by decide
    rw [e]; simp [b_Judge_is_part, isPart]
  · have e : String.singleton 'm' = "m" := by decide
    rw [e]; simp [b_Judge_is_part, isPart, eo, ep]
theorem zp_eq {f : String} {ys : List DV} : zpD (sgD f) ys = (f.toList.zip ys).map fun q => .tup [.str (String.singleton q.1), q.2] := by
  unfold zpD sgD
  rw [List.zip_map_left]
  simp [Function.comp_def, Prod.map]
theorem kPut_len {kvs : List (DV × DV)} {k v : DV} : (kPut kvs k v).length ≤ kvs.length + 1 := by
  unfold kPut
  split <;> simp
/-- the keys of a row, each once -/
def keysD (acc : List (DV × DV)) (xs : List DV) : List (DV × DV) := xs.foldl (fun a k => kPut a k (.bl true)) acc
theorem dc_go {s : Src} {ρ : DE} {t : GM} {tk tv : EM} {μ : DM} (hc : okAt s.2 s.1 μ = true) : ∀ (xs : List DV) (acc : List (DV × DV)), acc.length + xs.length ≤ LIM →
    (∀ x ∈ xs, (dKey x).isSome = true ∧ ∃ ρ1, t x ρ μ = some ρ1 ∧ tk ρ1 μ = .ok x μ ∧ tv ρ1 μ = .ok (.bl true) μ) → mDc.go t tk tv s ρ xs acc μ = .ok (keysD acc xs) μ
  | [], acc, _, _ => by rw [mDc.go, if_pos hc]; rfl
  | x :: xs, acc, hl, h => by
    obtain ⟨h0, ρ1, h1, h2, h3⟩ := h x List.mem_cons_self
    simp only [List.length_cons] at hl
    rw [mDc.go, if_pos ⟨hc, by omega⟩, h1]
    simp only [h2, h3, DR.noex_ok, DR.bind_ok, h0, if_true]
    have := kPut_len (kvs := acc) (k := x) (v := .bl true)
    rw [dc_go hc xs _ (by omega) fun y hy => h y (List.mem_cons_of_mem _ hy)]
    rfl
theorem dc_keys {xs : List DV} {vs : List Nat} {mi : IM} {ρ : DE} {t : GM} {tk tv : EM} {c : Option Nat} {μ0 μ : DM} (hi : mi ρ μ0 = .ok (xs, c) μ) (hc : okAt c xs μ = true) (hl : xs.length ≤ LIM)
    (h : ∀ x ∈ xs, (dKey x).isSome = true ∧ ∃ ρ1, t x (wipeD ρ vs) μ = some ρ1 ∧ tk ρ1 μ = .ok x μ ∧ tv ρ1 μ = .ok (.bl true) μ) : mDc vs mi t tk tv ρ μ0 = .ok (.ref μ.length) (μ ++ [.dct (keysD [] xs)]) := by
  unfold mDc
  rw [hi, DR.bind_ok, dc_go (s := (xs, c)) hc xs [] (by simpa using hl) h]
  rfl
theorem kPut_mem {acc : List (DV × DV)} {k v : DV} : ∀ y, y ∈ (kPut acc k v).map (·.1) ↔ y ∈ acc.map (·.1) ∨ y = k := by
  intro y
  unfold kPut
  split
  · rename_i h
    rw [List.any_eq_true] at h
    obtain ⟨p, hp, hk⟩ := h
    have hk := of_decide_eq_true hk
    have e : (acc.map fun p => if p.1 = k then (p.1, v) else p).map (·.1) = acc.map (·.1) := by
      rw [List.map_map]
      apply List.map_congr_left
      intro q _
      simp only [Function.comp]
      split <;> rfl
    rw [e]
    constructor
    · exact .inl
    · rintro (h | h)
      · exact h
      · subst h; exact hk ▸ List.mem_map_of_mem hp
  · simp
theorem keysD_len : ∀ (xs : List DV) (acc : List (DV × DV)), (keysD acc xs).length = acc.length + xs.length ↔ xs.Nodup ∧ ∀ x ∈ xs, x ∉ acc.map (·.1)
  | [], acc => by simp [keysD]
  | x :: xs, acc => by
    have ih := keysD_len xs (kPut acc x (.bl true))
    have hle : ∀ (ys : List DV) (a : List (DV × DV)), (keysD a ys).length ≤ a.length + ys.length := by
      intro ys
      induction ys with
      | nil => intro a; simp [keysD]
      | cons y ys ih =>
        intro a
        have h1 := ih (kPut a y (.bl true))
        have h2 := kPut_len (kvs := a) (k := y) (v := .bl true)
        show (keysD (kPut a y (.bl true)) ys).length ≤ _
        simp only [List.length_cons]
        omega
    show (keysD (kPut acc x (.bl true)) xs).length = _ ↔ _
    by_cases hx : x ∈ acc.map (·.1)
    · have e : (kPut acc x (.bl true)).length = acc.length := by
        unfold kPut
        obtain ⟨p, hp, hk⟩ := List.mem_map.mp hx
        rw [if_pos (List.any_eq_true.mpr ⟨p, hp, decide_eq_true hk⟩), List.length_map]
      have h1 := hle xs (kPut acc x (.bl true))
      constructor
      · intro h; simp only [List.length_cons] at h; omega
      · intro h; exact absurd hx (h.2 x List.mem_cons_self)
    · have e : (kPut acc x (.bl true)).length = acc.length + 1 := by
        unfold kPut
        rw [if_neg (fun h => ?_)]
        · simp
        · obtain ⟨p, hp, hk⟩ := List.any_eq_true.mp h
          exact hx (of_decide_eq_true hk ▸ List.mem_map_of_mem hp)
      rw [e] at ih
      rw [show acc.length + (x :: xs).length = acc.length + 1 + xs.length by simp only [List.length_cons]; omega, ih]
      simp only [List.nodup_cons, List.mem_cons, kPut_mem]
      constructor
      · rintro ⟨h1, h2⟩
        exact ⟨⟨fun hm => h2 x hm (.inr rfl), h1⟩, fun y hy => hy.elim (fun e => e ▸ hx) fun hy hm => h2 y hy (.inl hm)⟩
      · rintro ⟨⟨h1, h2⟩, h3⟩
        exact ⟨h2, fun y hy hm => hm.elim (h3 y (.inr hy)) fun e => h1 (e ▸ hy)⟩
/-! ### statements -/
def ltrs : List Char := ['a', 'p', 'r', 'q', 's', 'k', 'h', 'b', 'm']
theorem kd_forms {w : String} {d : DV} (h : kFind kd_FORMS w = some d) : ∃ f : String, d = .str f ∧ (∀ c ∈ f.toList, c ∈ ltrs) ∧ f.toList.length ≤ 5 ∧ (f.toList.contains 'm' = true → f = "amq") := by
  simp only [kd_FORMS, kFind] at h
  repeat' split at h
  all_goals first
    | (cases h; exact ⟨_, rfl, by decide, by decide, by decide⟩)
    | cases h
def zpQ (f : String) (args : List DV) : List (Char × DV) := f.toList.zip args
def encQ (q : Char × DV) : DV := .tup [.str (String.singleton q.1), q.2]
def namedQ (f : String) (args : List DV) : List DV := ((zpQ f args).filter fun q => "prq".toList.contains q.1).map (·.2)
def rowOf (o : Option DV) : List DV := match o with
  | some (.tup ms) => ms
  | _ => []
def moreQ (f : String) (args : List DV) : List DV := if f.toList.contains 'm' = true then rowOf args[1]? else []
def blksQ (f : String) (args : List DV) : List DV := ((zpQ f args).filter fun q => q.1 == 'b').map (·.2)
/-- a statement, by what is a block in it -/
def stmOk (J : JD) (blk : DV → Bool) (v : DV) : Bool := match v with
  | .tup (.str w :: args) => match kFind kd_FORMS w with
    | some (.str f) => decide (args.length = f.toList.length) && ((zpQ f args).all (fun q => isPart J q.1 q.2) && (decide ((namedQ f args ++ moreQ f args).Nodup) && (blksQ f args).all blk))
    | _ => false
  | _ => false
end Lw

namespace Lw
open PySem L2 Md
theorem zpQ_mem {f : String} {args : List DV} {q : Char × DV} (h : q ∈ zpQ f args) : q.1 ∈ f.toList ∧ q.2 ∈ args := List.of_mem_zip h
/-- a statement that is none, by its first item -/
theorem l_stm_no {J : JD} {rb rs : Fn} {o : Nat} {d : Int} {v : DV} {μ : DM} (h : v.und μ.length = true) (hn : ∀ w args f, v = .tup (.str w :: args) → kFind kd_FORMS w ≠ some f) :
    runFn 8 3 (b_Judge_is_statement rb rs) [.ref o, v, .int d] μ = .ok (.bl false) μ := by
  refine run_rt rfl ?_
  cases v with
  | ref k =>
    simp only [DV.und, decide_eq_true_eq] at h
    simp [b_Judge_is_statement, h]
  | tup xs =>
    cases xs with
    | nil => simp [b_Judge_is_statement, isOf, isTy, DV.ty]
    | cons x args =>
      have ux : x.und μ.length = true := und_mem (xs := x :: args) h (by simp)
      have hl : ¬ ((args.length : Int) + 1 = 0) := by omega
      cases x with
      | str w =>
        have hk : kFind kd_FORMS w = none := by
          cases q : kFind kd_FORMS w with
          | none => rfl
          | some f => exact absurd q (hn w args f rfl)
        simp [b_Judge_is_statement, isOf, isTy, DV.ty, hk, hl]
      | ref k =>
        simp only [DV.und, decide_eq_true_eq] at ux
        simp [b_Judge_is_statement, isOf, isTy, DV.ty, hl, ux]
      | _ => simp [b_Judge_is_statement, isOf, isTy, DV.ty, hl]
  | _ => simp [b_Judge_is_statement, isOf, isTy, DV.ty]
/-- the parts of a statement of the right length, one by one -/
theorem l_stm_parts {J : JD} {o : Nat} {d : Int} {w f : String} {args : List DV} {μ : DM} (ho : μ[o]? = some J.obj) (hf : ∀ c ∈ f.toList, c ∈ ltrs) (hf5 : f.toList.length ≤ 5) (h : DV.undL μ.length args = true) (hl : ∀ x ∈ args, ∀ xs, x = .tup xs → xs.length ≤ 1000000) :
    mLc [7, 5] (mZipS (mVar 3) (mSl (mVar 1) (mP (mC (.int 1))) (mNoP))) (tgTup 2 (tgCons (tgN 7) (tgCons (tgN 5) (tgNil)))) (mYes) (mMeth "Judge" "is_part" 3 f_Judge_is_part (mVar 0) (mCons (mVar 7) (mCons (mVar 5) (mNil))))
      [some (.ref o), some (.tup (.str w :: args)), some (.int d), some (.str f), none, none, none, none] μ = .ok ((zpQ f args).map fun q => .bl (isPart J q.1 q.2)) μ := by
  have eo := isObj_J ho (m := "is_part") (by decide)
  refine lc_map encQ (zpQ f args) (fun q => .bl (isPart J q.1 q.2)) (c := none) (by simp [zp_eq, cut_fr_1, zpQ, encQ, Function.comp_def]) rfl (by
    unfold zpQ
    rw [List.length_zip]
    have : min f.toList.length args.length ≤ 5 := by omega
    exact Nat.le_trans this (by decide)) fun q hq => ?_
  obtain ⟨h1, h2⟩ := zpQ_mem hq
  have e := l_isPart ho (hf _ h1) (und_mem h h2) (hl _ h2)
  exact ⟨_, rfl, by simp [wipeD, eo, e]⟩
theorem zpQ_len {f : String} {args : List DV} (hf5 : f.toList.length ≤ 5) : (zpQ f args).length ≤ LIM := by
  unfold zpQ
  rw [List.length_zip]
  have : min f.toList.length args.length ≤ 5 := by omega
  exact Nat.le_trans this (by decide)
/-- the pieces that are named one by one -/
theorem l_stm_named {o d : DV} {w f : String} {args : List DV} {μ : DM} (hf5 : f.toList.length ≤ 5) :
    mLc [7, 5] (mZipS (mVar 3) (mSl (mVar 1) (mP (mC (.int 1))) (mNoP))) (tgTup 2 (tgCons (tgN 7) (tgCons (tgN 5) (tgNil)))) (mBl (mOp (gInX false) (mVar 7) (mC (.str "prq")))) (mVar 5)
      [some o, some (.tup (.str w :: args)), some d, some (.str f), none, none, none, none] μ = .ok (namedQ f args) μ := by
  refine lc_eq encQ (zpQ f args) (fun q => "prq".toList.contains q.1) (fun q => q.2) (c := none) (by simp [zp_eq, cut_fr_1, zpQ, encQ, Function.comp_def]) rfl (zpQ_len hf5) fun q hq => ?_
  exact ⟨_, rfl, by simp [wipeD], fun _ => by simp [wipeD]⟩
theorem single_b {c : Char} : (String.singleton c == "b") = (c == 'b') := by
  by_cases h : c = 'b'
  · subst h; decide
  · have h2 : String.singleton c ≠ "b" := fun e => h (by
      have := congrArg String.toList e
      simpa using this)
    rw [beq_eq_false_iff_ne.mpr h, beq_eq_false_iff_ne.mpr h2]
/-- the blocks of a statement, each judged -/
theorem l_stm_blocks {J : JD} {rb : Fn} {blk : DV → Bool} {o : Nat} {d : Int} {nm : DV} {w f : String} {args : List DV} {μ : DM} (ho : μ[o]? = some J.obj) (hf5 : f.toList.length ≤ 5)
    (hb : ∀ x ∈ args, rb [.ref o, x, .int (d - 1)] μ = .ok (.bl (blk x)) μ) :
    mLc [7, 5] (mZipS (mVar 3) (mSl (mVar 1) (mP (mC (.int 1))) (mNoP))) (tgTup 2 (tgCons (tgN 7) (tgCons (tgN 5) (tgNil)))) (mBl (mOp (gEq false) (mVar 7) (mC (.str "b")))) (mMeth "Judge" "is_block" 3 rb (mVar 0) (mCons (mVar 5) (mCons (mOp qSub (mVar 2) (mC (.int 1))) (mNil))))
      [some (.ref o), some (.tup (.str w :: args)), some (.int d), some (.str f), some nm, none, none, none] μ = .ok ((blksQ f args).map fun x => .bl (blk x)) μ := by
  have eo := isObj_J ho (m := "is_block") (by decide)
  have key := lc_eq encQ (zpQ f args) (fun q => q.1 == 'b') (fun q => .bl (blk q.2)) (vs := [7, 5]) (mi := mZipS (mVar 3) (mSl (mVar 1) (mP (mC (.int 1))) (mNoP))) (ρ := [some (.ref o), some (.tup (.str w :: args)), some (.int d), some (.str f), some nm, none, none, none])
    (t := tgTup 2 (tgCons (tgN 7) (tgCons (tgN 5) (tgNil)))) (tt := mBl (mOp (gEq false) (mVar 7) (mC (.str "b")))) (te := mMeth "Judge" "is_block" 3 rb (mVar 0) (mCons (mVar 5) (mCons (mOp qSub (mVar 2) (mC (.int 1))) (mNil))))
    (c := none) (μ0 := μ) (μ := μ) (by simp [zp_eq, cut_fr_1, zpQ, encQ, Function.comp_def]) rfl (zpQ_len hf5) (fun q hq => ⟨_, rfl, by simp [wipeD, single_b], fun _ => by simp [wipeD, eo, hb _ (zpQ_mem hq).2]⟩)
  rw [key]
  simp [blksQ, List.map_map, Function.comp_def]
end Lw

namespace Lw
open PySem L2 Md
theorem btw_key {x : DV} {a b : Int} (h : isBtw x a b = true) : (dKey x).isSome = true := by
  cases x <;> simp [isBtw] at h <;> rfl
theorem named_key {J : JD} {f : String} {args : List DV} (hq : (zpQ f args).all (fun q => isPart J q.1 q.2) = true) : ∀ x ∈ namedQ f args, (dKey x).isSome = true := by
  intro x hx
  simp only [namedQ, List.mem_map, List.mem_filter] at hx
  obtain ⟨q, ⟨h1, h2⟩, rfl⟩ := hx
  have h3 := List.all_eq_true.mp hq q h1
  have h4 : q.1 = 'p' ∨ q.1 = 'r' ∨ q.1 = 'q' := by
    have : q.1 ∈ "prq".toList := by simpa using h2
    simpa using this
  have h5 : q.1 ≠ 'a' := by rcases h4 with h | h | h <;> rw [h] <;> decide
  simp only [isPart, h5, if_false, h4, if_true] at h3
  exact btw_key h3
theorem more_of {J : JD} {f : String} {args : List DV} (hlen : args.length = f.toList.length) (hm : f.toList.contains 'm' = true → f = "amq") (hq : (zpQ f args).all (fun q => isPart J q.1 q.2) = true) (hc : f.toList.contains 'm' = true) :
    ∃ x ms z, args = [x, .tup ms, z] ∧ f = "amq" ∧ isPcs J.p (.tup ms) = true := by
  have ef := hm hc
  subst ef
  match args, hlen with
  | [x, m, z], _ =>
    have h2 : isPart J 'm' m = true := by
      have := List.all_eq_true.mp hq ('m', m) (by simp [zpQ])
      exact this
    have h3 : isPcs J.p m = true := by simpa [isPart] using h2
    cases m with
    | tup ms => exact ⟨x, ms, z, rfl, rfl, h3⟩
    | _ => simp [isPcs] at h3
theorem more_key {J : JD} {f : String} {args : List DV} (hlen : args.length = f.toList.length) (hm : f.toList.contains 'm' = true → f = "amq") (hq : (zpQ f args).all (fun q => isPart J q.1 q.2) = true) : ∀ x ∈ moreQ f args, (dKey x).isSome = true := by
  intro x hx
  unfold moreQ at hx
  split at hx
  · rename_i hc
    obtain ⟨a, ms, z, rfl, rfl, h3⟩ := more_of hlen hm hq hc
    have h4 : x ∈ ms := by simpa [rowOf] using hx
    simp only [isPcs, Bool.and_eq_true] at h3
    exact btw_key (List.all_eq_true.mp h3.1 x h4)
  · cases hx
theorem sq {m n : SM} {ρ ρ' : DE} {μ μ' : DM} (h : m ρ μ = .nx ρ' μ') : sSeq m n ρ μ = n ρ' μ' := by unfold sSeq; rw [h]
/-- THE statement, right or not, its word being one -/
theorem l_stm {J : JD} {rb rs : Fn} {blk : DV → Bool} {o : Nat} {d : Int} {w f : String} {args : List DV} {μ : DM} (hk : kFind kd_FORMS w = some (.str f)) (ho : μ[o]? = some J.obj) (h : DV.undL μ.length args = true)
    (hl : ∀ x ∈ args, ∀ xs, x = .tup xs → xs.length ≤ 1000000) (hb : ∀ T, ∀ x ∈ args, rb [.ref o, x, .int (d - 1)] (μ ++ T) = .ok (.bl (blk x)) (μ ++ T)) :
    runFn 8 3 (b_Judge_is_statement rb rs) [.ref o, .tup (.str w :: args), .int d] μ = .ok (.bl (stmOk J blk (.tup (.str w :: args)))) μ := by
  obtain ⟨f', e', hf, hf5, hm⟩ := kd_forms hk
  cases e'
  have h0 : ¬ ((args.length : Int) + 1 = 0) := by omega
  have hfl : f.toList.length ≤ LIM := Nat.le_trans hf5 (by decide)
  have o1 : o < μ.length := (List.getElem?_eq_some_iff.mp ho).1
  by_cases hlen : args.length = f.toList.length
  · have e1 := l_stm_parts (w := w) (d := d) ho hf hf5 h hl
    have a1 := g_all (μ := μ) (f := fun q : Char × DV => isPart J q.1 q.2) (L := zpQ f args)
    cases hq : (zpQ f args).all fun q => isPart J q.1 q.2 with
    | false =>
      rw [hq] at a1
      refine run_rt rfl ?_
      simp [b_Judge_is_statement, isOf, isTy, DV.ty, hk, h0, hfl, hlen, e1, a1, stmOk, hq]
    | true =>
      rw [hq] at a1
      have e2 := l_stm_named (o := .ref o) (d := .int d) (w := w) (args := args) (μ := μ) hf5
      have k1 := named_key hq
      have k2 := more_key hlen hm hq
      generalize hall : namedQ f args ++ moreQ f args = all at *
      have hkeys : ∀ x ∈ all, (dKey x).isSome = true := fun x hx => by
        rw [← hall] at hx
        exact (List.mem_append.mp hx).elim (k1 x) (k2 x)
      have hal : all.length ≤ LIM := by
        have z1 : (namedQ f args).length ≤ 5 := by
          unfold namedQ
          rw [List.length_map]
          refine Nat.le_trans (List.length_filter_le _ _) ?_
          unfold zpQ
          rw [List.length_zip]
          omega
        have z2 : (moreQ f args).length ≤ 1000000 := by
          unfold moreQ
          split
          · rename_i hc
            obtain ⟨a, ms, z, rfl, rfl, h3⟩ := more_of hlen hm hq hc
            exact hl (.tup ms) (by simp) ms rfl
          · simp
        have z3 := congrArg List.length hall
        rw [List.length_append] at z3
        have z4 : LIM = 16777216 := rfl
        omega
      have s5 : sIf (mBl (mOp (gInX false) (mC (.str "m")) (mVar 3))) (sExpr (mExtend (mVar 4) (mOp gIx (mVar 1) (mC (.int 2))))) (sNil) [some (.ref o), some (.tup (.str w :: args)), some (.int d), some (.str f), some (.ref μ.length), none, none, none] (μ ++ [.lst (namedQ f args)])
          = .nx [some (.ref o), some (.tup (.str w :: args)), some (.int d), some (.str f), some (.ref μ.length), none, none, none] (μ ++ [.lst all]) := by
        cases hc : f.toList.contains 'm' with
        | false =>
          have hc' : 'm' ∉ f.toList := by simpa using hc
          have : all = namedQ f args := by rw [← hall]; simp [moreQ, hc']
          rw [this]
          simp [hc']
        | true =>
          obtain ⟨a, ms, z, rfl, rfl, h3⟩ := more_of hlen hm hq hc
          have e5 : all = namedQ "amq" [a, .tup ms, z] ++ ms := by rw [← hall]; rfl
          have g2 : gIx (.tup (.str w :: [a, .tup ms, z])) (.int 2) (μ ++ [.lst (namedQ "amq" [a, .tup ms, z])]) = .ok (.tup ms) (μ ++ [.lst (namedQ "amq" [a, .tup ms, z])]) := gIx_nat (k := 2) rfl
          have e6 : (namedQ "amq" [a, .tup ms, z]).length + ms.length ≤ LIM := by rw [e5, List.length_append] at hal; exact hal
          simp [hc, DV.lst, DV.at0, g2, e6, e5]
      have e3 := dc_keys (xs := all) (vs := [6]) (mi := mIt (mVar 4)) (ρ := [some (.ref o), some (.tup (.str w :: args)), some (.int d), some (.str f), some (.ref μ.length), none, none, none]) (t := tgN 6) (tk := mVar 6) (tv := mC (.bl true)) (c := some μ.length)
        (μ0 := μ ++ [.lst all]) (μ := μ ++ [.lst all]) (by simp) (by simp [okAt]) hal (fun x hx => ⟨hkeys x hx, _, rfl, by simp [wipeD], rfl⟩)
      have e4 := l_stm_blocks (J := J) (rb := rb) (blk := blk) (o := o) (d := d) (nm := .ref μ.length) (w := w) (f := f) (args := args) (μ := μ ++ [.lst all, .dct (keysD [] all)]) (by rw [List.getElem?_append_left o1]; exact ho) hf5 (hb _)
      have a4 := g_all (μ := μ ++ [.lst all, .dct (keysD [] all)]) (f := blk) (L := blksQ f args)
      have kn := keysD_len all []
      simp only [List.length_nil, Nat.zero_add, List.map_nil, List.not_mem_nil, not_false_eq_true, implies_true, and_true] at kn
      have ec : μ ++ [.lst all] ++ [DC.dct (keysD [] all)] = μ ++ [.lst all, .dct (keysD [] all)] := by simp
      rw [ec] at e3
      refine run_rtA (t := [.lst all, .dct (keysD [] all)]) rfl rfl ?_
      show b_Judge_is_statement rb rs [some (.ref o), some (.tup (.str w :: args)), some (.int d), none, none, none, none, none] μ = _
      unfold b_Judge_is_statement
      rw [sq (ρ' := [some (.ref o), some (.tup (.str w :: args)), some (.int d), none, none, none, none, none]) (μ' := μ) (by simp [isOf, isTy, DV.ty, hk, h0])]
      rw [sq (ρ' := [some (.ref o), some (.tup (.str w :: args)), some (.int d), some (.str f), none, none, none, none]) (μ' := μ) (by simp [hk])]
      rw [sq (ρ' := [some (.ref o), some (.tup (.str w :: args)), some (.int d), some (.str f), none, none, none, none]) (μ' := μ) (by simp [hfl, hlen, e1, a1])]
      rw [sq (ρ' := [some (.ref o), some (.tup (.str w :: args)), some (.int d), some (.str f), some (.ref μ.length), none, none, none]) (μ' := μ ++ [.lst (namedQ f args)]) (by simp [e2])]
      rw [sq s5]
      by_cases hd : all.Nodup
      · have hd' := kn.mpr hd
        rw [sq (ρ' := [some (.ref o), some (.tup (.str w :: args)), some (.int d), some (.str f), some (.ref μ.length), none, none, none]) (μ' := μ ++ [.lst all, .dct (keysD [] all)]) (by simp [e3, DV.dct, DV.seq, hd'])]
        simp [e4, a4, stmOk, hk, hlen, hq, hall, hd]
      · have hd' : ¬ (keysD [] all).length = all.length := fun z => hd (kn.mp z)
        have hd2 : ¬ (((keysD [] all).length : Int) = (all.length : Int)) := by omega
        simp [e3, DV.dct, DV.seq, hd2, stmOk, hk, hlen, hq, hall, hd]
  · have h2 : ¬ ((args.length : Int) + 1 = f.toList.length + 1) := by omega
    refine run_rt rfl ?_
    simp [b_Judge_is_statement, isOf, isTy, DV.ty, hk, h0, hfl, h2, stmOk, hlen]
end Lw

namespace Lw
open PySem L2 Md
mutual
/-- no row within is too long -/
def szD : DV → Bool
  | .tup xs => decide (xs.length ≤ 1000000) && szDL xs
  | _ => true
def szDL : List DV → Bool
  | [] => true
  | x :: xs => szD x && szDL xs
end
theorem szD_mem : ∀ {xs : List DV} {x : DV}, szDL xs = true → x ∈ xs → szD x = true
  | y :: ys, x, hp, h => by
    simp only [szDL, Bool.and_eq_true] at hp
    rcases List.mem_cons.mp h with h | h
    · subst h; exact hp.1
    · exact szD_mem hp.2 h
mutual
theorem und_more {n m : Nat} (h : n ≤ m) : ∀ v : DV, v.und n = true → v.und m = true
  | .ref k, e => by simp only [DV.und, decide_eq_true_eq] at e ⊢; omega
  | .tup xs, e => und_moreL h xs e
  | .kl xs, e => und_moreL h xs e
  | .non, _ => rfl
  | .bl _, _ => rfl
  | .int _, _ => rfl
  | .str _, _ => rfl
theorem und_moreL {n m : Nat} (h : n ≤ m) : ∀ xs : List DV, DV.undL n xs = true → DV.undL m xs = true
  | [], _ => rfl
  | x :: xs, e => by
    simp only [DV.undL, Bool.and_eq_true] at e ⊢
    exact ⟨und_more h x e.1, und_moreL h xs e.2⟩
end
def isBlk (J : JD) : Nat → DV → Bool
  | 0, _ => false
  | d + 1, .tup xs => decide (xs.length ≤ 20) && xs.all (stmOk J (isBlk J d))
  | _, _ => false
theorem l_blk {J : JD} {o : Nat} : ∀ (d m : Nat) (v : DV) (μ : DM), 2 * d + 1 ≤ m → μ[o]? = some J.obj → v.und μ.length = true → szD v = true → f_Judge_is_block_n m [.ref o, v, .int d] μ = .ok (.bl (isBlk J d v)) μ
  | 0, m + 1, v, μ, hm, ho, hu, hz => by
    refine run_rt rfl ?_
    cases v with
    | ref k =>
      simp only [DV.und, decide_eq_true_eq] at hu
      simp [b_Judge_is_block, hu, isBlk]
    | tup xs =>
      by_cases h : (20 : Int) < xs.length
      · simp [b_Judge_is_block, isOf, isTy, DV.ty, h, isBlk]
      · simp [b_Judge_is_block, isOf, isTy, DV.ty, h, isBlk]
    | _ => simp [b_Judge_is_block, isOf, isTy, DV.ty, isBlk]
  | d + 1, m + 2, v, μ, hm, ho, hu, hz => by
    refine run_rt rfl ?_
    cases v with
    | ref k =>
      simp only [DV.und, decide_eq_true_eq] at hu
      simp [b_Judge_is_block, hu, isBlk]
    | tup xs =>
      by_cases h : (20 : Int) < xs.length
      · have h' : ¬ xs.length ≤ 20 := by omega
        simp [b_Judge_is_block, isOf, isTy, DV.ty, h, isBlk, h']
      · have h' : xs.length ≤ 20 := by omega
        have hz2 : szDL xs = true := by simp only [szD, Bool.and_eq_true] at hz; exact hz.2
        have eo := isObj_J ho (m := "is_statement") (by decide)
        have h0 : ¬ ((d : Int) + 1 = 0) := by omega
        have key : ∀ x ∈ xs, f_Judge_is_statement_n (m + 1) [.ref o, x, .int ((d : Int) + 1)] μ = .ok (.bl (stmOk J (isBlk J d) x)) μ := fun x hx => by
          have ux := und_mem (xs := xs) hu hx
          have zx := szD_mem hz2 hx
          show runFn 8 3 (b_Judge_is_statement (f_Judge_is_block_n m) (f_Judge_is_statement_n m)) _ μ = _
          by_cases hw : ∃ w args f, x = .tup (.str w :: args) ∧ kFind kd_FORMS w = some f
          · obtain ⟨w, args, f, rfl, hk⟩ := hw
            obtain ⟨f, rfl, _⟩ := kd_forms hk
            have ua : DV.undL μ.length args = true := by simp only [DV.und, DV.undL, Bool.and_eq_true] at ux; exact ux.2
            have za : szDL args = true := by simp only [szD, szDL, Bool.and_eq_true] at zx; exact zx.2.2
            refine l_stm hk ho ua (fun y hy ys e => ?_) fun T y hy => ?_
            · have := szD_mem za hy
              subst e
              simp only [szD, Bool.and_eq_true, decide_eq_true_eq] at this
              exact this.1
            · have := l_blk d m y (μ ++ T) (by omega) (by rw [List.getElem?_append_left (List.getElem?_eq_some_iff.mp ho).1]; exact ho) (und_more (by simp) y (und_mem ua hy)) (szD_mem za hy)
              rwa [show (d : Int) + 1 - 1 = (d : Int) by omega]
          · rw [l_stm_no (J := J) ux fun w args f e hk => hw ⟨w, args, f, e, hk⟩]
            congr 2
            cases x with
            | tup ys =>
              cases ys with
              | nil => rfl
              | cons y ys =>
                cases y with
                | str w =>
                  cases q : kFind kd_FORMS w with
                  | none => simp [stmOk, q]
                  | some f => exact absurd ⟨w, ys, f, rfl, q⟩ hw
                | _ => rfl
            | _ => rfl
        have e1 := lc_map (μ0 := μ) (μ := μ) (id : DV → DV) xs (fun x => .bl (stmOk J (isBlk J d) x)) (vs := [3]) (mi := mIt (mVar 1)) (ρ := [some (.ref o), some (.tup xs), some (.int ((d : Int) + 1)), none]) (t := tgN 3)
          (te := mMeth "Judge" "is_statement" 3 (f_Judge_is_statement_n (m + 1)) (mVar 0) (mCons (mVar 3) (mCons (mVar 2) (mNil)))) (c := none) (by simp) rfl (by simp; omega) (fun x hx => ⟨_, rfl, by simp [wipeD, eo, key x hx]⟩)
        have a1 := g_all (μ := μ) (f := stmOk J (isBlk J d)) (L := xs)
        simp [b_Judge_is_block, isOf, isTy, DV.ty, h, h0, e1, a1, isBlk, h']
    | _ => simp [b_Judge_is_block, isOf, isTy, DV.ty, isBlk]
end Lw

namespace Lw
open PySem L2 Md
/-! ## sizes of blocks -/
structure SZ where
  t : Nat
  m : Nat
  s : Nat
  deriving DecidableEq, Inhabited
def SZ.enc (a : SZ) : DV := .tup [.int a.t, .int a.m, .int a.s]
def maxL : List Nat → Nat
  | [] => 0
  | x :: xs => max x (maxL xs)
def intD : DV → Nat
  | .int k => k.toNat
  | _ => 0
def fmOf (w : String) : String := match kFind kd_FORMS w with
  | some (.str f) => f
  | _ => ""
def szStm (hs : List SZ) (r : DV → SZ) : DV → SZ
  | .tup (.str w :: args) =>
    if w = "do" then hs.getD (intD (args.getD 0 .non)) ⟨0, 0, 0⟩
    else if w = "rounds" then ⟨intD (args.getD 0 .non) * (r (args.getD 1 .non)).t, intD (args.getD 0 .non) * (r (args.getD 1 .non)).m, intD (args.getD 0 .non) * (r (args.getD 1 .non)).s⟩
    else ⟨1 + ((blksQ (fmOf w) args).map fun b => (r b).t).sum, maxL ((blksQ (fmOf w) args).map fun b => (r b).m) + (if w = "cut" ∨ w = "part" ∨ w = "like" then 1 else 0),
      maxL ((blksQ (fmOf w) args).map fun b => (r b).s) + (if w = "best" ∨ w = "ask" ∨ w = "over" then 1 else 0)⟩
  | _ => ⟨0, 0, 0⟩
def sumZ : List SZ → SZ
  | [] => ⟨0, 0, 0⟩
  | x :: xs => ⟨x.t + (sumZ xs).t, x.m + (sumZ xs).m, x.s + (sumZ xs).s⟩
def szBlk (hs : List SZ) : Nat → DV → SZ
  | 0, _ => ⟨0, 0, 0⟩
  | d + 1, .tup xs => sumZ (xs.map (szStm hs (szBlk hs d)))
  | _, _ => ⟨0, 0, 0⟩
theorem intsOf_nat {γ : Type} (f : γ → Nat) : ∀ L : List γ, intsOf (L.map fun x => .int (f x : Nat)) = some (L.map fun x => (f x : Int))
  | [] => rfl
  | x :: L => by simp [intsOf, intsOf_nat f L]
theorem sum_nat {γ : Type} (f : γ → Nat) : ∀ L : List γ, (L.map fun x => (f x : Int)).sum = (((L.map f).sum : Nat) : Int)
  | [] => rfl
  | x :: L => by simp [sum_nat f L]
theorem max_nat {γ : Type} (f : γ → Nat) : ∀ L : List γ, ((L.map fun x => (f x : Int)) ++ [0]).max? = some ((maxL (L.map f) : Nat) : Int)
  | [] => rfl
  | x :: L => by
    rw [List.map_cons, List.cons_append, List.max?_cons, max_nat f L]
    simp [maxL, Option.elim]
    omega
theorem g_sumN {γ : Type} {f : γ → Nat} {L : List γ} {μ : DM} : gSum (L.map fun x => .int (f x : Nat)) μ = .ok (.int (((L.map f).sum : Nat) : Int)) μ := by
  unfold gSum
  rw [intsOf_nat]
  simp only [sum_nat]
theorem g_maxN {γ : Type} {f : γ → Nat} {L : List γ} {μ : DM} : gMax ((L.map fun x => .int (f x : Nat)) ++ [.int 0]) μ = .ok (.int ((maxL (L.map f) : Nat) : Int)) μ := by
  have e : intsOf ((L.map fun x => .int (f x : Nat)) ++ [.int 0]) = some ((L.map fun x => (f x : Int)) ++ [0]) := by
    induction L with
    | nil => rfl
    | cons x L ih => simp [intsOf] at ih ⊢; exact ih
  unfold gMax
  rw [e]
  simp only [max_nat]
/-- what a call leaves when it gives a new list -/
theorem run_new {N n : Nat} {b : SM} {ds : List DV} {μ t : DM} {k : Nat} (hn : ds.length = n) (hk : μ.length ≤ k) (h : b (ds.map some ++ List.replicate (N - n) none) μ = .rt (.ref k) (μ ++ t)) : runFn N n b ds μ = .ok (.ref k) (μ ++ t) := by
  unfold runFn
  rw [if_pos hn, h]
  show tidy μ (.ref k) (μ ++ t) = _
  unfold tidy
  rw [if_neg (fun z => by have := z.1; simp [DV.und] at this; omega)]
theorem l_blocks_in {w f : String} {args : List DV} {μ : DM} (hk : kFind kd_FORMS w = some (.str f)) (hf5 : f.toList.length ≤ 5) : f_blocks_in [.tup (.str w :: args)] μ = .ok (.ref μ.length) (μ ++ [.lst (blksQ f args)]) := by
  refine run_new rfl (Nat.le_refl _) ?_
  have e := lc_eq encQ (zpQ f args) (fun q => q.1 == 'b') (fun q => q.2) (vs := [2, 1]) (mi := mZipS (mKGet kd_FORMS (mOp gIx (mVar 0) (mC (.int 0)))) (mSl (mVar 0) (mP (mC (.int 1))) (mNoP))) (ρ := [some (.tup (.str w :: args)), none, none])
    (t := tgTup 2 (tgCons (tgN 2) (tgCons (tgN 1) (tgNil)))) (tt := mBl (mOp (gEq false) (mVar 2) (mC (.str "b")))) (te := mVar 1)
    (c := none) (μ0 := μ) (μ := μ) (by simp [hk, zp_eq, cut_fr_1, zpQ, encQ, Function.comp_def]) rfl (zpQ_len hf5) (fun q hq => ⟨_, rfl, by simp [wipeD, single_b], fun _ => by simp [wipeD]⟩)
  simp [b_blocks_in, e, blksQ]
def SzObj (hs : List SZ) (o : Nat) (μ : DM) : Prop := ∃ k, μ[o]? = some (.obj "Sizes" [("helps", .ref k)]) ∧ μ[k]? = some (.lst (hs.map SZ.enc))
theorem SzObj.app {hs : List SZ} {o : Nat} {μ : DM} (h : SzObj hs o μ) (T : DM) : SzObj hs o (μ ++ T) := by
  obtain ⟨k, h1, h2⟩ := h
  exact ⟨k, by rw [List.getElem?_append_left (List.getElem?_eq_some_iff.mp h1).1]; exact h1, by rw [List.getElem?_append_left (List.getElem?_eq_some_iff.mp h2).1]; exact h2⟩
theorem isObj_S {hs : List SZ} {o : Nat} {μ : DM} (h : SzObj hs o μ) {m : String} (hm : m ≠ "helps") : Md.isObj "Sizes" m (.ref o) μ = true := by
  obtain ⟨k, h1, h2⟩ := h
  simp [Md.isObj, h1, fGet, hm]
end Lw

namespace Lw
open PySem L2 Md
theorem blksQ_len {f : String} {args : List DV} (hf5 : f.toList.length ≤ 5) : (blksQ f args).length ≤ 5 := by
  unfold blksQ
  rw [List.length_map]
  refine Nat.le_trans (List.length_filter_le _ _) ?_
  unfold zpQ
  rw [List.length_zip]
  omega
@[simp high] theorem st_at0 {μ t : DM} : (μ ++ t)[μ.length]? = t[0]? := by rw [List.getElem?_append_right (Nat.le_refl _)]; simp
@[simp high] theorem st_at {μ t : DM} {k : Nat} : (μ ++ t)[μ.length + k]? = t[k]? := by rw [List.getElem?_append_right (by omega)]; simp
@[simp high] theorem st_at2 {μ t : DM} {k l : Nat} : (μ ++ t)[μ.length + k + l]? = t[k + l]? := by rw [List.getElem?_append_right (by omega)]; congr 1; omega
@[simp high] theorem st_at_1 {μ t : DM} : (μ ++ t)[μ.length + 1]? = t[1]? := st_at
@[simp high] theorem st_at_2 {μ t : DM} : (μ ++ t)[μ.length + 2]? = t[2]? := st_at
@[simp high] theorem st_at_3 {μ t : DM} : (μ ++ t)[μ.length + 3]? = t[3]? := st_at
@[simp high] theorem st_at_4 {μ t : DM} : (μ ++ t)[μ.length + 4]? = t[4]? := st_at
@[simp high] theorem st_at_5 {μ t : DM} : (μ ++ t)[μ.length + 5]? = t[5]? := st_at
@[simp high] theorem st_at_6 {μ t : DM} : (μ ++ t)[μ.length + 6]? = t[6]? := st_at
@[simp high] theorem st_at_7 {μ t : DM} : (μ ++ t)[μ.length + 7]? = t[7]? := st_at
@[simp high] theorem st_at_8 {μ t : DM} : (μ ++ t)[μ.length + 8]? = t[8]? := st_at
@[simp high] theorem st_at_9 {μ t : DM} : (μ ++ t)[μ.length + 9]? = t[9]? := st_at
@[simp high] theorem st_at_10 {μ t : DM} : (μ ++ t)[μ.length + 10]? = t[10]? := st_at
@[simp high] theorem st_at_11 {μ t : DM} : (μ ++ t)[μ.length + 11]? = t[11]? := st_at
@[simp high] theorem st_at_12 {μ t : DM} : (μ ++ t)[μ.length + 12]? = t[12]? := st_at
theorem l_max0 {γ : Type} {m : LM} {ρ : DE} {μ : DM} {L : List γ} {f : γ → Nat} (h : m ρ μ = .ok (L.map fun x => .int (f x : Nat)) μ) (hl : L.length ≤ 1000) : mL1 gMax (mOp gAdd (mKeep m) (mKeep (mLst (mCons (mC (.int 0)) mNil)))) ρ μ
    = .ok (.int ((maxL (L.map f) : Nat) : Int)) (μ ++ [.lst (L.map fun x => .int (f x : Nat)), .lst [.int 0], .lst ((L.map fun x => .int (f x : Nat)) ++ [.int 0])]) := by
  have s1 := fun μ => @g_maxN γ f L μ
  simp [mL1, gAdd, DV.lst, DV.lsq, h, show L.length + 1 ≤ 16777216 by omega, s1]
/-- sizes of a statement with blocks, or without -/
theorem l_size_of {hs : List SZ} {r : DV → SZ} {rz ro : Fn} {o : Nat} {w f : String} {args : List DV} {μ : DM} (hk : kFind kd_FORMS w = some (.str f)) (ho : SzObj hs o μ)
    (hd : w = "do" → ∃ h : Nat, h < hs.length ∧ args = [.int h]) (hr : w = "rounds" → ∃ (k : Nat) (b : DV), k ≤ 4 ∧ args = [.int k, b] ∧ ∀ T, rz [.ref o, b] (μ ++ T) = .ok (r b).enc (μ ++ T) ∧ (r b).t < 2 ^ 400 ∧ (r b).m < 2 ^ 400 ∧ (r b).s < 2 ^ 400)
    (hb : ∀ T, ∀ b ∈ blksQ f args, rz [.ref o, b] (μ ++ T) = .ok (r b).enc (μ ++ T)) :
    runFn 7 2 (b_Sizes_size_of rz ro) [.ref o, .tup (.str w :: args)] μ = .ok (szStm hs r (.tup (.str w :: args))).enc μ := by
  obtain ⟨f', e', hf, hf5, hm⟩ := kd_forms hk
  cases e'
  by_cases h1 : w = "do"
  · subst h1
    obtain ⟨h, hh, rfl⟩ := hd rfl
    obtain ⟨k, o1, o2⟩ := ho
    refine run_rt rfl ?_
    have e1 : gIx (.ref k) (.int (h : Int)) μ = .ok (hs[h].enc) μ := gIx_refn o2 (by simp [hh])
    simp [b_Sizes_size_of, o1, e1, szStm, intD, List.getD, hh]
  by_cases h2 : w = "rounds"
  · subst h2
    obtain ⟨k, b, hk4, rfl, hz⟩ := hr rfl
    obtain ⟨z0, z1, z2, z3⟩ := hz []
    rw [List.append_nil] at z0
    refine run_rt rfl ?_
    have c1 : ∀ n : Nat, n < 2 ^ 400 → CMw (k : Int) (n : Int) := fun n hn => CMw_of (a := 10) (b := 400) (by omega) (by simpa using hn) (by omega)
    have eo := isObj_S ho (m := "size") (by decide)
    have e1 := lc_map (μ0 := μ) (μ := μ) (fun n : Nat => DV.int (n : Int)) [(r b).t, (r b).m, (r b).s] (fun n : Nat => .int ((k * n : Nat) : Int)) (vs := [6]) (mi := mIt (mMeth "Sizes" "size" 2 rz (mVar 0) (mCons (mOp gIx (mVar 1) (mC (.int 2))) (mNil))))
      (ρ := [some (.ref o), some (.tup [.str "rounds", .int (k : Int), b]), none, none, none, none, none]) (t := tgN 6) (te := mOp gMul (mOp gIx (mVar 1) (mC (.int 1))) (mVar 6)) (c := none)
      (by simp [eo, z0, SZ.enc]) rfl (by simp) (fun n hn => ⟨_, rfl, by
        have hn' : n < 2 ^ 400 := by
          simp only [List.mem_cons, List.not_mem_nil, or_false] at hn
          rcases hn with rfl | rfl | rfl <;> assumption
        simp [wipeD, c1 n hn']⟩)
    simp [b_Sizes_size_of, e1, szStm, intD, SZ.enc]
  · have e0 := l_blocks_in (args := args) (μ := μ) hk hf5
    have bl := blksQ_len (args := args) hf5
    have eo := isObj_S (ho.app [.lst (blksQ f args)]) (m := "size") (by decide)
    have e1 := lc_map (μ0 := μ) (μ := μ ++ [.lst (blksQ f args)]) (id : DV → DV) (blksQ f args) (fun b => (r b).enc) (vs := [5]) (mi := mIt (mCall 1 f_blocks_in (mCons (mVar 1) (mNil))))
      (ρ := [some (.ref o), some (.tup (.str w :: args)), none, none, none, none, none]) (t := tgN 5) (te := mMeth "Sizes" "size" 2 rz (mVar 0) (mCons (mVar 5) (mNil))) (c := some μ.length)
      (by simp [e0]) (by simp [okAt]) (Nat.le_trans bl (by decide)) (fun b hbm => ⟨_, rfl, by simp [wipeD, eo, hb _ b hbm]⟩)
    have fm : fmOf w = f := by simp [fmOf, hk]
    generalize hB : blksQ f args = B at *
    have lcs : ∀ (T : DM) (i : Nat) (g : SZ → Nat) (a b c : Option DV), (∀ z : SZ, [DV.int z.t, .int z.m, .int z.s][i]? = some (.int (g z : Nat))) → mLc [6] (mIt (mVar 2)) (tgN 6) mYes (mOp gIx (mVar 6) (mC (.int (i : Nat)))) [some (.ref o), some (.tup (.str w :: args)), some (.ref (μ.length + 1)), a, b, c, none] (μ ++ (.lst B :: .lst (B.map fun b => (r b).enc) :: T)) = .ok (B.map fun b => .int (g (r b) : Nat)) (μ ++ (.lst B :: .lst (B.map fun b => (r b).enc) :: T)) := fun T i g a b c hg =>
      lc_map (fun b => (r b).enc) B (fun b => .int (g (r b) : Nat)) (c := some (μ.length + 1)) (by simp) (by simp [okAt]) (Nat.le_trans bl (by decide)) fun b hb => ⟨_, rfl, by
        have h := gIx_nat (μ := μ ++ (.lst B :: .lst (B.map fun b => (r b).enc) :: T)) (hg (r b))
        have h' : gIx (r b).enc (.int (i : Nat)) (μ ++ (.lst B :: .lst (B.map fun b => (r b).enc) :: T)) = .ok (.int (g (r b) : Nat)) (μ ++ (.lst B :: .lst (B.map fun b => (r b).enc) :: T)) := h
        simp [wipeD, h']⟩
    refine run_rtA (t := [.lst B, .lst (B.map fun b => (r b).enc), .lst (B.map fun b => .int ((r b).m : Nat)), .lst [.int 0], .lst ((B.map fun b => .int ((r b).m : Nat)) ++ [.int 0]), .lst (B.map fun b => .int ((r b).s : Nat)), .lst [.int 0], .lst ((B.map fun b => .int ((r b).s : Nat)) ++ [.int 0])]) rfl rfl ?_
    have k0 := fun T => lcs T 0 SZ.t
    have k1 := fun T => lcs T 1 SZ.m
    have k2 := fun T => lcs T 2 SZ.s
    simp at k0 k1 k2
    have s0 := @g_sumN DV (fun b => (r b).t) B
    show b_Sizes_size_of rz ro [some (.ref o), some (.tup (.str w :: args)), none, none, none, none, none] μ = _
    unfold b_Sizes_size_of
    rw [sq (ρ' := [some (.ref o), some (.tup (.str w :: args)), none, none, none, none, none]) (μ' := μ) (by simp [h1])]
    rw [sq (ρ' := [some (.ref o), some (.tup (.str w :: args)), none, none, none, none, none]) (μ' := μ) (by simp [h2])]
    rw [sq (ρ' := [some (.ref o), some (.tup (.str w :: args)), some (.ref (μ.length + 1)), none, none, none, none]) (μ' := μ ++ [.lst B, .lst (B.map fun b => (r b).enc)]) (by simp [e1])]
    rw [sq (ρ' := [some (.ref o), some (.tup (.str w :: args)), some (.ref (μ.length + 1)), some (.int ((1 + (B.map fun b => (r b).t).sum : Nat) : Int)), none, none, none]) (μ' := μ ++ [.lst B, .lst (B.map fun b => (r b).enc)]) (by simp [k0, s0])]
    have q1 : w ∈ ["cut", "part", "like"] ↔ (w = "cut" ∨ w = "part" ∨ w = "like") := by simp
    have iw : ∀ (a b c : String) (μ : DM), gInX false (.str w) (.tup [.str a, .str b, .str c]) μ = .ok (.bl (decide (w = a ∨ w = b ∨ w = c))) μ := fun a b c μ => by
      simp only [x_inT, DV.flat, List.all_cons, List.all_nil, List.any_cons, List.any_nil, dEq, Bool.and_self, and_self, if_true, Bool.or_false, Bool.false_eq_true, if_false]
      congr 2
      rw [Bool.eq_iff_iff]
      simp only [Bool.or_eq_true, beq_iff_eq, decide_eq_true_eq]
      constructor <;> rintro (h | h | h) <;> simp [h]
    have ifb : ∀ (a b c : String) (ρ : DE) (μ : DM), ρ[1]? = some (some (.tup (.str w :: args))) → mIf (mBl (mOp (gInX false) (mOp gIx (mVar 1) (mC (.int 0))) (mC (.tup [.str a, .str b, .str c])))) (mC (.int 1)) (mC (.int 0)) ρ μ = .ok (.int (((if w = a ∨ w = b ∨ w = c then 1 else 0) : Nat) : Int)) μ := fun a b c ρ μ h => by
      simp only [x_if, x_bl, x_op, x_var h, DR.bind_ok, x_c, gIx_0, DR.noex_ok, iw, asBl_bl]
      by_cases hw : w = a ∨ w = b ∨ w = c
      · rw [decide_eq_true hw, if_pos rfl, if_pos hw]; rfl
      · rw [decide_eq_false hw, if_neg (by simp), if_neg hw]; rfl
    generalize hA : (if w = "cut" ∨ w = "part" ∨ w = "like" then 1 else 0 : Nat) = A
    have ifA := ifb "cut" "part" "like"
    rw [hA] at ifA
    generalize hC : (if w = "best" ∨ w = "ask" ∨ w = "over" then 1 else 0 : Nat) = A2
    have ifC := ifb "best" "ask" "over"
    rw [hC] at ifC
    rw [sq (ρ' := [some (.ref o), some (.tup (.str w :: args)), some (.ref (μ.length + 1)), some (.int ((1 + (B.map fun b => (r b).t).sum : Nat) : Int)), some (.int ((maxL (B.map fun b => (r b).m) + A : Nat) : Int)), none, none]) (μ' := μ ++ [.lst B, .lst (B.map fun b => (r b).enc), .lst (B.map fun b => .int ((r b).m : Nat)), .lst [.int 0], .lst ((B.map fun b => .int ((r b).m : Nat)) ++ [.int 0])])
      (by
        have e3 := l_max0 (k1 [] (some (.int ((1 + (B.map fun b => (r b).t).sum : Nat) : Int))) none none) (by omega)
        rw [x_sAsg, x_op, e3, DR.bind_ok, ifA _ _ rfl]
        simp)]
    generalize hT1 : (((1 + (B.map fun b => (r b).t).sum : Nat) : Int)) = T1
    generalize hT2 : ((maxL (B.map fun b => (r b).m) + A : Nat) : Int) = T2
    have e4 := l_max0 (k2 [.lst (B.map fun b => .int ((r b).m : Nat)), .lst [.int 0], .lst ((B.map fun b => .int ((r b).m : Nat)) ++ [.int 0])] (some (.int T1)) (some (.int T2)) none) (by omega)
    generalize hρ : ([some (.ref o), some (.tup (.str w :: args)), some (.ref (μ.length + 1)), some (.int T1), some (.int T2), none, none] : DE) = ρ at e4 ⊢
    have r3 : ∀ μ, mVar 3 ρ μ = .ok (.int T1) μ := fun μ => by rw [← hρ]; rfl
    have r4 : ∀ μ, mVar 4 ρ μ = .ok (.int T2) μ := fun μ => by rw [← hρ]; rfl
    have ifC' := fun μ => ifC ρ μ (by rw [← hρ]; rfl)
    simp only [x_sRet, x_tup, x_cons, x_op, e4, DR.bind_ok, r3, r4, ifC']
    simp [szStm, h1, h2, SZ.enc, fm, hB, hA, hC, ← hT1, ← hT2]
end Lw
namespace Lw
open PySem L2 Md
def SZ.le (z : SZ) (M : Nat) : Prop := z.t ≤ M ∧ z.m ≤ M ∧ z.s ≤ M
theorem SZ.le.mono {z : SZ} {M N : Nat} (h : z.le M) (hm : M ≤ N) : z.le N := ⟨Nat.le_trans h.1 hm, Nat.le_trans h.2.1 hm, Nat.le_trans h.2.2 hm⟩
theorem sumZ_le {M : Nat} : ∀ {L : List SZ}, (∀ z ∈ L, z.le M) → (sumZ L).le (L.length * M)
  | [], _ => by simp [sumZ, SZ.le]
  | x :: L, h => by
    have h1 := h x (by simp)
    have h2 := sumZ_le fun z hz => h z (List.mem_cons_of_mem _ hz)
    simp only [SZ.le, sumZ, List.length_cons, Nat.succ_mul] at h1 h2 ⊢
    omega
theorem maxL_le {M : Nat} : ∀ {L : List Nat}, (∀ z ∈ L, z ≤ M) → maxL L ≤ M
  | [], _ => Nat.zero_le _
  | x :: L, h => by
    have h1 := h x (by simp)
    have h2 := maxL_le fun z hz => h z (List.mem_cons_of_mem _ hz)
    simp only [maxL]; omega
theorem sumL_le {M : Nat} : ∀ {L : List Nat}, (∀ z ∈ L, z ≤ M) → L.sum ≤ L.length * M
  | [], _ => by simp
  | x :: L, h => by
    have h1 := h x (by simp)
    have h2 := sumL_le fun z hz => h z (List.mem_cons_of_mem _ hz)
    simp only [List.sum_cons, List.length_cons, Nat.succ_mul]; omega
theorem stm_inv {J : JD} {blk : DV → Bool} {x : DV} (h : stmOk J blk x = true) : ∃ w f args, x = .tup (.str w :: args) ∧ kFind kd_FORMS w = some (.str f) ∧ args.length = f.toList.length ∧ (zpQ f args).all (fun q => isPart J q.1 q.2) = true ∧ (∀ b ∈ blksQ f args, blk b = true) := by
  match x, h with
  | .tup (.str w :: args), h =>
    simp only [stmOk] at h
    split at h
    · rename_i f hk
      simp only [Bool.and_eq_true, decide_eq_true_eq] at h
      exact ⟨w, f, args, rfl, hk, h.1, h.2.1, List.all_eq_true.mp h.2.2.2⟩
    · cases h
theorem stm_do {J : JD} {f : String} {args : List DV} (hk : kFind kd_FORMS "do" = some (.str f)) (hl : args.length = f.toList.length) (hp : (zpQ f args).all (fun q => isPart J q.1 q.2) = true) : ∃ h : Nat, (h : Int) < J.h ∧ args = [.int h] := by
  have : f = "h" := by simpa [kd_FORMS, kFind, eq_comm] using hk
  subst this
  match args, hl with
  | [x], _ =>
    have h2 : isPart J 'h' x = true := List.all_eq_true.mp hp ('h', x) (by simp [zpQ])
    have h3 : isBtw x 0 (J.h - 1) = true := by simpa [isPart] using h2
    cases x with
    | int k =>
      simp [isBtw] at h3
      exact ⟨k.toNat, by omega, by simp; omega⟩
    | _ => simp [isBtw] at h3
theorem stm_rounds {J : JD} {f : String} {args : List DV} (hk : kFind kd_FORMS "rounds" = some (.str f)) (hl : args.length = f.toList.length) (hp : (zpQ f args).all (fun q => isPart J q.1 q.2) = true) : ∃ (k : Nat) (b : DV), k ≤ 4 ∧ args = [.int k, b] ∧ b ∈ blksQ f args := by
  have : f = "kb" := by simpa [kd_FORMS, kFind, eq_comm] using hk
  subst this
  match args, hl with
  | [x, b], _ =>
    have h2 : isPart J 'k' x = true := List.all_eq_true.mp hp ('k', x) (by simp [zpQ])
    have h3 : isBtw x 0 4 = true := by simpa [isPart] using h2
    cases x with
    | int k =>
      simp [isBtw] at h3
      exact ⟨k.toNat, b, by omega, by simp; omega, by simp [blksQ, zpQ]⟩
    | _ => simp [isBtw] at h3
theorem szStm_le {J : JD} {blk : DV → Bool} {hs : List SZ} {r : DV → SZ} {x : DV} {M X : Nat} (h : stmOk J blk x = true) (hM : ∀ z ∈ hs, z.le M) (hX : ∀ b, blk b = true → (r b).le X) (h1 : 1 ≤ X) (h2 : M ≤ X) : (szStm hs r x).le (6 * X) := by
  obtain ⟨w, f, args, rfl, hk, hl, hp, hb⟩ := stm_inv h
  obtain ⟨f', e', hf, hf5, hm⟩ := kd_forms hk
  cases e'
  simp only [szStm]
  split
  · subst w
    obtain ⟨k, hh, rfl⟩ := stm_do hk hl hp
    have e : intD (([DV.int (k : Int)] : List DV).getD 0 .non) = k := by simp [intD]
    rw [e, List.getD_eq_getElem?_getD]
    cases q : hs[k]? with
    | none => simp [SZ.le]
    | some z => exact (hM z (List.mem_of_getElem? q)).mono (by omega)
  split
  · subst w
    obtain ⟨k, b, hk4, e, hbm⟩ := stm_rounds hk hl hp
    have hz := hX b (hb b hbm)
    subst e
    simp only [SZ.le] at hz
    simp only [List.getD_eq_getElem?_getD, List.getElem?_cons_zero, List.getElem?_cons_succ, Option.getD_some, intD, Int.toNat_natCast, SZ.le]
    have : ∀ n, n ≤ X → k * n ≤ 6 * X := fun n hn => Nat.le_trans (Nat.mul_le_mul hk4 hn) (by omega)
    exact ⟨this _ hz.1, this _ hz.2.1, this _ hz.2.2⟩
  · rw [show fmOf w = f by simp [fmOf, hk]]
    have bl := blksQ_len (args := args) hf5
    have a1 := sumL_le (M := X) (L := (blksQ f args).map fun b => (r b).t) fun z hz => by
      obtain ⟨b, hbm, rfl⟩ := List.mem_map.mp hz
      exact (hX b (hb b hbm)).1
    have a2 := maxL_le (M := X) (L := (blksQ f args).map fun b => (r b).m) fun z hz => by
      obtain ⟨b, hbm, rfl⟩ := List.mem_map.mp hz
      exact (hX b (hb b hbm)).2.1
    have a3 := maxL_le (M := X) (L := (blksQ f args).map fun b => (r b).s) fun z hz => by
      obtain ⟨b, hbm, rfl⟩ := List.mem_map.mp hz
      exact (hX b (hb b hbm)).2.2
    rw [List.length_map] at a1
    have a4 : (blksQ f args).length * X ≤ 5 * X := Nat.mul_le_mul_right X bl
    refine ⟨by simp only; omega, ?_, ?_⟩ <;> simp only <;> split <;> omega
theorem szBlk_le {J : JD} {hs : List SZ} {M : Nat} (hM : ∀ z ∈ hs, z.le M) (h1 : 1 ≤ M) : ∀ (d : Nat) (v : DV), isBlk J d v = true → (szBlk hs d v).le (M * 128 ^ d)
  | 0, v, h => by simp [isBlk] at h
  | d + 1, .tup xs, h => by
    simp only [isBlk, Bool.and_eq_true, decide_eq_true_eq] at h
    have hp : 1 ≤ 128 ^ d := Nat.one_le_pow _ _ (by omega)
    have hX : M ≤ M * 128 ^ d := Nat.le_mul_of_pos_right M (by omega)
    have := sumZ_le (M := 6 * (M * 128 ^ d)) (L := xs.map (szStm hs (szBlk hs d))) fun z hz => by
      obtain ⟨x, hx, rfl⟩ := List.mem_map.mp hz
      exact szStm_le (List.all_eq_true.mp h.2 x hx) hM (fun b hb => szBlk_le hM h1 d b hb) (by omega) hX
    rw [List.length_map] at this
    refine this.mono ?_
    rw [show M * 128 ^ (d + 1) = M * 128 ^ d * 128 by rw [Nat.pow_succ, Nat.mul_assoc]]
    have h3 : xs.length * (6 * (M * 128 ^ d)) ≤ 20 * (6 * (M * 128 ^ d)) := Nat.mul_le_mul_right _ h.1
    generalize M * 128 ^ d = Y at *
    omega
  | d + 1, .non, h => by simp [isBlk] at h
  | d + 1, .bl _, h => by simp [isBlk] at h
  | d + 1, .int _, h => by simp [isBlk] at h
  | d + 1, .str _, h => by simp [isBlk] at h
  | d + 1, .kl _, h => by simp [isBlk] at h
  | d + 1, .ref _, h => by simp [isBlk] at h
theorem l_size {J : JD} {hs : List SZ} {o M : Nat} (hJ : J.h ≤ hs.length) (hM : ∀ z ∈ hs, z.le M) (h1 : 1 ≤ M) : ∀ (d m : Nat) (v : DV) (μ : DM), 2 * d + 1 ≤ m → M * 128 ^ d < 2 ^ 400 → SzObj hs o μ → isBlk J d v = true →
    f_Sizes_size_n m [.ref o, v] μ = .ok (szBlk hs d v).enc μ
  | 0, m, v, μ, _, _, _, h => by simp [isBlk] at h
  | d + 1, m + 2, .tup xs, μ, hm, hM4, ho, h => by
    simp only [isBlk, Bool.and_eq_true, decide_eq_true_eq] at h
    have hM5 : M * 128 ^ d < 2 ^ 400 := by
      rw [Nat.pow_succ, ← Nat.mul_assoc] at hM4; omega
    have eo := isObj_S ho (m := "size_of") (by decide)
    have key : ∀ x ∈ xs, f_Sizes_size_of_n (m + 1) [.ref o, x] μ = .ok (szStm hs (szBlk hs d) x).enc μ := fun x hx => by
      obtain ⟨w, f, args, rfl, hk, hl, hp, hb⟩ := stm_inv (List.all_eq_true.mp h.2 x hx)
      show runFn 7 2 (b_Sizes_size_of (f_Sizes_size_n m) (f_Sizes_size_of_n m)) _ μ = _
      have hz : ∀ T, ∀ b ∈ blksQ f args, f_Sizes_size_n m [.ref o, b] (μ ++ T) = .ok (szBlk hs d b).enc (μ ++ T) := fun T b hbm => l_size hJ hM h1 d m b (μ ++ T) (by omega) hM5 (ho.app T) (hb b hbm)
      refine l_size_of hk ho (fun e => ?_) (fun e => ?_) hz
      · subst e
        obtain ⟨h, hh, rfl⟩ := stm_do hk hl hp
        exact ⟨h, by omega, rfl⟩
      · subst e
        obtain ⟨k, b, hk4, e, hbm⟩ := stm_rounds hk hl hp
        have := szBlk_le hM h1 d b (hb b hbm)
        exact ⟨k, b, hk4, e, fun T => ⟨hz T b hbm, by have := this.1; omega, by have := this.2.1; omega, by have := this.2.2; omega⟩⟩
    refine run_rt rfl ?_
    obtain ⟨ρ', e1, w5, w6, e2⟩ := for_ind (enc := (id : DV → DV)) (s := (xs, none)) (t := tgN 5) (b := sSeq (sAsg (mMeth "Sizes" "size_of" 2 (f_Sizes_size_of_n (m + 1)) (mVar 0) (mCons (mVar 5) (mNil))) (tgN 6)) <|
        sPar3 2 3 4 (mCons (mOp gAdd (mVar 2) (mOp gIx (mVar 6) (mC (.int 0)))) (mCons (mOp gAdd (mVar 3) (mOp gIx (mVar 6) (mC (.int 1)))) (mCons (mOp gAdd (mVar 4) (mOp gIx (mVar 6) (mC (.int 2)))) (mNil))))) (μ := μ)
      (fun l ρ => ∃ (z : SZ) (w5 w6 : Option DV), (∀ x ∈ l, x ∈ xs) ∧ ρ = [some (.ref o), some (.tup xs), some (.int z.t), some (.int z.m), some (.int z.s), w5, w6] ∧ z.t + (sumZ (l.map (szStm hs (szBlk hs d)))).t = (szBlk hs (d + 1) (.tup xs)).t ∧ z.m + (sumZ (l.map (szStm hs (szBlk hs d)))).m = (szBlk hs (d + 1) (.tup xs)).m ∧ z.s + (sumZ (l.map (szStm hs (szBlk hs d)))).s = (szBlk hs (d + 1) (.tup xs)).s)
      rfl (fun x l ρ ⟨z, w5, w6, hx, e, q1, q2, q3⟩ => by
        subst e
        refine ⟨_, _, rfl, ?_, ⟨z.t + (szStm hs (szBlk hs d) x).t, z.m + (szStm hs (szBlk hs d) x).m, z.s + (szStm hs (szBlk hs d) x).s⟩, some x, some (szStm hs (szBlk hs d) x).enc, fun y hy => hx y (by simp [hy]), rfl, ?_, ?_, ?_⟩
        · simp [eo, key x (hx x (by simp)), SZ.enc]
        · simp only [List.map_cons, sumZ] at q1; simp only; omega
        · simp only [List.map_cons, sumZ] at q2; simp only; omega
        · simp only [List.map_cons, sumZ] at q3; simp only; omega) xs [some (.ref o), some (.tup xs), some (.int (0 : Nat)), some (.int (0 : Nat)), some (.int (0 : Nat)), none, none] ⟨⟨0, 0, 0⟩, none, none, fun _ h => h, rfl, by simp [szBlk], by simp [szBlk], by simp [szBlk]⟩
    obtain ⟨w6', hx, rfl, q1, q2, q3⟩ := e2
    simp [b_Sizes_size]
    simp at e1
    rw [e1]
    simp [sumZ] at q1 q2 q3
    simp [SZ.enc, q1, q2, q3]
  | d + 1, m, .non, μ, _, _, _, h => by simp [isBlk] at h
  | d + 1, m, .bl _, μ, _, _, _, h => by simp [isBlk] at h
  | d + 1, m, .int _, μ, _, _, _, h => by simp [isBlk] at h
  | d + 1, m, .str _, μ, _, _, _, h => by simp [isBlk] at h
  | d + 1, m, .kl _, μ, _, _, _, h => by simp [isBlk] at h
  | d + 1, m, .ref _, μ, _, _, _, h => by simp [isBlk] at h
  | d + 1, 0, .tup xs, μ, hm, _, _, _ => by omega
  | d + 1, 1, .tup xs, μ, hm, _, _, _ => by omega
end Lw

namespace Lw
open PySem L2 Md
@[simp] theorem x_enum {m : EM} {ρ : DE} {μ : DM} : mEnum m ρ μ = (m ρ μ).bind fun v μ => match v with
  | .tup xs => .ok (enD 0 xs, none) μ
  | _ => .bad := rfl
def hSzD : List SZ → List DV → List SZ
  | acc, [] => acc
  | acc, b :: hs => hSzD (acc ++ [szBlk acc 5 b]) hs
def iI : DV → Int
  | .int k => k
  | _ => 0
/-- the helps, each by those ahead of it -/
def hOkD (A N : Int) : Nat → List DV → Bool
  | _, [] => true
  | i, b :: hs => isBlk ⟨A, N, i⟩ 5 b && hOkD A N (i + 1) hs
theorem hSzD_len : ∀ (hs : List DV) (acc : List SZ), (hSzD acc hs).length = acc.length + hs.length
  | [], acc => by simp [hSzD]
  | b :: hs, acc => by rw [hSzD, hSzD_len hs]; simp; omega
theorem hSzD_le {A N : Int} : ∀ (hs : List DV) (acc : List SZ) (M : Nat), (∀ z ∈ acc, z.le M) → 1 ≤ M → hOkD A N acc.length hs = true → ∀ z ∈ hSzD acc hs, z.le (M * 128 ^ (5 * hs.length))
  | [], acc, M, h, _, _ => by simpa [hSzD] using h
  | b :: hs, acc, M, h, h1, hb => by
    simp only [hOkD, Bool.and_eq_true] at hb
    have hp : 1 ≤ 128 ^ 5 := by decide
    have h2 : M ≤ M * 128 ^ 5 := Nat.le_mul_of_pos_right M (by omega)
    have := hSzD_le (A := A) (N := N) hs (acc ++ [szBlk acc 5 b]) (M * 128 ^ 5) (fun z hz => by
      rcases List.mem_append.mp hz with hz | hz
      · exact (h z hz).mono h2
      · simp at hz; subst hz; exact szBlk_le h h1 5 b hb.1) (by omega) (by simpa using hb.2)
    rw [hSzD, List.length_cons, show M * 128 ^ (5 * (hs.length + 1)) = M * 128 ^ 5 * 128 ^ (5 * hs.length) by rw [Nat.mul_add, Nat.pow_add, Nat.mul_assoc, Nat.mul_comm (128 ^ (5 * hs.length))]]
    exact this
theorem l_judge_init {a b c : DV} {μ : DM} : f_Judge___init__ [.ref μ.length, a, b, c] (μ ++ [.obj "Judge" []]) = .ok .non (μ ++ [.obj "Judge" [("sharers", a), ("pieces", b), ("helps", c)]]) := by
  unfold f_Judge___init__ runFn
  simp [b_Judge___init__, fPut, List.set_append]
  exact tidy_len (by simp)
theorem l_sizes_init {A N : Int} {hs : List DV} {μ : DM} (hl : hs.length ≤ 4) (hb : hOkD A N 0 hs = true) : f_Sizes___init__ [.ref μ.length, .tup hs] (μ ++ [.obj "Sizes" []]) = .ok .non (μ ++ [.obj "Sizes" [("helps", .ref (μ.length + 1))], .lst ((hSzD [] hs).map SZ.enc)]) := by
  have go : ∀ (l : List DV) (acc : List SZ) (w : Option DV) (M : Nat), hOkD A N acc.length l = true → (∀ z ∈ acc, z.le M) → 1 ≤ M → M * 128 ^ (5 * l.length) < 2 ^ 300 → acc.length + l.length ≤ 1000 → ∃ w', sFor.go (tgN 2) (sExpr (mAppend (mFld (mVar 0) "helps") (mMeth "Sizes" "size" 2 f_Sizes_size (mVar 0) (mCons (mVar 2) (mNil))))) (hs, none) l
      [some (.ref μ.length), some (.tup hs), w] (μ ++ [.obj "Sizes" [("helps", .ref (μ.length + 1))], .lst (acc.map SZ.enc)]) = .nx [some (.ref μ.length), some (.tup hs), w'] (μ ++ [.obj "Sizes" [("helps", .ref (μ.length + 1))], .lst ((hSzD acc l).map SZ.enc)]) := by
    intro l
    induction l with
    | nil => intro acc w M _ _ _ _ _; exact ⟨w, by rw [go_nil rfl]; rfl⟩
    | cons x l ih =>
      intro acc w M h1 h2 h3 h4 h5
      rw [List.length_cons] at h5
      simp only [hOkD, Bool.and_eq_true] at h1
      have e4 : M * 128 ^ (5 * (x :: l).length) = M * 128 ^ 5 * 128 ^ (5 * l.length) := by
        rw [List.length_cons, Nat.mul_add, Nat.pow_add, Nat.mul_assoc, Nat.mul_comm (128 ^ (5 * l.length))]
      have hp2 : 1 ≤ 128 ^ (5 * l.length) := Nat.one_le_pow _ _ (by omega)
      have e5 : M * 128 ^ 5 ≤ M * 128 ^ 5 * 128 ^ (5 * l.length) := Nat.le_mul_of_pos_right _ (by omega)
      have ho : SzObj acc μ.length (μ ++ [.obj "Sizes" [("helps", .ref (μ.length + 1))], .lst (acc.map SZ.enc)]) := ⟨μ.length + 1, by simp, by simp⟩
      have eo := isObj_S ho (m := "size") (by decide)
      have e := l_size (J := ⟨A, N, acc.length⟩) (hs := acc) (M := M) (by simp) h2 h3 5 24 x _ (by decide) (by omega) ho h1.1
      obtain ⟨w', e2⟩ := ih (acc ++ [szBlk acc 5 x]) (some x) (M * 128 ^ 5) (by simpa using h1.2) (fun z hz => by
        rcases List.mem_append.mp hz with hz | hz
        · exact (h2 z hz).mono (Nat.le_mul_of_pos_right M (by decide))
        · simp at hz; subst hz; exact szBlk_le h2 h3 5 x h1.1) (by omega) (by omega) (by simp; omega)
      refine ⟨w', ?_⟩
      rw [go_cons rfl (ρ1 := [some (.ref μ.length), some (.tup hs), some x]) rfl (ρ2 := [some (.ref μ.length), some (.tup hs), some x]) (μ2 := μ ++ [.obj "Sizes" [("helps", .ref (μ.length + 1))], .lst ((acc ++ [szBlk acc 5 x]).map SZ.enc)]) (by
        simp [DV.lst, eo, e, show acc.length < 16777216 by omega, List.set_append]), e2]
      rfl
  obtain ⟨w', e⟩ := go hs [] none 1 hb (by simp) (by omega) (by
    have : 128 ^ (5 * hs.length) ≤ 128 ^ (5 * 4) := Nat.pow_le_pow_right (by omega) (by omega)
    have h2 : 128 ^ (5 * 4) < 2 ^ 300 := by decide
    omega) (by simp; omega)
  unfold f_Sizes___init__ runFn
  simp [b_Sizes___init__, fPut, List.set_append]
  simp at e
  rw [e]
  show tidy _ _ _ = _
  unfold tidy
  rw [if_neg ?_]
  rintro ⟨_, _, h3⟩
  have := h3 μ.length (by simp)
  simp [DC.und, DV.undL, DV.und] at this
end Lw

namespace Lw
open PySem L2 Md
def isProg : DV → Bool
  | .tup [a, n, .tup hs, b] => isBtw a 1 4 && (isBtw n 1 8 && (decide (hs.length ≤ 4) && (hOkD (iI a) (iI n) 0 hs && (isBlk ⟨iI a, iI n, hs.length⟩ 5 b && (decide ((szBlk (hSzD [] hs) 5 b).t ≤ 150) && (decide ((szBlk (hSzD [] hs) 5 b).m ≤ 12) && decide ((szBlk (hSzD [] hs) 5 b).s ≤ 16)))))))
  | _ => false
def hBs (A N : Int) : Nat → List DV → List Bool
  | _, [] => []
  | i, b :: hs => isBlk ⟨A, N, i⟩ 5 b :: hBs A N (i + 1) hs
theorem hBs_all {A N : Int} : ∀ (hs : List DV) (i : Nat), (hBs A N i hs).all id = hOkD A N i hs
  | [], _ => rfl
  | b :: hs, i => by simp [hBs, hOkD, hBs_all hs]
theorem hBs_len {A N : Int} : ∀ (hs : List DV) (i : Nat), (hBs A N i hs).length = hs.length
  | [], _ => rfl
  | b :: hs, i => by simp [hBs, hBs_len hs]
theorem judge_go {A N : Int} {ρ : DE} (h1 : ρ[1]? = some (some (.int A))) (h2 : ρ[2]? = some (some (.int N))) (hl : ρ.length = 10) {s0 : Src} (hs0 : s0.2 = none) : ∀ (hs : List DV) (i : Nat) (acc : List DV) (μ : DM), acc.length + hs.length ≤ 1000 → DV.undL μ.length hs = true → szDL hs = true →
    ∃ T, mLc.go (tgTup 2 (tgCons (tgN 8) (tgCons (tgN 9) (tgNil)))) mYes (mMeth "Judge" "is_block" 3 f_Judge_is_block (mNew "Judge" 4 f_Judge___init__ (mCons (mVar 1) (mCons (mVar 2) (mCons (mVar 8) (mNil))))) (mCons (mVar 9) (mCons (mC (.int 5)) (mNil)))) s0 ρ (enD i hs) acc μ = .ok (acc ++ (hBs A N i hs).map .bl) (μ ++ T)
  | [], i, acc, μ, _, _, _ => ⟨[], by simp [mLc.go, okAt, hs0, enD, hBs]⟩
  | b :: hs, i, acc, μ, hn, hu, hz => by
    simp only [DV.undL, szDL, Bool.and_eq_true] at hu hz
    rw [List.length_cons] at hn
    have hJ : (μ ++ [(⟨A, N, i⟩ : JD).obj])[μ.length]? = some (⟨A, N, i⟩ : JD).obj := by simp
    have e1 := l_judge_init (a := .int A) (b := .int N) (c := .int i) (μ := μ)
    have e2 := l_blk (J := ⟨A, N, i⟩) (o := μ.length) 5 24 b (μ ++ [(⟨A, N, i⟩ : JD).obj]) (by decide) hJ (und_more (by simp) b hu.1) hz.1
    have eo := isObj_J hJ (m := "is_block") (by decide)
    obtain ⟨T, e3⟩ := judge_go h1 h2 hl hs0 hs (i + 1) (acc ++ [.bl (isBlk ⟨A, N, i⟩ 5 b)]) (μ ++ [(⟨A, N, i⟩ : JD).obj]) (by simp; omega) (und_moreL (by simp) hs hu.2) hz.2
    refine ⟨(⟨A, N, i⟩ : JD).obj :: T, ?_⟩
    rw [enD, mLc.go, if_pos ⟨by rw [hs0]; rfl, by show acc.length < 16777216; omega⟩]
    have r1 : ((ρ.set 8 (some (.int (i : Int)))).set 9 (some b))[1]? = some (some (.int A)) := by simpa using h1
    have r2 : ((ρ.set 8 (some (.int (i : Int)))).set 9 (some b))[2]? = some (some (.int N)) := by simpa using h2
    have r8 : ((ρ.set 8 (some (.int (i : Int)))).set 9 (some b))[8]? = some (some (.int (i : Int))) := by simp [hl]
    have r9 : ((ρ.set 8 (some (.int (i : Int)))).set 9 (some b))[9]? = some (some b) := by simp [hl]
    have e2' : f_Judge_is_block [.ref μ.length, b, .int 5] (μ ++ [(⟨A, N, i⟩ : JD).obj]) = .ok (.bl (isBlk ⟨A, N, i⟩ 5 b)) (μ ++ [(⟨A, N, i⟩ : JD).obj]) := e2
    have e1' : f_Judge___init__ [.ref μ.length, .int A, .int N, .int (i : Int)] (μ ++ [.obj "Judge" []]) = .ok .non (μ ++ [(⟨A, N, i⟩ : JD).obj]) := e1
    have v1 : ∀ μ, mVar 1 ((ρ.set 8 (some (.int (i : Int)))).set 9 (some b)) μ = .ok (.int A) μ := fun _ => x_var r1
    have v2 : ∀ μ, mVar 2 ((ρ.set 8 (some (.int (i : Int)))).set 9 (some b)) μ = .ok (.int N) μ := fun _ => x_var r2
    simp [hl, mYes, v1, v2, e1', eo, e2', e3, hBs]
theorem l_isProg {v : DV} {μ : DM} (hu : v.und μ.length = true) (hz : szD v = true) : f_is_program [v] μ = .ok (.bl (isProg v)) μ := by
  have e0 := l_isTup (n := 4) hu
  cases q : isTup v 4 with
  | false =>
    rw [q] at e0
    have : isProg v = false := by
      unfold isProg
      split
      · simp [isTup] at q
      · rfl
    rw [this]
    refine run_rt rfl ?_
    have e0' : f_is_tuple_of [v, .int 4] μ = .ok (.bl false) μ := e0
    simp [b_is_program, e0']
  | true =>
    rw [q] at e0
    have e0' : f_is_tuple_of [v, .int 4] μ = .ok (.bl true) μ := e0
    match v, q with
    | .tup [a, n, h, b], _ =>
    simp only [DV.und, DV.undL, szD, szDL, Bool.and_eq_true] at hu hz
    have ea := l_btw (a := 1) (b := 4) hu.1
    have en := l_btw (a := 1) (b := 8) hu.2.1
    cases qa : isBtw a 1 4 with
    | false =>
      rw [qa] at ea
      refine run_rt rfl ?_
      have : isProg (.tup [a, n, h, b]) = false := by unfold isProg; split <;> simp_all
      rw [this]
      simp [b_is_program, e0', ea]
    | true =>
    rw [qa] at ea
    cases qn : isBtw n 1 8 with
    | false =>
      rw [qn] at en
      refine run_rt rfl ?_
      have : isProg (.tup [a, n, h, b]) = false := by unfold isProg; split <;> simp_all
      rw [this]
      simp [b_is_program, e0', ea, en]
    | true =>
    rw [qn] at en
    have g3 : ∀ μ, gIx (.tup [a, n, h, b]) (.int 3) μ = .ok b μ := fun μ => gIx_nat (k := 3) rfl
    cases h with
    | tup hs =>
      by_cases hl : hs.length ≤ 4
      · obtain ⟨A, rfl⟩ : ∃ A : Int, a = .int A := by cases a <;> first | exact ⟨_, rfl⟩ | simp [isBtw] at qa
        obtain ⟨N, rfl⟩ : ∃ N : Int, n = .int N := by cases n <;> first | exact ⟨_, rfl⟩ | simp [isBtw] at qn
        have uh : DV.undL μ.length hs = true := hu.2.2.1
        have zh : szDL hs = true := by have := hz.2.2.2.1; simp only [szD, Bool.and_eq_true] at this; exact this.2
        have hl' : ¬ (4 : Int) < hs.length := by omega
        obtain ⟨T, e1⟩ := judge_go (A := A) (N := N) (ρ := [some (.tup [.int A, .int N, .tup hs, b]), some (.int A), some (.int N), some (.tup hs), some b, none, none, none, none, none]) rfl rfl rfl (s0 := (enD 0 hs, none)) rfl hs 0 [] μ (by simp; omega) uh zh
        have e1' : mLc [8, 9] (mEnum (mVar 3)) (tgTup 2 (tgCons (tgN 8) (tgCons (tgN 9) (tgNil)))) mYes (mMeth "Judge" "is_block" 3 f_Judge_is_block (mNew "Judge" 4 f_Judge___init__ (mCons (mVar 1) (mCons (mVar 2) (mCons (mVar 8) (mNil))))) (mCons (mVar 9) (mCons (mC (.int 5)) (mNil))))
            [some (.tup [.int A, .int N, .tup hs, b]), some (.int A), some (.int N), some (.tup hs), some b, none, none, none, none, none] μ = .ok ((hBs A N 0 hs).map .bl) (μ ++ T) := by
          unfold mLc
          simp [wipeD, e1]
        have a1 := fun μ => g_all (μ := μ) (f := id) (L := hBs A N 0 hs)
        simp only [id, hBs_all] at a1
        have pA : isProg (.tup [.int A, .int N, .tup hs, b]) = (hOkD A N 0 hs && (isBlk ⟨A, N, hs.length⟩ 5 b && (decide ((szBlk (hSzD [] hs) 5 b).t ≤ 150) && (decide ((szBlk (hSzD [] hs) 5 b).m ≤ 12) && decide ((szBlk (hSzD [] hs) 5 b).s ≤ 16))))) := by
          simp [isProg, qa, qn, hl, iI]
        rw [pA]
        cases q1 : hOkD A N 0 hs with
        | false =>
          rw [q1] at a1
          refine run_rtA (t := T) rfl rfl ?_
          simp [b_is_program, e0', ea, en, hl', isOf, isTy, DV.ty, g3, e1', a1]
        | true =>
          rw [q1] at a1
          have hJ : (μ ++ T ++ [(⟨A, N, hs.length⟩ : JD).obj])[(μ ++ T).length]? = some (⟨A, N, hs.length⟩ : JD).obj := by simp
          have f1 := l_judge_init (a := .int A) (b := .int N) (c := .int hs.length) (μ := μ ++ T)
          have f2 : f_Judge_is_block [.ref (μ ++ T).length, b, .int 5] (μ ++ T ++ [(⟨A, N, hs.length⟩ : JD).obj]) = .ok (.bl (isBlk ⟨A, N, hs.length⟩ 5 b)) (μ ++ T ++ [(⟨A, N, hs.length⟩ : JD).obj]) := l_blk (J := ⟨A, N, hs.length⟩) (o := (μ ++ T).length) 5 24 b _ (by decide) hJ (und_more (by simp) b hu.2.2.2.1) hz.2.2.2.2.1
          have fo := isObj_J hJ (m := "is_block") (by decide)
          have f1' : f_Judge___init__ [.ref (μ ++ T).length, .int A, .int N, .int hs.length] (μ ++ T ++ [.obj "Judge" []]) = .ok .non (μ ++ T ++ [(⟨A, N, hs.length⟩ : JD).obj]) := f1
          simp only [List.length_append] at f1' f2 fo
          cases q2 : isBlk ⟨A, N, hs.length⟩ 5 b with
          | false =>
            rw [q2] at f2
            refine run_rtA (t := T ++ [(⟨A, N, hs.length⟩ : JD).obj]) rfl rfl ?_
            simp at f1' f2 fo
            simp [b_is_program, e0', ea, en, hl', isOf, isTy, DV.ty, g3, e1', a1, f1', f2, fo]
          | true =>
            rw [q2] at f2
            have g1 := l_sizes_init (A := A) (N := N) (μ := μ ++ T ++ [(⟨A, N, hs.length⟩ : JD).obj]) hl q1
            have ho : SzObj (hSzD [] hs) (μ ++ T ++ [(⟨A, N, hs.length⟩ : JD).obj]).length (μ ++ T ++ [(⟨A, N, hs.length⟩ : JD).obj] ++ [.obj "Sizes" [("helps", .ref ((μ ++ T ++ [(⟨A, N, hs.length⟩ : JD).obj]).length + 1))], .lst ((hSzD [] hs).map SZ.enc)]) := ⟨(μ ++ T ++ [(⟨A, N, hs.length⟩ : JD).obj]).length + 1, by simp, by rw [st_at]; rfl⟩
            have go := isObj_S ho (m := "size") (by decide)
            have hle := hSzD_le (A := A) (N := N) hs [] 1 (by simp) (by omega) q1
            have hpw : 1 * 128 ^ (5 * hs.length) ≤ 128 ^ 20 := by rw [Nat.one_mul]; exact Nat.pow_le_pow_right (by omega) (by omega)
            have hp1 : 1 ≤ 128 ^ (5 * hs.length) := Nat.one_le_pow _ _ (by omega)
            have g2 : f_Sizes_size [.ref (μ ++ T ++ [(⟨A, N, hs.length⟩ : JD).obj]).length, b] _ = _ := l_size (J := ⟨A, N, hs.length⟩) (M := 128 ^ 20) (by simp [hSzD_len]) (fun z hz => (hle z hz).mono hpw) (by decide) 5 24 b _ (by decide) (by decide) ho q2
            refine run_rtA (t := T ++ [(⟨A, N, hs.length⟩ : JD).obj, .obj "Sizes" [("helps", .ref ((μ ++ T ++ [(⟨A, N, hs.length⟩ : JD).obj]).length + 1))], .lst ((hSzD [] hs).map SZ.enc)]) rfl rfl ?_
            simp at f1' f2 fo g1 g2 go
            generalize szBlk (hSzD [] hs) 5 b = z at *
            simp [b_is_program, e0', ea, en, hl', isOf, isTy, DV.ty, g3, e1', a1, f1', f2, fo, g1, g2, go, SZ.enc]
            by_cases z1 : z.t ≤ 150 <;> by_cases z2 : z.m ≤ 12 <;> by_cases z3 : z.s ≤ 16 <;> simp [z1, z2, z3, show ((z.t : Int) ≤ 150) = (z.t ≤ 150) by simp; omega, show ((z.m : Int) ≤ 12) = (z.m ≤ 12) by simp; omega, show ((z.s : Int) ≤ 16) = (z.s ≤ 16) by simp; omega]
      · have hl' : (4 : Int) < hs.length := by omega
        have : isProg (.tup [a, n, .tup hs, b]) = false := by simp [isProg, hl]
        rw [this]
        refine run_rt rfl ?_
        simp [b_is_program, e0', ea, en, isOf, isTy, DV.ty, hl']
    | ref k =>
      have hk : k < μ.length := by have := hu.2.2.1; simpa [DV.und] using this
      refine run_rt rfl ?_
      simp [b_is_program, e0', ea, en, hk, isProg]
    | _ =>
      refine run_rt rfl ?_
      simp [b_is_program, e0', ea, en, isOf, isTy, DV.ty, isProg]
end Lw
namespace Lw
open PySem L2 Md
/-! ## statements, typed -/
inductive St where
  | cut (a p : Nat) (s : Rat) (q : Nat)
  | part (a p : Nat) (s : Rat) (q : Nat)
  | like (a p r q : Nat)
  | best (a : Nat) (ps : List Nat) (q : Nat)
  | ask (a p r : Nat) (b c : List St)
  | over (a p : Nat) (s : Rat) (b c : List St)
  | there (p : Nat) (b c : List St)
  | give (a p : Nat)
  | move (p q : Nat)
  | swap (p q : Nat)
  | rounds (k : Nat) (b : List St)
  | doo (h : Nat)
  deriving Inhabited
def encN (n : Nat) : DV := .int (n : Int)
mutual
def St.enc : St → DV
  | .cut a p s q => .tup [.str "cut", .int a, .int p, FR s, .int q]
  | .part a p s q => .tup [.str "part", .int a, .int p, FR s, .int q]
  | .like a p r q => .tup [.str "like", .int a, .int p, .int r, .int q]
  | .best a ps q => .tup [.str "best", .int a, .tup (ps.map encN), .int q]
  | .ask a p r b c => .tup [.str "ask", .int a, .int p, .int r, .tup (encL b), .tup (encL c)]
  | .over a p s b c => .tup [.str "over", .int a, .int p, FR s, .tup (encL b), .tup (encL c)]
  | .there p b c => .tup [.str "there", .int p, .tup (encL b), .tup (encL c)]
  | .give a p => .tup [.str "give", .int a, .int p]
  | .move p q => .tup [.str "move", .int p, .int q]
  | .swap p q => .tup [.str "swap", .int p, .int q]
  | .rounds k b => .tup [.str "rounds", .int k, .tup (encL b)]
  | .doo h => .tup [.str "do", .int h]
def encL : List St → List DV
  | [] => []
  | x :: xs => x.enc :: encL xs
end
theorem encL_map : ∀ l : List St, encL l = l.map St.enc
  | [] => rfl
  | x :: l => by simp [encL, encL_map l]
/-- a share -/
def shOk (s : Rat) : Bool := decide (0 ≤ s.num ∧ s.num ≤ s.den ∧ s.den ≤ 1000)
mutual
/-- right for so many sharers, pieces, helps -/
def St.ok (A N H : Nat) : St → Bool
  | .cut a p s q => decide (a < A ∧ p < N ∧ q < N ∧ p ≠ q) && shOk s
  | .part a p s q => decide (a < A ∧ p < N ∧ q < N ∧ p ≠ q) && shOk s
  | .like a p r q => decide (a < A ∧ p < N ∧ r < N ∧ q < N ∧ p ≠ q ∧ p ≠ r ∧ q ≠ r)
  | .best a ps q => decide (a < A ∧ q < N ∧ 0 < ps.length ∧ ps.length ≤ 8 ∧ ps.Pairwise (· < ·) ∧ q ∉ ps) && ps.all (fun p => decide (p < N))
  | .ask a p r b c => decide (a < A ∧ p < N ∧ r < N ∧ p ≠ r ∧ b.length ≤ 20 ∧ c.length ≤ 20) && (okL A N H b && okL A N H c)
  | .over a p s b c => decide (a < A ∧ p < N ∧ b.length ≤ 20 ∧ c.length ≤ 20) && shOk s && (okL A N H b && okL A N H c)
  | .there p b c => decide (p < N ∧ b.length ≤ 20 ∧ c.length ≤ 20) && (okL A N H b && okL A N H c)
  | .give a p => decide (a < A ∧ p < N)
  | .move p q => decide (p < N ∧ q < N ∧ p ≠ q)
  | .swap p q => decide (p < N ∧ q < N ∧ p ≠ q)
  | .rounds k b => decide (k ≤ 4 ∧ b.length ≤ 20) && okL A N H b
  | .doo h => decide (h < H)
def okL (A N H : Nat) : List St → Bool
  | [] => true
  | x :: xs => x.ok A N H && okL A N H xs
end
theorem okL_mem {A N H : Nat} : ∀ {l : List St}, okL A N H l = true ↔ ∀ x ∈ l, x.ok A N H = true
  | [] => by simp [okL]
  | x :: l => by simp [okL, okL_mem (l := l)]
mutual
/-- how many blocks within one another -/
def St.dp : St → Nat
  | .ask _ _ _ b c => max (dpL b) (dpL c)
  | .over _ _ _ b c => max (dpL b) (dpL c)
  | .there _ b c => max (dpL b) (dpL c)
  | .rounds _ b => dpL b
  | _ => 0
def dpL : List St → Nat
  | [] => 1
  | x :: xs => max (x.dp + 1) (dpL xs)
end
theorem dpL_pos : ∀ l : List St, 1 ≤ dpL l
  | [] => Nat.le_refl _
  | x :: l => by rw [dpL]; have := dpL_pos l; omega
theorem dpL_mem : ∀ {l : List St} {x : St}, x ∈ l → x.dp + 1 ≤ dpL l
  | y :: l, x, h => by
    rw [dpL]
    rcases List.mem_cons.mp h with rfl | h
    · omega
    · have := dpL_mem h; omega
theorem t_apsq : "apsq".toList = ['a', 'p', 's', 'q'] := by decide
theorem t_aprq : "aprq".toList = ['a', 'p', 'r', 'q'] := by decide
theorem t_amq : "amq".toList = ['a', 'm', 'q'] := by decide
theorem t_aprbb : "aprbb".toList = ['a', 'p', 'r', 'b', 'b'] := by decide
theorem t_apsbb : "apsbb".toList = ['a', 'p', 's', 'b', 'b'] := by decide
theorem t_pbb : "pbb".toList = ['p', 'b', 'b'] := by decide
theorem t_ap : "ap".toList = ['a', 'p'] := by decide
theorem t_pq : "pq".toList = ['p', 'q'] := by decide
theorem t_kb : "kb".toList = ['k', 'b'] := by decide
theorem t_h : "h".toList = ['h'] := by decide
theorem t_prq : "prq".toList = ['p', 'r', 'q'] := by decide
theorem btw_n {n : Nat} {a b : Int} : isBtw (.int (n : Int)) a b = decide (a ≤ n ∧ (n : Int) ≤ b) := by
  simp [isBtw]
end Lw

namespace Lw
open PySem L2 Md
/-! ## told out, counted -/
mutual
def St.out (hs : List (List St)) : St → List St
  | .doo h => hs.getD h []
  | .rounds k b => (List.replicate k (outL hs b)).flatten
  | .ask a p r b c => [.ask a p r (outL hs b) (outL hs c)]
  | .over a p s b c => [.over a p s (outL hs b) (outL hs c)]
  | .there p b c => [.there p (outL hs b) (outL hs c)]
  | .cut a p s q => [.cut a p s q]
  | .part a p s q => [.part a p s q]
  | .like a p r q => [.like a p r q]
  | .best a ps q => [.best a ps q]
  | .give a p => [.give a p]
  | .move p q => [.move p q]
  | .swap p q => [.swap p q]
def outL (hs : List (List St)) : List St → List St
  | [] => []
  | x :: xs => x.out hs ++ outL hs xs
end
mutual
/-- nothing but what is told out -/
def St.nrd : St → Bool
  | .ask _ _ _ b c => nrdL b && nrdL c
  | .over _ _ _ b c => nrdL b && nrdL c
  | .there _ b c => nrdL b && nrdL c
  | .rounds _ _ => false
  | .doo _ => false
  | _ => true
def nrdL : List St → Bool
  | [] => true
  | x :: xs => x.nrd && nrdL xs
end
theorem nrdL_mem : ∀ {l : List St}, nrdL l = true ↔ ∀ x ∈ l, x.nrd = true
  | [] => by simp [nrdL]
  | x :: l => by simp [nrdL, nrdL_mem (l := l)]
theorem nrdL_app {a b : List St} : nrdL (a ++ b) = (nrdL a && nrdL b) := by
  induction a with
  | nil => simp [nrdL]
  | cons x a ih => simp [nrdL, ih, Bool.and_assoc]
theorem nrdL_flat : ∀ {l : List (List St)}, (∀ b ∈ l, nrdL b = true) → nrdL l.flatten = true
  | [], _ => rfl
  | x :: l, h => by
    rw [List.flatten_cons, nrdL_app, h x (by simp), nrdL_flat fun b hb => h b (by simp [hb])]; rfl
mutual
theorem St.out_nrd {hs : List (List St)} (h : ∀ b ∈ hs, nrdL b = true) : ∀ x : St, nrdL (x.out hs) = true
  | .doo k => by
    simp only [St.out, List.getD]
    cases q : hs[k]? with
    | none => rfl
    | some b => exact h b (List.mem_of_getElem? q)
  | .rounds k b => by
    rw [St.out]
    exact nrdL_flat fun c hc => by rw [List.eq_of_mem_replicate hc]; exact outL_nrd h b
  | .ask a p r b c => by simp [St.out, nrdL, St.nrd, outL_nrd h b, outL_nrd h c]
  | .over a p s b c => by simp [St.out, nrdL, St.nrd, outL_nrd h b, outL_nrd h c]
  | .there p b c => by simp [St.out, nrdL, St.nrd, outL_nrd h b, outL_nrd h c]
  | .cut .. => rfl
  | .part .. => rfl
  | .like .. => rfl
  | .best .. => rfl
  | .give .. => rfl
  | .move .. => rfl
  | .swap .. => rfl
theorem outL_nrd {hs : List (List St)} (h : ∀ b ∈ hs, nrdL b = true) : ∀ l : List St, nrdL (outL hs l) = true
  | [] => rfl
  | x :: l => by rw [outL, nrdL_app, St.out_nrd h x, outL_nrd h l]; rfl
end
mutual
/-- right, blocks of any length -/
def St.okT (A N : Nat) : St → Bool
  | .cut a p s q => decide (a < A ∧ p < N ∧ q < N ∧ p ≠ q) && shOk s
  | .part a p s q => decide (a < A ∧ p < N ∧ q < N ∧ p ≠ q) && shOk s
  | .like a p r q => decide (a < A ∧ p < N ∧ r < N ∧ q < N ∧ p ≠ q ∧ p ≠ r ∧ q ≠ r)
  | .best a ps q => decide (a < A ∧ q < N ∧ 0 < ps.length ∧ ps.length ≤ 8 ∧ ps.Pairwise (· < ·) ∧ q ∉ ps) && ps.all (fun p => decide (p < N))
  | .ask a p r b c => decide (a < A ∧ p < N ∧ r < N ∧ p ≠ r) && (okTL A N b && okTL A N c)
  | .over a p s b c => decide (a < A ∧ p < N) && shOk s && (okTL A N b && okTL A N c)
  | .there p b c => decide (p < N) && (okTL A N b && okTL A N c)
  | .give a p => decide (a < A ∧ p < N)
  | .move p q => decide (p < N ∧ q < N ∧ p ≠ q)
  | .swap p q => decide (p < N ∧ q < N ∧ p ≠ q)
  | .rounds _ _ => false
  | .doo _ => false
def okTL (A N : Nat) : List St → Bool
  | [] => true
  | x :: xs => x.okT A N && okTL A N xs
end
theorem okTL_mem {A N : Nat} : ∀ {l : List St}, okTL A N l = true ↔ ∀ x ∈ l, x.okT A N = true
  | [] => by simp [okTL]
  | x :: l => by simp [okTL, okTL_mem (l := l)]
theorem okTL_app {A N : Nat} {a b : List St} : okTL A N (a ++ b) = (okTL A N a && okTL A N b) := by
  induction a with
  | nil => simp [okTL]
  | cons x a ih => simp [okTL, ih, Bool.and_assoc]
theorem okTL_flat {A N : Nat} : ∀ {l : List (List St)}, (∀ b ∈ l, okTL A N b = true) → okTL A N l.flatten = true
  | [], _ => rfl
  | x :: l, h => by
    rw [List.flatten_cons, okTL_app, h x (by simp), okTL_flat fun b hb => h b (by simp [hb])]; rfl
mutual
theorem St.out_ok {A N H : Nat} {hs : List (List St)} (h : ∀ b ∈ hs, okTL A N b = true) : ∀ x : St, x.ok A N H = true → okTL A N (x.out hs) = true
  | .doo k, _ => by
    simp only [St.out, List.getD]
    cases q : hs[k]? with
    | none => rfl
    | some b => exact h b (List.mem_of_getElem? q)
  | .rounds k b, e => by
    rw [St.out]
    simp only [St.ok, Bool.and_eq_true] at e
    exact okTL_flat fun c hc => by rw [List.eq_of_mem_replicate hc]; exact outL_ok h b e.2
  | .ask a p r b c, e => by
    simp only [St.ok, Bool.and_eq_true, decide_eq_true_eq] at e
    simp [St.out, okTL, St.okT, outL_ok h b e.2.1, outL_ok h c e.2.2, e.1]
  | .over a p s b c, e => by
    simp only [St.ok, Bool.and_eq_true, decide_eq_true_eq] at e
    simp [St.out, okTL, St.okT, outL_ok h b e.2.1, outL_ok h c e.2.2, e.1]
  | .there p b c, e => by
    simp only [St.ok, Bool.and_eq_true, decide_eq_true_eq] at e
    simp [St.out, okTL, St.okT, outL_ok h b e.2.1, outL_ok h c e.2.2, e.1]
  | .cut .., e => by simpa [St.out, okTL, St.okT, St.ok] using e
  | .part .., e => by simpa [St.out, okTL, St.okT, St.ok] using e
  | .like .., e => by simpa [St.out, okTL, St.okT, St.ok] using e
  | .best .., e => by simpa [St.out, okTL, St.okT, St.ok] using e
  | .give .., e => by simpa [St.out, okTL, St.okT, St.ok] using e
  | .move .., e => by simpa [St.out, okTL, St.okT, St.ok] using e
  | .swap .., e => by simpa [St.out, okTL, St.okT, St.ok] using e
theorem outL_ok {A N H : Nat} {hs : List (List St)} (h : ∀ b ∈ hs, okTL A N b = true) : ∀ l : List St, okL A N H l = true → okTL A N (outL hs l) = true
  | [], _ => rfl
  | x :: l, e => by
    simp only [okL, Bool.and_eq_true] at e
    rw [outL, okTL_app, St.out_ok h x e.1, outL_ok h l e.2]; rfl
end
mutual
def St.sz (hs : List SZ) : St → SZ
  | .doo h => hs.getD h ⟨0, 0, 0⟩
  | .rounds k b => ⟨k * (szL hs b).t, k * (szL hs b).m, k * (szL hs b).s⟩
  | .ask _ _ _ b c => ⟨1 + ((szL hs b).t + (szL hs c).t), max (szL hs b).m (szL hs c).m, max (szL hs b).s (szL hs c).s + 1⟩
  | .over _ _ _ b c => ⟨1 + ((szL hs b).t + (szL hs c).t), max (szL hs b).m (szL hs c).m, max (szL hs b).s (szL hs c).s + 1⟩
  | .there _ b c => ⟨1 + ((szL hs b).t + (szL hs c).t), max (szL hs b).m (szL hs c).m, max (szL hs b).s (szL hs c).s⟩
  | .cut .. => ⟨1, 1, 0⟩
  | .part .. => ⟨1, 1, 0⟩
  | .like .. => ⟨1, 1, 0⟩
  | .best .. => ⟨1, 0, 1⟩
  | .give .. => ⟨1, 0, 0⟩
  | .move .. => ⟨1, 0, 0⟩
  | .swap .. => ⟨1, 0, 0⟩
def szL (hs : List SZ) : List St → SZ
  | [] => ⟨0, 0, 0⟩
  | x :: xs => ⟨(x.sz hs).t + (szL hs xs).t, (x.sz hs).m + (szL hs xs).m, (x.sz hs).s + (szL hs xs).s⟩
end
theorem szL_app {hs : List SZ} {a b : List St} : szL hs (a ++ b) = ⟨(szL hs a).t + (szL hs b).t, (szL hs a).m + (szL hs b).m, (szL hs a).s + (szL hs b).s⟩ := by
  induction a with
  | nil => simp [szL]
  | cons x a ih => simp [szL, ih, Nat.add_assoc]
theorem szL_rep {hs : List SZ} {b : List St} : ∀ k : Nat, szL hs (List.replicate k b).flatten = ⟨k * (szL hs b).t, k * (szL hs b).m, k * (szL hs b).s⟩
  | 0 => by simp [szL]
  | k + 1 => by
    rw [List.replicate_succ, List.flatten_cons, szL_app, szL_rep k]
    simp [Nat.succ_mul, Nat.add_comm]
mutual
theorem St.sz_out {hs : List (List St)} : ∀ x : St, x.sz (hs.map (szL [])) = szL [] (x.out hs)
  | .doo k => by
    simp only [St.out, St.sz, List.getD, List.getElem?_map]
    cases q : hs[k]? <;> simp [szL]
  | .rounds k b => by rw [St.out, szL_rep, St.sz, szL_out b]
  | .ask a p r b c => by simp [St.out, St.sz, szL, szL_out b, szL_out c]
  | .over a p s b c => by simp [St.out, St.sz, szL, szL_out b, szL_out c]
  | .there p b c => by simp [St.out, St.sz, szL, szL_out b, szL_out c]
  | .cut .. => rfl
  | .part .. => rfl
  | .like .. => rfl
  | .best .. => rfl
  | .give .. => rfl
  | .move .. => rfl
  | .swap .. => rfl
theorem szL_out {hs : List (List St)} : ∀ l : List St, szL (hs.map (szL [])) l = szL [] (outL hs l)
  | [] => rfl
  | x :: l => by rw [outL, szL_app, szL, St.sz_out x, szL_out l]
end
/-- helps told out, one behind another -/
def hOut : List (List St) → List (List St) → List (List St)
  | acc, [] => acc
  | acc, b :: hs => hOut (acc ++ [outL acc b]) hs
structure Pg where
  A : Nat
  N : Nat
  hs : List (List St)
  b : List St
  deriving Inhabited
def Pg.enc (P : Pg) : DV := .tup [.int P.A, .int P.N, .tup (P.hs.map fun b => .tup (encL b)), .tup (encL P.b)]
def Pg.told (P : Pg) : List St := outL (hOut [] P.hs) P.b
def Pg.ok (P : Pg) : Prop := (1 ≤ P.A ∧ P.A ≤ 4) ∧ (1 ≤ P.N ∧ P.N ≤ 8) ∧ P.hs.length ≤ 4 ∧ (∀ (i : Nat) (b : List St), P.hs[i]? = some b → okL P.A P.N i b = true ∧ b.length ≤ 20 ∧ dpL b ≤ 5) ∧ okL P.A P.N P.hs.length P.b = true ∧ P.b.length ≤ 20 ∧ dpL P.b ≤ 5
def hSz : List SZ → List (List St) → List SZ
  | acc, [] => acc
  | acc, b :: hs => hSz (acc ++ [szL acc b]) hs
theorem hSz_out : ∀ (hs acc : List (List St)), hSz (acc.map (szL [])) hs = (hOut acc hs).map (szL [])
  | [], acc => rfl
  | b :: hs, acc => by
    rw [hSz, hOut, szL_out, ← hSz_out hs]
    simp
theorem hOut_ok {A N : Nat} : ∀ (hs acc : List (List St)), (∀ b ∈ acc, okTL A N b = true) → (∀ b ∈ hs, ∃ H, okL A N H b = true) → ∀ b ∈ hOut acc hs, okTL A N b = true
  | [], acc, h, _ => h
  | b :: hs, acc, h, g => by
    rw [hOut]
    refine hOut_ok hs _ (fun c hc => ?_) fun c hc => g c (by simp [hc])
    rcases List.mem_append.mp hc with hc | hc
    · exact h c hc
    · simp at hc; subst hc
      obtain ⟨H, e⟩ := g b (by simp)
      exact outL_ok h b e
theorem hOut_nrd : ∀ (hs acc : List (List St)), (∀ b ∈ acc, nrdL b = true) → ∀ b ∈ hOut acc hs, nrdL b = true
  | [], acc, h => h
  | b :: hs, acc, h => by
    rw [hOut]
    refine hOut_nrd hs _ (fun c hc => ?_)
    rcases List.mem_append.mp hc with hc | hc
    · exact h c hc
    · simp at hc; subst hc; exact outL_nrd h b
theorem Pg.told_ok {P : Pg} (h : P.ok) : okTL P.A P.N P.told = true := by
  refine outL_ok (H := P.hs.length) (fun b hb => hOut_ok P.hs [] (by simp) (fun c hc => ?_) b hb) P.b h.2.2.2.2.1
  obtain ⟨i, hi⟩ := List.mem_iff_getElem?.mp hc
  exact ⟨i, (h.2.2.2.1 i c hi).1⟩
theorem Pg.told_nrd {P : Pg} : nrdL P.told = true := outL_nrd (fun b hb => hOut_nrd P.hs [] (by simp) b hb) P.b
end Lw

namespace Lw
open PySem L2 Md
theorem isShr_FR {s : Rat} (h : shOk s = true) : isShr (FR s) = true := by
  simp only [shOk, decide_eq_true_eq] at h
  have h2 : 0 ≤ s.num ∧ s.num ≤ (s.den : Int) := ⟨h.1, h.2.1⟩
  unfold isShr
  rw [isFr_FR, Bool.true_and]
  exact decide_eq_true h2
theorem kF1 : kFind kd_FORMS "cut" = some (.str "apsq") := by simp [kd_FORMS, kFind]
theorem kF2 : kFind kd_FORMS "part" = some (.str "apsq") := by simp [kd_FORMS, kFind]
theorem kF3 : kFind kd_FORMS "like" = some (.str "aprq") := by simp [kd_FORMS, kFind]
theorem kF4 : kFind kd_FORMS "best" = some (.str "amq") := by simp [kd_FORMS, kFind]
theorem kF5 : kFind kd_FORMS "ask" = some (.str "aprbb") := by simp [kd_FORMS, kFind]
theorem kF6 : kFind kd_FORMS "over" = some (.str "apsbb") := by simp [kd_FORMS, kFind]
theorem kF7 : kFind kd_FORMS "there" = some (.str "pbb") := by simp [kd_FORMS, kFind]
theorem kF8 : kFind kd_FORMS "give" = some (.str "ap") := by simp [kd_FORMS, kFind]
theorem kF9 : kFind kd_FORMS "move" = some (.str "pq") := by simp [kd_FORMS, kFind]
theorem kF10 : kFind kd_FORMS "swap" = some (.str "pq") := by simp [kd_FORMS, kFind]
theorem kF11 : kFind kd_FORMS "rounds" = some (.str "kb") := by simp [kd_FORMS, kFind]
theorem kF12 : kFind kd_FORMS "do" = some (.str "h") := by simp [kd_FORMS, kFind]
theorem isBtw_0 {n N : Nat} (h : n < N) : isBtw (.int (n : Int)) 0 ((N : Int) - 1) = true := by
  simp [isBtw]; omega
theorem isPcs_enc {ps : List Nat} {N : Nat} (h0 : 0 < ps.length) (h1 : ps.Pairwise (· < ·)) (h2 : ps.all (fun p => decide (p < N)) = true) : isPcs N (.tup (ps.map encN)) = true := by
  simp only [isPcs, Bool.and_eq_true, decide_eq_true_eq, List.all_eq_true, List.mem_map, List.length_map]
  refine ⟨fun x ⟨p, hp, e⟩ => ?_, h0, fun i hi => ?_⟩
  · subst e
    exact isBtw_0 (of_decide_eq_true (List.all_eq_true.mp h2 p hp))
  · have hi2 : 1 ≤ i ∧ i < ps.length := by simp at hi; omega
    have := List.pairwise_iff_getElem.mp h1 (i - 1) i (by omega) hi2.2 (by omega)
    simp only [ascAt, List.getElem?_map, List.getElem?_eq_getElem (show i - 1 < ps.length by omega), List.getElem?_eq_getElem hi2.2, Option.map_some, encN]
    simpa using this
mutual
theorem St.enc_ok {A N H : Nat} : ∀ (d : Nat) (x : St), x.ok A N H = true → x.dp ≤ d → stmOk ⟨A, N, H⟩ (isBlk ⟨A, N, H⟩ d) x.enc = true
  | d, .cut a p s q, h, _ => by
    simp only [St.ok, Bool.and_eq_true, decide_eq_true_eq] at h
    simp [St.enc, stmOk, kF1, t_apsq, t_prq, zpQ, isPart, isBtw_0, h, isShr_FR, namedQ, moreQ, blksQ, Int.natCast_inj]
  | d, .part a p s q, h, _ => by
    simp only [St.ok, Bool.and_eq_true, decide_eq_true_eq] at h
    simp [St.enc, stmOk, kF2, t_apsq, t_prq, zpQ, isPart, isBtw_0, h, isShr_FR, namedQ, moreQ, blksQ, Int.natCast_inj]
  | d, .like a p r q, h, _ => by
    simp only [St.ok, Bool.and_eq_true, decide_eq_true_eq] at h
    have h5 : r ≠ q := fun e => h.2.2.2.2.2.2 e.symm
    simp [St.enc, stmOk, kF3, t_aprq, t_prq, zpQ, isPart, isBtw_0, h, namedQ, moreQ, blksQ, Int.natCast_inj, h5]
  | d, .best a ps q, h, _ => by
    simp only [St.ok, Bool.and_eq_true, decide_eq_true_eq] at h
    have h2 := isPcs_enc h.1.2.2.1 h.1.2.2.2.2.1 h.2
    have h3 : ps.Nodup := h.1.2.2.2.2.1.imp fun hh => Nat.ne_of_lt hh
    have h4 : (ps.map encN).Nodup := List.Pairwise.map encN (fun a b (hab : a ≠ b) => by simp [encN]; omega) h3
    simp [St.enc, stmOk, kF4, t_amq, t_prq, zpQ, isPart, isBtw_0, h, namedQ, moreQ, blksQ, Int.natCast_inj, rowOf, h2, h4]
    intro x hx e
    have : x = q := by simp [encN] at e; omega
    exact h.1.2.2.2.2.2 (this ▸ hx)
  | d, .ask a p r b c, h, hd => by
    simp only [St.ok, Bool.and_eq_true, decide_eq_true_eq, St.dp] at h hd
    have e1 := encL_ok d b h.2.1 (by omega) h.1.2.2.2.2.1
    have e2 := encL_ok d c h.2.2 (by omega) h.1.2.2.2.2.2
    simp [St.enc, stmOk, kF5, t_aprbb, t_prq, zpQ, isPart, isBtw_0, h, namedQ, moreQ, blksQ, Int.natCast_inj, e1, e2]
  | d, .over a p s b c, h, hd => by
    simp only [St.ok, Bool.and_eq_true, decide_eq_true_eq, St.dp] at h hd
    have e1 := encL_ok d b h.2.1 (by omega) h.1.1.2.2.1
    have e2 := encL_ok d c h.2.2 (by omega) h.1.1.2.2.2
    simp [St.enc, stmOk, kF6, t_apsbb, t_prq, zpQ, isPart, isBtw_0, h, isShr_FR, namedQ, moreQ, blksQ, Int.natCast_inj, e1, e2]
  | d, .there p b c, h, hd => by
    simp only [St.ok, Bool.and_eq_true, decide_eq_true_eq, St.dp] at h hd
    have e1 := encL_ok d b h.2.1 (by omega) h.1.2.1
    have e2 := encL_ok d c h.2.2 (by omega) h.1.2.2
    simp [St.enc, stmOk, kF7, t_pbb, t_prq, zpQ, isPart, isBtw_0, h, namedQ, moreQ, blksQ, Int.natCast_inj, e1, e2]
  | d, .give a p, h, _ => by
    simp only [St.ok, Bool.and_eq_true, decide_eq_true_eq] at h
    simp [St.enc, stmOk, kF8, t_ap, t_prq, zpQ, isPart, isBtw_0, h, namedQ, moreQ, blksQ, Int.natCast_inj]
  | d, .move p q, h, _ => by
    simp only [St.ok, Bool.and_eq_true, decide_eq_true_eq] at h
    simp [St.enc, stmOk, kF9, t_pq, t_prq, zpQ, isPart, isBtw_0, h, namedQ, moreQ, blksQ, Int.natCast_inj]
  | d, .swap p q, h, _ => by
    simp only [St.ok, Bool.and_eq_true, decide_eq_true_eq] at h
    simp [St.enc, stmOk, kF10, t_pq, t_prq, zpQ, isPart, isBtw_0, h, namedQ, moreQ, blksQ, Int.natCast_inj]
  | d, .rounds k b, h, hd => by
    simp only [St.ok, Bool.and_eq_true, decide_eq_true_eq, St.dp] at h hd
    have e1 := encL_ok d b h.2 hd h.1.2
    have e2 : isBtw (.int (k : Int)) 0 4 = true := by simp [isBtw]; omega
    simp [St.enc, stmOk, kF11, t_kb, t_prq, zpQ, isPart, e2, namedQ, moreQ, blksQ, Int.natCast_inj, e1]
  | d, .doo k, h, _ => by
    simp only [St.ok, decide_eq_true_eq] at h
    simp [St.enc, stmOk, kF12, t_h, t_prq, zpQ, isPart, isBtw_0, h, namedQ, moreQ, blksQ, Int.natCast_inj]
theorem encL_ok {A N H : Nat} : ∀ (d : Nat) (l : List St), okL A N H l = true → dpL l ≤ d → l.length ≤ 20 → isBlk ⟨A, N, H⟩ d (.tup (encL l)) = true
  | 0, l, _, h, _ => by have := dpL_pos l; omega
  | d + 1, l, h, hd, hl => by
    simp only [isBlk, Bool.and_eq_true, decide_eq_true_eq]
    exact ⟨by rw [encL_map, List.length_map]; exact hl, encA_ok d l h hd⟩
theorem encA_ok {A N H : Nat} : ∀ (d : Nat) (l : List St), okL A N H l = true → dpL l ≤ d + 1 → (encL l).all (stmOk ⟨A, N, H⟩ (isBlk ⟨A, N, H⟩ d)) = true
  | d, [], _, _ => rfl
  | d, x :: l, h, hd => by
    simp only [okL, dpL, Bool.and_eq_true] at h hd
    simp only [encL, List.all_cons, Bool.and_eq_true]
    exact ⟨St.enc_ok d x h.1 (by omega), encA_ok d l h.2 (by omega)⟩
end
theorem szStm_blks {hs : List SZ} {r : DV → SZ} {w f : String} {args : List DV} (hk : kFind kd_FORMS w = some (.str f)) (h1 : w ≠ "do") (h2 : w ≠ "rounds") : szStm hs r (.tup (.str w :: args)) = ⟨1 + ((blksQ f args).map fun b => (r b).t).sum, maxL ((blksQ f args).map fun b => (r b).m) + (if w = "cut" ∨ w = "part" ∨ w = "like" then 1 else 0),
      maxL ((blksQ f args).map fun b => (r b).s) + (if w = "best" ∨ w = "ask" ∨ w = "over" then 1 else 0)⟩ := by
  have : fmOf w = f := by simp [fmOf, hk]
  simp [szStm, h1, h2, this]
mutual
theorem St.enc_sz {hs : List SZ} : ∀ (d : Nat) (x : St), x.dp ≤ d → szStm hs (szBlk hs d) x.enc = x.sz hs
  | d, .cut a p s q, _ => by simp [St.enc, szStm_blks kF1, t_apsq, blksQ, zpQ, maxL, St.sz]
  | d, .part a p s q, _ => by simp [St.enc, szStm_blks kF2, t_apsq, blksQ, zpQ, maxL, St.sz]
  | d, .like a p r q, _ => by simp [St.enc, szStm_blks kF3, t_aprq, blksQ, zpQ, maxL, St.sz]
  | d, .best a ps q, _ => by simp [St.enc, szStm_blks kF4, t_amq, blksQ, zpQ, maxL, St.sz]
  | d, .ask a p r b c, h => by
    simp only [St.dp] at h
    simp [St.enc, szStm_blks kF5, t_aprbb, blksQ, zpQ, maxL, St.sz, encL_sz d b (by omega), encL_sz d c (by omega)]
  | d, .over a p s b c, h => by
    simp only [St.dp] at h
    simp [St.enc, szStm_blks kF6, t_apsbb, blksQ, zpQ, maxL, St.sz, encL_sz d b (by omega), encL_sz d c (by omega)]
  | d, .there p b c, h => by
    simp only [St.dp] at h
    simp [St.enc, szStm_blks kF7, t_pbb, blksQ, zpQ, maxL, St.sz, encL_sz d b (by omega), encL_sz d c (by omega)]
  | d, .give a p, _ => by simp [St.enc, szStm_blks kF8, t_ap, blksQ, zpQ, maxL, St.sz]
  | d, .move p q, _ => by simp [St.enc, szStm_blks kF9, t_pq, blksQ, zpQ, maxL, St.sz]
  | d, .swap p q, _ => by simp [St.enc, szStm_blks kF10, t_pq, blksQ, zpQ, maxL, St.sz]
  | d, .rounds k b, h => by
    simp only [St.dp] at h
    simp [St.enc, szStm, intD, St.sz, encL_sz d b h]
  | d, .doo k, _ => by simp [St.enc, szStm, intD, St.sz]
theorem encL_sz {hs : List SZ} : ∀ (d : Nat) (l : List St), dpL l ≤ d → szBlk hs d (.tup (encL l)) = szL hs l
  | 0, l, h => by have := dpL_pos l; omega
  | d + 1, l, h => by rw [szBlk, encA_sz d l h]
theorem encA_sz {hs : List SZ} : ∀ (d : Nat) (l : List St), dpL l ≤ d + 1 → sumZ ((encL l).map (szStm hs (szBlk hs d))) = szL hs l
  | d, [], _ => rfl
  | d, x :: l, h => by
    simp only [dpL] at h
    simp only [encL, List.map_cons, sumZ, szL, St.enc_sz d x (by omega), encA_sz d l (by omega)]
end
theorem hOkD_enc {A N : Nat} : ∀ (hs : List (List St)) (i : Nat), (∀ (k : Nat) (b : List St), hs[k]? = some b → okL A N (i + k) b = true ∧ b.length ≤ 20 ∧ dpL b ≤ 5) → hOkD A N i (hs.map fun b => .tup (encL b)) = true
  | [], _, _ => rfl
  | b :: hs, i, h => by
    have h0 := h 0 b rfl
    simp only [List.map_cons, hOkD, Bool.and_eq_true]
    exact ⟨encL_ok 5 b h0.1 h0.2.2 h0.2.1, hOkD_enc hs (i + 1) fun k c hc => by
      have := h (k + 1) c (by simpa using hc)
      rwa [show i + (k + 1) = i + 1 + k by omega] at this⟩
theorem hSzD_enc : ∀ (hs : List (List St)) (acc : List SZ), (∀ b ∈ hs, dpL b ≤ 5) → hSzD acc (hs.map fun b => .tup (encL b)) = hSz acc hs
  | [], _, _ => rfl
  | b :: hs, acc, h => by
    rw [List.map_cons, hSzD, hSz, encL_sz 5 b (h b (by simp)), hSzD_enc hs _ fun c hc => h c (by simp [hc])]
/-- a right program of right sizes -/
theorem Pg.isProg {P : Pg} (h : P.ok) (h1 : (szL [] P.told).t ≤ 150) (h2 : (szL [] P.told).m ≤ 12) (h3 : (szL [] P.told).s ≤ 16) : isProg P.enc = true := by
  obtain ⟨ha, hn, hl, hh, hb, hb2, hb3⟩ := h
  have e1 := hOkD_enc (A := P.A) (N := P.N) P.hs 0 (by simpa using hh)
  have e2 := encL_ok (A := P.A) (N := P.N) (H := P.hs.length) 5 P.b hb hb3 hb2
  have e3 := hSzD_enc P.hs [] fun b hb => by
    obtain ⟨i, hi⟩ := List.mem_iff_getElem?.mp hb
    exact (hh i b hi).2.2
  have e4 : szBlk (hSzD [] (P.hs.map fun b => .tup (encL b))) 5 (.tup (encL P.b)) = szL [] P.told := by
    rw [e3, encL_sz 5 _ hb3, Pg.told, ← szL_out, ← hSz_out]
    rfl
  have e5 : isBtw (.int (P.A : Int)) 1 4 = true := by simp [isBtw]; omega
  have e6 : isBtw (.int (P.N : Int)) 1 8 = true := by simp [isBtw]; omega
  simp only [Lw.isProg, Pg.enc, e5, e6, iI, e1, List.length_map, e2, e4, Bool.true_and, Bool.and_eq_true, decide_eq_true_eq]
  exact ⟨hl, h1, h2, h3⟩
theorem encL_len (l : List St) : (encL l).length = l.length := by rw [encL_map, List.length_map]
mutual
theorem St.enc_szD {A N H : Nat} : ∀ x : St, x.ok A N H = true → szD x.enc = true
  | .cut .., h => by simp [St.enc, szD, szDL, FR]
  | .part .., h => by simp [St.enc, szD, szDL, FR]
  | .like .., h => by simp [St.enc, szD, szDL]
  | .best a ps q, h => by
    simp only [St.ok, Bool.and_eq_true, decide_eq_true_eq] at h
    have : ∀ l : List Nat, szDL (l.map encN) = true := fun l => by induction l <;> simp_all [szDL, encN, szD]
    simp [St.enc, szD, szDL, this]
    omega
  | .ask a p r b c, h => by
    simp only [St.ok, Bool.and_eq_true, decide_eq_true_eq] at h
    simp [St.enc, szD, szDL, encL_szD b h.2.1, encL_szD c h.2.2, encL_len]
    omega
  | .over a p s b c, h => by
    simp only [St.ok, Bool.and_eq_true, decide_eq_true_eq] at h
    simp [St.enc, szD, szDL, encL_szD b h.2.1, encL_szD c h.2.2, FR, encL_len]
    omega
  | .there p b c, h => by
    simp only [St.ok, Bool.and_eq_true, decide_eq_true_eq] at h
    simp [St.enc, szD, szDL, encL_szD b h.2.1, encL_szD c h.2.2, encL_len]
    omega
  | .give .., h => by simp [St.enc, szD, szDL]
  | .move .., h => by simp [St.enc, szD, szDL]
  | .swap .., h => by simp [St.enc, szD, szDL]
  | .rounds k b, h => by
    simp only [St.ok, Bool.and_eq_true, decide_eq_true_eq] at h
    simp [St.enc, szD, szDL, encL_szD b h.2, encL_len]
    omega
  | .doo .., h => by simp [St.enc, szD, szDL]
theorem encL_szD {A N H : Nat} : ∀ l : List St, okL A N H l = true → szDL (encL l) = true
  | [], _ => rfl
  | x :: l, h => by
    simp only [okL, Bool.and_eq_true] at h
    simp [encL, szDL, St.enc_szD x h.1, encL_szD l h.2]
end
theorem Pg.szD {P : Pg} (h : P.ok) : szD P.enc = true := by
  obtain ⟨ha, hn, hl, hh, hb, hb2, hb3⟩ := h
  have e : ∀ l : List (List St), (∀ b ∈ l, ∃ H, okL P.A P.N H b = true ∧ b.length ≤ 20) → szDL (l.map fun b => .tup (encL b)) = true := by
    intro l
    induction l with
    | nil => intro _; rfl
    | cons b l ih =>
      intro hl
      obtain ⟨H, h1, h2⟩ := hl b (by simp)
      simp [szDL, Lw.szD, encL_szD b h1, ih fun c hc => hl c (by simp [hc])]
      rw [encL_map, List.length_map]; omega
  have e1 := e P.hs fun b hb => by
    obtain ⟨i, hi⟩ := List.mem_iff_getElem?.mp hb
    exact ⟨i, (hh i b hi).1, (hh i b hi).2.1⟩
  simp [Pg.enc, Lw.szD, szDL, e1, encL_szD P.b hb]
  rw [encL_map, List.length_map]; omega
mutual
theorem St.enc_pure : ∀ x : St, x.enc.pure = true
  | .cut .. => rfl
  | .part .. => rfl
  | .like .. => rfl
  | .best a ps q => by
    have : ∀ l : List Nat, DV.pureL (l.map encN) = true := fun l => by induction l <;> simp_all [DV.pureL, encN, DV.pure]
    simp [St.enc, DV.pure, DV.pureL, this]
  | .ask a p r b c => by simp [St.enc, DV.pure, DV.pureL, encL_pure b, encL_pure c]
  | .over a p s b c => by simp [St.enc, DV.pure, DV.pureL, encL_pure b, encL_pure c, FR]
  | .there p b c => by simp [St.enc, DV.pure, DV.pureL, encL_pure b, encL_pure c]
  | .give .. => rfl
  | .move .. => rfl
  | .swap .. => rfl
  | .rounds k b => by simp [St.enc, DV.pure, DV.pureL, encL_pure b]
  | .doo .. => rfl
theorem encL_pure : ∀ l : List St, DV.pureL (encL l) = true
  | [] => rfl
  | x :: l => by simp [encL, DV.pureL, St.enc_pure x, encL_pure l]
end
theorem Pg.pure (P : Pg) : P.enc.pure = true := by
  have e : ∀ l : List (List St), DV.pureL (l.map fun b => .tup (encL b)) = true := fun l => by
    induction l with
    | nil => rfl
    | cons b l ih => simp [DV.pureL, DV.pure, encL_pure b, ih]
  simp [Pg.enc, DV.pure, DV.pureL, e, encL_pure P.b]
end Lw

namespace Lw
open PySem L2 Md
/-! ## a program on its way, typed -/
abbrev Sg := ST
abbrev Pc := List ST
structure Yd where
  ps : List Pc
  sh : List Pc
  wt : List St
  deriving Inhabited

def insS (L : Pc) (s : Sg) : Pc := L.take (L.filter fun h => lexB h s).length ++ [s] ++ L.drop (L.filter fun h => lexB h s).length
def jn (a b : Pc) : Pc := b.foldl insS a
def Yd.pc (Y : Yd) (p : Nat) : Pc := Y.ps.getD p []
def Yd.having (Y : Yd) (ps : List Nat) : List Nat := ps.filter fun p => !(Y.pc p).isEmpty
def Yd.asks (Y : Yd) : St → Bool
  | .cut _ p _ _ => !(Y.pc p).isEmpty
  | .part _ p _ _ => !(Y.pc p).isEmpty
  | .like _ p _ _ => !(Y.pc p).isEmpty
  | .best _ ps _ => decide (1 < (Y.having ps).length)
  | .ask .. => true
  | .over .. => true
  | _ => false
def Yd.mv (Y : Yd) (p q : Nat) : Yd := { Y with ps := (Y.ps.set q (jn (Y.pc q) (Y.pc p))).set p [] }
def Yd.stp (Y : Yd) : St → Yd
  | .best _ ps q => match Y.having ps with
    | p :: _ => Y.mv p q
    | [] => Y
  | .there p b c => { Y with wt := (if (Y.pc p).isEmpty then c else b) ++ Y.wt }
  | .give a p => { Y with sh := Y.sh.set a (jn (Y.sh.getD a []) (Y.pc p)), ps := Y.ps.set p [] }
  | .move p q => Y.mv p q
  | .swap p q => { Y with ps := (Y.ps.set p (Y.pc q)).set q (Y.pc p) }
  | _ => Y
def Yd.onN : Nat → Yd → Option St × Yd
  | 0, Y => (none, Y)
  | n + 1, Y => match Y.wt with
    | [] => (none, Y)
    | x :: w => if ({ Y with wt := w } : Yd).asks x = true then (some x, { Y with wt := w }) else Yd.onN n (({ Y with wt := w } : Yd).stp x)
/-- how many statements are still there -/
def Yd.left (Y : Yd) : Nat := (szL [] Y.wt).t
def Yd.on (Y : Yd) : Option St × Yd := Yd.onN (Y.left + 1) Y
theorem sz_pos : ∀ x : St, x.nrd = true → 1 ≤ (x.sz []).t
  | .rounds k b, h => by simp [St.nrd] at h
  | .doo k, h => by simp [St.nrd] at h
  | .ask .., _ => by simp only [St.sz]; omega
  | .over .., _ => by simp only [St.sz]; omega
  | .there .., _ => by simp only [St.sz]; omega
  | .cut .., _ => by simp [St.sz]
  | .part .., _ => by simp [St.sz]
  | .like .., _ => by simp [St.sz]
  | .best .., _ => by simp [St.sz]
  | .give .., _ => by simp [St.sz]
  | .move .., _ => by simp [St.sz]
  | .swap .., _ => by simp [St.sz]
theorem left_cons {Y : Yd} {x : St} {w : List St} (h : Y.wt = x :: w) : Y.left = (x.sz []).t + (szL [] w).t := by
  unfold Yd.left; rw [h, szL]
theorem mv_wt {Y : Yd} {p q : Nat} : (Y.mv p q).wt = Y.wt := rfl
/-- a step leaves less -/
theorem stp_left {Y : Yd} {x : St} (hx : x.nrd = true) (ha : Y.asks x = false) : (Y.stp x).left + 1 ≤ (x.sz []).t + Y.left := by
  have h1 := sz_pos x hx
  cases x with
  | there p b c =>
    simp only [Yd.left, Yd.stp, szL_app, St.sz]
    split <;> omega
  | best a ps q =>
    simp only [Yd.stp]
    split <;> simp only [Yd.left, mv_wt] <;> omega
  | ask => simp [Yd.asks] at ha
  | over => simp [Yd.asks] at ha
  | _ => simp only [Yd.left, Yd.stp, mv_wt] <;> omega
theorem stp_nrd {Y : Yd} {x : St} (hx : x.nrd = true) (hw : nrdL Y.wt = true) : nrdL (Y.stp x).wt = true := by
  cases x with
  | there p b c =>
    simp only [Yd.stp, nrdL_app]
    simp only [St.nrd, Bool.and_eq_true] at hx
    split <;> simp [hx, hw]
  | best a ps q =>
    simp only [Yd.stp]
    split <;> simpa [mv_wt] using hw
  | _ => simpa [Yd.stp, mv_wt] using hw
/-- more steps than needed change nothing -/
theorem onN_more : ∀ (n m : Nat) (Y : Yd), nrdL Y.wt = true → Y.left + 1 ≤ n → Y.left + 1 ≤ m → Yd.onN n Y = Yd.onN m Y
  | 0, m, Y, _, h, _ => by omega
  | n + 1, 0, Y, _, _, h => by omega
  | n + 1, m + 1, Y, hw, h1, h2 => by
    cases q : Y.wt with
    | nil => simp [Yd.onN, q]
    | cons x w =>
      rw [q] at hw
      simp only [nrdL, Bool.and_eq_true] at hw
      have e := left_cons q
      simp only [Yd.onN, q]
      cases ha : ({ Y with wt := w } : Yd).asks x with
      | true => simp
      | false =>
        simp only [Bool.false_eq_true, if_false]
        have h3 := stp_left hw.1 ha
        have h4 : ({ Y with wt := w } : Yd).left = (szL [] w).t := rfl
        rw [h4] at h3
        exact onN_more n m _ (stp_nrd hw.1 hw.2) (by omega) (by omega)
theorem on_nil {Y : Yd} (h : Y.wt = []) : Y.on = (none, Y) := by
  unfold Yd.on; simp [Yd.onN, h]
theorem on_ask {Y : Yd} {x : St} {w : List St} (h : Y.wt = x :: w) (ha : ({ Y with wt := w } : Yd).asks x = true) : Y.on = (some x, { Y with wt := w }) := by
  unfold Yd.on; simp [Yd.onN, h, ha]
theorem on_stp {Y : Yd} {x : St} {w : List St} (hn : nrdL Y.wt = true) (h : Y.wt = x :: w) (ha : ({ Y with wt := w } : Yd).asks x = false) : Y.on = (({ Y with wt := w } : Yd).stp x).on := by
  have e := left_cons h
  rw [h] at hn
  simp only [nrdL, Bool.and_eq_true] at hn
  have h3 := stp_left hn.1 ha
  have h4 : ({ Y with wt := w } : Yd).left = (szL [] w).t := rfl
  rw [h4] at h3
  unfold Yd.on
  rw [Yd.onN, h]
  simp only [ha, Bool.false_eq_true, if_false]
  exact onN_more _ _ _ (stp_nrd hn.1 hn.2) (by omega) (Nat.le_refl _)
inductive An where
  | pt (j : Nat) (x : Rat)
  | nm (p : Nat)
  | fl (b : Bool)
  deriving Inhabited
def An.enc : An → DV
  | .pt j x => .tup [.int j, FR x]
  | .nm p => .int p
  | .fl b => .bl b
def ctL (P : Pc) (j : Nat) (x : Rat) : Pc := P.take j ++ [((P.getD j (0, 0)).1, x)]
def ctR (P : Pc) (j : Nat) (x : Rat) : Pc := (x, (P.getD j (0, 0)).2) :: P.drop (j + 1)
def Yd.ct (Y : Yd) (p q j : Nat) (x : Rat) : Yd := { Y with ps := (Y.ps.set p (ctR (Y.pc p) j x)).set q (jn ((Y.ps.set p (ctR (Y.pc p) j x)).getD q []) (ctL (Y.pc p) j x)) }
def Yd.answ (Y : Yd) : St → An → Yd
  | .cut _ p _ q, .pt j x => Y.ct p q j x
  | .part _ p _ q, .pt j x => Y.ct p q j x
  | .like _ p _ q, .pt j x => Y.ct p q j x
  | .best _ _ q, .nm p => Y.mv p q
  | .ask _ _ _ b c, .fl k => { Y with wt := (if k then b else c) ++ Y.wt }
  | .over _ _ _ b c, .fl k => { Y with wt := (if k then b else c) ++ Y.wt }
  | _, _ => Y
/-- an answer that is as asked, to be done without an error -/
def Yd.fit (Y : Yd) : St → An → Prop
  | .cut _ p _ _, .pt j _ => j < (Y.pc p).length
  | .part _ p _ _, .pt j _ => j < (Y.pc p).length
  | .like _ p _ _, .pt j _ => j < (Y.pc p).length
  | .best _ ps _, .nm p => p ∈ ps
  | .ask .., .fl _ => True
  | .over .., .fl _ => True
  | _, _ => False
def Yd.opts (Y : Yd) : St → List Nat
  | .cut _ p _ _ => List.range (Y.pc p).length
  | .part _ p _ _ => List.range (2 * (Y.pc p).length)
  | .like _ p _ _ => List.range (2 * (Y.pc p).length)
  | .best _ ps _ => Y.having ps
  | _ => [0, 1]
def mid (s : Sg) : Rat := (1 / 2 : Rat) * (s.1 + s.2)
def Yd.by (Y : Yd) : St → Nat → An
  | .cut _ p _ _, k => .pt k (mid ((Y.pc p).getD k (0, 0)))
  | .part _ p _ _, k => .pt (k / 2) (mid ((Y.pc p).getD (k / 2) (0, 0)))
  | .like _ p _ _, k => .pt (k / 2) (mid ((Y.pc p).getD (k / 2) (0, 0)))
  | .best .., k => .nm k
  | _, k => .fl (decide (k = 1))
/-- how many answers can still be asked -/
def Yd.rk (Y : Yd) : Nat := (szL [] Y.wt).m + (szL [] Y.wt).s
/-- all ways from here -/
def wysN : Nat → Yd → List (List Nat)
  | 0, _ => []
  | n + 1, Y => match Y.on with
    | (none, _) => [[]]
    | (some x, Z) => (Z.opts x).flatMap fun k => (wysN n (Z.answ x (Z.by x k))).map (k :: ·)
/-- how many places there are on all ways from here -/
def plsN : Nat → Yd → Nat
  | 0, _ => 0
  | n + 1, Y => match Y.on with
    | (none, _) => 1
    | (some x, Z) => 1 + ((Z.opts x).map fun k => plsN n (Z.answ x (Z.by x k))).sum
end Lw

namespace Lw
open PySem L2 Md
/-! ## drawn statements -/
theorem x_rgL {m : EM} {ρ : DE} {μ μ' : DM} {N : Nat} (h : m ρ μ = .ok (.int N) μ') (hN : N ≤ 1000000) : mRg1 m ρ μ = .ok ((List.range N).map encN) μ' := by
  unfold mRg1
  rw [h, DR.bind_ok]
  have e := RgO_nat (a := 0) hN (Nat.zero_le _)
  simp only [Int.ofNat_eq_natCast, Int.natCast_zero] at e
  simp only [if_pos e, DR.bind_ok]
  congr 1
  have := rgD_nat (a := 0) (b := N)
  rw [Nat.sub_zero, ← List.range_eq_range'] at this
  exact this
theorem pureL_strs (ss : List String) : DV.pureL (ss.map .str) = true := by induction ss <;> simp_all [DV.pureL, DV.pure]
theorem dpL_strs (ss : List String) : DV.dpL (ss.map .str) ≤ 1 := by
  induction ss with
  | nil => simp [DV.dpL]
  | cons s ss ih => simp [DV.dpL, DV.dp]; omega
theorem gIn_strs {neg : Bool} {ss : List String} {w : String} {k : Nat} {μ : DM} (h : μ[k]? = some (.lst (ss.map .str))) : gIn neg (.str w) (.ref k) μ = .ok (.bl (if neg then !ss.contains w else ss.contains w)) μ := by
  have h1 := rsv_lst h (pureL_strs ss)
  have h2 : rsv μ (.str w) = some (.str w) := rsv_pure rfl
  have h3 := dpL_strs ss
  have e : (ss.map DV.str).any (fun z => dEq z (.str w)) = ss.contains w := by
    rw [List.any_map, ← List.any_beq']
    rfl
  simp only [gIn, h1, h2]
  rw [if_pos ⟨by simp [DV.dp], by simp [DV.dp]; omega⟩, e]
theorem encN_perm {ys : List DV} : ∀ {xs : List Nat}, ys.Perm (xs.map encN) → ∃ os : List Nat, ys = os.map encN ∧ os.Perm xs := by
  intro xs h
  refine ⟨ys.map intD, ?_, ?_⟩
  · rw [List.map_map]
    have : ∀ y ∈ ys, (encN ∘ intD) y = y := fun y hy => by
      obtain ⟨x, _, rfl⟩ := List.mem_map.mp (h.mem_iff.mp hy)
      simp [encN, intD]
    conv => lhs; rw [← List.map_id ys]
    exact List.map_congr_left fun y hy => (this y hy).symm
  · have := h.map intD
    rw [List.map_map] at this
    have e : xs.map (intD ∘ encN) = xs := by
      conv => rhs; rw [← List.map_id xs]
      exact List.map_congr_left fun x _ => by simp [encN, intD]
    rwa [e] at this
/-- the pieces in a drawn order -/
theorem l_order {n N : Nat} {X C HD : DC} {rest : DM} (h : HOk n C HD) (hn : n < 2 ^ 50) (hN : N ≤ 1000) :
    ∃ (os : List Nat) (HD' : DC), f__law_mixed [.ref 2, .ref (rest.length + 3)] (X :: C :: HD :: (rest ++ [.lst ((List.range N).map encN)])) = .ok (.ref (rest.length + 5)) (X :: C :: HD' :: (rest ++ [.lst ((List.range N).map encN), .lst [], .lst (os.map encN)])) ∧ os.Perm (List.range N) ∧ HOk (n + N) C HD' := by
  obtain ⟨ys, HD', e, p, h'⟩ := l_mixed (n := n) (X := X) (C := C) (HD := HD) (rest := rest ++ [.lst ((List.range N).map encN)]) (v := .ref (rest.length + 3)) (xs := (List.range N).map encN) (seq_ref (by simp)) h hn (by simp; omega)
  obtain ⟨os, rfl, p2⟩ := encN_perm p
  refine ⟨os, HD', ?_, p2, by simpa using h'⟩
  simpa using e
def shs : List Rat := [1 / 2, 1 / 3, 2 / 3, 1 / 4, 3 / 4, 0, 1, 2 / 5, 1 / 2]
theorem shs_FR : shs.map FR = [.tup [.int 1, .int 2], .tup [.int 1, .int 3], .tup [.int 2, .int 3], .tup [.int 1, .int 4], .tup [.int 3, .int 4], .tup [.int 0, .int 1], .tup [.int 1, .int 1], .tup [.int 2, .int 5], .tup [.int 1, .int 2]] := by
  decide +kernel
theorem shs_ok : ∀ s ∈ shs, shOk s = true := by decide +kernel
theorem l_share {n : Nat} {X C HD : DC} {rest : DM} (h : HOk n C HD) (hn : n < 2 ^ 49) : ∃ s HD', f__law_share [.ref 2] (X :: C :: HD :: rest) = .ok (FR s) (X :: C :: HD' :: rest) ∧ shOk s = true ∧ HOk (n + 1) C HD' := by
  obtain ⟨v, HD', e, hv, h'⟩ := l_some (X := X) (rest := rest ++ [.lst (shs.map FR)]) (t := rest.length) (xs := shs.map FR) h (by omega) (by simp) (by simp [shs]) (by simp [shs])
  obtain ⟨s, hs, rfl⟩ := List.mem_map.mp hv
  refine ⟨s, HD', ?_, shs_ok s hs, h'⟩
  refine run_hand rfl (und_pure _ rfl) h' (t := [.lst (shs.map FR)]) ?_
  rw [shs_FR] at e ⊢
  simp [b__law_share, e]
def wds : List String := ["cut", "cut", "part", "like", "best", "best", "give", "give", "move", "swap"]
/-- three of the pieces -/
theorem order3 {os : List Nat} {N : Nat} (p : os.Perm (List.range N)) (hN : 3 ≤ N) : ∃ a b c r, os = a :: b :: c :: r ∧ a < N ∧ b < N ∧ c < N ∧ a ≠ b ∧ a ≠ c ∧ b ≠ c := by
  have hl := p.length_eq
  rw [List.length_range] at hl
  have hm : ∀ x ∈ os, x < N := fun x hx => List.mem_range.mp (p.mem_iff.mp hx)
  have hd : os.Nodup := p.nodup_iff.mpr List.nodup_range
  match os, hl with
  | a :: b :: c :: r, _ =>
    simp at hd
    exact ⟨a, b, c, r, rfl, hm a (by simp), hm b (by simp), hm c (by simp), hd.1.1, hd.1.2.1, hd.2.1.1⟩
  | [_, _], hl => simp at hl; omega
  | [_], hl => simp at hl; omega
  | [], hl => simp at hl; omega
theorem srt_best {os : List Nat} {N k : Nat} (p : os.Perm (List.range N)) (hN : 3 ≤ N) (hN8 : N ≤ 8) (hk : 1 ≤ k) (hk2 : k < N) : ∃ ps : List Nat, (srtD (((os.drop 1).take k).map fun p : Nat => (p : Int))) = ps.map (fun p : Nat => (p : Int)) ∧ 0 < ps.length ∧ ps.length ≤ 8 ∧ ps.Pairwise (· < ·) ∧ os.getD 0 0 ∉ ps ∧ ps.all (fun p => decide (p < N)) = true := by
  have hl := p.length_eq
  rw [List.length_range] at hl
  have hm : ∀ x ∈ os, x < N := fun x hx => List.mem_range.mp (p.mem_iff.mp hx)
  have hd : os.Nodup := p.nodup_iff.mpr List.nodup_range
  generalize hL : (os.drop 1).take k = L
  have hLl : L.length = k := by rw [← hL, List.length_take, List.length_drop]; omega
  have hLm : ∀ x ∈ L, x ∈ os.drop 1 := fun x hx => by rw [← hL] at hx; exact List.mem_of_mem_take hx
  have hLd : L.Nodup := by rw [← hL]; exact (hd.sublist (List.drop_sublist _ _)).sublist (List.take_sublist _ _)
  have q := srtD_perm (L.map fun p : Nat => (p : Int))
  have s := srtD_srt (L.map fun p : Nat => (p : Int))
  have hq : ∀ z ∈ srtD (L.map fun p : Nat => (p : Int)), ∃ x ∈ L, z = (x : Int) := fun z hz => by
    obtain ⟨x, hx, e⟩ := List.mem_map.mp (q.mem_iff.mp hz)
    exact ⟨x, hx, e.symm⟩
  refine ⟨(srtD (L.map fun p : Nat => (p : Int))).map Int.toNat, ?_, ?_, ?_, ?_, ?_, ?_⟩
  · rw [List.map_map]
    conv => lhs; rw [← List.map_id (srtD (L.map fun p : Nat => (p : Int)))]
    exact List.map_congr_left fun z hz => by obtain ⟨x, _, rfl⟩ := hq z hz; simp
  · rw [List.length_map, q.length_eq, List.length_map]; omega
  · rw [List.length_map, q.length_eq, List.length_map]; omega
  · have hnd : (srtD (L.map fun p : Nat => (p : Int))).Nodup := q.nodup_iff.mpr (List.Pairwise.map _ (fun a b (h : a ≠ b) => by simp; omega) hLd)
    have : (srtD (L.map fun p : Nat => (p : Int))).Pairwise fun a b => a ≤ b ∧ a ≠ b ∧ 0 ≤ a ∧ 0 ≤ b := by
      refine List.Pairwise.and s (List.Pairwise.and hnd ?_)
      exact List.pairwise_of_forall_mem_list fun a ha b hb => by
        obtain ⟨x, _, rfl⟩ := hq a ha
        obtain ⟨y, _, rfl⟩ := hq b hb
        omega
    exact List.Pairwise.map _ (fun a b h => by omega) this
  · intro hc
    obtain ⟨z, hz, e⟩ := List.mem_map.mp hc
    obtain ⟨x, hx, rfl⟩ := hq z hz
    have := hLm x hx
    match os, hl with
    | a :: r, _ =>
      simp at e this hd
      exact hd.1 (e ▸ this)
    | [], hl => simp at hl; omega
  · rw [List.all_eq_true]
    intro y hy
    obtain ⟨z, hz, rfl⟩ := List.mem_map.mp hy
    obtain ⟨x, hx, rfl⟩ := hq z hz
    simpa using hm x (List.mem_of_mem_drop (hLm x hx))
end Lw

namespace Lw
open PySem L2 Md
theorem gIxr {n k : Nat} {xs : List DV} {x : DV} {μ : DM} (hn : μ[n]? = some (.lst xs)) (h : xs[k]? = some x) : gIx (.ref n) (.int (k : Nat)) μ = .ok x μ := gIx_refn hn h
theorem cut_mid {xs : List Nat} {k : Nat} : cutD (xs.map encN) (some 1) (some (2 + (k : Int))) = ((xs.drop 1).take (k + 1)).map encN := by
  have e : cutD (xs.map encN) (some ((1 : Nat) : Int)) (some ((2 + k : Nat) : Int)) = ((xs.drop 1).take (k + 1)).map encN := by
    unfold cutD
    rw [HT.sIx_nat, HT.sIx_nat, List.map_take, List.map_drop]
    by_cases h : 1 ≤ (xs.map encN).length
    · rw [Nat.min_eq_left h]
      by_cases h2 : 2 + k ≤ (xs.map encN).length
      · rw [Nat.min_eq_left h2]; congr 1; omega
      · rw [Nat.min_eq_right (by omega), List.take_of_length_le (by simp), List.take_of_length_le (by simp at h2 ⊢; omega)]
    · have : (xs.map encN) = [] := List.length_eq_zero_iff.mp (by omega)
      rw [this]; simp
  simpa using e
theorem l_plain {n A N t : Nat} {X C HD : DC} {rest : DM} (h : HOk n C HD) (hn : n < 2 ^ 40) (hA : 1 ≤ A ∧ A ≤ 4) (hN : 3 ≤ N ∧ N ≤ 4) (ht : rest[t]? = some (.lst (wds.map .str))) :
    ∃ (x : St) (HD' : DC), f__law_plain [.ref 2, .int A, .int N, .ref (t + 3)] (X :: C :: HD :: rest) = .ok x.enc (X :: C :: HD' :: rest) ∧ (∀ H, x.ok A N H = true) ∧ x.dp = 0 ∧ (∀ hs, (x.sz hs).t = 1) ∧ HOk (n + 20) C HD' := by
  obtain ⟨v, H1, e1, hv, h1⟩ := l_some (X := X) h (by omega) ht (by decide) (by decide)
  obtain ⟨w, hw, rfl⟩ := List.mem_map.mp hv
  obtain ⟨a, H2, e2, p2, q2, h2⟩ := l_draw (X := X) (rest := rest) h1 (m := A) (by omega) (by omega) (by omega)
  obtain ⟨a, rfl⟩ := Int.eq_ofNat_of_zero_le p2
  obtain ⟨os, H3, e3, p3, h3⟩ := l_order (N := N) (X := X) (rest := rest) h2 (by omega) (by omega)
  obtain ⟨o0, o1, o2, r, rfl, l0, l1, l2, d1, d2, d3⟩ := order3 p3 hN.1
  have ha : a < A := by omega
  have hr : mRg1 (mVar 2) [some (.ref 2), some (.int A), some (.int N), some (.ref (t + 3)), some (.str w), some (.int a), none] (X :: C :: H2 :: rest) = .ok ((List.range N).map encN) (X :: C :: H2 :: rest) := x_rgL (by simp) (by omega)
  generalize hT : ([.lst ((List.range N).map encN), .lst [], .lst ((o0 :: o1 :: o2 :: r).map encN)] : DM) = T at e3
  have hL : ∀ U HD, (X :: C :: HD :: (rest ++ (T ++ U)))[rest.length + 5]? = some (.lst ((o0 :: o1 :: o2 :: r).map encN)) := fun U HD => by rw [← hT]; simp
  have hL' : ∀ HD, (X :: C :: HD :: (rest ++ T))[rest.length + 5]? = some (.lst ((o0 :: o1 :: o2 :: r).map encN)) := fun HD => by have := hL [] HD; simpa using this
  have s1 : sPar 4 5 (mCons (mCall 2 f__law_some (mCons (mVar 0) (mCons (mVar 3) (mNil)))) (mCons (mCall 2 f__law_draw (mCons (mVar 0) (mCons (mVar 1) (mNil)))) (mNil))) [some (.ref 2), some (.int A), some (.int N), some (.ref (t + 3)), none, none, none] (X :: C :: HD :: rest)
      = .nx [some (.ref 2), some (.int A), some (.int N), some (.ref (t + 3)), some (.str w), some (.int a), none] (X :: C :: H2 :: rest) := by simp [e1, e2]
  have s2 : sAsg (mCall 2 f__law_mixed (mCons (mVar 0) (mCons (mKeep (mRg1 (mVar 2))) (mNil)))) (tgN 6) [some (.ref 2), some (.int A), some (.int N), some (.ref (t + 3)), some (.str w), some (.int a), none] (X :: C :: H2 :: rest)
      = .nx [some (.ref 2), some (.int A), some (.int N), some (.ref (t + 3)), some (.str w), some (.int a), some (.ref (rest.length + 5))] (X :: C :: H3 :: (rest ++ T)) := by
    simp [hr, e3]
  have i0 : ∀ U HD, gIx (.ref (rest.length + 5)) (.int 0) (X :: C :: HD :: (rest ++ (T ++ U))) = .ok (.int o0) (X :: C :: HD :: (rest ++ (T ++ U))) := fun U HD => gIxr (k := 0) (hL U HD) rfl
  have i1 : ∀ U HD, gIx (.ref (rest.length + 5)) (.int 1) (X :: C :: HD :: (rest ++ (T ++ U))) = .ok (.int o1) (X :: C :: HD :: (rest ++ (T ++ U))) := fun U HD => gIxr (k := 1) (hL U HD) rfl
  have i2 : ∀ U HD, gIx (.ref (rest.length + 5)) (.int 2) (X :: C :: HD :: (rest ++ (T ++ U))) = .ok (.int o2) (X :: C :: HD :: (rest ++ (T ++ U))) := fun U HD => gIxr (k := 2) (hL U HD) rfl
  have hin : ∀ HD, mBl (mOp (gIn false) (mVar 4) (mKeep (mLst (mCons (mC (.str "cut")) (mCons (mC (.str "part")) (mNil)))))) [some (.ref 2), some (.int A), some (.int N), some (.ref (t + 3)), some (.str w), some (.int a), some (.ref (rest.length + 5))] (X :: C :: HD :: (rest ++ T))
      = .ok (["cut", "part"].contains w) (X :: C :: HD :: (rest ++ (T ++ [.lst [.str "cut", .str "part"]]))) := fun HD => by
    have := gIn_strs (neg := false) (ss := ["cut", "part"]) (w := w) (k := (X :: C :: HD :: (rest ++ T)).length) (μ := X :: C :: HD :: (rest ++ (T ++ [.lst [.str "cut", .str "part"]]))) (by
      have e : X :: C :: HD :: (rest ++ (T ++ [.lst [.str "cut", .str "part"]])) = (X :: C :: HD :: (rest ++ T)) ++ [.lst [.str "cut", .str "part"]] := by simp
      rw [e, st_at0]; rfl)
    simp at this
    simp [this]
  obtain ⟨s, H4, e4, s4, h4⟩ := l_share (X := X) (rest := rest ++ (T ++ [.lst [.str "cut", .str "part"]])) h3 (by omega)
  obtain ⟨k, H5, e5, p5, q5, h5⟩ := l_draw (X := X) (rest := rest ++ (T ++ [.lst [.str "cut", .str "part"]])) h3 (m := (N : Int) - 1) (by omega) (by omega) (by omega)
  obtain ⟨k, rfl⟩ := Int.eq_ofNat_of_zero_le p5
  obtain ⟨ps, b1, b2, b3, b4, b5, b6⟩ := srt_best p3 hN.1 (by omega) (k := k + 1) (by omega) (by omega)
  have hm : ∀ {HD' : DC} {v : DV} {t' : DM}, v.und (rest.length + 3) = true → HOk (n + 20) C HD' → b__law_plain [some (.ref 2), some (.int A), some (.int N), some (.ref (t + 3)), none, none, none] (X :: C :: HD :: rest) = .rt v (X :: C :: HD' :: (rest ++ t')) → f__law_plain [.ref 2, .int A, .int N, .ref (t + 3)] (X :: C :: HD :: rest) = .ok v (X :: C :: HD' :: rest) := fun hv hh hb => run_hand rfl hv hh hb
  simp only [wds, List.mem_cons, List.not_mem_nil, or_false] at hw
  have h20 : HOk (n + 20) C H4 := h4.mono (by omega)
  have h20' : HOk (n + 20) C H5 := h5.mono (by omega)
  have h20'' : HOk (n + 20) C H3 := h3.mono (by omega)
  have hcut : ["cut", "part"].contains "cut" = true := by decide
  rcases hw with rfl | rfl | rfl | rfl | rfl | rfl | rfl | rfl | rfl | rfl
  · refine ⟨.cut a o0 s o1, H4, hm (t' := T ++ [.lst [.str "cut", .str "part"]]) (und_pure _ (St.enc_pure _)) h20 ?_, fun H => ?_, rfl, fun _ => rfl, h20⟩
    · unfold b__law_plain
      rw [sq s1, sq s2, x_seq, x_sIf, hin]
      simp [i0, i1, i2, e4, St.enc]
    · simp [St.ok, ha, l0, l1, l2, d1, d2, d3, Ne.symm d3, s4]
  · refine ⟨.cut a o0 s o1, H4, hm (t' := T ++ [.lst [.str "cut", .str "part"]]) (und_pure _ (St.enc_pure _)) h20 ?_, fun H => ?_, rfl, fun _ => rfl, h20⟩
    · unfold b__law_plain
      rw [sq s1, sq s2, x_seq, x_sIf, hin]
      simp [i0, i1, i2, e4, St.enc]
    · simp [St.ok, ha, l0, l1, l2, d1, d2, d3, Ne.symm d3, s4]
  · refine ⟨.part a o0 s o1, H4, hm (t' := T ++ [.lst [.str "cut", .str "part"]]) (und_pure _ (St.enc_pure _)) h20 ?_, fun H => ?_, rfl, fun _ => rfl, h20⟩
    · unfold b__law_plain
      rw [sq s1, sq s2, x_seq, x_sIf, hin]
      simp [i0, i1, i2, e4, St.enc]
    · simp [St.ok, ha, l0, l1, l2, d1, d2, d3, Ne.symm d3, s4]
  · refine ⟨.like a o0 o2 o1, H3, hm (t' := T ++ [.lst [.str "cut", .str "part"]]) (und_pure _ (St.enc_pure _)) h20'' ?_, fun H => ?_, rfl, fun _ => rfl, h20''⟩
    · unfold b__law_plain
      rw [sq s1, sq s2, x_seq, x_sIf, hin]
      simp [i0, i1, i2, e4, St.enc]
    · simp [St.ok, ha, l0, l1, l2, d1, d2, d3, Ne.symm d3, s4]
  · refine ⟨.best a ps o0, H5, hm (t' := T ++ [.lst [.str "cut", .str "part"], .lst ((((o0 :: o1 :: o2 :: r).drop 1).take (k + 1)).map encN)]) (und_pure _ (St.enc_pure _)) h20' ?_, fun H => ?_, rfl, fun _ => rfl, h20'⟩
    · unfold b__law_plain
      rw [sq s1, sq s2, x_seq, x_sIf, hin]
      have hc : cutD ((o0 :: o1 :: o2 :: r).map encN) (some 1) (some (2 + (k : Int))) = (((o0 :: o1 :: o2 :: r).drop 1).take (k + 1)).map encN := cut_mid
      have hi : intsOf ((((o0 :: o1 :: o2 :: r).drop 1).take (k + 1)).map encN) = some ((((o0 :: o1 :: o2 :: r).drop 1).take (k + 1)).map fun p : Nat => (p : Int)) := intsOf_nat id _
      have hb : (srtD ((((o0 :: o1 :: o2 :: r).drop 1).take (k + 1)).map fun p : Nat => (p : Int))).map DV.int = ps.map encN := by rw [b1, List.map_map]; rfl
      simp only [List.drop_succ_cons, List.drop_zero, List.take_succ_cons] at hc hi hb
      have hc2 : ∀ U HD, (X :: C :: HD :: (rest ++ (T ++ (.lst [.str "cut", .str "part"] :: U))))[rest.length + 5]? = some (.lst ((o0 :: o1 :: o2 :: r).map encN)) := fun U HD => hL _ HD
      simp [-List.map_cons, i0, i1, i2, e5, St.enc, mSorted, hc2, hc, DV.lsq, hi, hb]
    · simp [St.ok, ha, l0, b2, b3, b4, b6]
      simpa using b5
  · refine ⟨.best a ps o0, H5, hm (t' := T ++ [.lst [.str "cut", .str "part"], .lst ((((o0 :: o1 :: o2 :: r).drop 1).take (k + 1)).map encN)]) (und_pure _ (St.enc_pure _)) h20' ?_, fun H => ?_, rfl, fun _ => rfl, h20'⟩
    · unfold b__law_plain
      rw [sq s1, sq s2, x_seq, x_sIf, hin]
      have hc : cutD ((o0 :: o1 :: o2 :: r).map encN) (some 1) (some (2 + (k : Int))) = (((o0 :: o1 :: o2 :: r).drop 1).take (k + 1)).map encN := cut_mid
      have hi : intsOf ((((o0 :: o1 :: o2 :: r).drop 1).take (k + 1)).map encN) = some ((((o0 :: o1 :: o2 :: r).drop 1).take (k + 1)).map fun p : Nat => (p : Int)) := intsOf_nat id _
      have hb : (srtD ((((o0 :: o1 :: o2 :: r).drop 1).take (k + 1)).map fun p : Nat => (p : Int))).map DV.int = ps.map encN := by rw [b1, List.map_map]; rfl
      simp only [List.drop_succ_cons, List.drop_zero, List.take_succ_cons] at hc hi hb
      have hc2 : ∀ U HD, (X :: C :: HD :: (rest ++ (T ++ (.lst [.str "cut", .str "part"] :: U))))[rest.length + 5]? = some (.lst ((o0 :: o1 :: o2 :: r).map encN)) := fun U HD => hL _ HD
      simp [-List.map_cons, i0, i1, i2, e5, St.enc, mSorted, hc2, hc, DV.lsq, hi, hb]
    · simp [St.ok, ha, l0, b2, b3, b4, b6]
      simpa using b5
  · refine ⟨.give a o0, H3, hm (t' := T ++ [.lst [.str "cut", .str "part"]]) (und_pure _ (St.enc_pure _)) h20'' ?_, fun H => ?_, rfl, fun _ => rfl, h20''⟩
    · unfold b__law_plain
      rw [sq s1, sq s2, x_seq, x_sIf, hin]
      simp [i0, i1, i2, e4, St.enc]
    · simp [St.ok, ha, l0, l1, l2, d1, d2, d3, Ne.symm d3, s4]
  · refine ⟨.give a o0, H3, hm (t' := T ++ [.lst [.str "cut", .str "part"]]) (und_pure _ (St.enc_pure _)) h20'' ?_, fun H => ?_, rfl, fun _ => rfl, h20''⟩
    · unfold b__law_plain
      rw [sq s1, sq s2, x_seq, x_sIf, hin]
      simp [i0, i1, i2, e4, St.enc]
    · simp [St.ok, ha, l0, l1, l2, d1, d2, d3, Ne.symm d3, s4]
  · refine ⟨.move o0 o1, H3, hm (t' := T ++ [.lst [.str "cut", .str "part"]]) (und_pure _ (St.enc_pure _)) h20'' ?_, fun H => ?_, rfl, fun _ => rfl, h20''⟩
    · unfold b__law_plain
      rw [sq s1, sq s2, x_seq, x_sIf, hin]
      simp [i0, i1, i2, e4, St.enc]
    · simp [St.ok, ha, l0, l1, l2, d1, d2, d3, Ne.symm d3, s4]
  · refine ⟨.swap o0 o1, H3, hm (t' := T ++ [.lst [.str "cut", .str "part"]]) (und_pure _ (St.enc_pure _)) h20'' ?_, fun H => ?_, rfl, fun _ => rfl, h20''⟩
    · unfold b__law_plain
      rw [sq s1, sq s2, x_seq, x_sIf, hin]
      simp [i0, i1, i2, e4, St.enc]
    · simp [St.ok, ha, l0, l1, l2, d1, d2, d3, Ne.symm d3, s4]
end Lw

namespace Lw
open PySem L2 Md
def cst (d : Nat) : Nat := 100 * 10 ^ d
theorem cst_pos (d : Nat) : 100 ≤ cst d := by unfold cst; have := Nat.one_le_pow d 10 (by omega); omega
theorem cst_succ (d : Nat) : cst (d + 1) = 10 * cst d := by unfold cst; rw [Nat.pow_succ]; omega
/-- how great it is told out -/
def SB (d : Nat) (x : St) : Prop := ∀ (hs : List SZ) (M : Nat), 1 ≤ M → (∀ z ∈ hs, z.t ≤ M) → (x.sz hs).t ≤ 5 ^ (d + 1) * M
def SBL (d k : Nat) (b : List St) : Prop := ∀ (hs : List SZ) (M : Nat), 1 ≤ M → (∀ z ∈ hs, z.t ≤ M) → (szL hs b).t ≤ k * (5 ^ (d + 1) * M)
def StmR (A N H d : Nat) (v : DV) : Prop := ∃ x : St, v = x.enc ∧ x.ok A N H = true ∧ x.dp ≤ d ∧ SB d x
def BlkR (A N H d k : Nat) (v : DV) : Prop := ∃ b : List St, v = .tup (encL b) ∧ okL A N H b = true ∧ dpL b ≤ d + 1 ∧ b.length ≤ k ∧ SBL d k b
def StmS (A N H : Nat) (f : Fn) (d : Nat) : Prop := ∀ (n : Nat) (X C HD : DC) (rest : DM), HOk n C HD → n + cst d ≤ 2 ^ 39 →
  ∃ (v : DV) (HD' : DC), f [.ref 2, .int A, .int N, .int d, .int H] (X :: C :: HD :: rest) = .ok v (X :: C :: HD' :: rest) ∧ StmR A N H d v ∧ HOk (n + cst d) C HD'
def BlkS (A N H : Nat) (f : Fn) (d : Nat) : Prop := ∀ (n k : Nat) (X C HD : DC) (rest : DM), HOk n C HD → k ≤ 1000 → n + cst d * k + cst d ≤ 2 ^ 39 →
  ∃ (v : DV) (HD' : DC), f [.ref 2, .int A, .int N, .int d, .int H, .int k] (X :: C :: HD :: rest) = .ok v (X :: C :: HD' :: rest) ∧ BlkR A N H d k v ∧ HOk (n + cst d * k) C HD'
theorem stmL {A N H d : Nat} : ∀ {l : List St}, (∀ x ∈ l, x.ok A N H = true ∧ x.dp ≤ d ∧ SB d x) → okL A N H l = true ∧ dpL l ≤ d + 1 ∧ SBL d l.length l
  | [], _ => ⟨rfl, by simp [dpL], fun hs M _ _ => by simp [szL]⟩
  | x :: l, h => by
    have h1 := h x (by simp)
    have h2 := stmL fun y hy => h y (List.mem_cons_of_mem _ hy)
    refine ⟨by simp [okL, h1.1, h2.1], by simp only [dpL]; omega, fun hs M m1 m2 => ?_⟩
    have g1 := h1.2.2 hs M m1 m2
    have g2 := h2.2.2 hs M m1 m2
    simp only [szL, List.length_cons, Nat.succ_mul]
    omega
theorem x_rgI {m : EM} {ρ : DE} {μ μ' : DM} {N : Nat} (h : m ρ μ = .ok (.int N) μ') (hN : N ≤ 1000000) : mItR1 m ρ μ = .ok ((List.range N).map encN, none) μ' := by
  rw [x_rg1, h, DR.bind_ok]; exact rgS_0 hN
theorem l_block_of {A N H d : Nat} {rs rb : Fn} (hs : StmS A N H rs d) : BlkS A N H (runFn 7 6 (b__law_block rs rb)) d := by
  intro n k X C HD rest h hk hn
  obtain ⟨ys, HD', e, ha, h'⟩ := lc_drawn (R := fun _ v => StmR A N H d v) (cst d) (2 ^ 39 - cst d) (n := n) (X := X) (C := C) (HD := HD) (rest := rest) (vs := [6]) (mi := mItR1 (mVar 5)) (ρ := [some (.ref 2), some (.int A), some (.int N), some (.int d), some (.int H), some (.int k), none]) (t := tgN 6)
    (te := mCall 5 rs (mCons (mVar 0) (mCons (mVar 1) (mCons (mVar 2) (mCons (mVar 3) (mCons (mVar 4) (mNil))))))) (l := (List.range k).map encN) (x_rgI (by simp) (by omega))
    (fun x _ HD n hh hn => by
      obtain ⟨v, HD', e, r, h'⟩ := hs n X C HD rest hh (by have := cst_pos d; omega)
      exact ⟨_, v, HD', rfl, by simp [wipeD, e], r, h'⟩) h (by simp; omega) (by simp; omega)
  obtain ⟨cs, rfl, hc⟩ := ha.enc (P := fun x : St => x.ok A N H = true ∧ x.dp ≤ d ∧ SB d x) (f := St.enc) (fun a b r => r)
  have hl := ha.len
  simp at hl
  obtain ⟨c1, c2, c3⟩ := stmL hc
  refine ⟨.tup (encL cs), HD', ?_, ⟨cs, rfl, c1, c2, by omega, by rw [← hl] at c3; exact c3⟩, by simpa using h'⟩
  refine run_hand rfl (und_pure _ (by simp [DV.pure, encL_pure])) h' (t := []) ?_
  simp [b__law_block, e, encL_map]
/-- two blocks beside each other -/
theorem two_blocks {A N H d n : Nat} {rb : Fn} {X C HD : DC} {rest : DM} {ρ : DE} (hb : BlkS A N H rb d) (h : HOk n C HD) (hn : n + 8 * cst d ≤ 2 ^ 39) (hρ : ρ.length = 9) (r0 : ρ[0]? = some (some (.ref 2))) (r1 : ρ[1]? = some (some (.int A))) (r2 : ρ[2]? = some (some (.int N))) (r3 : ρ[3]? = some (some (.int ((d : Int) + 1)))) (r4 : ρ[4]? = some (some (.int H))) :
    ∃ (b c : List St) (HD' : DC), mLc [8] (mItR1 (mC (.int 2))) (tgN 8) (mYes) (mCall 6 rb (mCons (mVar 0) (mCons (mVar 1) (mCons (mVar 2) (mCons (mOp qSub (mVar 3) (mC (.int 1))) (mCons (mVar 4) (mCons (mOp qSub (mOp gAdd (mC (.int 1)) (mCall 2 f__law_draw (mCons (mVar 0) (mCons (mC (.int 2)) (mNil))))) (mVar 8)) (mNil)))))))) ρ (X :: C :: HD :: rest)
      = .ok [.tup (encL b), .tup (encL c)] (X :: C :: HD' :: rest) ∧ (okL A N H b = true ∧ dpL b ≤ d + 1 ∧ b.length ≤ 2 ∧ SBL d 2 b) ∧ (okL A N H c = true ∧ dpL c ≤ d + 1 ∧ c.length ≤ 2 ∧ SBL d 2 c) ∧ HOk (n + (2 * cst d + 1) * 2) C HD' := by
  have hp := cst_pos d
  obtain ⟨ys, HD', e, ha, h'⟩ := lc_drawn (R := fun _ v => BlkR A N H d 2 v) (2 * cst d + 1) (2 ^ 39 - (3 * cst d + 1)) (n := n) (X := X) (C := C) (HD := HD) (rest := rest) (vs := [8]) (mi := mItR1 (mC (.int 2))) (ρ := ρ) (t := tgN 8)
    (te := mCall 6 rb (mCons (mVar 0) (mCons (mVar 1) (mCons (mVar 2) (mCons (mOp qSub (mVar 3) (mC (.int 1))) (mCons (mVar 4) (mCons (mOp qSub (mOp gAdd (mC (.int 1)) (mCall 2 f__law_draw (mCons (mVar 0) (mCons (mC (.int 2)) (mNil))))) (mVar 8)) (mNil)))))))) (l := (List.range 2).map encN) (x_rgI rfl (by omega))
    (fun x hx HD n hh hn => by
      obtain ⟨i, hi, rfl⟩ := List.mem_map.mp hx
      have hi2 : i < 2 := List.mem_range.mp hi
      obtain ⟨k, H1, e1, p1, q1, h1⟩ := l_draw (X := X) (rest := rest) hh (m := 2) (by omega) (by omega) (by omega)
      obtain ⟨k, rfl⟩ := Int.eq_ofNat_of_zero_le p1
      obtain ⟨v, H2, e2, ⟨b, hv, g1, g2, g3, g4⟩, h2⟩ := hb (n + 1) (1 + k - i) X C H1 rest h1 (by omega) (by
        have : cst d * (1 + k - i) ≤ cst d * 2 := Nat.mul_le_mul_left _ (by omega)
        omega)
      have hw : (wipeD ρ [8]).set 8 (some (encN i)) = ρ.set 8 (some (.int i)) := by simp [wipeD, encN]
      have s0 : (ρ.set 8 (some (.int (i : Int))))[0]? = some (some (.ref 2)) := by simpa using r0
      have s1 : (ρ.set 8 (some (.int (i : Int))))[1]? = some (some (.int A)) := by simpa using r1
      have s2 : (ρ.set 8 (some (.int (i : Int))))[2]? = some (some (.int N)) := by simpa using r2
      have s3 : (ρ.set 8 (some (.int (i : Int))))[3]? = some (some (.int ((d : Int) + 1))) := by simpa using r3
      have s4 : (ρ.set 8 (some (.int (i : Int))))[4]? = some (some (.int H)) := by simpa using r4
      have s8 : (ρ.set 8 (some (.int (i : Int))))[8]? = some (some (.int i)) := by simp [hρ]
      refine ⟨ρ.set 8 (some (.int i)), v, H2, ?_, ?_, ⟨b, hv, g1, g2, by omega, fun hs M m1 m2 => Nat.le_trans (g4 hs M m1 m2) (Nat.mul_le_mul_right _ (by omega))⟩, h2.mono ?_⟩
      · simp [wipeD, hρ, encN]
      · have e1' : f__law_draw [.ref 2, .int 2] (X :: C :: HD :: rest) = .ok (.int k) (X :: C :: H1 :: rest) := e1
        have e2' : rb [.ref 2, .int A, .int N, .int ((d : Int) + 1 - 1), .int H, .int (1 + (k : Int) - (i : Int))] (X :: C :: H1 :: rest) = .ok v (X :: C :: H2 :: rest) := by
          rw [show (d : Int) + 1 - 1 = d by omega, show 1 + (k : Int) - i = ((1 + k - i : Nat) : Int) by omega]; exact e2
        simp only [x_call, x_cons, x_op, x_nil, x_c, x_var s0, x_var s1, x_var s2, x_var s3, x_var s4, x_var s8, DR.bind_ok]
        simp at e2'
        simp [e1', e2']
      · have : cst d * (1 + k - i) ≤ cst d * 2 := Nat.mul_le_mul_left _ (by omega)
        omega) h (by simp; omega) (by simp)
  match ys, ha with
  | [_, _], .cons ⟨b, rfl, b1, b2, b3, b4⟩ (.cons ⟨c, rfl, c1, c2, c3, c4⟩ .nil) =>
    refine ⟨b, c, HD', ?_, ⟨b1, b2, b3, b4⟩, ⟨c1, c2, c3, c4⟩, by simpa using h'⟩
    rw [e]
end Lw

namespace Lw
open PySem L2 Md
theorem dpL_le {l : List St} {d : Nat} (h : dpL l ≤ d + 1) : dpL l ≤ d + 1 := h
theorem l_stm_of {A N H d : Nat} {rs rb : Fn} (hA : 1 ≤ A ∧ A ≤ 4) (hN : 3 ≤ N ∧ N ≤ 4) (hH : H ≤ 4) (hb : ∀ d', d = d' + 1 → BlkS A N H rb d') : StmS A N H (runFn 9 5 (b__law_statement rs rb)) d := by
  intro n X C HD rest h hn
  have hp := cst_pos d
  obtain ⟨k, H1, e1, p1, q1, h1⟩ := l_draw (X := X) (rest := rest) h (m := 10) (by omega) (by omega) (by omega)
  obtain ⟨k, rfl⟩ := Int.eq_ofNat_of_zero_le p1
  obtain ⟨os, H2, e2, p2, h2⟩ := l_order (N := N) (X := X) (rest := rest) h1 (by omega) (by omega)
  obtain ⟨o0, o1, o2, r, rfl, l0, l1, l2, d1, d2, d3⟩ := order3 p2 hN.1
  have hr : mRg1 (mVar 2) [some (.ref 2), some (.int A), some (.int N), some (.int d), some (.int H), some (.int k), none, none, none] (X :: C :: H1 :: rest) = .ok ((List.range N).map encN) (X :: C :: H1 :: rest) := x_rgL (by simp) (by omega)
  generalize hT : ([.lst ((List.range N).map encN), .lst [], .lst ((o0 :: o1 :: o2 :: r).map encN)] : DM) = T at e2
  have hL : ∀ HD, (X :: C :: HD :: (rest ++ T))[rest.length + 5]? = some (.lst ((o0 :: o1 :: o2 :: r).map encN)) := fun HD => by rw [← hT]; simp
  have s1 : sAsg (mCall 2 f__law_draw (mCons (mVar 0) (mCons (mC (.int 10)) (mNil)))) (tgN 5) [some (.ref 2), some (.int A), some (.int N), some (.int d), some (.int H), none, none, none, none] (X :: C :: HD :: rest)
      = .nx [some (.ref 2), some (.int A), some (.int N), some (.int d), some (.int H), some (.int k), none, none, none] (X :: C :: H1 :: rest) := by simp [e1]
  have s2 : sAsg (mCall 2 f__law_mixed (mCons (mVar 0) (mCons (mKeep (mRg1 (mVar 2))) (mNil)))) (tgN 6) [some (.ref 2), some (.int A), some (.int N), some (.int d), some (.int H), some (.int k), none, none, none] (X :: C :: H1 :: rest)
      = .nx [some (.ref 2), some (.int A), some (.int N), some (.int d), some (.int H), some (.int k), some (.ref (rest.length + 5)), none, none] (X :: C :: H2 :: (rest ++ T)) := by
    simp [hr, e2]
  have i0 : ∀ HD, gIx (.ref (rest.length + 5)) (.int 0) (X :: C :: HD :: (rest ++ T)) = .ok (.int o0) (X :: C :: HD :: (rest ++ T)) := fun HD => gIxr (k := 0) (hL HD) rfl
  have i1 : ∀ HD, gIx (.ref (rest.length + 5)) (.int 1) (X :: C :: HD :: (rest ++ T)) = .ok (.int o1) (X :: C :: HD :: (rest ++ T)) := fun HD => gIxr (k := 1) (hL HD) rfl
  by_cases hc : 0 < d ∧ k < 4
  · obtain ⟨d, rfl⟩ : ∃ d', d = d' + 1 := ⟨d - 1, by omega⟩
    have hb' := hb d rfl
    have hq := cst_pos d
    rw [cst_succ] at hn
    obtain ⟨b, c, H3, e3, ⟨b1, b2, b3, b4⟩, ⟨c1, c2, c3, c4⟩, h3⟩ := two_blocks (rest := rest ++ T) (X := X) (ρ := [some (.ref 2), some (.int A), some (.int N), some (.int ((d : Int) + 1)), some (.int H), some (.int k), some (.ref (rest.length + 5)), none, none]) hb' h2 (by omega) rfl rfl rfl rfl rfl rfl
    obtain ⟨a, H4, e4, p4, q4, h4⟩ := l_draw (X := X) (rest := rest ++ T) h3 (m := A) (by omega) (by omega) (by omega)
    obtain ⟨a, rfl⟩ := Int.eq_ofNat_of_zero_le p4
    obtain ⟨s, H5, e5, s5, h5⟩ := l_share (X := X) (rest := rest ++ T) h4 (by omega)
    obtain ⟨z, H6, e6, p6, q6, h6⟩ := l_draw (X := X) (rest := rest ++ T) h3 (m := 3) (by omega) (by omega) (by omega)
    obtain ⟨z, rfl⟩ := Int.eq_ofNat_of_zero_le p6
    have ha : a < A := by omega
    have g0 : 0 < (d : Int) + 1 := by omega
    have dm : max (dpL b) (dpL c) ≤ d + 1 := by omega
    have ends : ∀ (x : St) (HD' : DC), b__law_statement rs rb [some (.ref 2), some (.int A), some (.int N), some (.int ((d : Int) + 1)), some (.int H), none, none, none, none] (X :: C :: HD :: rest) = .rt x.enc (X :: C :: HD' :: (rest ++ T)) → HOk (n + cst (d + 1)) C HD' → x.ok A N H = true → x.dp ≤ d + 1 → SB (d + 1) x →
        ∃ (v : DV) (HD' : DC), runFn 9 5 (b__law_statement rs rb) [.ref 2, .int A, .int N, .int ((d + 1 : Nat) : Int), .int H] (X :: C :: HD :: rest) = .ok v (X :: C :: HD' :: rest) ∧ StmR A N H (d + 1) v ∧ HOk (n + cst (d + 1)) C HD' := fun x HD' e hh hx hd hsb =>
      ⟨x.enc, HD', run_hand rfl (und_pure _ (St.enc_pure _)) hh (by push_cast; exact e), ⟨x, rfl, hx, hd, hsb⟩, hh⟩
    push_cast at s1 s2
    by_cases k0 : k = 0
    · subst k0
      refine ends (.ask a o0 o1 b c) H4 ?_ (h4.mono (by rw [cst_succ]; omega)) (by simp [St.ok, ha, l0, l1, d1, b1, c1]; omega) (by simp only [St.dp]; omega) (fun hs M m1 m2 => by
        have := b4 hs M m1 m2
        have := c4 hs M m1 m2
        have e5 : 5 ^ (d + 1 + 1) * M = 5 * (5 ^ (d + 1) * M) := by rw [Nat.pow_succ]; simp only [Nat.mul_assoc, Nat.mul_comm, Nat.mul_left_comm]
        have := Nat.one_le_pow (d + 1) 5 (by omega)
        have : 1 ≤ 5 ^ (d + 1) * M := Nat.mul_pos (by omega) m1
        simp only [St.sz]
        rw [e5]
        omega)
      unfold b__law_statement
      rw [sq s1, sq s2]
      simp at e3
      simp [g0, e3, i0, i1, e4, St.enc]
    by_cases k1 : k = 1
    · subst k1
      refine ends (.over a o0 s b c) H5 ?_ (h5.mono (by rw [cst_succ]; omega)) (by simp [St.ok, ha, l0, s5, b1, c1]; omega) (by simp only [St.dp]; omega) (fun hs M m1 m2 => by
        have := b4 hs M m1 m2
        have := c4 hs M m1 m2
        have e5 : 5 ^ (d + 1 + 1) * M = 5 * (5 ^ (d + 1) * M) := by rw [Nat.pow_succ]; simp only [Nat.mul_assoc, Nat.mul_comm, Nat.mul_left_comm]
        have := Nat.one_le_pow (d + 1) 5 (by omega)
        have : 1 ≤ 5 ^ (d + 1) * M := Nat.mul_pos (by omega) m1
        simp only [St.sz]
        rw [e5]
        omega)
      unfold b__law_statement
      rw [sq s1, sq s2]
      simp at e3
      simp [g0, e3, i0, i1, e4, e5, St.enc]
    by_cases k2 : k = 2
    · subst k2
      refine ends (.there o0 b c) H3 ?_ (h3.mono (by rw [cst_succ]; omega)) (by simp [St.ok, l0, b1, c1]; omega) (by simp only [St.dp]; omega) (fun hs M m1 m2 => by
        have := b4 hs M m1 m2
        have := c4 hs M m1 m2
        have e5 : 5 ^ (d + 1 + 1) * M = 5 * (5 ^ (d + 1) * M) := by rw [Nat.pow_succ]; simp only [Nat.mul_assoc, Nat.mul_comm, Nat.mul_left_comm]
        have := Nat.one_le_pow (d + 1) 5 (by omega)
        have : 1 ≤ 5 ^ (d + 1) * M := Nat.mul_pos (by omega) m1
        simp only [St.sz]
        rw [e5]
        omega)
      unfold b__law_statement
      rw [sq s1, sq s2]
      simp at e3
      simp [g0, e3, i0, i1, St.enc]
    · have k3 : k = 3 := by omega
      subst k3
      refine ends (.rounds z b) H6 ?_ (h6.mono (by rw [cst_succ]; omega)) (by simp [St.ok, b1]; omega) (by simp only [St.dp]; omega) (fun hs M m1 m2 => by
        have := b4 hs M m1 m2
        have e5 : 5 ^ (d + 1 + 1) * M = 5 * (5 ^ (d + 1) * M) := by rw [Nat.pow_succ]; simp only [Nat.mul_assoc, Nat.mul_comm, Nat.mul_left_comm]
        simp only [St.sz]
        rw [e5]
        have : z * (szL hs b).t ≤ 2 * (szL hs b).t := Nat.mul_le_mul_right _ (by omega)
        omega)
      unfold b__law_statement
      rw [sq s1, sq s2]
      simp at e3
      simp [g0, e3, i0, i1, e6, St.enc]
  · have s3 : ∀ m : SM, sIf (mAnd (mBl (mOp qGt (mVar 3) (mC (.int 0)))) (mBl (mOp qLt (mVar 5) (mC (.int 4))))) m sNil [some (.ref 2), some (.int A), some (.int N), some (.int d), some (.int H), some (.int k), some (.ref (rest.length + 5)), none, none] (X :: C :: H2 :: (rest ++ T))
        = .nx [some (.ref 2), some (.int A), some (.int N), some (.int d), some (.int H), some (.int k), some (.ref (rest.length + 5)), none, none] (X :: C :: H2 :: (rest ++ T)) := fun m => by
      by_cases h0 : 0 < d
      · have : ¬ k < 4 := fun z => hc ⟨h0, z⟩
        have h4 : ¬ (k : Int) < 4 := by omega
        simp [h0, h4]
      · have : d = 0 := by omega
        subst this
        simp
    have ends : ∀ (x : St) (HD' : DC) (U : DM), b__law_statement rs rb [some (.ref 2), some (.int A), some (.int N), some (.int d), some (.int H), none, none, none, none] (X :: C :: HD :: rest) = .rt x.enc (X :: C :: HD' :: (rest ++ (T ++ U))) → HOk (n + cst d) C HD' → x.ok A N H = true → x.dp ≤ d → SB d x →
        ∃ (v : DV) (HD' : DC), runFn 9 5 (b__law_statement rs rb) [.ref 2, .int A, .int N, .int d, .int H] (X :: C :: HD :: rest) = .ok v (X :: C :: HD' :: rest) ∧ StmR A N H d v ∧ HOk (n + cst d) C HD' := fun x HD' U e hh hx hd hsb =>
      ⟨x.enc, HD', run_hand rfl (und_pure _ (St.enc_pure _)) hh e, ⟨x, rfl, hx, hd, hsb⟩, hh⟩
    by_cases hk : k = 4 ∧ 0 < H
    · obtain ⟨hk4, hH0⟩ := hk
      subst hk4
      obtain ⟨z, H6, e6, p6, q6, h6⟩ := l_draw (X := X) (rest := rest ++ T) h2 (m := H) (by omega) (by omega) (by omega)
      obtain ⟨z, rfl⟩ := Int.eq_ofNat_of_zero_le p6
      refine ends (.doo z) H6 [] ?_ (h6.mono (by omega)) (by simp [St.ok]; omega) (by simp only [St.dp]; omega) (fun hs M m1 m2 => by
        simp only [St.sz, List.getD_eq_getElem?_getD]
        have h5 : M ≤ 5 ^ (d + 1) * M := Nat.le_mul_of_pos_left M (Nat.pow_pos (by omega))
        cases e : hs[z]? with
        | none => simp
        | some q => exact Nat.le_trans (m2 q (List.mem_of_getElem? e)) h5)
      unfold b__law_statement
      rw [sq s1, sq s2, sq (s3 _)]
      simp [hH0, e6, St.enc]
    · obtain ⟨x, H3, e3, x1, x2, x3, h3⟩ := l_plain (t := (rest ++ T).length) (rest := rest ++ T ++ [.lst (wds.map .str)]) (X := X) h2 (by omega) hA hN (by simp)
      refine ends x H3 [.lst (wds.map .str)] ?_ (h3.mono (by omega)) (x1 H) (by omega) (fun hs M m1 m2 => by rw [x3]; exact Nat.mul_pos (Nat.pow_pos (by omega)) m1)
      unfold b__law_statement
      rw [sq s1, sq s2, sq (s3 _)]
      have s4 : sIf (mAnd (mBl (mOp (gEq false) (mVar 5) (mC (.int 4)))) (mBl (mOp qGt (mVar 4) (mC (.int 0))))) (sRet (mTup (mCons (mC (.str "do")) (mCons (mCall 2 f__law_draw (mCons (mVar 0) (mCons (mVar 4) (mNil)))) (mNil))))) (sNil) [some (.ref 2), some (.int A), some (.int N), some (.int d), some (.int H), some (.int k), some (.ref (rest.length + 5)), none, none] (X :: C :: H2 :: (rest ++ T))
          = .nx [some (.ref 2), some (.int A), some (.int N), some (.int d), some (.int H), some (.int k), some (.ref (rest.length + 5)), none, none] (X :: C :: H2 :: (rest ++ T)) := by
        by_cases k4 : k = 4
        · have : ¬ 0 < H := fun z => hk ⟨k4, z⟩
          subst k4
          simp [this]
        · have h4 : ¬ (k : Int) = 4 := by omega
          simp [h4]
      rw [sq s4]
      simp [wds] at e3
      simp [e3, wds]
theorem l_stm_blk {A N H : Nat} (hA : 1 ≤ A ∧ A ≤ 4) (hN : 3 ≤ N ∧ N ≤ 4) (hH : H ≤ 4) : ∀ (d m : Nat), 2 * d + 1 ≤ m → StmS A N H (f__law_statement_n m) d ∧ BlkS A N H (f__law_block_n (m + 1)) d
  | 0, m + 1, _ => by
    have h1 : StmS A N H (f__law_statement_n (m + 1)) 0 := l_stm_of hA hN hH fun d' e => by omega
    exact ⟨h1, l_block_of (rb := f__law_block_n (m + 1)) h1⟩
  | d + 1, m + 2, h => by
    have ih := (l_stm_blk hA hN hH d m (by omega)).2
    have h1 : StmS A N H (f__law_statement_n (m + 2)) (d + 1) := l_stm_of hA hN hH fun d' e => by cases e; exact ih
    exact ⟨h1, l_block_of (rb := f__law_block_n (m + 2)) h1⟩
theorem l_statement {A N H : Nat} (hA : 1 ≤ A ∧ A ≤ 4) (hN : 3 ≤ N ∧ N ≤ 4) (hH : H ≤ 4) {d : Nat} (hd : d ≤ 2) : StmS A N H f__law_statement d := (l_stm_blk hA hN hH d 24 (by omega)).1
theorem l_block {A N H : Nat} (hA : 1 ≤ A ∧ A ≤ 4) (hN : 3 ≤ N ∧ N ≤ 4) (hH : H ≤ 4) {d : Nat} (hd : d ≤ 2) : BlkS A N H f__law_block d := (l_stm_blk hA hN hH d 23 (by omega)).2
end Lw

namespace Lw
open PySem L2 Md
theorem gAdd_ref {a b : Nat} {xs ys : List DV} {μ : DM} (ha : μ[a]? = some (.lst xs)) (hb : μ[b]? = some (.lst ys)) (h : xs.length + ys.length ≤ 16777216) : gAdd (.ref a) (.ref b) μ = .ok (.ref μ.length) (μ ++ [.lst (xs ++ ys)]) := by
  simp [gAdd, DV.lst, ha, hb, h]
theorem insS_mem {L : Pc} {s x : ST} (h : x ∈ insS L s) : x ∈ L ∨ x = s := by
  unfold insS at h
  simp only [List.append_assoc, List.mem_append, List.mem_cons, List.not_mem_nil, or_false] at h
  rcases h with h | h | h
  · exact .inl (List.mem_of_mem_take h)
  · exact .inr h
  · exact .inl (List.mem_of_mem_drop h)
theorem insS_len {L : Pc} {s : ST} : (insS L s).length = L.length + 1 := by
  unfold insS
  simp only [List.length_append, List.length_take, List.length_drop, List.length_cons, List.length_nil]
  omega
theorem jn_mem : ∀ {B A : Pc} {x : ST}, x ∈ jn A B → x ∈ A ∨ x ∈ B
  | [], A, x, h => .inl h
  | s :: B, A, x, h => by
    rcases jn_mem (B := B) (A := insS A s) h with h | h
    · rcases insS_mem h with h | h
      · exact .inl h
      · exact .inr (by simp [h])
    · exact .inr (by simp [h])
theorem jn_len : ∀ {B A : Pc}, (jn A B).length = A.length + B.length
  | [], A => rfl
  | s :: B, A => by
    show (jn (insS A s) B).length = _
    rw [jn_len, insS_len, List.length_cons]; omega
def JI (A B : Pc) (μ : DM) (l : List DV) (ρ : DE) (μ' : DM) : Prop := ∃ (F R : Pc) (j : Nat) (T : DM) (w4 w5 : Option DV), l = R.map PR ∧ ρ = [some (PC A), some (PC B), some (.ref j), some (.ref (μ.length + 1)), w4, w5, none] ∧
  μ' = μ ++ (.lst (A.map PR) :: .lst (B.map PR) :: T) ∧ μ'[j]? = some (.lst (F.map PR)) ∧ jn F R = jn A B ∧ (∀ x ∈ R, x ∈ B) ∧ (∀ x ∈ F, x ∈ A ∨ x ∈ B) ∧ F.length + R.length = A.length + B.length
theorem l_joined {A B : Pc} {k : Nat} {μ : DM} (hA : ∀ x ∈ A, SP k x) (hB : ∀ x ∈ B, SP k x) (hk : k < 1000) (hl : A.length + B.length < 1000000) : f__law_joined [PC A, PC B] μ = .ok (PC (jn A B)) μ := by
  suffices hs : OkE (fun v μ' => v = PC (jn A B) ∧ μ' = μ) NoX (f__law_joined [PC A, PC B] μ) by
    obtain ⟨v, μ', e, rfl, rfl⟩ := hs.ok
    exact e
  refine okE_run rfl ?_
  refine seq_step (ρ' := [some (PC A), some (PC B), some (.ref μ.length), some (.ref (μ.length + 1)), none, none, none]) (μ' := μ ++ [.lst (A.map PR), .lst (B.map PR)]) (by simp [PC]) ?_
  refine seq_thn ?_
  rw [x_for, x_it, x_var (v := .ref (μ.length + 1)) rfl, DR.bind_ok]
  have e1 : (μ ++ [.lst (A.map PR), .lst (B.map PR)])[μ.length + 1]? = some (.lst (B.map PR)) := by simp
  simp only [e1, st_ok]
  refine for_inv (JI A B μ) (fun l ρ μ' ⟨F, R, j, T, w4, w5, h1, h2, h3, h4⟩ => ?_) (fun x l ρ μ' ⟨F, R, j, T, w4, w5, h1, h2, h3, h4, h5, h6, h7, h8⟩ => ?_) (fun ρ μ' ⟨F, R, j, T, w4, w5, h1, h2, h3, h4, h5, h6, h7, h8⟩ => ?_) _ _ _
    ⟨A, B, μ.length, [], none, none, rfl, rfl, rfl, by simp, rfl, fun x h => h, fun x h => .inl h, rfl⟩
  · subst h3; simp [okAt]
  · match R, h1 with
    | r :: R, h1 =>
      simp only [List.map_cons, List.cons.injEq] at h1
      obtain ⟨rfl, rfl⟩ := h1
      subst h2
      refine ⟨_, rfl, ?_⟩
      have hs : ∀ x ∈ F, SP k x := fun x hx => (h7 x hx).elim (hA x) (hB x)
      have hr : SP k r := hB r (h6 r (by simp))
      have hF : F.length < 1000000 := by simp at h8; omega
      have e2 := lc_eq (μ0 := μ') (μ := μ') PR F (fun x => lexB x r) PR (vs := [6]) (mi := mIt (mVar 2)) (ρ := [some (PC A), some (PC B), some (.ref j), some (.ref (μ.length + 1)), some (PR r), w5, none]) (t := tgN 6)
        (tt := mTru (mCall 2 f__law_ahead (mCons (mVar 6) (mCons (mVar 4) (mNil))))) (te := mVar 6) (c := some j) (by simp [h4]) (by simp [okAt, h4]) (by show F.length ≤ 16777216; omega) (fun x hx => ⟨_, rfl, by simp [wipeD, l_lahead (hs x hx) hr hk], fun _ => by simp [wipeD]⟩)
      generalize hat : (F.filter fun x => lexB x r).length = at'
      have hle : at' ≤ F.length := by rw [← hat]; exact List.length_filter_le _ _
      refine seq_step (ρ' := [some (PC A), some (PC B), some (.ref j), some (.ref (μ.length + 1)), some (PR r), some (.int at'), none]) (μ' := μ') (by simp [e2, hat]) ?_
      have c1 : cutD (F.map PR) none (some (at' : Int)) = (F.take at').map PR := by rw [cut_to, List.map_take]
      have c2 : cutD (F.map PR) (some (at' : Int)) none = (F.drop at').map PR := by rw [cut_from, List.map_drop]
      have g4 : ∀ U, (μ' ++ U)[j]? = some (.lst (F.map PR)) := fun U => by rw [List.getElem?_append_left (List.getElem?_eq_some_iff.mp h4).1]; exact h4
      have fin : sAsg (mOp gAdd (mOp gAdd (mSl (mVar 2) (mNoP) (mP (mVar 5))) (mKeep (mLst (mCons (mVar 4) (mNil))))) (mSl (mVar 2) (mP (mVar 5)) (mNoP))) (tgN 2) [some (PC A), some (PC B), some (.ref j), some (.ref (μ.length + 1)), some (PR r), some (.int at'), none] μ'
          = .nx [some (PC A), some (PC B), some (.ref (μ'.length + 4)), some (.ref (μ.length + 1)), some (PR r), some (.int at'), none] (μ' ++ [.lst ((F.take at').map PR), .lst [PR r], .lst ((F.take at').map PR ++ [PR r]), .lst ((F.drop at').map PR), .lst ((insS F r).map PR)]) := by
        have l1 : (F.take at').length + 1 ≤ 16777216 := by rw [List.length_take]; omega
        have l2 : (F.take at').length + (1 + (F.drop at').length) ≤ 16777216 := by rw [List.length_take, List.length_drop]; omega
        have e3 : (insS F r).map PR = (F.take at').map PR ++ [PR r] ++ (F.drop at').map PR := by
          unfold insS; rw [hat]; simp
        rw [e3]
        have m1 : min at' F.length ≤ 16777215 := by omega
        have m2 : min at' F.length + (1 + (F.length - at')) ≤ 16777216 := by omega
        have m3 : min at' F.length + 1 + (F.length - at') ≤ 16777216 := by omega
        simp [h4, c1, c2, gAdd_ref, g4, m1, m2, m3]
      rw [fin]
      refine ⟨insS F r, R, μ'.length + 4, T ++ [.lst ((F.take at').map PR), .lst [PR r], .lst ((F.take at').map PR ++ [PR r]), .lst ((F.drop at').map PR), .lst ((insS F r).map PR)], some (PR r), some (.int at'), rfl, rfl, by rw [h3]; simp, by simp, h5, fun x hx => h6 x (by simp [hx]), fun x hx => ?_, ?_⟩
      · rcases insS_mem hx with h | h
        · exact h7 x h
        · exact .inr (h ▸ h6 r (by simp))
      · rw [insS_len]; simp at h8; omega
  · match R, h1 with
    | [], _ =>
      subst h2
      have e5 : F = jn A B := h5
      subst e5
      simp [DV.seq, h4]
      subst h3
      show OkE _ _ (tidy μ (PC (jn A B)) _)
      rw [tidy_app (und_pure _ PC_pure)]
      exact ⟨rfl, rfl⟩
end Lw

namespace Lw
open PySem L2 Md
/-! ## a yard in the store -/
structure YS (μ0 : DM) (a b c : Nat) (Z : Yd) (μ : DM) : Prop where
  len : μ0.length ≤ μ.length
  ha : μ[a]? = some (.lst (Z.ps.map PC))
  hb : μ[b]? = some (.lst (Z.sh.map PC))
  hc : μ[c]? = some (.lst (encL Z.wt).reverse)
  keep : ∀ i, i < μ0.length → i ≠ a → i ≠ b → i ≠ c → μ[i]? = μ0[i]?
theorem get_app {μ T : DM} {i : Nat} {d : DC} (h : μ[i]? = some d) : (μ ++ T)[i]? = some d := by
  rw [List.getElem?_append_left (List.getElem?_eq_some_iff.mp h).1]; exact h
theorem YS.app {μ0 μ : DM} {a b c : Nat} {Z : Yd} (h : YS μ0 a b c Z μ) (T : DM) : YS μ0 a b c Z (μ ++ T) :=
  ⟨by have := h.len; simp; omega, get_app h.ha, get_app h.hb, get_app h.hc, fun i hi h1 h2 h3 => by rw [List.getElem?_append_left (by have := h.len; omega)]; exact h.keep i hi h1 h2 h3⟩
theorem set_ne {μ : DM} {i j : Nat} {d : DC} (h : i ≠ j) : (μ.set i d)[j]? = μ[j]? := by rw [List.getElem?_set_ne h]
theorem set_eq {μ : DM} {i : Nat} {d e : DC} (h : μ[i]? = some e) : (μ.set i d)[i]? = some d := by
  rw [List.getElem?_set_self (List.getElem?_eq_some_iff.mp h).1]
theorem YS.setA {μ0 μ : DM} {a b c : Nat} {Z : Yd} (h : YS μ0 a b c Z μ) (hab : a ≠ b) (hac : a ≠ c) (ps : List Pc) : YS μ0 a b c { Z with ps := ps } (μ.set a (.lst (ps.map PC))) :=
  ⟨by simpa using h.len, set_eq h.ha, by rw [set_ne hab]; exact h.hb, by rw [set_ne hac]; exact h.hc, fun i hi h1 h2 h3 => by rw [set_ne (Ne.symm h1)]; exact h.keep i hi h1 h2 h3⟩
theorem YS.setB {μ0 μ : DM} {a b c : Nat} {Z : Yd} (h : YS μ0 a b c Z μ) (hab : a ≠ b) (hbc : b ≠ c) (sh : List Pc) : YS μ0 a b c { Z with sh := sh } (μ.set b (.lst (sh.map PC))) :=
  ⟨by simpa using h.len, by rw [set_ne (Ne.symm hab)]; exact h.ha, set_eq h.hb, by rw [set_ne hbc]; exact h.hc, fun i hi h1 h2 h3 => by rw [set_ne (Ne.symm h2)]; exact h.keep i hi h1 h2 h3⟩
theorem YS.setC {μ0 μ : DM} {a b c : Nat} {Z : Yd} (h : YS μ0 a b c Z μ) (hac : a ≠ c) (hbc : b ≠ c) (wt : List St) : YS μ0 a b c { Z with wt := wt } (μ.set c (.lst (encL wt).reverse)) :=
  ⟨by simpa using h.len, by rw [set_ne (Ne.symm hac)]; exact h.ha, by rw [set_ne (Ne.symm hbc)]; exact h.hb, set_eq h.hc, fun i hi h1 h2 h3 => by rw [set_ne (Ne.symm h3)]; exact h.keep i hi h1 h2 h3⟩
def totP (L : List Pc) : Nat := (L.map List.length).sum
def Yd.tot (Y : Yd) : Nat := totP Y.ps + totP Y.sh
theorem totP_set : ∀ (L : List Pc) (i : Nat) (P Q : Pc), L[i]? = some P → totP (L.set i Q) + P.length = totP L + Q.length
  | [], i, P, Q, h => by simp at h
  | x :: L, 0, P, Q, h => by simp at h; subst h; simp [totP]; omega
  | x :: L, i + 1, P, Q, h => by
    have := totP_set L i P Q (by simpa using h)
    simp only [totP, List.set_cons_succ, List.map_cons, List.sum_cons] at this ⊢
    omega
theorem totP_mem : ∀ {L : List Pc} {P : Pc}, P ∈ L → P.length ≤ totP L
  | x :: L, P, h => by
    simp only [totP, List.map_cons, List.sum_cons]
    rcases List.mem_cons.mp h with rfl | h
    · omega
    · have := totP_mem h; simp only [totP] at this; omega
structure Yd.Inv (A N k : Nat) (Z : Yd) : Prop where
  np : Z.ps.length = N
  ns : Z.sh.length = A
  ok : okTL A N Z.wt = true
  nrd : nrdL Z.wt = true
  sp : ∀ P ∈ Z.ps, ∀ x ∈ P, SP k x
  ss : ∀ P ∈ Z.sh, ∀ x ∈ P, SP k x
theorem pc_get {Z : Yd} {N p : Nat} (h : Z.ps.length = N) (hp : p < N) : Z.ps[p]? = some (Z.pc p) := by
  unfold Yd.pc
  rw [List.getD_eq_getElem?_getD, List.getElem?_eq_getElem (by omega)]; rfl
theorem sh_get {Z : Yd} {A p : Nat} (h : Z.sh.length = A) (hp : p < A) : Z.sh[p]? = some (Z.sh.getD p []) := by
  rw [List.getD_eq_getElem?_getD, List.getElem?_eq_getElem (by omega)]; rfl
theorem Yd.Inv.pcs {A N k p : Nat} {Z : Yd} (h : Z.Inv A N k) : ∀ x ∈ Z.pc p, SP k x := by
  unfold Yd.pc
  rw [List.getD_eq_getElem?_getD]
  cases q : Z.ps[p]? with
  | none => simp
  | some P => exact h.sp P (List.mem_of_getElem? q)
theorem Yd.Inv.shs {A N k p : Nat} {Z : Yd} (h : Z.Inv A N k) : ∀ x ∈ Z.sh.getD p [], SP k x := by
  rw [List.getD_eq_getElem?_getD]
  cases q : Z.sh[p]? with
  | none => simp
  | some P => exact h.ss P (List.mem_of_getElem? q)
theorem mem_setD {L : List Pc} {i : Nat} {Q P : Pc} (h : P ∈ L.set i Q) : P ∈ L ∨ P = Q := by
  rcases List.mem_or_eq_of_mem_set h with h | h
  · exact .inl h
  · exact .inr h
theorem jn_sp {k : Nat} {P Q : Pc} (h1 : ∀ x ∈ P, SP k x) (h2 : ∀ x ∈ Q, SP k x) : ∀ x ∈ jn P Q, SP k x := fun x hx => (jn_mem hx).elim (h1 x) (h2 x)
theorem pc_setE {Z : Yd} {p q : Nat} {Q : Pc} (h : p ≠ q) : (Z.ps.set q Q)[p]? = Z.ps[p]? := List.getElem?_set_ne (Ne.symm h)
theorem Yd.Inv.mv {A N k p q : Nat} {Z : Yd} (h : Z.Inv A N k) : (Z.mv p q).Inv A N k := by
  refine ⟨by simp [Yd.mv, h.np], h.ns, h.ok, h.nrd, fun P hP x hx => ?_, h.ss⟩
  simp only [Yd.mv] at hP
  rcases mem_setD hP with hP | hP
  · rcases mem_setD hP with hP | hP
    · exact h.sp P hP x hx
    · subst hP; exact jn_sp h.pcs h.pcs x hx
  · subst hP; cases hx
theorem tot_mv {A N k p q : Nat} {Z : Yd} (h : Z.Inv A N k) (hp : p < N) (hq : q < N) (hpq : p ≠ q) : (Z.mv p q).tot = Z.tot := by
  have e1 := totP_set Z.ps q (Z.pc q) (jn (Z.pc q) (Z.pc p)) (pc_get h.np hq)
  have e2 := totP_set (Z.ps.set q (jn (Z.pc q) (Z.pc p))) p (Z.pc p) [] (by rw [pc_setE hpq]; exact pc_get h.np hp)
  rw [jn_len] at e1
  simp only [Yd.tot, Yd.mv] at *
  simp at e2
  omega
theorem Yd.Inv.wtt {A N k : Nat} {Z : Yd} (h : Z.Inv A N k) {w : List St} (h1 : okTL A N w = true) (h2 : nrdL w = true) : ({ Z with wt := w } : Yd).Inv A N k := ⟨h.np, h.ns, h1, h2, h.sp, h.ss⟩
theorem having_mem {Z : Yd} {ps : List Nat} {p : Nat} (h : p ∈ Z.having ps) : p ∈ ps := (List.mem_filter.mp h).1
theorem Yd.Inv.stp {A N k : Nat} {Z : Yd} {x : St} (h : Z.Inv A N k) (hx : x.okT A N = true) (hn : x.nrd = true) : (Z.stp x).Inv A N k := by
  cases x with
  | best a ps q => simp only [Yd.stp]; split; exact h.mv; exact h
  | there p b c =>
    simp only [St.okT, St.nrd, Bool.and_eq_true] at hx hn
    simp only [Yd.stp]
    refine h.wtt ?_ ?_
    · rw [okTL_app, h.ok]; split <;> simp [hx]
    · rw [nrdL_app, h.nrd]; split <;> simp [hn]
  | give a p =>
    simp only [Yd.stp]
    refine ⟨by simp [h.np], by simp [h.ns], h.ok, h.nrd, fun P hP x hx => ?_, fun P hP x hx => ?_⟩
    · rcases mem_setD hP with hP | hP
      · exact h.sp P hP x hx
      · subst hP; cases hx
    · rcases mem_setD hP with hP | hP
      · exact h.ss P hP x hx
      · subst hP; exact jn_sp h.shs h.pcs x hx
  | move p q => exact h.mv
  | swap p q =>
    simp only [Yd.stp]
    refine ⟨by simp [h.np], h.ns, h.ok, h.nrd, fun P hP x hx => ?_, h.ss⟩
    rcases mem_setD hP with hP | hP
    · rcases mem_setD hP with hP | hP
      · exact h.sp P hP x hx
      · subst hP; exact h.pcs x hx
    · subst hP; exact h.pcs x hx
  | _ => exact h
theorem tot_stp {A N k : Nat} {Z : Yd} {x : St} (h : Z.Inv A N k) (hx : x.okT A N = true) : (Z.stp x).tot = Z.tot := by
  cases x with
  | best a ps q =>
    simp only [St.okT, Bool.and_eq_true, decide_eq_true_eq] at hx
    simp only [Yd.stp]
    split
    · rename_i p l e
      have hp := having_mem (e ▸ List.mem_cons_self : p ∈ Z.having ps)
      exact tot_mv h (of_decide_eq_true (List.all_eq_true.mp hx.2 p hp)) hx.1.2.1 fun e => hx.1.2.2.2.2.2 (e ▸ hp)
    · rfl
  | there p b c => rfl
  | give a p =>
    simp only [St.okT, decide_eq_true_eq] at hx
    have e1 := totP_set Z.ps p (Z.pc p) [] (pc_get h.np hx.2)
    have e2 := totP_set Z.sh a (Z.sh.getD a []) (jn (Z.sh.getD a []) (Z.pc p)) (sh_get h.ns hx.1)
    rw [jn_len] at e2
    simp only [Yd.tot, Yd.stp, List.length_nil] at *
    omega
  | move p q =>
    simp only [St.okT, decide_eq_true_eq] at hx
    exact tot_mv h hx.1 hx.2.1 hx.2.2
  | swap p q =>
    simp only [St.okT, decide_eq_true_eq] at hx
    have e1 := totP_set Z.ps p (Z.pc p) (Z.pc q) (pc_get h.np hx.1)
    have e2 := totP_set (Z.ps.set p (Z.pc q)) q (Z.pc q) (Z.pc p) (by rw [pc_setE (Ne.symm hx.2.2)]; exact pc_get h.np hx.2.1)
    simp only [Yd.tot, Yd.stp] at *
    omega
  | _ => rfl
end Lw

namespace Lw
open PySem L2 Md
@[simp] theorem x_pop {mo : EM} {ρ : DE} {μ : DM} : mPop mo ρ μ = (mo ρ μ).bind fun u μ => match u with
  | .ref n => match μ[n]? with
    | some (.lst xs) => match xs[xs.length - 1]? with
      | some y => .ok y (μ.set n (.lst xs.dropLast))
      | none => .bad
    | _ => .bad
  | _ => .bad := rfl
theorem rev_last (xs : List DV) (x : DV) : (xs.reverse ++ [x])[(xs.reverse ++ [x]).length - 1]? = some x := by simp
/-- the words within a list that is made anew -/
theorem in_wds {ss : List String} {ms : LM} {m : EM} {w : String} {ρ : DE} {μ : DM} (hm : m ρ μ = .ok (.str w) μ) (hs : ∀ μ, ms ρ μ = .ok (ss.map .str) μ) (hl : ss.length ≤ 1000) : mBl (mOp (gIn false) m (mKeep (mLst ms))) ρ μ = .ok (ss.contains w) (μ ++ [.lst (ss.map .str)]) := by
  have := gIn_strs (neg := false) (ss := ss) (w := w) (k := μ.length) (μ := μ ++ [.lst (ss.map .str)]) (by simp)
  simp at this
  simp [hm, hs, this, show ss.length ≤ 16777216 by omega]
theorem YS.pcI {μ0 μ : DM} {a b c N p : Nat} {Z : Yd} (h : YS μ0 a b c Z μ) (hn : Z.ps.length = N) (hp : p < N) : gIx (.ref a) (.int (p : Nat)) μ = .ok (PC (Z.pc p)) μ :=
  gIx_refn h.ha (by rw [List.getElem?_map, pc_get hn hp]; rfl)
theorem YS.shI {μ0 μ : DM} {a b c N p : Nat} {Z : Yd} (h : YS μ0 a b c Z μ) (hn : Z.sh.length = N) (hp : p < N) : gIx (.ref b) (.int (p : Nat)) μ = .ok (PC (Z.sh.getD p [])) μ :=
  gIx_refn h.hb (by rw [List.getElem?_map, sh_get hn hp]; rfl)
theorem PC_seqL {P : Pc} {μ : DM} : (PC P).seq μ = some (P.map PR) := rfl
theorem setIx_ref {n i : Nat} {xs : List DV} {v : DV} {μ : DM} (h : μ[n]? = some (.lst xs)) (hi : i < xs.length) : setIx (.ref n) (.int (i : Nat)) v μ = some (μ.set n (.lst (xs.set i v))) := by
  simp [setIx, h, ixN_nat hi]
theorem setIx_ps {μ0 μ : DM} {a b c N p : Nat} {Z : Yd} {Q : Pc} (h : YS μ0 a b c Z μ) (hn : Z.ps.length = N) (hp : p < N) : setIx (.ref a) (.int (p : Nat)) (PC Q) μ = some (μ.set a (.lst ((Z.ps.set p Q).map PC))) := by
  rw [setIx_ref h.ha (by simp; omega), List.map_set]
theorem setIx_sh {μ0 μ : DM} {a b c N p : Nat} {Z : Yd} {Q : Pc} (h : YS μ0 a b c Z μ) (hn : Z.sh.length = N) (hp : p < N) : setIx (.ref b) (.int (p : Nat)) (PC Q) μ = some (μ.set b (.lst ((Z.sh.set p Q).map PC))) := by
  rw [setIx_ref h.hb (by simp; omega), List.map_set]
theorem PC_nil : PC [] = .tup [] := rfl
/-- pieces joined: one goes to the other -/
theorem mv_step {μ0 μ : DM} {a b c A N k p q : Nat} {Z : Yd} {ρ : DE} {mp mq : EM} {i : Nat} (h : YS μ0 a b c Z μ) (hab : a ≠ b) (hac : a ≠ c) (hI : Z.Inv A N k) (hk : k < 1000) (ht : Z.tot ≤ 1000) (hp : p < N) (hq : q < N) (hpq : p ≠ q) (hr : ρ[i]? = some (some (.ref a))) (e1 : ∀ μ', μ'.length = μ.length → mp ρ μ' = .ok (.int p) μ') (e2 : ∀ μ', μ'.length = μ.length → mq ρ μ' = .ok (.int q) μ') :
    ∃ μ', sAsgS (mTup (mCons (mCall 2 f__law_joined (mCons (mOp gIx (mVar i) mq) (mCons (mOp gIx (mVar i) mp) (mNil)))) (mCons (mTup (mNil)) (mNil)))) (tsTup 2 (tsCons (tsSub (mVar i) mq) (tsCons (tsSub (mVar i) mp) (tsNil)))) ρ μ = .nx ρ μ' ∧ YS μ0 a b c (Z.mv p q) μ' ∧ μ'.length = μ.length ∧ ∀ i, i ≠ a → μ'[i]? = μ[i]? := by
  have g1 := h.pcI hI.np hp
  have g2 := h.pcI hI.np hq
  have hl : (Z.pc q).length + (Z.pc p).length < 1000000 := by
    have := totP_mem (List.mem_of_getElem? (pc_get hI.np hq))
    have := totP_mem (List.mem_of_getElem? (pc_get hI.np hp))
    simp only [Yd.tot] at ht; omega
  have j := l_joined (μ := μ) (hI.pcs (p := q)) (hI.pcs (p := p)) hk hl
  have s1 := setIx_ps (Q := jn (Z.pc q) (Z.pc p)) h hI.np hq
  have h1 := h.setA hab hac (Z.ps.set q (jn (Z.pc q) (Z.pc p)))
  have s2 := setIx_ps (p := p) (N := N) (Q := []) h1 (by simp [hI.np]) hp
  have h2 := h1.setA hab hac ((Z.ps.set q (jn (Z.pc q) (Z.pc p))).set p [])
  rw [PC_nil] at s2
  refine ⟨_, ?_, h2, by simp, fun i hi => by rw [set_ne (Ne.symm hi), set_ne (Ne.symm hi)]⟩
  have v : ∀ μ, mVar i ρ μ = .ok (.ref a) μ := fun μ => x_var hr
  simp only [x_sAsgS, x_tup, x_cons, x_nil, x_call, x_op, v, e1 μ rfl, e2 μ rfl, DR.bind_ok, g1, g2, DR.noex_ok, j, List.length_cons, List.length_nil, Nat.zero_add, if_true, x_tsTup, x_tsCons, x_tsNil, x_tsSub, s1, LIM_le, Nat.reduceAdd, Nat.reduceLeDiff]
  simp only [st_ok, x_tsTup, x_tsCons, x_tsSub, x_tsNil, v, e1 _ (List.length_set ..), e2 μ rfl, DR.noex_ok, DR.bind_ok, s1, s2, List.length_cons, List.length_nil, Nat.zero_add, Nat.reduceAdd, if_true]
end Lw

namespace Lw
open PySem L2 Md
theorem ONsd {Y : Yd} {p : Nat} : Y.sh.getD p [] = Y.sh.getD p [] := rfl
theorem give_step {μ0 μ : DM} {a b c A N k p q : Nat} {Z : Yd} {ρ : DE} {mp mq : EM} {i j : Nat} (h : YS μ0 a b c Z μ) (hab : a ≠ b) (hac : a ≠ c) (hbc : b ≠ c) (hI : Z.Inv A N k) (hk : k < 1000) (ht : Z.tot ≤ 1000) (hp : p < N) (hq : q < A) (hr : ρ[i]? = some (some (.ref a))) (hr2 : ρ[j]? = some (some (.ref b)))
    (e1 : ∀ μ', μ'.length = μ.length → mp ρ μ' = .ok (.int p) μ') (e2 : ∀ μ', μ'.length = μ.length → mq ρ μ' = .ok (.int q) μ') :
    ∃ μ', sAsgS (mTup (mCons (mCall 2 f__law_joined (mCons (mOp gIx (mVar j) mq) (mCons (mOp gIx (mVar i) mp) (mNil)))) (mCons (mTup (mNil)) (mNil)))) (tsTup 2 (tsCons (tsSub (mVar j) mq) (tsCons (tsSub (mVar i) mp) (tsNil)))) ρ μ = .nx ρ μ' ∧ YS μ0 a b c (Z.stp (.give q p)) μ' ∧ μ'.length = μ.length := by
  have g1 := h.pcI hI.np hp
  have g2 := h.shI hI.ns hq
  have hl : (Z.sh.getD q []).length + (Z.pc p).length < 1000000 := by
    have := totP_mem (List.mem_of_getElem? (sh_get hI.ns hq))
    have := totP_mem (List.mem_of_getElem? (pc_get hI.np hp))
    simp only [Yd.tot] at ht; omega
  have jj := l_joined (μ := μ) (hI.shs (p := q)) (hI.pcs (p := p)) hk hl
  have s1 := setIx_sh (Q := jn (Z.sh.getD q []) (Z.pc p)) h hI.ns hq
  have h1 := h.setB hab hbc (Z.sh.set q (jn (Z.sh.getD q []) (Z.pc p)))
  have s2 := setIx_ps (p := p) (N := N) (Q := []) h1 hI.np hp
  have h2 := h1.setA hab hac (Z.ps.set p [])
  rw [PC_nil] at s2
  refine ⟨_, ?_, h2, by simp⟩
  have v : ∀ μ, mVar i ρ μ = .ok (.ref a) μ := fun μ => x_var hr
  have v2 : ∀ μ, mVar j ρ μ = .ok (.ref b) μ := fun μ => x_var hr2
  simp only [x_sAsgS, x_tup, x_cons, x_nil, x_call, x_op, v, v2, e1 μ rfl, e2 μ rfl, DR.bind_ok, g1, g2, DR.noex_ok, jj, List.length_cons, List.length_nil, Nat.zero_add, if_true, x_tsTup, x_tsCons, x_tsNil, x_tsSub, s1, LIM_le, Nat.reduceAdd, Nat.reduceLeDiff]
  simp only [st_ok, x_tsTup, x_tsCons, x_tsSub, x_tsNil, v, v2, e1 _ (List.length_set ..), e2 μ rfl, DR.noex_ok, DR.bind_ok, s1, s2, List.length_cons, List.length_nil, Nat.zero_add, Nat.reduceAdd, if_true]
theorem swap_step {μ0 μ : DM} {a b c A N k p q : Nat} {Z : Yd} {ρ : DE} {mp mq : EM} {i : Nat} (h : YS μ0 a b c Z μ) (hab : a ≠ b) (hac : a ≠ c) (hI : Z.Inv A N k) (hp : p < N) (hq : q < N) (hr : ρ[i]? = some (some (.ref a)))
    (e1 : ∀ μ', μ'.length = μ.length → mp ρ μ' = .ok (.int p) μ') (e2 : ∀ μ', μ'.length = μ.length → mq ρ μ' = .ok (.int q) μ') :
    ∃ μ', sAsgS (mTup (mCons (mOp gIx (mVar i) mq) (mCons (mOp gIx (mVar i) mp) (mNil)))) (tsTup 2 (tsCons (tsSub (mVar i) mp) (tsCons (tsSub (mVar i) mq) (tsNil)))) ρ μ = .nx ρ μ' ∧ YS μ0 a b c (Z.stp (.swap p q)) μ' ∧ μ'.length = μ.length := by
  have g1 := h.pcI hI.np hp
  have g2 := h.pcI hI.np hq
  have s1 := setIx_ps (Q := Z.pc q) h hI.np hp
  have h1 := h.setA hab hac (Z.ps.set p (Z.pc q))
  have s2 := setIx_ps (p := q) (N := N) (Q := Z.pc p) h1 (by simp [hI.np]) hq
  have h2 := h1.setA hab hac ((Z.ps.set p (Z.pc q)).set q (Z.pc p))
  refine ⟨_, ?_, h2, by simp⟩
  have v : ∀ μ, mVar i ρ μ = .ok (.ref a) μ := fun μ => x_var hr
  simp only [x_sAsgS, x_tup, x_cons, x_nil, x_call, x_op, v, e1 μ rfl, e2 μ rfl, DR.bind_ok, g1, g2, DR.noex_ok, List.length_cons, List.length_nil, Nat.zero_add, if_true, x_tsTup, x_tsCons, x_tsNil, x_tsSub, s1, LIM_le, Nat.reduceAdd, Nat.reduceLeDiff]
  simp only [st_ok, x_tsTup, x_tsCons, x_tsSub, x_tsNil, v, e1 μ rfl, e2 _ (List.length_set ..), DR.noex_ok, DR.bind_ok, s1, s2, List.length_cons, List.length_nil, Nat.zero_add, Nat.reduceAdd, if_true]
/-- what a step of the walk leaves -/
def onP (Y : Yd) (y a b c : Nat) (μ0 : DM) : EP := { nx := fun ρ μ => ∃ Z, YS μ0 a b c Z μ ∧ Y.on = (none, Z), rt := fun v μ => ∃ Z x, YS μ0 a b c Z μ ∧ v = St.enc x ∧ Y.on = (some x, Z) }
def onI (Y : Yd) (y a b c A N k K : Nat) (μ0 : DM) (m : Nat) (ρ : DE) (μ : DM) : Prop := ∃ (Z : Yd) (w4 w5 w6 : Option DV), ρ = [some (.ref y), some (.ref a), some (.ref b), some (.ref c), w4, w5, w6] ∧ YS μ0 a b c Z μ ∧ Z.Inv A N k ∧ Z.tot = K ∧ Z.on = Y.on ∧ m = Z.left ∧ m ≤ 1000
theorem encL_rev (x : St) (w : List St) : (encL (x :: w)).reverse = (encL w).reverse ++ [x.enc] := by simp [encL]
theorem pop_w {μ0 μ : DM} {a b c : Nat} {Z : Yd} {x : St} {w : List St} (h : YS μ0 a b c Z μ) (hac : a ≠ c) (hbc : b ≠ c) (hw : Z.wt = x :: w) {ρ : DE} {i : Nat} (hr : ρ[i]? = some (some (.ref c))) :
    ∃ μ', mPop (mVar i) ρ μ = .ok x.enc μ' ∧ YS μ0 a b c { Z with wt := w } μ' ∧ μ'.length = μ.length := by
  have hc := h.hc
  rw [hw, encL_rev] at hc
  refine ⟨_, ?_, h.setC hac hbc w, by simp⟩
  simp [x_var hr, hc]
theorem isE {P : Pc} : (P.map PR).isEmpty = P.isEmpty := by cases P <;> rfl
theorem len_pos {P : Pc} : ((0 : Int) < (P.map PR).length) = (P.isEmpty = false) := by cases P <;> simp
def St.wd : St → String
  | .cut .. => "cut" | .part .. => "part" | .like .. => "like" | .best .. => "best" | .ask .. => "ask" | .over .. => "over" | .there .. => "there"
  | .give .. => "give" | .move .. => "move" | .swap .. => "swap" | .rounds .. => "rounds" | .doo .. => "do"
theorem wd_ix (x : St) (μ : DM) : gIx x.enc (.int 0) μ = .ok (.str x.wd) μ := by cases x <;> exact gIx_0
def Yd.tst (Z : Yd) : St → Bool
  | .cut _ p _ _ => !(Z.pc p).isEmpty
  | .part _ p _ _ => !(Z.pc p).isEmpty
  | .like _ p _ _ => !(Z.pc p).isEmpty
  | .ask .. => true
  | .over .. => true
  | _ => false
theorem g2_3 {x y z : DV} {xs : List DV} {μ : DM} : gIx (.tup (x :: y :: z :: xs)) (.int 2) μ = .ok z μ := gIx_nat (k := 2) rfl
theorem g3_4 {x y z u : DV} {xs : List DV} {μ : DM} : gIx (.tup (x :: y :: z :: u :: xs)) (.int 3) μ = .ok u μ := gIx_nat (k := 3) rfl
theorem g4_5 {x y z u v : DV} {xs : List DV} {μ : DM} : gIx (.tup (x :: y :: z :: u :: v :: xs)) (.int 4) μ = .ok v μ := gIx_nat (k := 4) rfl
theorem g5_6 {x y z u v w : DV} {xs : List DV} {μ : DM} : gIx (.tup (x :: y :: z :: u :: v :: w :: xs)) (.int 5) μ = .ok w μ := gIx_nat (k := 5) rfl
theorem on_test {μ0 μ : DM} {a b c A N k : Nat} {Z : Yd} {x : St} (h : YS μ0 a b c Z μ) (hI : Z.Inv A N k) (hx : x.okT A N = true) {ρ : DE} (r4 : ρ[4]? = some (some x.enc)) (r1 : ρ[1]? = some (some (.ref a))) :
    ∃ T, mOr (mBl (mOp (gIn false) (mOp gIx (mVar 4) (mC (.int 0))) (mKeep (mLst (mCons (mC (.str "ask")) (mCons (mC (.str "over")) (mNil))))))) (mAnd (mBl (mOp (gIn false) (mOp gIx (mVar 4) (mC (.int 0))) (mKeep (mLst (mCons (mC (.str "cut")) (mCons (mC (.str "part")) (mCons (mC (.str "like")) (mNil)))))))) (mBl (mOp qGt (mLen (mOp gIx (mVar 1) (mOp gIx (mVar 4) (mC (.int 2))))) (mC (.int 0))))) ρ μ = .ok (Z.tst x) (μ ++ T) := by
  have v4 : ∀ μ, mVar 4 ρ μ = .ok x.enc μ := fun μ => x_var r4
  have v1 : ∀ μ, mVar 1 ρ μ = .ok (.ref a) μ := fun μ => x_var r1
  have m0 : ∀ μ, mOp gIx (mVar 4) (mC (.int 0)) ρ μ = .ok (.str x.wd) μ := fun μ => by simp [v4, wd_ix]
  have t1 := in_wds (ss := ["ask", "over"]) (ms := mCons (mC (.str "ask")) (mCons (mC (.str "over")) (mNil))) (m0 μ) (fun _ => rfl) (by decide)
  have t2 := in_wds (ss := ["cut", "part", "like"]) (ms := mCons (mC (.str "cut")) (mCons (mC (.str "part")) (mCons (mC (.str "like")) (mNil)))) (m0 (μ ++ [.lst (["ask", "over"].map .str)])) (fun _ => rfl) (by decide)
  have h2 := h.app ([.lst (["ask", "over"].map .str), .lst (["cut", "part", "like"].map .str)])
  rw [List.append_assoc] at t2
  rw [x_or, t1, DR.bind_ok]
  have key : ∀ p, p < N → (∀ μ, mOp gIx (mVar 4) (mC (.int 2)) ρ μ = .ok (.int p) μ) → mBl (mOp qGt (mLen (mOp gIx (mVar 1) (mOp gIx (mVar 4) (mC (.int 2))))) (mC (.int 0))) ρ (μ ++ [.lst (["ask", "over"].map .str), .lst (["cut", "part", "like"].map .str)]) = .ok (!(Z.pc p).isEmpty) (μ ++ [.lst (["ask", "over"].map .str), .lst (["cut", "part", "like"].map .str)]) := fun p hp hm => by
    have := h2.pcI hI.np hp
    rw [x_bl, x_op, x_len, x_op, v1, DR.bind_ok, hm, DR.bind_ok, this]
    simp only [DR.noex_ok, DR.bind_ok, PC_seqL, x_c]
    cases Z.pc p <;> simp
  have bad : x.wd ∉ ["ask", "over"] → x.wd ∉ ["cut", "part", "like"] → Z.tst x = false → ∃ T, (if ["ask", "over"].contains x.wd = true then DR.ok true (μ ++ [.lst (["ask", "over"].map .str)]) else mAnd (mBl (mOp (gIn false) (mOp gIx (mVar 4) (mC (.int 0))) (mKeep (mLst (mCons (mC (.str "cut")) (mCons (mC (.str "part")) (mCons (mC (.str "like")) (mNil)))))))) (mBl (mOp qGt (mLen (mOp gIx (mVar 1) (mOp gIx (mVar 4) (mC (.int 2))))) (mC (.int 0)))) ρ (μ ++ [.lst (["ask", "over"].map .str)])) = .ok (Z.tst x) (μ ++ T) := fun n1 n2 n3 => by
    have e1 : ["ask", "over"].contains x.wd = false := by simpa using n1
    have e2 : ["cut", "part", "like"].contains x.wd = false := by simpa using n2
    exact ⟨_, by rw [e1, if_neg (by simp), x_and, t2, DR.bind_ok, e2, if_neg (by simp), n3]⟩
  have mk : ∀ p, p < N → x.wd ∉ ["ask", "over"] → x.wd ∈ ["cut", "part", "like"] → (∀ μ, mOp gIx (mVar 4) (mC (.int 2)) ρ μ = .ok (.int p) μ) → Z.tst x = !(Z.pc p).isEmpty → ∃ T, (if ["ask", "over"].contains x.wd = true then DR.ok true (μ ++ [.lst (["ask", "over"].map .str)]) else mAnd (mBl (mOp (gIn false) (mOp gIx (mVar 4) (mC (.int 0))) (mKeep (mLst (mCons (mC (.str "cut")) (mCons (mC (.str "part")) (mCons (mC (.str "like")) (mNil)))))))) (mBl (mOp qGt (mLen (mOp gIx (mVar 1) (mOp gIx (mVar 4) (mC (.int 2))))) (mC (.int 0)))) ρ (μ ++ [.lst (["ask", "over"].map .str)])) = .ok (Z.tst x) (μ ++ T) := fun p hp n1 n2 hm n3 => by
    have e1 : ["ask", "over"].contains x.wd = false := by simpa using n1
    have e2 : ["cut", "part", "like"].contains x.wd = true := by simpa using n2
    have := key p hp hm
    exact ⟨_, by rw [e1, if_neg (by simp), x_and, t2, DR.bind_ok, e2, if_pos rfl, n3]; exact this⟩
  cases x with
  | cut a' p s q =>
    simp only [St.okT, Bool.and_eq_true, decide_eq_true_eq] at hx
    exact mk p hx.1.2.1 (by simp [St.wd]) (by simp [St.wd]) (fun μ => by simp [v4, St.enc]) rfl
  | part a' p s q =>
    simp only [St.okT, Bool.and_eq_true, decide_eq_true_eq] at hx
    exact mk p hx.1.2.1 (by simp [St.wd]) (by simp [St.wd]) (fun μ => by simp [v4, St.enc]) rfl
  | like a' p r q =>
    simp only [St.okT, decide_eq_true_eq] at hx
    exact mk p hx.2.1 (by simp [St.wd]) (by simp [St.wd]) (fun μ => by simp [v4, St.enc]) rfl
  | ask => exact ⟨_, by rw [if_pos (by simp [St.wd])]; rfl⟩
  | over => exact ⟨_, by rw [if_pos (by simp [St.wd])]; rfl⟩
  | _ => exact bad (by simp [St.wd]) (by simp [St.wd]) rfl
end Lw

namespace Lw
open PySem L2 Md
theorem len_left : ∀ {w : List St}, nrdL w = true → w.length ≤ (szL [] w).t
  | [], _ => Nat.zero_le _
  | x :: w, h => by
    simp only [nrdL, Bool.and_eq_true] at h
    have := len_left h.2
    have := sz_pos x h.1
    simp only [szL, List.length_cons]; omega
theorem w_eq {x : St} {ρ : DE} {s : String} (r4 : ρ[4]? = some (some x.enc)) (μ : DM) : mBl (mOp (gEq false) (mOp gIx (mVar 4) (mC (.int 0))) (mC (.str s))) ρ μ = .ok (x.wd == s) μ := by
  simp [x_var r4, wd_ix]
/-- the pieces of a choice that have something -/
theorem l_having {μ0 μ : DM} {a b c A N k : Nat} {Z : Yd} {ps : List Nat} {vs : List Nat} {mi : IM} {ρ : DE} {i l : Nat} (h : YS μ0 a b c Z μ) (hI : Z.Inv A N k) (hps : ∀ p ∈ ps, p < N) (hl : ps.length ≤ 8) (hvs : ((wipeD ρ vs)[i]?) = some (some (.ref a))) (hil : i ≠ l) (hll : l < (wipeD ρ vs).length)
    (hi : mi ρ μ = .ok (ps.map encN, none) μ) : mLc vs mi (tgN l) (mBl (mOp qGt (mLen (mOp gIx (mVar i) (mVar l))) (mC (.int 0)))) (mVar l) ρ μ = .ok ((Z.having ps).map encN) μ := by
  refine lc_eq encN ps (fun p => !(Z.pc p).isEmpty) encN hi rfl (by show ps.length ≤ 16777216; omega) fun p hp => ?_
  have g := h.pcI hI.np (hps p hp)
  have v1 : ∀ μ, mVar i ((wipeD ρ vs).set l (some (encN p))) μ = .ok (.ref a) μ := fun μ => x_var (by rw [List.getElem?_set_ne (Ne.symm hil)]; exact hvs)
  have v2 : ∀ μ, mVar l ((wipeD ρ vs).set l (some (encN p))) μ = .ok (.int p) μ := fun μ => x_var (by rw [List.getElem?_set_self hll]; rfl)
  refine ⟨(wipeD ρ vs).set l (some (encN p)), by rw [x_tgN, if_pos hll], ?_, fun _ => v2 μ⟩
  rw [x_bl, x_op, x_len, x_op, v1, DR.bind_ok, v2, DR.bind_ok, g]
  simp only [DR.noex_ok, DR.bind_ok, PC_seqL, x_c]
  cases Z.pc p <;> simp
theorem having_len {Z : Yd} {ps : List Nat} : (Z.having ps).length ≤ ps.length := List.length_filter_le _ _
def onRho (y a b c : Nat) (x : St) (w5 w6 : Option DV) : DE := [some (.ref y), some (.ref a), some (.ref b), some (.ref c), some x.enc, w5, w6]
def restM : SM := sIf (mBl (mOp (gEq false) (mOp gIx (mVar 4) (mC (.int 0))) (mC (.str "best")))) (sSeq (sSetF (mLc [6] (mIt (mOp gIx (mVar 4) (mC (.int 2)))) (tgN 6) (mBl (mOp qGt (mLen (mOp gIx (mVar 1) (mVar 6))) (mC (.int 0)))) (mVar 6)) 5) <|
  sSeq (sIf (mBl (mOp qGt (mLen (mVar 5)) (mC (.int 1)))) (sRet (mVar 4)) (sNil)) <|
  sFor (mIt (mVar 5)) (tgN 6) (b__law_on_1)) (sIf (mBl (mOp (gEq false) (mOp gIx (mVar 4) (mC (.int 0))) (mC (.str "there")))) (sExpr (mExtend (mVar 3) (mRev (mIf (mBl (mOp qGt (mLen (mOp gIx (mVar 1) (mOp gIx (mVar 4) (mC (.int 1))))) (mC (.int 0)))) (mOp gIx (mVar 4) (mC (.int 2))) (mOp gIx (mVar 4) (mC (.int 3))))))) (sIf (mBl (mOp (gEq false) (mOp gIx (mVar 4) (mC (.int 0))) (mC (.str "give")))) (sAsgS (mTup (mCons (mCall 2 f__law_joined (mCons (mOp gIx (mVar 2) (mOp gIx (mVar 4) (mC (.int 1)))) (mCons (mOp gIx (mVar 1) (mOp gIx (mVar 4) (mC (.int 2)))) (mNil)))) (mCons (mTup (mNil)) (mNil)))) (tsTup 2 (tsCons (tsSub (mVar 2) (mOp gIx (mVar 4) (mC (.int 1)))) (tsCons (tsSub (mVar 1) (mOp gIx (mVar 4) (mC (.int 2)))) (tsNil))))) (sIf (mBl (mOp (gEq false) (mOp gIx (mVar 4) (mC (.int 0))) (mC (.str "move")))) (sAsgS (mTup (mCons (mCall 2 f__law_joined (mCons (mOp gIx (mVar 1) (mOp gIx (mVar 4) (mC (.int 2)))) (mCons (mOp gIx (mVar 1) (mOp gIx (mVar 4) (mC (.int 1)))) (mNil)))) (mCons (mTup (mNil)) (mNil)))) (tsTup 2 (tsCons (tsSub (mVar 1) (mOp gIx (mVar 4) (mC (.int 2)))) (tsCons (tsSub (mVar 1) (mOp gIx (mVar 4) (mC (.int 1)))) (tsNil))))) (sIf (mBl (mOp (gEq false) (mOp gIx (mVar 4) (mC (.int 0))) (mC (.str "swap")))) (sAsgS (mTup (mCons (mOp gIx (mVar 1) (mOp gIx (mVar 4) (mC (.int 2)))) (mCons (mOp gIx (mVar 1) (mOp gIx (mVar 4) (mC (.int 1)))) (mNil)))) (tsTup 2 (tsCons (tsSub (mVar 1) (mOp gIx (mVar 4) (mC (.int 1)))) (tsCons (tsSub (mVar 1) (mOp gIx (mVar 4) (mC (.int 2)))) (tsNil))))) (sNil)))))

theorem sIf_f {t : BM} {a b : SM} {ρ : DE} {μ μ' : DM} (h : t ρ μ = .ok false μ') : sIf t a b ρ μ = b ρ μ' := by
  rw [x_sIf, h, st_ok, if_neg (by decide)]
theorem sIf_t {t : BM} {a b : SM} {ρ : DE} {μ μ' : DM} (h : t ρ μ = .ok true μ') : sIf t a b ρ μ = a ρ μ' := by
  rw [x_sIf, h, st_ok, if_pos rfl]
theorem w_no {x : St} {ρ : DE} {s : String} (r4 : ρ[4]? = some (some x.enc)) (hs : x.wd ≠ s) (μ : DM) : mBl (mOp (gEq false) (mOp gIx (mVar 4) (mC (.int 0))) (mC (.str s))) ρ μ = .ok false μ := by
  rw [w_eq r4, beq_eq_false_iff_ne.mpr hs]
theorem w_yes {x : St} {ρ : DE} {s : String} (r4 : ρ[4]? = some (some x.enc)) (hs : x.wd = s) (μ : DM) : mBl (mOp (gEq false) (mOp gIx (mVar 4) (mC (.int 0))) (mC (.str s))) ρ μ = .ok true μ := by
  rw [w_eq r4, beq_iff_eq.mpr hs]
theorem rest_none {μ : DM} {y a b c : Nat} {w5 w6 : Option DV} {x : St} (n1 : x.wd ≠ "best") (n2 : x.wd ≠ "there") (n3 : x.wd ≠ "give") (n4 : x.wd ≠ "move") (n5 : x.wd ≠ "swap") : restM (onRho y a b c x w5 w6) μ = .nx (onRho y a b c x w5 w6) μ := by
  have q4 : (onRho y a b c x w5 w6)[4]? = some (some x.enc) := rfl
  unfold restM
  rw [sIf_f (w_no q4 n1 μ), sIf_f (w_no q4 n2 μ), sIf_f (w_no q4 n3 μ), sIf_f (w_no q4 n4 μ), sIf_f (w_no q4 n5 μ)]
  rfl
theorem rest_give {μ0 μ : DM} {y a b c A N k : Nat} {Z : Yd} {w5 w6 : Option DV} (h : YS μ0 a b c Z μ) (hab : a ≠ b) (hac : a ≠ c) (hbc : b ≠ c) (hI : Z.Inv A N k) (hk : k < 1000) (ht : Z.tot ≤ 1000) {a' p : Nat} (hx : (St.give a' p).okT A N = true) : ∃ w5' w6' μ', restM (onRho y a b c (St.give a' p) w5 w6) μ = .nx (onRho y a b c (St.give a' p) w5' w6') μ' ∧ YS μ0 a b c (Z.stp (St.give a' p)) μ' := by
  have q4 : (onRho y a b c (St.give a' p) w5 w6)[4]? = some (some (St.give a' p).enc) := rfl
  have v4 : ∀ μ, mVar 4 (onRho y a b c (St.give a' p) w5 w6) μ = .ok (St.give a' p).enc μ := fun μ => x_var q4
  simp only [St.okT, decide_eq_true_eq] at hx
  obtain ⟨μ', e, h', _⟩ := give_step (ρ := onRho y a b c (St.give a' p) w5 w6) (mp := mOp gIx (mVar 4) (mC (.int 2))) (mq := mOp gIx (mVar 4) (mC (.int 1))) (i := 1) (j := 2) h hab hac hbc hI hk ht hx.2 hx.1 rfl rfl (fun μ' _ => by simp [v4, St.enc]) (fun μ' _ => by simp [v4, St.enc])
  refine ⟨w5, w6, μ', ?_, h'⟩
  unfold restM
  rw [sIf_f (w_no q4 (by simp [St.wd]) μ), sIf_f (w_no q4 (by simp [St.wd]) μ), sIf_t (w_yes (s := "give") q4 rfl μ)]
  exact e
theorem rest_move {μ0 μ : DM} {y a b c A N k : Nat} {Z : Yd} {w5 w6 : Option DV} (h : YS μ0 a b c Z μ) (hab : a ≠ b) (hac : a ≠ c) (hbc : b ≠ c) (hI : Z.Inv A N k) (hk : k < 1000) (ht : Z.tot ≤ 1000) {p q : Nat} (hx : (St.move p q).okT A N = true) : ∃ w5' w6' μ', restM (onRho y a b c (St.move p q) w5 w6) μ = .nx (onRho y a b c (St.move p q) w5' w6') μ' ∧ YS μ0 a b c (Z.stp (St.move p q)) μ' := by
  have q4 : (onRho y a b c (St.move p q) w5 w6)[4]? = some (some (St.move p q).enc) := rfl
  have v4 : ∀ μ, mVar 4 (onRho y a b c (St.move p q) w5 w6) μ = .ok (St.move p q).enc μ := fun μ => x_var q4
  simp only [St.okT, decide_eq_true_eq] at hx
  obtain ⟨μ', e, h', _⟩ := mv_step (ρ := onRho y a b c (St.move p q) w5 w6) (mp := mOp gIx (mVar 4) (mC (.int 1))) (mq := mOp gIx (mVar 4) (mC (.int 2))) (i := 1) h hab hac hI hk ht hx.1 hx.2.1 hx.2.2 rfl (fun μ' _ => by simp [v4, St.enc]) (fun μ' _ => by simp [v4, St.enc])
  refine ⟨w5, w6, μ', ?_, h'⟩
  unfold restM
  rw [sIf_f (w_no q4 (by simp [St.wd]) μ), sIf_f (w_no q4 (by simp [St.wd]) μ), sIf_f (w_no q4 (by simp [St.wd]) μ), sIf_t (w_yes (s := "move") q4 rfl μ)]
  exact e
theorem rest_swap {μ0 μ : DM} {y a b c A N k : Nat} {Z : Yd} {w5 w6 : Option DV} (h : YS μ0 a b c Z μ) (hab : a ≠ b) (hac : a ≠ c) (hbc : b ≠ c) (hI : Z.Inv A N k) (hk : k < 1000) (ht : Z.tot ≤ 1000) {p q : Nat} (hx : (St.swap p q).okT A N = true) : ∃ w5' w6' μ', restM (onRho y a b c (St.swap p q) w5 w6) μ = .nx (onRho y a b c (St.swap p q) w5' w6') μ' ∧ YS μ0 a b c (Z.stp (St.swap p q)) μ' := by
  have q4 : (onRho y a b c (St.swap p q) w5 w6)[4]? = some (some (St.swap p q).enc) := rfl
  have v4 : ∀ μ, mVar 4 (onRho y a b c (St.swap p q) w5 w6) μ = .ok (St.swap p q).enc μ := fun μ => x_var q4
  simp only [St.okT, decide_eq_true_eq] at hx
  obtain ⟨μ', e, h', _⟩ := swap_step (ρ := onRho y a b c (St.swap p q) w5 w6) (mp := mOp gIx (mVar 4) (mC (.int 1))) (mq := mOp gIx (mVar 4) (mC (.int 2))) (i := 1) h hab hac hI hx.1 hx.2.1 rfl (fun μ' _ => by simp [v4, St.enc]) (fun μ' _ => by simp [v4, St.enc])
  refine ⟨w5, w6, μ', ?_, h'⟩
  unfold restM
  rw [sIf_f (w_no q4 (by simp [St.wd]) μ), sIf_f (w_no q4 (by simp [St.wd]) μ), sIf_f (w_no q4 (by simp [St.wd]) μ), sIf_f (w_no q4 (by simp [St.wd]) μ), sIf_t (w_yes (s := "swap") q4 rfl μ)]
  exact e
end Lw

namespace Lw
open PySem L2 Md
theorem rest_there {μ0 μ : DM} {y a b c A N k : Nat} {Z : Yd} {w5 w6 : Option DV} (h : YS μ0 a b c Z μ) (hab : a ≠ b) (hac : a ≠ c) (hbc : b ≠ c) (hI : Z.Inv A N k) (hk : k < 1000) (ht : Z.tot ≤ 1000) {p : Nat} {b' c' : List St} (hx : (St.there p b' c').okT A N = true) (hn : (St.there p b' c').nrd = true) (hleft : ((St.there p b' c').sz []).t + Z.left ≤ 1000) : ∃ w5' w6' μ', restM (onRho y a b c (St.there p b' c') w5 w6) μ = .nx (onRho y a b c (St.there p b' c') w5' w6') μ' ∧ YS μ0 a b c (Z.stp (St.there p b' c')) μ' := by
  have q4 : (onRho y a b c (St.there p b' c') w5 w6)[4]? = some (some (St.there p b' c').enc) := rfl
  have v4 : ∀ μ, mVar 4 (onRho y a b c (St.there p b' c') w5 w6) μ = .ok (St.there p b' c').enc μ := fun μ => x_var q4
  simp only [St.okT, Bool.and_eq_true, decide_eq_true_eq] at hx
  simp only [St.nrd, Bool.and_eq_true] at hn
  have g := h.pcI hI.np hx.1
  have hb := len_left hn.1
  have hc := len_left hn.2
  have hw := len_left hI.nrd
  simp only [St.sz, Yd.left] at hleft
  refine ⟨w5, w6, _, ?_, h.setC hac hbc _⟩
  unfold restM
  rw [sIf_f (w_no q4 (by simp [St.wd]) μ), sIf_t (w_yes (s := "there") q4 rfl μ)]
  have hcc : (DV.ref c).lst μ = some (encL Z.wt).reverse := lst_ref h.hc
  have hcc2 : (DV.ref c).at0 = c := rfl
  have e1 : mRev (mIf (mBl (mOp qGt (mLen (mOp gIx (mVar 1) (mOp gIx (mVar 4) (mC (.int 1))))) (mC (.int 0)))) (mOp gIx (mVar 4) (mC (.int 2))) (mOp gIx (mVar 4) (mC (.int 3)))) (onRho y a b c (St.there p b' c') w5 w6) μ = .ok (.tup (encL (if (Z.pc p).isEmpty then c' else b')).reverse) μ := by
    cases q : (Z.pc p).isEmpty with
    | true =>
      have : Z.pc p = [] := by simpa using q
      simp [onRho, St.enc, g, PC_seqL, this, g3_4]
    | false =>
      have h0 : 0 < ((Z.pc p).map PR).length := by
        cases q2 : Z.pc p with
        | nil => rw [q2] at q; simp at q
        | cons => simp
      have h3 : (0 : Int) < (((Z.pc p).map PR).length : Nat) := by omega
      simp at h3
      simp [onRho, St.enc, g, PC_seqL, h3]
  have e2 : mVar 3 (onRho y a b c (St.there p b' c') w5 w6) μ = .ok (.ref c) μ := rfl
  have lz : (encL Z.wt).reverse.length + (encL (if (Z.pc p).isEmpty then c' else b')).reverse.length ≤ LIM := by
    rw [List.length_reverse, List.length_reverse, encL_len, encL_len]
    show _ ≤ 16777216
    split <;> omega
  rw [x_sExpr, x_extend, e2]
  simp only [DR.bind_ok, hcc, e1, if_pos lz, st_ok, hcc2]
  rw [encL_map, encL_map, encL_map, List.map_append, List.reverse_append]
end Lw

namespace Lw
open PySem L2 Md
theorem rest_best {μ0 μ : DM} {y a b c A N k : Nat} {Z : Yd} {w5 w6 : Option DV} (h : YS μ0 a b c Z μ) (hab : a ≠ b) (hac : a ≠ c) (hbc : b ≠ c) (hI : Z.Inv A N k) (hk : k < 1000) (ht : Z.tot ≤ 1000) {a' q : Nat} {ps : List Nat} (hx : (St.best a' ps q).okT A N = true) :
    (Z.asks (St.best a' ps q) = true ∧ ∃ T, restM (onRho y a b c (St.best a' ps q) w5 w6) μ = .rt (St.best a' ps q).enc (μ ++ T)) ∨ (Z.asks (St.best a' ps q) = false ∧ ∃ w5' w6' μ', restM (onRho y a b c (St.best a' ps q) w5 w6) μ = .nx (onRho y a b c (St.best a' ps q) w5' w6') μ' ∧ YS μ0 a b c (Z.stp (St.best a' ps q)) μ') := by
  have q4 : (onRho y a b c (St.best a' ps q) w5 w6)[4]? = some (some (St.best a' ps q).enc) := rfl
  have v4 : ∀ μ, mVar 4 (onRho y a b c (St.best a' ps q) w5 w6) μ = .ok (St.best a' ps q).enc μ := fun μ => x_var q4
  simp only [St.okT, Bool.and_eq_true, decide_eq_true_eq] at hx
  have hps : ∀ p ∈ ps, p < N := fun p hp => of_decide_eq_true (List.all_eq_true.mp hx.2 p hp)
  have e1 := l_having (vs := [6]) (mi := mIt (mOp gIx (mVar 4) (mC (.int 2)))) (ρ := onRho y a b c (St.best a' ps q) w5 w6) (i := 1) (l := 6) h hI hps hx.1.2.2.2.1 rfl (by decide) (by simp [wipeD, onRho]) (by simp [onRho, St.enc])
  have hl := having_len (Z := Z) (ps := ps)
  have s1 : sSetF (mLc [6] (mIt (mOp gIx (mVar 4) (mC (.int 2)))) (tgN 6) (mBl (mOp qGt (mLen (mOp gIx (mVar 1) (mVar 6))) (mC (.int 0)))) (mVar 6)) 5 (onRho y a b c (St.best a' ps q) w5 w6) μ = .nx (onRho y a b c (St.best a' ps q) (some (.ref μ.length)) w6) (μ ++ [.lst ((Z.having ps).map encN)]) := by
    rw [x_sSetF, e1]; simp [onRho]
  have h1 := h.app [.lst ((Z.having ps).map encN)]
  unfold restM
  rw [sIf_t (w_yes (s := "best") q4 rfl μ)]
  rw [sq s1]
  by_cases hone : 1 < (Z.having ps).length
  · refine .inl ⟨by simp [Yd.asks, hone], [.lst ((Z.having ps).map encN)], ?_⟩
    have : (1 : Int) < ((Z.having ps).length : Nat) := by omega
    simp [onRho, DV.seq, this]
  · refine .inr ⟨by simp [Yd.asks, hone], ?_⟩
    have hone' : ¬ (1 : Int) < ((Z.having ps).length : Nat) := by omega
    have s2 : sIf (mBl (mOp qGt (mLen (mVar 5)) (mC (.int 1)))) (sRet (mVar 4)) (sNil) (onRho y a b c (St.best a' ps q) (some (.ref μ.length)) w6) (μ ++ [.lst ((Z.having ps).map encN)]) = .nx (onRho y a b c (St.best a' ps q) (some (.ref μ.length)) w6) (μ ++ [.lst ((Z.having ps).map encN)]) := by
      simp [onRho, DV.seq, hone']
    rw [sq s2, x_for]
    cases hh : Z.having ps with
    | nil =>
      rw [hh] at h1
      exact ⟨some (.ref μ.length), w6, _, by simp [onRho, sFor.go, okAt]; rfl, by simp only [Yd.stp, hh]; exact h1⟩
    | cons p l =>
      have hl0 : l = [] := by rw [hh] at hone; simp at hone; exact hone
      subst hl0
      rw [hh] at h1
      have hp := having_mem (hh ▸ List.mem_cons_self : p ∈ Z.having ps)
      obtain ⟨μ', e2, h2, hlen, hkeep⟩ := mv_step (ρ := onRho y a b c (St.best a' ps q) (some (.ref μ.length)) (some (encN p))) (mp := mVar 6) (mq := mOp gIx (mVar 4) (mC (.int 3))) (i := 1) h1 hab hac hI hk ht (hps p hp) hx.1.2.1 (fun e => hx.1.2.2.2.2.2 (e ▸ hp)) rfl (fun μ' _ => by simp [onRho, encN]) (fun μ' _ => by simp [onRho, St.enc, g3_4])
      have haL : μ.length ≠ a := by have := (List.getElem?_eq_some_iff.mp h.ha).1; omega
      refine ⟨some (.ref μ.length), some (encN p), μ', ?_, by simp only [Yd.stp, hh]; exact h2⟩
      have e3 : b__law_on_1 (onRho y a b c (St.best a' ps q) (some (.ref μ.length)) (some (encN p))) (μ ++ [.lst ([p].map encN)]) = .nx (onRho y a b c (St.best a' ps q) (some (.ref μ.length)) (some (encN p))) μ' := e2
      have e4 : mIt (mVar 5) (onRho y a b c (St.best a' ps q) (some (.ref μ.length)) w6) (μ ++ [.lst ([p].map encN)]) = .ok ([p].map encN, some μ.length) (μ ++ [.lst ([p].map encN)]) := by simp [onRho]
      have e5 : tgN 6 (encN p) (onRho y a b c (St.best a' ps q) (some (.ref μ.length)) w6) (μ ++ [.lst ([p].map encN)]) = some (onRho y a b c (St.best a' ps q) (some (.ref μ.length)) (some (encN p))) := by simp [onRho]
      rw [e4, st_ok]
      show sFor.go _ _ _ [encN p] _ _ = _
      rw [go_cons (by simp [okAt]) e5 e3, go_nil]
      simp [okAt, hkeep _ haL]
end Lw

namespace Lw
open PySem L2 Md
def optE : Option St → DV
  | none => .non
  | some x => x.enc
theorem asks_tst {Z : Yd} {x : St} (h : Z.tst x = true) : Z.asks x = true := by
  cases x <;> first | exact h | rfl | simp [Yd.tst] at h
theorem stp_on {Z : Yd} {x : St} {w : List St} (hn : nrdL Z.wt = true) (h : Z.wt = x :: w) (ha : ({ Z with wt := w } : Yd).asks x = false) : (({ Z with wt := w } : Yd).stp x).on = Z.on := (on_stp hn h ha).symm
/-- once through the walk's body -/
theorem on_body {Y : Yd} {μ0 μ : DM} {y a b c A N k K m : Nat} {ρ : DE} (hab : a ≠ b) (hac : a ≠ c) (hbc : b ≠ c) (hk : k < 1000) (hK : K ≤ 1000) (h : onI Y y a b c A N k K μ0 m ρ μ) :
    OkE (fun t μ => if t = true then OkS { nx := fun ρ μ => ∃ m', m' < m ∧ onI Y y a b c A N k K μ0 m' ρ μ, ct := fun ρ μ => ∃ m', m' < m ∧ onI Y y a b c A N k K μ0 m' ρ μ, bk := (onP Y y a b c μ0).nx, rt := (onP Y y a b c μ0).rt, ex := (onP Y y a b c μ0).ex } (b__law_on_2 ρ μ) else (onP Y y a b c μ0).nx ρ μ) (fun e μ => (onP Y y a b c μ0).ex e ρ μ) (mBl (mOp qGt (mLen (mVar 3)) (mC (.int 0))) ρ μ) := by
  obtain ⟨Z, w4, w5, w6, rfl, hS, hI, hT, hon, rfl, hm⟩ := h
  have hl : (DV.ref c).seq μ = some (encL Z.wt).reverse := seq_ref hS.hc
  cases hw : Z.wt with
  | nil =>
    rw [hw] at hl
    have e : mBl (mOp qGt (mLen (mVar 3)) (mC (.int 0))) [some (.ref y), some (.ref a), some (.ref b), some (.ref c), w4, w5, w6] μ = .ok false μ := by
      simp [hl, encL]
    rw [e, okE_ok, if_neg (by decide)]
    exact ⟨Z, hS, by rw [← hon, on_nil hw]⟩
  | cons x w =>
    rw [hw] at hl
    have e : mBl (mOp qGt (mLen (mVar 3)) (mC (.int 0))) [some (.ref y), some (.ref a), some (.ref b), some (.ref c), w4, w5, w6] μ = .ok true μ := by
      have : (0 : Int) < ((encL w).length : Int) + 1 := by omega
      simp [hl, encL, this]
    rw [e, okE_ok, if_pos rfl]
    have hn := hI.nrd
    have hok := hI.ok
    rw [hw] at hn hok
    simp only [nrdL, okTL, Bool.and_eq_true] at hn hok
    obtain ⟨μ1, e1, h1, hl1⟩ := pop_w hS hac hbc hw (ρ := [some (.ref y), some (.ref a), some (.ref b), some (.ref c), w4, w5, w6]) (i := 3) rfl
    have s1 : sAsg (mPop (mVar 3)) (tgN 4) [some (.ref y), some (.ref a), some (.ref b), some (.ref c), w4, w5, w6] μ = .nx (onRho y a b c x w5 w6) μ1 := by
      rw [x_sAsg, e1]; rfl
    have hI1 : ({ Z with wt := w } : Yd).Inv A N k := hI.wtt hok.2 hn.2
    obtain ⟨T, e2⟩ := on_test (x := x) (ρ := onRho y a b c x w5 w6) h1 hI1 hok.1 rfl rfl
    have hsz := left_cons hw
    have hleft : (x.sz []).t + ({ Z with wt := w } : Yd).left ≤ 1000 := by
      show (x.sz []).t + (szL [] w).t ≤ 1000; omega
    have h2 := h1.app T
    unfold b__law_on_2
    refine seq_step s1 ?_
    cases ht : ({ Z with wt := w } : Yd).tst x with
    | true =>
      rw [ht] at e2
      refine seq_thn ?_
      rw [sIf_t e2]
      show OkS _ (.rt x.enc (μ1 ++ T))
      exact ⟨_, x, h2, rfl, by rw [← hon, on_ask hw (asks_tst ht)]⟩
    | false =>
      rw [ht] at e2
      refine seq_step (by rw [sIf_f e2]; rfl) ?_
      have done : ∀ {w5' w6' : Option DV} {μ' : DM}, restM (onRho y a b c x w5 w6) (μ1 ++ T) = .nx (onRho y a b c x w5' w6') μ' → YS μ0 a b c (({ Z with wt := w } : Yd).stp x) μ' → ({ Z with wt := w } : Yd).asks x = false →
          OkS { nx := fun ρ μ => ∃ m', m' < Z.left ∧ onI Y y a b c A N k K μ0 m' ρ μ, ct := fun ρ μ => ∃ m', m' < Z.left ∧ onI Y y a b c A N k K μ0 m' ρ μ, bk := (onP Y y a b c μ0).nx, rt := (onP Y y a b c μ0).rt, ex := (onP Y y a b c μ0).ex } (restM (onRho y a b c x w5 w6) (μ1 ++ T)) := fun {w5' w6' μ'} e3 h3 ha => by
        rw [e3]
        have := stp_left hn.1 ha
        have h4 : ({ Z with wt := w } : Yd).left = (szL [] w).t := rfl
        refine ⟨_, ?_, _, some x.enc, w5', w6', rfl, h3, hI1.stp hok.1 hn.1, ?_, ?_, rfl, ?_⟩
        · omega
        · rw [tot_stp hI1 hok.1]; exact hT
        · rw [stp_on hI.nrd hw ha]; exact hon
        · omega
      show OkS _ (restM (onRho y a b c x w5 w6) (μ1 ++ T))
      have hT1 : ({ Z with wt := w } : Yd).tot ≤ 1000 := by show Z.tot ≤ 1000; omega
      cases x with
      | cut a' p s q => exact done (rest_none (by simp [St.wd]) (by simp [St.wd]) (by simp [St.wd]) (by simp [St.wd]) (by simp [St.wd])) h2 ht
      | part a' p s q => exact done (rest_none (by simp [St.wd]) (by simp [St.wd]) (by simp [St.wd]) (by simp [St.wd]) (by simp [St.wd])) h2 ht
      | like a' p r q => exact done (rest_none (by simp [St.wd]) (by simp [St.wd]) (by simp [St.wd]) (by simp [St.wd]) (by simp [St.wd])) h2 ht
      | ask => simp [Yd.tst] at ht
      | over => simp [Yd.tst] at ht
      | rounds => simp [St.nrd] at hn
      | doo => simp [St.nrd] at hn
      | give a' p => obtain ⟨w5', w6', μ', e3, h3⟩ := rest_give (y := y) (w5 := w5) (w6 := w6) h2 hab hac hbc hI1 hk hT1 hok.1; exact done e3 h3 rfl
      | move p q => obtain ⟨w5', w6', μ', e3, h3⟩ := rest_move (y := y) (w5 := w5) (w6 := w6) h2 hab hac hbc hI1 hk hT1 hok.1; exact done e3 h3 rfl
      | swap p q => obtain ⟨w5', w6', μ', e3, h3⟩ := rest_swap (y := y) (w5 := w5) (w6 := w6) h2 hab hac hbc hI1 hk hT1 hok.1; exact done e3 h3 rfl
      | there p b' c' => obtain ⟨w5', w6', μ', e3, h3⟩ := rest_there (y := y) (w5 := w5) (w6 := w6) h2 hab hac hbc hI1 hk hT1 hok.1 hn.1 hleft; exact done e3 h3 rfl
      | best a' ps q =>
        rcases rest_best (y := y) (w5 := w5) (w6 := w6) h2 hab hac hbc hI1 hk hT1 hok.1 with ⟨ha, U, e3⟩ | ⟨ha, w5', w6', μ', e3, h3⟩
        · rw [e3]
          exact ⟨_, _, h2.app U, rfl, by rw [← hon, on_ask hw ha]⟩
        · exact done e3 h3 ha
theorem pcs_und (L : List Pc) (n : Nat) : DV.undL n (L.map PC) = true := undL_pure _ (pureL_map (fun P => PC_pure) L)
/-- a function that changes the cells of a yard, to what is pure -/
theorem tidy_ys {μ0 μ : DM} {a b c : Nat} {Z : Yd} {v : DV} (h : YS μ0 a b c Z μ) (hv : v.und μ0.length = true) (ha : a < μ0.length) (hb : b < μ0.length) (hc : c < μ0.length) : ∃ μ', tidy μ0 v μ = .ok v μ' ∧ YS μ0 a b c Z μ' ∧ μ'.length = μ0.length := by
  have hw : tidyOk μ0 v μ := by
    refine ⟨hv, h.len, fun i hi => ?_⟩
    by_cases e1 : i = a
    · subst e1; right; rw [h.ha]; simp [DC.und, pcs_und]
    by_cases e2 : i = b
    · subst e2; right; rw [h.hb]; simp [DC.und, pcs_und]
    by_cases e3 : i = c
    · subst e3; right; rw [h.hc]
      have : DV.undL μ0.length (encL Z.wt).reverse = true := undL_pure _ (by
        rw [encL_map, ← List.map_reverse]; exact pureL_map (fun x => St.enc_pure x) _)
      simp [DC.und, this]
    · exact .inl (h.keep i hi e1 e2 e3)
  have tk : ∀ i, i < μ0.length → (μ.take μ0.length)[i]? = μ[i]? := fun i hi => by rw [List.getElem?_take, if_pos hi]
  have hl := h.len
  refine ⟨μ.take μ0.length, by unfold tidy; rw [if_pos hw], ⟨by simp; omega, by rw [tk a ha]; exact h.ha, by rw [tk b hb]; exact h.hb, by rw [tk c hc]; exact h.hc, fun i hi h1 h2 h3 => by rw [tk i hi]; exact h.keep i hi h1 h2 h3⟩, by simp; omega⟩
/-- a yard stands in the store -/
structure YA (μ : DM) (y a b c : Nat) (Y : Yd) : Prop where
  hy : μ[y]? = some (.lst [.ref a, .ref b, .ref c])
  s : YS μ a b c Y μ
  ab : a ≠ b
  ac : a ≠ c
  bc : b ≠ c
theorem YA.lt {μ : DM} {y a b c : Nat} {Y : Yd} (h : YA μ y a b c Y) : a < μ.length ∧ b < μ.length ∧ c < μ.length := ⟨(List.getElem?_eq_some_iff.mp h.s.ha).1, (List.getElem?_eq_some_iff.mp h.s.hb).1, (List.getElem?_eq_some_iff.mp h.s.hc).1⟩
theorem l_on {Y : Yd} {μ : DM} {y a b c A N k : Nat} (h : YA μ y a b c Y) (hI : Y.Inv A N k) (hk : k < 1000) (hT : Y.tot ≤ 1000) (hL : Y.left ≤ 1000) :
    ∃ μ', f__law_on [.ref y] μ = .ok (optE Y.on.1) μ' ∧ YS μ a b c Y.on.2 μ' ∧ μ'.length = μ.length := by
  suffices hs : OkE (fun v μ' => v = optE Y.on.1 ∧ YS μ a b c Y.on.2 μ' ∧ μ'.length = μ.length) NoX (f__law_on [.ref y] μ) by
    obtain ⟨v, μ', e, rfl, r⟩ := hs.ok
    exact ⟨μ', e, r⟩
  obtain ⟨la, lb, lc⟩ := h.lt
  refine okE_run rfl ?_
  refine seq_step (ρ' := [some (.ref y), some (.ref a), some (.ref b), some (.ref c), none, none, none]) (μ' := μ) (by
    rw [x_sAsg]
    simp [x_tgSqL h.hy]) ?_
  refine seq_thn ?_
  have P : ∀ {v : DV} {Z : Yd} {o : Option St} {μ' : DM}, YS μ a b c Z μ' → v = optE o → Y.on = (o, Z) → OkE (fun v μ' => v = optE Y.on.1 ∧ YS μ a b c Y.on.2 μ' ∧ μ'.length = μ.length) NoX (tidy μ v μ') := fun {v Z o μ'} h1 h2 h3 => by
    have hv : v.und μ.length = true := by
      subst h2
      cases o with
      | none => rfl
      | some x => exact und_pure _ (St.enc_pure x)
    obtain ⟨μ'', e, g1, g2⟩ := tidy_ys h1 hv la lb lc
    rw [e, h3]
    exact ⟨h2, g1, g2⟩
  refine (while_inv (P := onP Y y a b c μ) (onI Y y a b c A N k Y.tot μ) (fun m ρ μ' hi => ?_) WF Y.left _ _ (by show _ < 1000000; omega) ⟨Y, none, none, none, rfl, h.s, hI, rfl, rfl, rfl, hL⟩).mono (fun ρ μ' ⟨Z, h1, h2⟩ => ?_) (fun v μ' ⟨Z, x, h1, h2, h3⟩ => ?_) (fun e ρ μ' z => z.elim) (fun ρ μ' z => z.elim) (fun ρ μ' z => z.elim)
  · exact on_body h.ab h.ac h.bc hk hT hi
  · show OkE _ _ (tidy μ .non μ')
    exact P h1 (o := none) rfl h2
  · exact P h1 (o := some x) h2 h3
end Lw

namespace Lw
open PySem L2 Md
theorem l_cutA {P : Pc} {j : Nat} {x : Rat} {μ : DM} (hj : j < P.length) (hl : P.length < 1000000) : f__law_cut [PC P, .int j, FR x] μ = .ok (.tup [PC (ctL P j x), PC (ctR P j x)]) μ := by
  refine run_rt rfl ?_
  have g := PC_ix (μ := μ) hj
  have g0 : P.getD j (0, 0) = P[j] := by simp [List.getD, hj]
  have c1 : cutD (P.map PR) none (some (j : Int)) = (P.take j).map PR := by rw [cut_to, List.map_take]
  have c2 : cutD (P.map PR) (some ((j : Int) + 1)) none = (P.drop (j + 1)).map PR := by
    have := cut_from (xs := P.map PR) (k := j + 1)
    rw [List.map_drop]; simpa using this
  have e1 : PC (ctL P j x) = .tup ((P.take j).map PR ++ [.tup [FR P[j].1, FR x]]) := by unfold PC ctL; rw [g0]; simp [PR]
  have e2 : PC (ctR P j x) = .tup (.tup [FR x, FR P[j].2] :: (P.drop (j + 1)).map PR) := by unfold PC ctR; rw [g0]; simp [PR]
  have l1 : min j P.length + 1 ≤ 16777216 := by omega
  have l2 : 1 + (P.length - (j + 1)) ≤ 16777216 := by omega
  rw [e1, e2]
  have g' : gIx (.tup (P.map PR)) (.int (j : Int)) μ = .ok (PR P[j]) μ := g
  have a0 : gIx (PR P[j]) (.int 0) μ = .ok (FR P[j].1) μ := PR_ix0
  have a1 : gIx (PR P[j]) (.int 1) μ = .ok (FR P[j].2) μ := PR_ix1
  simp [b__law_cut, PC, g', a0, a1, c1, c2]
  rw [if_pos (by omega), if_pos (by omega)]
theorem ctL_sp {P : Pc} {j k : Nat} {x : Rat} (h : ∀ s ∈ P, SP k s) (hx : Sz k x) (hj : j < P.length) : ∀ s ∈ ctL P j x, SP k s := by
  intro s hs
  simp only [ctL, List.mem_append, List.mem_cons, List.not_mem_nil, or_false] at hs
  rcases hs with hs | rfl
  · exact h s (List.mem_of_mem_take hs)
  · refine ⟨?_, hx⟩
    rw [List.getD_eq_getElem?_getD, List.getElem?_eq_getElem hj]
    exact (h _ (List.getElem_mem hj)).a
theorem ctR_sp {P : Pc} {j k : Nat} {x : Rat} (h : ∀ s ∈ P, SP k s) (hx : Sz k x) (hj : j < P.length) : ∀ s ∈ ctR P j x, SP k s := by
  intro s hs
  simp only [ctR, List.mem_cons] at hs
  rcases hs with rfl | hs
  · refine ⟨hx, ?_⟩
    rw [List.getD_eq_getElem?_getD, List.getElem?_eq_getElem hj]
    exact (h _ (List.getElem_mem hj)).b
  · exact h s (List.mem_of_mem_drop hs)
theorem ct_len {P : Pc} {j : Nat} {x : Rat} (hj : j < P.length) : (ctL P j x).length + (ctR P j x).length = P.length + 1 := by
  simp only [ctL, ctR, List.length_append, List.length_take, List.length_cons, List.length_nil, List.length_drop]; omega
/-- an answer that can be done, of sizes that are carried -/
structure Yd.Fit (Y : Yd) (x : St) (an : An) (k : Nat) : Prop where
  f : Y.fit x an
  z : ∀ j r, an = .pt j r → Sz k r
theorem Yd.Inv.ct {A N k p q j : Nat} {r : Rat} {Z : Yd} (h : Z.Inv A N k) (hj : j < (Z.pc p).length) (hr : Sz k r) : (Z.ct p q j r).Inv A N k := by
  refine ⟨by simp [Yd.ct, h.np], h.ns, h.ok, h.nrd, fun P hP x hx => ?_, h.ss⟩
  simp only [Yd.ct] at hP
  rcases mem_setD hP with hP | hP
  · rcases mem_setD hP with hP | hP
    · exact h.sp P hP x hx
    · subst hP; exact ctR_sp h.pcs hr hj x hx
  · subst hP
    refine jn_sp ?_ (ctL_sp h.pcs hr hj) x hx
    intro y hy
    rw [List.getD_eq_getElem?_getD] at hy
    cases e : (Z.ps.set p (ctR (Z.pc p) j r))[q]? with
    | none => rw [e] at hy; simp at hy
    | some Q =>
      rw [e] at hy
      rcases mem_setD (List.mem_of_getElem? e) with hQ | hQ
      · exact h.sp Q hQ y hy
      · subst hQ; exact ctR_sp h.pcs hr hj y hy
theorem tot_ct {A N k p q j : Nat} {r : Rat} {Z : Yd} (h : Z.Inv A N k) (hp : p < N) (hq : q < N) (hpq : p ≠ q) (hj : j < (Z.pc p).length) : (Z.ct p q j r).tot = Z.tot + 1 := by
  have eq : (Z.ps.set p (ctR (Z.pc p) j r))[q]? = some (Z.pc q) := by rw [pc_setE (Ne.symm hpq)]; exact pc_get h.np hq
  have e0 : (Z.ps.set p (ctR (Z.pc p) j r)).getD q [] = Z.pc q := by rw [List.getD_eq_getElem?_getD, eq]; rfl
  have e1 := totP_set Z.ps p (Z.pc p) (ctR (Z.pc p) j r) (pc_get h.np hp)
  have e2 := totP_set (Z.ps.set p (ctR (Z.pc p) j r)) q (Z.pc q) (jn (Z.pc q) (ctL (Z.pc p) j r)) eq
  rw [jn_len] at e2
  have e3 := ct_len (x := r) hj
  simp only [Yd.tot, Yd.ct, e0]
  omega
theorem Yd.Inv.answ {A N k : Nat} {Z : Yd} {x : St} {an : An} (h : Z.Inv A N k) (hx : x.okT A N = true) (hn : x.nrd = true) (hf : Z.Fit x an k) : (Z.answ x an).Inv A N k := by
  have hf1 := hf.f
  cases x <;> cases an <;> first
    | exact h
    | exact h.ct hf1 (hf.z _ _ rfl)
    | exact h.mv
    | (simp only [St.okT, St.nrd, Bool.and_eq_true] at hx hn
       refine h.wtt ?_ ?_
       · rw [okTL_app, h.ok]; split <;> simp [hx]
       · rw [nrdL_app, h.nrd]; split <;> simp [hn])
theorem tot_answ {A N k : Nat} {Z : Yd} {x : St} {an : An} (h : Z.Inv A N k) (hx : x.okT A N = true) (hf : Z.fit x an) : (Z.answ x an).tot ≤ Z.tot + (x.sz []).m := by
  cases x <;> cases an <;> simp only [Yd.fit] at hf <;> first
    | exact hf.elim
    | (simp only [St.okT, Bool.and_eq_true, decide_eq_true_eq] at hx
       simp only [Yd.answ, St.sz]
       first
         | (rw [tot_ct h hx.1.2.1 hx.1.2.2.1 hx.1.2.2.2 hf]; exact Nat.le_refl _)
         | (rw [tot_ct h hx.2.1 hx.2.2.2.1 hx.2.2.2.2.1 hf]; exact Nat.le_refl _)
         | (rw [tot_mv h (of_decide_eq_true (List.all_eq_true.mp hx.2 _ hf)) hx.1.2.1 fun e => hx.1.2.2.2.2.2 (e ▸ hf)]; exact Nat.le_add_right _ _)
         | exact Nat.le_add_right _ _)
end Lw

namespace Lw
open PySem L2 Md
/-- what of what follows a cut -/
def cutM : SM := sSeq (sAsgS (mCall 3 f__law_cut (mCons (mOp gIx (mVar 3) (mOp gIx (mVar 1) (mC (.int 2)))) (mCons (mOp gIx (mVar 2) (mC (.int 0))) (mCons (mOp gIx (mVar 2) (mC (.int 1))) (mNil))))) (tsTup 2 (tsCons (tsN 6) (tsCons (tsSub (mVar 3) (mOp gIx (mVar 1) (mC (.int 2)))) (tsNil))))) <|
  sSub (mVar 3) (mOp gIx (mVar 1) (mC (.int 4))) (mCall 2 f__law_joined (mCons (mOp gIx (mVar 3) (mOp gIx (mVar 1) (mC (.int 4)))) (mCons (mVar 6) (mNil))))
theorem cut_step {μ0 μ : DM} {y a b c A N k p q j : Nat} {r : Rat} {xe : DV} {Z : Yd} (h : YS μ0 a b c Z μ) (hab : a ≠ b) (hac : a ≠ c) (hI : Z.Inv A N k) (hk : k < 1000) (ht : Z.tot ≤ 1000) (hp : p < N) (hq : q < N) (hpq : p ≠ q) (hj : j < (Z.pc p).length) (hr : Sz k r)
    (x2 : ∀ μ, gIx xe (.int 2) μ = .ok (.int p) μ) (x4 : ∀ μ, gIx xe (.int 4) μ = .ok (.int q) μ) :
    ∃ μ' w6, cutM [some (.ref y), some xe, some (.tup [.int j, FR r]), some (.ref a), some (.ref b), some (.ref c), none] μ = .nx [some (.ref y), some xe, some (.tup [.int j, FR r]), some (.ref a), some (.ref b), some (.ref c), w6] μ' ∧ YS μ0 a b c (Z.ct p q j r) μ' := by
  have hpl : (Z.pc p).length < 1000000 := by
    have := totP_mem (List.mem_of_getElem? (pc_get hI.np hp))
    simp only [Yd.tot] at ht; omega
  have g1 := h.pcI hI.np hp
  have c1 := l_cutA (x := r) (μ := μ) hj hpl
  have s1 := setIx_ps (Q := ctR (Z.pc p) j r) h hI.np hp
  have h1 := h.setA hab hac (Z.ps.set p (ctR (Z.pc p) j r))
  have g2 := h1.pcI (p := q) (N := N) (by simp [hI.np]) hq
  have eq : (Z.ps.set p (ctR (Z.pc p) j r)).getD q [] = Z.pc q := by
    rw [List.getD_eq_getElem?_getD, pc_setE (Ne.symm hpq), pc_get hI.np hq]; rfl
  have hql : (Z.pc q).length + (ctL (Z.pc p) j r).length < 1000000 := by
    have := totP_mem (List.mem_of_getElem? (pc_get hI.np hq))
    have := totP_mem (List.mem_of_getElem? (pc_get hI.np hp))
    have := ct_len (x := r) hj
    simp only [Yd.tot] at ht; omega
  have jj := l_joined (μ := μ.set a (.lst ((Z.ps.set p (ctR (Z.pc p) j r)).map PC))) (hI.pcs (p := q)) (ctL_sp hI.pcs hr hj) hk hql
  have h2 := h1.setA hab hac ((Z.ps.set p (ctR (Z.pc p) j r)).set q (jn (Z.pc q) (ctL (Z.pc p) j r)))
  have hcell := h1.ha
  have e1 : sAsgS (mCall 3 f__law_cut (mCons (mOp gIx (mVar 3) (mOp gIx (mVar 1) (mC (.int 2)))) (mCons (mOp gIx (mVar 2) (mC (.int 0))) (mCons (mOp gIx (mVar 2) (mC (.int 1))) (mNil))))) (tsTup 2 (tsCons (tsN 6) (tsCons (tsSub (mVar 3) (mOp gIx (mVar 1) (mC (.int 2)))) (tsNil)))) [some (.ref y), some xe, some (.tup [.int j, FR r]), some (.ref a), some (.ref b), some (.ref c), none] μ
      = .nx [some (.ref y), some xe, some (.tup [.int j, FR r]), some (.ref a), some (.ref b), some (.ref c), some (PC (ctL (Z.pc p) j r))] (μ.set a (.lst ((Z.ps.set p (ctR (Z.pc p) j r)).map PC))) := by
    simp [x2, g1, c1, s1]
  refine ⟨_, some (PC (ctL (Z.pc p) j r)), ?_, by unfold Yd.ct; rw [eq]; exact h2⟩
  unfold cutM
  rw [sq e1]
  have g2' : gIx (.ref a) (.int (q : Nat)) (μ.set a (.lst ((Z.ps.set p (ctR (Z.pc p) j r)).map PC))) = .ok (PC (Z.pc q)) (μ.set a (.lst ((Z.ps.set p (ctR (Z.pc p) j r)).map PC))) := by
    have : ({ Z with ps := Z.ps.set p (ctR (Z.pc p) j r) } : Yd).pc q = Z.pc q := eq
    rw [this] at g2; exact g2
  have la : a < μ.length := (List.getElem?_eq_some_iff.mp h.ha).1
  have lq : q < Z.ps.length := by rw [hI.np]; exact hq
  have hix : ixN ((Z.ps.set p (ctR (Z.pc p) j r)).map PC).length (q : Int) = some q := ixN_nat (by simpa using lq)
  have v3 : ∀ μ, mVar 3 [some (.ref y), some xe, some (.tup [.int j, FR r]), some (.ref a), some (.ref b), some (.ref c), some (PC (ctL (Z.pc p) j r))] μ = .ok (.ref a) μ := fun _ => rfl
  have v1 : ∀ μ, mVar 1 [some (.ref y), some xe, some (.tup [.int j, FR r]), some (.ref a), some (.ref b), some (.ref c), some (PC (ctL (Z.pc p) j r))] μ = .ok xe μ := fun _ => rfl
  have v6 : ∀ μ, mVar 6 [some (.ref y), some xe, some (.tup [.int j, FR r]), some (.ref a), some (.ref b), some (.ref c), some (PC (ctL (Z.pc p) j r))] μ = .ok (PC (ctL (Z.pc p) j r)) μ := fun _ => rfl
  simp only [x_sSub, x_call, x_cons, x_nil, x_op, v3, v1, v6, x_c, DR.bind_ok, x4, DR.noex_ok, g2', jj, List.length_cons, List.length_nil, Nat.zero_add, Nat.reduceAdd, if_true, st_ok, hcell, hix]
  simp only [List.map_set]
theorem l_answered {Y : Yd} {μ : DM} {y a b c A N k : Nat} {x : St} {an : An} (h : YA μ y a b c Y) (hI : Y.Inv A N k) (hk : k < 1000) (hT : Y.tot ≤ 1000) (hx : x.okT A N = true) (hn : x.nrd = true) (hL : Y.left + (x.sz []).t ≤ 1000) (hf : Y.Fit x an k) :
    ∃ μ', f__law_answered [.ref y, x.enc, an.enc] μ = .ok .non μ' ∧ YS μ a b c (Y.answ x an) μ' ∧ μ'.length = μ.length := by
  obtain ⟨la, lb, lc⟩ := h.lt
  suffices hs : ∃ ρ' μ', b__law_answered [some (.ref y), some x.enc, some an.enc, none, none, none, none] μ = .nx ρ' μ' ∧ YS μ a b c (Y.answ x an) μ' by
    obtain ⟨ρ', μ', e, h1⟩ := hs
    obtain ⟨μ'', e2, g1, g2⟩ := tidy_ys (v := .non) h1 rfl la lb lc
    refine ⟨μ'', ?_, g1, g2⟩
    unfold f__law_answered runFn
    show (if _ then (match b__law_answered [some (.ref y), some x.enc, some an.enc, none, none, none, none] μ with | .rt v μ' => tidy μ v μ' | .nx _ μ' => tidy μ .non μ' | .ex e _ μ' => tidyE μ e μ' | _ => .bad) else .bad) = _
    rw [if_pos (by rfl), e]
    exact e2
  have s1 : sAsg (mVar 0) (tgSq 3 (tgCons (tgN 3) (tgCons (tgN 4) (tgCons (tgN 5) (tgNil))))) [some (.ref y), some x.enc, some an.enc, none, none, none, none] μ = .nx [some (.ref y), some x.enc, some an.enc, some (.ref a), some (.ref b), some (.ref c), none] μ := by
    rw [x_sAsg]
    simp [x_tgSqL h.hy]
  have m0 : ∀ ρ μ, ρ[1]? = some (some x.enc) → mOp gIx (mVar 1) (mC (.int 0)) ρ μ = .ok (.str x.wd) μ := fun ρ μ h => by simp [x_var h, wd_ix]
  have t1 := in_wds (ss := ["cut", "part", "like"]) (ms := mCons (mC (.str "cut")) (mCons (mC (.str "part")) (mCons (mC (.str "like")) (mNil)))) (m0 [some (.ref y), some x.enc, some an.enc, some (.ref a), some (.ref b), some (.ref c), none] μ rfl) (fun _ => rfl) (by decide)
  have h1 := h.s.app [.lst (["cut", "part", "like"].map .str)]
  have hf1 := hf.f
  have mk : ∀ p q j r, an = .pt j r → x.wd ∈ ["cut", "part", "like"] → p < N → q < N → p ≠ q → j < (Y.pc p).length → (∀ μ, gIx x.enc (.int 2) μ = .ok (.int p) μ) → (∀ μ, gIx x.enc (.int 4) μ = .ok (.int q) μ) → Y.answ x an = Y.ct p q j r → ∃ ρ' μ', b__law_answered [some (.ref y), some x.enc, some an.enc, none, none, none, none] μ = .nx ρ' μ' ∧ YS μ a b c (Y.answ x an) μ' := fun p q j r e1 hw hp hq hpq hj x2 x4 e2 => by
    subst e1
    obtain ⟨μ', w6, e3, h3⟩ := cut_step (y := y) h1 h.ab h.ac hI hk hT hp hq hpq hj (hf.z _ _ rfl) x2 x4
    refine ⟨[some (.ref y), some x.enc, some (.tup [.int j, FR r]), some (.ref a), some (.ref b), some (.ref c), w6], μ', ?_, by rw [e2]; exact h3⟩
    unfold b__law_answered
    rw [sq s1, sIf_t (t1.trans (by rw [show ["cut", "part", "like"].contains x.wd = true by simpa using hw]))]
    exact e3
  have w1 : ∀ (s : String) (μ : DM), mBl (mOp (gEq false) (mOp gIx (mVar 1) (mC (.int 0))) (mC (.str s))) [some (.ref y), some x.enc, some an.enc, some (.ref a), some (.ref b), some (.ref c), none] μ = .ok (x.wd == s) μ := fun s μ => by simp [wd_ix]
  have en : ∀ (b' c' : List St) (k' : Bool), an = .fl k' → x.wd ∉ ["cut", "part", "like"] → x.wd ≠ "best" → (∀ μ, gIx x.enc (.int 4) μ = .ok (.tup (encL b')) μ) → (∀ μ, gIx x.enc (.int 5) μ = .ok (.tup (encL c')) μ) → b'.length ≤ 1000 → c'.length ≤ 1000 → Y.answ x an = { Y with wt := (if k' then b' else c') ++ Y.wt } → ∃ ρ' μ', b__law_answered [some (.ref y), some x.enc, some an.enc, none, none, none, none] μ = .nx ρ' μ' ∧ YS μ a b c (Y.answ x an) μ' := fun b' c' k' e1 hw hw2 x4 x5 hb hc e2 => by
    subst e1
    refine ⟨[some (.ref y), some x.enc, some (An.fl k').enc, some (.ref a), some (.ref b), some (.ref c), none], _, ?_, by rw [e2]; exact h1.setC h.ac h.bc _⟩
    unfold b__law_answered
    rw [sq s1, sIf_f (t1.trans (by rw [show ["cut", "part", "like"].contains x.wd = false by simpa using hw])), sIf_f ((w1 "best" _).trans (by rw [beq_eq_false_iff_ne.mpr hw2]))]
    have hcc : (DV.ref c).lst (μ ++ [.lst (["cut", "part", "like"].map .str)]) = some (encL Y.wt).reverse := lst_ref h1.hc
    have hw := len_left hI.nrd
    have lz : (encL Y.wt).reverse.length + (encL (if k' then b' else c')).reverse.length ≤ LIM := by
      rw [List.length_reverse, List.length_reverse, encL_len, encL_len]
      show _ ≤ 16777216
      simp only [Yd.left] at hL
      split <;> omega
    have e5 : mVar 5 [some (.ref y), some x.enc, some (An.fl k').enc, some (.ref a), some (.ref b), some (.ref c), none] (μ ++ [.lst (["cut", "part", "like"].map .str)]) = .ok (.ref c) (μ ++ [.lst (["cut", "part", "like"].map .str)]) := rfl
    have e6 : mRev (mIf (mTru (mVar 2)) (mOp gIx (mVar 1) (mC (.int 4))) (mOp gIx (mVar 1) (mC (.int 5)))) [some (.ref y), some x.enc, some (An.fl k').enc, some (.ref a), some (.ref b), some (.ref c), none] (μ ++ [.lst (["cut", "part", "like"].map .str)]) = .ok (.tup (encL (if k' then b' else c')).reverse) (μ ++ [.lst (["cut", "part", "like"].map .str)]) := by
      cases k' <;> simp [An.enc, x4, x5]
    rw [x_sExpr, x_extend, e5]
    simp only [DR.bind_ok, hcc, e6, if_pos lz, st_ok]
    rw [encL_map, encL_map, encL_map, List.map_append, List.reverse_append]
    rfl
  cases x with
  | cut a' p s q =>
    cases an <;> simp only [Yd.fit] at hf1
    simp only [St.okT, Bool.and_eq_true, decide_eq_true_eq] at hx
    exact mk p q _ _ rfl (by simp [St.wd]) hx.1.2.1 hx.1.2.2.1 hx.1.2.2.2 hf1 (fun _ => g2_3) (fun _ => g4_5) rfl
  | part a' p s q =>
    cases an <;> simp only [Yd.fit] at hf1
    simp only [St.okT, Bool.and_eq_true, decide_eq_true_eq] at hx
    exact mk p q _ _ rfl (by simp [St.wd]) hx.1.2.1 hx.1.2.2.1 hx.1.2.2.2 hf1 (fun _ => g2_3) (fun _ => g4_5) rfl
  | like a' p r q =>
    cases an <;> simp only [Yd.fit] at hf1
    simp only [St.okT, decide_eq_true_eq] at hx
    exact mk p q _ _ rfl (by simp [St.wd]) hx.2.1 hx.2.2.2.1 hx.2.2.2.2.1 hf1 (fun _ => g2_3) (fun _ => g4_5) rfl
  | ask a' p r b' c' =>
    cases an <;> simp only [Yd.fit] at hf1
    simp only [St.nrd, Bool.and_eq_true] at hn
    have hb := len_left hn.1
    have hc := len_left hn.2
    simp only [St.sz] at hL
    exact en b' c' _ rfl (by simp [St.wd]) (by simp [St.wd]) (fun _ => g4_5) (fun _ => g5_6) (by omega) (by omega) rfl
  | over a' p s b' c' =>
    cases an <;> simp only [Yd.fit] at hf1
    simp only [St.nrd, Bool.and_eq_true] at hn
    have hb := len_left hn.1
    have hc := len_left hn.2
    simp only [St.sz] at hL
    exact en b' c' _ rfl (by simp [St.wd]) (by simp [St.wd]) (fun _ => g4_5) (fun _ => g5_6) (by omega) (by omega) rfl
  | best a' ps q =>
    cases an <;> simp only [Yd.fit] at hf1
    rename_i p
    simp only [St.okT, Bool.and_eq_true, decide_eq_true_eq] at hx
    have hp : p < N := of_decide_eq_true (List.all_eq_true.mp hx.2 _ hf1)
    obtain ⟨μ', e2, h2, _⟩ := mv_step (ρ := [some (.ref y), some (St.best a' ps q).enc, some (An.nm p).enc, some (.ref a), some (.ref b), some (.ref c), none]) (mp := mVar 2) (mq := mOp gIx (mVar 1) (mC (.int 3))) (i := 3) h1 h.ab h.ac hI hk hT hp hx.1.2.1 (fun e => hx.1.2.2.2.2.2 (e ▸ hf1)) rfl (fun μ' _ => rfl) (fun μ' _ => by simp [St.enc, g3_4])
    refine ⟨[some (.ref y), some (St.best a' ps q).enc, some (An.nm p).enc, some (.ref a), some (.ref b), some (.ref c), none], μ', ?_, h2⟩
    unfold b__law_answered
    rw [sq s1, sIf_f (t1.trans (by rw [show ["cut", "part", "like"].contains (St.best a' ps q).wd = false by simp [St.wd]])), sIf_t ((w1 "best" _).trans (by rw [show ((St.best a' ps q).wd == "best") = true by simp [St.wd]]))]
    exact e2
  | _ => cases an <;> simp only [Yd.fit] at hf1
end Lw

namespace Lw
open PySem L2 Md
theorem gIx_y0 {μ : DM} {y a : Nat} {xs : List DV} (h : μ[y]? = some (.lst (.ref a :: xs))) : gIx (.ref y) (.int 0) μ = .ok (.ref a) μ := gIxr (k := 0) h rfl
/-- the numbers by which a way goes on -/
theorem l_options {Y : Yd} {μ : DM} {y a b c A N k : Nat} {x : St} (h : YA μ y a b c Y) (hI : Y.Inv A N k) (hT : Y.tot ≤ 1000) (hx : x.okT A N = true) (hn : Y.asks x = true) :
    ∃ T r, f__law_options [.ref y, x.enc] μ = .ok (.ref r) (μ ++ T) ∧ (μ ++ T)[r]? = some (.lst ((Y.opts x).map encN)) ∧ μ.length ≤ r := by
  have m0 : ∀ ρ μ, ρ[1]? = some (some x.enc) → mOp gIx (mVar 1) (mC (.int 0)) ρ μ = .ok (.str x.wd) μ := fun ρ μ h => by simp [x_var h, wd_ix]
  have w1 : ∀ (s : String) (μ : DM), mBl (mOp (gEq false) (mOp gIx (mVar 1) (mC (.int 0))) (mC (.str s))) [some (.ref y), some x.enc, none] μ = .ok (x.wd == s) μ := fun s μ => by simp [wd_ix]
  have t1 := in_wds (ss := ["part", "like"]) (ms := mCons (mC (.str "part")) (mCons (mC (.str "like")) (mNil))) (m0 [some (.ref y), some x.enc, none] μ rfl) (fun _ => rfl) (by decide)
  have h1 := h.s.app [.lst (["part", "like"].map .str)]
  have y0 := gIx_y0 h.hy
  have y1 := gIx_y0 (get_app (T := [.lst (["part", "like"].map .str)]) h.hy)
  have pl : ∀ p, p < N → (Y.pc p).length ≤ 1000 := fun p hp => by
    have := totP_mem (List.mem_of_getElem? (pc_get hI.np hp))
    simp only [Yd.tot] at hT; omega
  have fin : ∀ T r, b__law_options [some (.ref y), some x.enc, none] μ = .rt (.ref r) (μ ++ T) → (μ ++ T)[r]? = some (.lst ((Y.opts x).map encN)) → μ.length ≤ r → ∃ T r, f__law_options [.ref y, x.enc] μ = .ok (.ref r) (μ ++ T) ∧ (μ ++ T)[r]? = some (.lst ((Y.opts x).map encN)) ∧ μ.length ≤ r := fun T r e1 e2 e3 =>
    ⟨T, r, run_new rfl e3 e1, e2, e3⟩
  have two : ∀ p, x.wd ≠ "cut" → x.wd ∈ ["part", "like"] → p < N → (∀ μ, gIx x.enc (.int 2) μ = .ok (.int p) μ) → Y.opts x = List.range (2 * (Y.pc p).length) → ∃ T r, f__law_options [.ref y, x.enc] μ = .ok (.ref r) (μ ++ T) ∧ (μ ++ T)[r]? = some (.lst ((Y.opts x).map encN)) ∧ μ.length ≤ r := fun p n1 n2 hp x2 eo => by
    have hl := pl p hp
    have g := h1.pcI hI.np hp
    have e : mRg1 (mOp gMul (mC (.int 2)) (mLen (mOp gIx (mOp gIx (mVar 0) (mC (.int 0))) (mOp gIx (mVar 1) (mC (.int 2)))))) [some (.ref y), some x.enc, none] (μ ++ [.lst (["part", "like"].map .str)]) = .ok ((List.range (2 * (Y.pc p).length)).map encN) (μ ++ [.lst (["part", "like"].map .str)]) := by
      refine x_rgL ?_ (by omega)
      have cm : CMw 2 ((Y.pc p).length : Nat) := CMw_lt (by omega) (by omega)
      simp only [List.map_cons, List.map_nil] at y1 g ⊢
      simp [y1, x2, g, PC_seqL, cm]
    refine fin [.lst (["part", "like"].map .str), .lst ((Y.opts x).map encN)] (μ.length + 1) ?_ (by simp) (by omega)
    unfold b__law_options
    rw [sq (by rw [sIf_f ((w1 "cut" μ).trans (by rw [beq_eq_false_iff_ne.mpr n1]))]; rfl), x_seq, sIf_t (t1.trans (by rw [show ["part", "like"].contains x.wd = true by simpa using n2])), x_sRet, x_keep, e, eo]
    simp
  cases x with
  | cut a' p s q =>
    simp only [St.okT, Bool.and_eq_true, decide_eq_true_eq] at hx
    have hl := pl p hx.1.2.1
    have g := h.s.pcI hI.np hx.1.2.1
    have e : mRg1 (mLen (mOp gIx (mOp gIx (mVar 0) (mC (.int 0))) (mOp gIx (mVar 1) (mC (.int 2))))) [some (.ref y), some (St.cut a' p s q).enc, none] μ = .ok ((List.range (Y.pc p).length).map encN) μ := by
      refine x_rgL ?_ (by omega)
      simp [St.enc, y0, g, PC_seqL]
    refine fin [.lst ((Y.opts (.cut a' p s q)).map encN)] μ.length ?_ (by simp) (by omega)
    unfold b__law_options
    rw [x_seq, sIf_t ((w1 "cut" μ).trans (by rw [show ((St.cut a' p s q).wd == "cut") = true by simp [St.wd]])), x_sRet, x_keep, e]
    simp [Yd.opts]
  | part a' p s q =>
    simp only [St.okT, Bool.and_eq_true, decide_eq_true_eq] at hx
    exact two p (by simp [St.wd]) (by simp [St.wd]) hx.1.2.1 (fun _ => g2_3) rfl
  | like a' p r q =>
    simp only [St.okT, decide_eq_true_eq] at hx
    exact two p (by simp [St.wd]) (by simp [St.wd]) hx.2.1 (fun _ => g2_3) rfl
  | best a' ps q =>
    simp only [St.okT, Bool.and_eq_true, decide_eq_true_eq] at hx
    have hps : ∀ p ∈ ps, p < N := fun p hp => of_decide_eq_true (List.all_eq_true.mp hx.2 p hp)
    have e : mLc [2] (mIt (mOp gIx (mVar 1) (mC (.int 2)))) (tgN 2) (mBl (mOp qGt (mLen (mOp gIx (mOp gIx (mVar 0) (mC (.int 0))) (mVar 2))) (mC (.int 0)))) (mVar 2) [some (.ref y), some (St.best a' ps q).enc, none] (μ ++ [.lst (["part", "like"].map .str)]) = .ok ((Y.having ps).map encN) (μ ++ [.lst (["part", "like"].map .str)]) := by
      refine lc_eq encN ps (fun p => !(Y.pc p).isEmpty) encN (c := none) (by simp [St.enc]) rfl (by show ps.length ≤ 16777216; have := hx.1.2.2.2.1; omega) fun p hp => ?_
      have g := h1.pcI hI.np (hps p hp)
      refine ⟨[some (.ref y), some (St.best a' ps q).enc, some (encN p)], rfl, ?_, fun _ => rfl⟩
      simp only [List.map_cons, List.map_nil] at y1 g ⊢
      rw [x_bl, x_op, x_len, x_op, x_op, x_var (v := .ref y) rfl, DR.bind_ok, x_c, DR.bind_ok, y1, DR.noex_ok, DR.bind_ok, x_var (v := .int (p : Int)) rfl, DR.bind_ok, g]
      simp only [DR.noex_ok, DR.bind_ok, PC_seqL, x_c]
      cases Y.pc p <;> simp
    refine fin [.lst (["part", "like"].map .str), .lst ((Y.opts (.best a' ps q)).map encN)] (μ.length + 1) ?_ (by simp) (by omega)
    unfold b__law_options
    rw [sq (by rw [sIf_f ((w1 "cut" μ).trans (by rw [beq_eq_false_iff_ne.mpr (by simp [St.wd])]))]; rfl), sq (by rw [sIf_f (t1.trans (by rw [show ["part", "like"].contains (St.best a' ps q).wd = false by simp [St.wd]]))]; rfl), x_sRet, x_if, w1 "best", DR.bind_ok, if_pos (by simp [St.wd]), x_keep, e]
    simp [Yd.opts]
  | ask a' p r b' c' =>
    refine fin [.lst (["part", "like"].map .str), .lst ((Y.opts (.ask a' p r b' c')).map encN)] (μ.length + 1) ?_ (by simp) (by omega)
    unfold b__law_options
    rw [sq (by rw [sIf_f ((w1 "cut" μ).trans (by rw [beq_eq_false_iff_ne.mpr (by simp [St.wd])]))]; rfl), sq (by rw [sIf_f (t1.trans (by rw [show ["part", "like"].contains (St.ask a' p r b' c').wd = false by simp [St.wd]]))]; rfl), x_sRet, x_if, w1 "best", DR.bind_ok, if_neg (by simp [St.wd])]
    simp [Yd.opts, encN]
  | over a' p s b' c' =>
    refine fin [.lst (["part", "like"].map .str), .lst ((Y.opts (.over a' p s b' c')).map encN)] (μ.length + 1) ?_ (by simp) (by omega)
    unfold b__law_options
    rw [sq (by rw [sIf_f ((w1 "cut" μ).trans (by rw [beq_eq_false_iff_ne.mpr (by simp [St.wd])]))]; rfl), sq (by rw [sIf_f (t1.trans (by rw [show ["part", "like"].contains (St.over a' p s b' c').wd = false by simp [St.wd]]))]; rfl), x_sRet, x_if, w1 "best", DR.bind_ok, if_neg (by simp [St.wd])]
    simp [Yd.opts, encN]
  | _ => simp [Yd.asks] at hn
theorem l_copy {Y : Yd} {μ : DM} {y a b c : Nat} (h : YA μ y a b c Y) : f__law_copy [.ref y] μ = .ok (.ref (μ.length + 3)) (μ ++ [.lst (Y.ps.map PC), .lst (Y.sh.map PC), .lst (encL Y.wt).reverse, .lst [.ref μ.length, .ref (μ.length + 1), .ref (μ.length + 2)]]) := by
  refine run_new rfl (by omega) ?_
  have hy := h.hy
  have ha := h.s.ha
  have hb := h.s.hb
  have hc := h.s.hc
  have hy1 : ∀ T, (μ ++ T)[y]? = some (.lst [.ref a, .ref b, .ref c]) := fun T => get_app hy
  have hb1 : ∀ T, (μ ++ T)[b]? = some (.lst (Y.sh.map PC)) := fun T => get_app hb
  have hc1 : ∀ T, (μ ++ T)[c]? = some (.lst (encL Y.wt).reverse) := fun T => get_app hc
  simp [b__law_copy, hy]
  unfold mLc
  simp [hy, wipeD, mLc.go, okAt, mYes, DV.seq, ha, hb1, hc1, hy1]
theorem YA.copy {Y : Yd} {μ : DM} : YA (μ ++ [.lst (Y.ps.map PC), .lst (Y.sh.map PC), .lst (encL Y.wt).reverse, .lst [.ref μ.length, .ref (μ.length + 1), .ref (μ.length + 2)]]) (μ.length + 3) μ.length (μ.length + 1) (μ.length + 2) Y :=
  ⟨by simp, ⟨Nat.le_refl _, by simp, by simp, by simp, fun _ _ _ _ _ => rfl⟩, by omega, by omega, by omega⟩
end Lw

namespace Lw
open PySem L2 Md
theorem Sz_half : Sz 2 (1 / 2 : Rat) := ⟨by decide +kernel, by decide +kernel⟩
theorem FR_half : FR (1 / 2 : Rat) = .tup [.int 1, .int 2] := by decide +kernel
theorem mid_sz {s : ST} {k : Nat} (h : SP k s) : Sz (2 * k + 4) (mid s) := by
  have := Sz_half.mul (h.a.add h.b)
  exact this.mono (by omega)
theorem SP.mono {k l : Nat} {s : ST} (h : SP k s) (hl : k ≤ l) : SP l s := ⟨h.a.mono hl, h.b.mono hl⟩
theorem l_midl {s : ST} {k : Nat} {μ : DM} (h : SP k s) (hk : k < 1000) {ρ : DE} {i j : Nat} (h1 : ρ[i]? = some (some (FR s.1))) (h2 : ρ[j]? = some (some (FR s.2))) : mCall 2 f__law_times (mCons (mTup (mCons (mC (.int 1)) (mCons (mC (.int 2)) (mNil)))) (mCons (mCall 2 f__law_plus (mCons (mVar i) (mCons (mVar j) (mNil)))) (mNil))) ρ μ = .ok (FR (mid s)) μ := by
  have e1 := l_lplus (μ := μ) h.a h.b (by omega)
  have e2 := l_ltimes (μ := μ) Sz_half (h.a.add h.b) (by omega)
  have e2' : f__law_times [.tup [.int 1, .int 2], FR (s.1 + s.2)] μ = .ok (FR (mid s)) μ := by rw [← FR_half]; exact e2
  simp [x_var h1, x_var h2, e1, e2']
theorem l_by {Y : Yd} {μ : DM} {y a b c A N k n : Nat} {x : St} (h : YA μ y a b c Y) (hI : Y.Inv A N k) (hk : k < 1000) (hx : x.okT A N = true) (hn : Y.asks x = true) (hm : n ∈ Y.opts x) (hn8 : n < 100000) :
    f__law_by [.ref y, x.enc, encN n] μ = .ok (Y.by x n).enc μ := by
  have m0 : ∀ ρ μ, ρ[1]? = some (some x.enc) → mOp gIx (mVar 1) (mC (.int 0)) ρ μ = .ok (.str x.wd) μ := fun ρ μ h => by simp [x_var h, wd_ix]
  have w1 : ∀ (s : String) (μ : DM), mBl (mOp (gEq false) (mOp gIx (mVar 1) (mC (.int 0))) (mC (.str s))) [some (.ref y), some x.enc, some (encN n), none, none, none] μ = .ok (x.wd == s) μ := fun s μ => by simp [wd_ix]
  have t1 := in_wds (ss := ["cut", "part", "like"]) (ms := mCons (mC (.str "cut")) (mCons (mC (.str "part")) (mCons (mC (.str "like")) (mNil)))) (m0 [some (.ref y), some x.enc, some (encN n), none, none, none] μ rfl) (fun _ => rfl) (by decide)
  have h1 := h.s.app [.lst (["cut", "part", "like"].map .str)]
  have y1 := gIx_y0 (get_app (T := [.lst (["cut", "part", "like"].map .str)]) h.hy)
  have mk : ∀ p j, p < N → j < (Y.pc p).length → x.wd ∈ ["cut", "part", "like"] → (j = if x.wd = "cut" then n else n / 2) → (∀ μ, gIx x.enc (.int 2) μ = .ok (.int p) μ) → Y.by x n = .pt j (mid ((Y.pc p).getD j (0, 0))) → f__law_by [.ref y, x.enc, encN n] μ = .ok (Y.by x n).enc μ := fun p j hp hj hw ej x2 eb => by
    have g := h1.pcI hI.np hp
    have gj := PC_ix (μ := μ ++ [.lst (["cut", "part", "like"].map .str)]) hj
    have e0 : (Y.pc p).getD j (0, 0) = (Y.pc p)[j] := by simp [List.getD, hj]
    have sp := hI.pcs (p := p) _ (List.getElem_mem hj)
    have cd : CDv (n : Int) 2 := CDv_of (n := 2) (a := 3) (by omega) (by omega) (by omega)
    have s1 : sAsg (mIf (mBl (mOp (gEq false) (mOp gIx (mVar 1) (mC (.int 0))) (mC (.str "cut")))) (mVar 2) (mOp qFdiv (mVar 2) (mC (.int 2)))) (tgN 3) [some (.ref y), some x.enc, some (encN n), none, none, none] (μ ++ [.lst (["cut", "part", "like"].map .str)])
        = .nx [some (.ref y), some x.enc, some (encN n), some (.int j), none, none] (μ ++ [.lst (["cut", "part", "like"].map .str)]) := by
      rw [x_sAsg, x_if, w1, DR.bind_ok]
      by_cases hc : x.wd = "cut"
      · rw [if_pos hc] at ej
        rw [if_pos (by rw [hc]; rfl), ej]; rfl
      · rw [if_neg hc] at ej
        rw [if_neg (by rw [beq_eq_false_iff_ne.mpr hc]; decide), ej]
        simp [encN, cd]
    have s2 : sAsg (mOp gIx (mOp gIx (mOp gIx (mVar 0) (mC (.int 0))) (mOp gIx (mVar 1) (mC (.int 2)))) (mVar 3)) (tgTup 2 (tgCons (tgN 4) (tgCons (tgN 5) (tgNil)))) [some (.ref y), some x.enc, some (encN n), some (.int j), none, none] (μ ++ [.lst (["cut", "part", "like"].map .str)])
        = .nx [some (.ref y), some x.enc, some (encN n), some (.int j), some (FR (Y.pc p)[j].1), some (FR (Y.pc p)[j].2)] (μ ++ [.lst (["cut", "part", "like"].map .str)]) := by
      simp only [List.map_cons, List.map_nil] at y1 g gj ⊢
      simp [y1, x2, g, gj, PR]
    have s3 := l_midl (μ := μ ++ [.lst (["cut", "part", "like"].map .str)]) sp hk (ρ := [some (.ref y), some x.enc, some (encN n), some (.int j), some (FR (Y.pc p)[j].1), some (FR (Y.pc p)[j].2)]) (i := 4) (j := 5) rfl rfl
    rw [eb, e0]
    refine run_rtA (t := [.lst (["cut", "part", "like"].map .str)]) rfl (und_pure _ rfl) ?_
    show b__law_by [some (.ref y), some x.enc, some (encN n), none, none, none] μ = _
    unfold b__law_by
    rw [x_seq, sIf_t (t1.trans (by rw [show ["cut", "part", "like"].contains x.wd = true by simpa using hw])), sq s1, sq s2, x_sRet, x_tup, x_cons, x_var (v := .int (j : Int)) rfl, DR.bind_ok, x_cons, s3]
    rfl
  have ot : ∀ v : DV, x.wd ∉ ["cut", "part", "like"] → v.und μ.length = true → mIf (mBl (mOp (gEq false) (mOp gIx (mVar 1) (mC (.int 0))) (mC (.str "best")))) (mVar 2) (mOp (gEq false) (mVar 2) (mC (.int 1))) [some (.ref y), some x.enc, some (encN n), none, none, none] (μ ++ [.lst (["cut", "part", "like"].map .str)]) = .ok v (μ ++ [.lst (["cut", "part", "like"].map .str)]) → f__law_by [.ref y, x.enc, encN n] μ = .ok v μ := fun v hw hv e => by
    refine run_rtA (t := [.lst (["cut", "part", "like"].map .str)]) rfl hv ?_
    show b__law_by [some (.ref y), some x.enc, some (encN n), none, none, none] μ = _
    unfold b__law_by
    rw [sq (by rw [sIf_f (t1.trans (by rw [show ["cut", "part", "like"].contains x.wd = false by simpa using hw]))]; rfl), x_sRet, e]
    rfl
  cases x with
  | cut a' p s q =>
    simp only [St.okT, Bool.and_eq_true, decide_eq_true_eq] at hx
    exact mk p n hx.1.2.1 (by simpa [Yd.opts] using hm) (by simp [St.wd]) (by simp [St.wd]) (fun _ => g2_3) rfl
  | part a' p s q =>
    simp only [St.okT, Bool.and_eq_true, decide_eq_true_eq] at hx
    exact mk p (n / 2) hx.1.2.1 (by simp [Yd.opts] at hm; omega) (by simp [St.wd]) (by simp [St.wd]) (fun _ => g2_3) rfl
  | like a' p r q =>
    simp only [St.okT, decide_eq_true_eq] at hx
    exact mk p (n / 2) hx.2.1 (by simp [Yd.opts] at hm; omega) (by simp [St.wd]) (by simp [St.wd]) (fun _ => g2_3) rfl
  | best a' ps q =>
    refine ot _ (by simp [St.wd]) rfl ?_
    rw [x_if, w1, DR.bind_ok, if_pos (by simp [St.wd])]; rfl
  | ask a' p r b' c' =>
    refine ot _ (by simp [St.wd]) rfl ?_
    rw [x_if, w1, DR.bind_ok, if_neg (by simp [St.wd])]
    simp [encN, Yd.by, An.enc]
    by_cases h1 : n = 1
    · simp [h1]
    · simp [h1]; omega
  | over a' p s b' c' =>
    refine ot _ (by simp [St.wd]) rfl ?_
    rw [x_if, w1, DR.bind_ok, if_neg (by simp [St.wd])]
    simp [encN, Yd.by, An.enc]
    by_cases h1 : n = 1
    · simp [h1]
    · simp [h1]; omega
  | _ => simp [Yd.asks] at hn
/-- what is drawn so fits -/
theorem by_fit {Y : Yd} {A N k n : Nat} {x : St} (hI : Y.Inv A N k) (hx : x.okT A N = true) (hn : Y.asks x = true) (hm : n ∈ Y.opts x) : Y.Fit x (Y.by x n) (2 * k + 4) := by
  have sp : ∀ (p j : Nat), j < (Y.pc p).length → Sz (2 * k + 4) (mid ((Y.pc p).getD j (0, 0))) := fun p j hj => by
    rw [List.getD_eq_getElem?_getD, List.getElem?_eq_getElem hj]
    exact mid_sz (hI.pcs _ (List.getElem_mem hj))
  cases x with
  | cut a' p s q =>
    have hj : n < (Y.pc p).length := by simpa [Yd.opts] using hm
    exact ⟨hj, fun j r e => by cases e; exact sp p n hj⟩
  | part a' p s q =>
    have hj : n / 2 < (Y.pc p).length := by simp [Yd.opts] at hm; omega
    exact ⟨hj, fun j r e => by cases e; exact sp p (n / 2) hj⟩
  | like a' p r q =>
    have hj : n / 2 < (Y.pc p).length := by simp [Yd.opts] at hm; omega
    exact ⟨hj, fun j r e => by cases e; exact sp p (n / 2) hj⟩
  | best a' ps q => exact ⟨having_mem hm, fun j r e => by cases e⟩
  | ask a' p r b' c' => exact ⟨trivial, fun j r e => by cases e⟩
  | over a' p s b' c' => exact ⟨trivial, fun j r e => by cases e⟩
  | _ => simp [Yd.asks] at hn
theorem Yd.Inv.mono {A N k l : Nat} {Z : Yd} (h : Z.Inv A N k) (hl : k ≤ l) : Z.Inv A N l := ⟨h.np, h.ns, h.ok, h.nrd, fun P hP x hx => (h.sp P hP x hx).mono hl, fun P hP x hx => (h.ss P hP x hx).mono hl⟩
end Lw

namespace Lw
open PySem L2 Md
def encH (acc : List (List St)) : DC := .lst (acc.map fun b => .tup (encL b))
/-- a list that grows behind a store -/
structure OS (μ : DM) (F : List St) (j : Nat) (μ' : DM) : Prop where
  g : ∃ T, μ' = μ ++ T
  l : μ.length ≤ j
  c : μ'[j]? = some (.lst (encL F))
theorem encL_app (a b : List St) : encL (a ++ b) = encL a ++ encL b := by simp [encL_map]
theorem OS.push {μ μ' : DM} {F : List St} {j : Nat} (h : OS μ F j μ') (G : List St) (T : DM) : OS μ G (μ' ++ T).length (μ' ++ T ++ [.lst (encL G)]) := by
  obtain ⟨⟨U, rfl⟩, _, _⟩ := h
  exact ⟨⟨U ++ T ++ [.lst (encL G)], by simp⟩, by simp only [List.length_append]; omega, by simp⟩
theorem OS.put {μ μ' : DM} {F : List St} {j : Nat} (h : OS μ F j μ') (G : List St) : OS μ G j (μ'.set j (.lst (encL G))) := by
  obtain ⟨⟨U, rfl⟩, h2, h3⟩ := h
  refine ⟨⟨U.set (j - μ.length) (.lst (encL G)), by rw [List.set_append]; rw [if_neg (by omega)]⟩, h2, ?_⟩
  exact set_eq h3
theorem OS.app {μ μ' : DM} {F : List St} {j : Nat} (h : OS μ F j μ') (T : DM) : OS μ F j (μ' ++ T) := by
  obtain ⟨⟨U, rfl⟩, h2, h3⟩ := h
  exact ⟨⟨U ++ T, by simp⟩, h2, get_app h3⟩
theorem OS.old {μ μ' : DM} {F : List St} {j i : Nat} {d : DC} (h : OS μ F j μ') (hi : μ[i]? = some d) : μ'[i]? = some d := by
  obtain ⟨⟨U, rfl⟩, _, _⟩ := h
  exact get_app hi
theorem app_list {μ μ' : DM} {F G : List St} {j : Nat} (h : OS μ F j μ') (hl : F.length + G.length ≤ 1000000) {m : EM} {ρ : DE} (r2 : ρ[2]? = some (some (.ref j))) (h5 : 2 < ρ.length) (hm : m ρ μ' = .ok (.tup (encL G)) μ') :
    ∃ j' μ'', sAsg (mOp gAdd (mVar 2) (mKeep (mListOf m))) (tgN 2) ρ μ' = .nx (ρ.set 2 (some (.ref j'))) μ'' ∧ OS μ (F ++ G) j' μ'' := by
  refine ⟨_, _, ?_, h.push (F ++ G) [DC.lst (encL G)]⟩
  have c := get_app (T := [DC.lst (encL G)]) h.c
  have e1 : gAdd (.ref j) (.ref μ'.length) (μ' ++ [DC.lst (encL G)]) = .ok (.ref (μ' ++ [DC.lst (encL G)]).length) (μ' ++ [DC.lst (encL G)] ++ [DC.lst (encL F ++ encL G)]) := gAdd_ref c (by simp) (by rw [encL_len, encL_len]; omega)
  rw [x_sAsg, x_op, x_var r2, DR.bind_ok, x_keep, x_listOf, hm, DR.bind_ok, seq_tup]
  simp only [DR.bind_ok, e1, DR.noex_ok, st_ok, x_tgN, if_pos h5, encL_app]
theorem app_one {μ μ' : DM} {F : List St} {j : Nat} {x : St} (h : OS μ F j μ') (hl : F.length < 1000000) {m : EM} {ρ : DE} (r2 : ρ[2]? = some (some (.ref j))) (hm : m ρ μ' = .ok x.enc μ') :
    ∃ μ'', sExpr (mAppend (mVar 2) m) ρ μ' = .nx ρ μ'' ∧ OS μ (F ++ [x]) j μ'' := by
  refine ⟨_, ?_, h.put (F ++ [x])⟩
  have l : (encL F).length < LIM := by rw [encL_len]; show _ < 16777216; omega
  rw [x_sExpr, x_append, x_var r2, DR.bind_ok, lst_ref h.c]
  simp only [hm, DR.bind_ok, h.c, if_pos l, st_ok, encL_app]
  rfl
theorem go_src {t : GM} {bd : SM} {l : List DV} : ∀ {xs ys : List DV} {ρ : DE} {μ : DM}, sFor.go t bd (xs, none) l ρ μ = sFor.go t bd (ys, none) l ρ μ := by
  induction l with
  | nil => intro xs ys ρ μ; rw [go_nil rfl, go_nil rfl]
  | cons x l ih =>
    intro xs ys ρ μ
    rw [sFor.go, sFor.go]
    simp only [okAt, if_true]
    split
    · split <;> first | exact ih | rfl
    · rfl
def outE (b : DV) (h j : Nat) (w3 w4 : Option DV) : DE := [some b, some (.ref h), some (.ref j), w3, w4]
theorem cut_4 {x y z u : DV} {xs : List DV} : cutD (x :: y :: z :: u :: xs) none (some 4) = [x, y, z, u] := cut_to (k := 4)
theorem cut_2 {x y : DV} {xs : List DV} : cutD (x :: y :: xs) none (some 2) = [x, y] := cut_to (k := 2)
theorem out_len {hs : List (List St)} (hn : ∀ b ∈ hs, nrdL b = true) (x : St) : (x.out hs).length ≤ (x.sz (hs.map (szL []))).t := by
  rw [St.sz_out]; exact len_left (St.out_nrd hn x)
theorem outL_len {hs : List (List St)} (hn : ∀ b ∈ hs, nrdL b = true) (l : List St) : (outL hs l).length ≤ (szL (hs.map (szL [])) l).t := by
  rw [szL_out]; exact len_left (outL_nrd hn l)
theorem out_body {r : Fn} {μ μ' : DM} {F : List St} {j h : Nat} {x : St} {acc : List (List St)} {b : DV} {w4 : Option DV} {A N : Nat} (hO : OS μ F j μ') (hh : μ[h]? = some (encH acc)) (hx : x.ok A N acc.length = true) (hn : ∀ b ∈ acc, nrdL b = true)
    (hl : F.length + (x.sz (acc.map (szL []))).t ≤ 1000000)
    (hr : ∀ c, c.length ≤ 20 → dpL c ≤ x.dp → okL A N acc.length c = true → (szL (acc.map (szL [])) c).t ≤ 1000000 → ∀ μ', μ'[h]? = some (encH acc) → r [.tup (encL c), .ref h] μ' = .ok (.tup (encL (outL acc c))) μ') :
    ∃ j' w4' μ'', b__law_out_2 r (outE b h j (some x.enc) w4) μ' = .nx (outE b h j' (some x.enc) w4') μ'' ∧ OS μ (F ++ x.out acc) j' μ'' := by
  have hh' := hO.old hh
  have ol := out_len hn x
  have w1 : ∀ (s : String) (μ : DM), mBl (mOp (gEq false) (mOp gIx (mVar 3) (mC (.int 0))) (mC (.str s))) (outE b h j (some x.enc) w4) μ = .ok (x.wd == s) μ := fun s μ => by simp [outE, wd_ix]
  have no : ∀ {s : String} (μ : DM), x.wd ≠ s → mBl (mOp (gEq false) (mOp gIx (mVar 3) (mC (.int 0))) (mC (.str s))) (outE b h j (some x.enc) w4) μ = .ok false μ := fun μ hs => (w1 _ μ).trans (by rw [beq_eq_false_iff_ne.mpr hs])
  have yes : ∀ {s : String} (μ : DM), x.wd = s → mBl (mOp (gEq false) (mOp gIx (mVar 3) (mC (.int 0))) (mC (.str s))) (outE b h j (some x.enc) w4) μ = .ok true μ := fun μ hs => (w1 _ μ).trans (by rw [beq_iff_eq.mpr hs])
  have t1 := in_wds (ss := ["ask", "over"]) (ms := mCons (mC (.str "ask")) (mCons (mC (.str "over")) (mNil))) (show mOp gIx (mVar 3) (mC (.int 0)) (outE b h j (some x.enc) w4) μ' = .ok (.str x.wd) μ' by simp [outE, wd_ix]) (fun _ => rfl) (by decide)
  have hO1 := hO.app [.lst (["ask", "over"].map .str)]
  have hh1 := hO1.old hh
  have v3 : ∀ μ, mVar 3 (outE b h j (some x.enc) w4) μ = .ok x.enc μ := fun _ => rfl
  have v1 : ∀ μ, mVar 1 (outE b h j (some x.enc) w4) μ = .ok (.ref h) μ := fun _ => rfl
  have plain : x.wd ≠ "do" → x.wd ≠ "rounds" → x.wd ∉ ["ask", "over"] → x.wd ≠ "there" → x.out acc = [x] → (x.sz (acc.map (szL []))).t = 1 → ∃ j' w4' μ'', b__law_out_2 r (outE b h j (some x.enc) w4) μ' = .nx (outE b h j' (some x.enc) w4') μ'' ∧ OS μ (F ++ x.out acc) j' μ'' := fun n1 n2 n3 n4 eo es => by
    obtain ⟨μ'', e, h2⟩ := app_one (x := x) (m := mVar 3) (ρ := outE b h j (some x.enc) w4) hO1 (by omega) rfl rfl
    refine ⟨j, w4, μ'', ?_, by rw [eo]; exact h2⟩
    unfold b__law_out_2
    rw [sIf_f (no μ' n1), sIf_f (no μ' n2), sIf_f (t1.trans (by rw [show ["ask", "over"].contains x.wd = false by simpa using n3])), sIf_f (no _ n4)]
    exact e
  have four : ∀ (b' c' : List St) (y z u v : DV) (mk : List St → List St → St), x.enc = .tup [y, z, u, v, .tup (encL b'), .tup (encL c')] → x.wd ≠ "do" → x.wd ≠ "rounds" → x.wd ∈ ["ask", "over"] → b'.length ≤ 20 → c'.length ≤ 20 → dpL b' ≤ x.dp → dpL c' ≤ x.dp → okL A N acc.length b' = true → okL A N acc.length c' = true →
      (szL (acc.map (szL [])) b').t + (szL (acc.map (szL [])) c').t < 1000000 → F.length < 1000000 → (mk (outL acc b') (outL acc c')).enc = .tup [y, z, u, v, .tup (encL (outL acc b')), .tup (encL (outL acc c'))] → x.out acc = [mk (outL acc b') (outL acc c')] → ∃ j' w4' μ'', b__law_out_2 r (outE b h j (some x.enc) w4) μ' = .nx (outE b h j' (some x.enc) w4') μ'' ∧ OS μ (F ++ x.out acc) j' μ'' := fun b' c' y z u v mk ex n1 n2 n3 q1 q2 q3 q4 q5 q6 q7 q8 em eo => by
    have r1 := hr b' q1 q3 q5 (by omega) _ hh1
    have r2 := hr c' q2 q4 q6 (by omega) _ hh1
    obtain ⟨μ'', e, h2⟩ := app_one (x := mk (outL acc b') (outL acc c')) (m := mOp gAdd (mSl (mVar 3) (mNoP) (mP (mC (.int 4)))) (mTup (mCons (mCall 2 r (mCons (mOp gIx (mVar 3) (mC (.int 4))) (mCons (mVar 1) (mNil)))) (mCons (mCall 2 r (mCons (mOp gIx (mVar 3) (mC (.int 5))) (mCons (mVar 1) (mNil)))) (mNil))))) (ρ := outE b h j (some x.enc) w4) hO1 q8 rfl (by
      rw [em]
      simp only [List.map_cons, List.map_nil] at r1 r2 ⊢
      simp [outE, ex, cut_4, g4_5, g5_6, r1, r2])
    refine ⟨j, w4, μ'', ?_, by rw [eo]; exact h2⟩
    unfold b__law_out_2
    rw [sIf_f (no μ' n1), sIf_f (no μ' n2), sIf_t (t1.trans (by rw [show ["ask", "over"].contains x.wd = true by simpa using n3]))]
    exact e
  cases x with
  | cut => exact plain (by simp [St.wd]) (by simp [St.wd]) (by simp [St.wd]) (by simp [St.wd]) rfl rfl
  | part => exact plain (by simp [St.wd]) (by simp [St.wd]) (by simp [St.wd]) (by simp [St.wd]) rfl rfl
  | like => exact plain (by simp [St.wd]) (by simp [St.wd]) (by simp [St.wd]) (by simp [St.wd]) rfl rfl
  | best => exact plain (by simp [St.wd]) (by simp [St.wd]) (by simp [St.wd]) (by simp [St.wd]) rfl rfl
  | give => exact plain (by simp [St.wd]) (by simp [St.wd]) (by simp [St.wd]) (by simp [St.wd]) rfl rfl
  | move => exact plain (by simp [St.wd]) (by simp [St.wd]) (by simp [St.wd]) (by simp [St.wd]) rfl rfl
  | swap => exact plain (by simp [St.wd]) (by simp [St.wd]) (by simp [St.wd]) (by simp [St.wd]) rfl rfl
  | ask a' p q b' c' =>
    simp only [St.ok, Bool.and_eq_true, decide_eq_true_eq] at hx
    simp only [St.sz] at hl
    exact four b' c' _ _ _ _ (St.ask a' p q) rfl (by simp [St.wd]) (by simp [St.wd]) (by simp [St.wd]) hx.1.2.2.2.2.1 hx.1.2.2.2.2.2 (Nat.le_max_left _ _) (Nat.le_max_right _ _) hx.2.1 hx.2.2 (by omega) (by omega) rfl rfl
  | over a' p s b' c' =>
    simp only [St.ok, Bool.and_eq_true, decide_eq_true_eq] at hx
    simp only [St.sz] at hl
    exact four b' c' _ _ _ _ (St.over a' p s) rfl (by simp [St.wd]) (by simp [St.wd]) (by simp [St.wd]) hx.1.1.2.2.1 hx.1.1.2.2.2 (Nat.le_max_left _ _) (Nat.le_max_right _ _) hx.2.1 hx.2.2 (by omega) (by omega) rfl rfl
  | there p b' c' =>
    simp only [St.ok, Bool.and_eq_true, decide_eq_true_eq] at hx
    simp only [St.sz] at hl
    have r1 := hr b' hx.1.2.1 (Nat.le_max_left _ _) hx.2.1 (by omega) _ hh1
    have r2 := hr c' hx.1.2.2 (Nat.le_max_right _ _) hx.2.2 (by omega) _ hh1
    obtain ⟨μ'', e, h2⟩ := app_one (x := .there p (outL acc b') (outL acc c')) (m := mOp gAdd (mSl (mVar 3) (mNoP) (mP (mC (.int 2)))) (mTup (mCons (mCall 2 r (mCons (mOp gIx (mVar 3) (mC (.int 2))) (mCons (mVar 1) (mNil)))) (mCons (mCall 2 r (mCons (mOp gIx (mVar 3) (mC (.int 3))) (mCons (mVar 1) (mNil)))) (mNil))))) (ρ := outE b h j (some (St.there p b' c').enc) w4) hO1 (by omega) rfl (by
      simp only [List.map_cons, List.map_nil] at r1 r2 ⊢
      simp [outE, St.enc, cut_2, g3_4, r1, r2])
    refine ⟨j, w4, μ'', ?_, h2⟩
    unfold b__law_out_2
    rw [sIf_f (no μ' (by simp [St.wd])), sIf_f (no μ' (by simp [St.wd])), sIf_f (t1.trans (by rw [show ["ask", "over"].contains (St.there p b' c').wd = false by simp [St.wd]])), sIf_t (yes _ (by simp [St.wd]))]
    exact e
  | doo k =>
    simp only [St.ok, decide_eq_true_eq] at hx
    have eo : (St.doo k).out acc = acc[k] := by simp [St.out, List.getD, hx]
    obtain ⟨j', μ'', e, h2⟩ := app_list (G := acc[k]) (m := mOp gIx (mVar 1) (mOp gIx (mVar 3) (mC (.int 1)))) (ρ := outE b h j (some (St.doo k).enc) w4) hO (by rw [eo] at ol; omega) rfl (by simp [outE]) (by
      have : gIx (.ref h) (.int (k : Int)) μ' = .ok (.tup (encL acc[k])) μ' := gIxr hh' (by simp [hx])
      simp [outE, St.enc, this])
    refine ⟨j', w4, μ'', ?_, by rw [eo]; exact h2⟩
    unfold b__law_out_2
    rw [sIf_t (yes μ' (by simp [St.wd]))]
    exact e
  | rounds k b' =>
    simp only [St.ok, Bool.and_eq_true, decide_eq_true_eq] at hx
    simp only [St.sz] at hl
    have go : ∀ (n : Nat) (l : List Nat) (G : List St) (j : Nat) (μ1 : DM) (w : Option DV), l.length = n → OS μ G j μ1 → G.length + n * (szL (acc.map (szL [])) b').t ≤ 1000000 → ∃ j' w4' μ'', sFor.go (tgN 4) (b__law_out_1 r) (l.map encN, none) (l.map encN) (outE b h j (some (St.rounds k b').enc) w) μ1 = .nx (outE b h j' (some (St.rounds k b').enc) w4') μ'' ∧ OS μ (G ++ (List.replicate n (outL acc b')).flatten) j' μ'' := by
      intro n
      induction n with
      | zero =>
        intro l G j μ1 w hl0 hG _
        have : l = [] := List.length_eq_zero_iff.mp hl0
        subst this
        exact ⟨j, w, μ1, by rw [List.map_nil, go_nil rfl], by simpa using hG⟩
      | succ n ih =>
        intro l G j μ1 w hl0 hG hlen
        match l, hl0 with
        | i :: l, hl0 =>
          rw [Nat.succ_mul] at hlen
          have ob := outL_len hn b'
          have hb1 : (szL (acc.map (szL [])) b').t ≤ 1000000 := by omega
          have rr := hr b' hx.1.2 (Nat.le_refl _) hx.2 hb1 μ1 (hG.old hh)
          obtain ⟨j1, μ2, e1, h1⟩ := app_list (G := outL acc b') (m := mCall 2 r (mCons (mOp gIx (mVar 3) (mC (.int 2))) (mCons (mVar 1) (mNil)))) (ρ := outE b h j (some (St.rounds k b').enc) (some (encN i))) hG (by omega) rfl (by simp [outE]) (by
            simp [outE, St.enc, rr])
          obtain ⟨j', w4', μ'', e2, h2⟩ := ih l (G ++ outL acc b') j1 μ2 (some (encN i)) (by simpa using hl0) h1 (by rw [List.length_append]; omega)
          refine ⟨j', w4', μ'', ?_, ?_⟩
          · rw [List.map_cons, go_cons rfl (ρ1 := outE b h j (some (St.rounds k b').enc) (some (encN i))) rfl (ρ2 := outE b h j1 (some (St.rounds k b').enc) (some (encN i))) (μ2 := μ2) (show b__law_out_1 r (outE b h j (some (St.rounds k b').enc) (some (encN i))) μ1 = _ from e1)]
            have : sFor.go (tgN 4) (b__law_out_1 r) (encN i :: l.map encN, none) (l.map encN) (outE b h j1 (some (St.rounds k b').enc) (some (encN i))) μ2 = sFor.go (tgN 4) (b__law_out_1 r) (l.map encN, none) (l.map encN) (outE b h j1 (some (St.rounds k b').enc) (some (encN i))) μ2 := go_src
            rw [this]; exact e2
          · rw [List.replicate_succ, List.flatten_cons, ← List.append_assoc]; exact h2
    obtain ⟨j', w4', μ'', e, h2⟩ := go k (List.range k) F j μ' w4 (by simp) hO (by omega)
    refine ⟨j', w4', μ'', ?_, h2⟩
    have ei : mItR1 (mOp gIx (mVar 3) (mC (.int 1))) (outE b h j (some (St.rounds k b').enc) w4) μ' = .ok ((List.range k).map encN, none) μ' := x_rgI (by simp [outE, St.enc]) (by omega)
    unfold b__law_out_2
    rw [sIf_f (no μ' (by simp [St.wd])), sIf_t (yes μ' (by simp [St.wd])), x_for, ei]
    exact e
end Lw

namespace Lw
open PySem L2 Md
theorem l_out {A N h : Nat} {acc : List (List St)} (hn : ∀ b ∈ acc, nrdL b = true) : ∀ (d m : Nat) (b : List St) (μ : DM), dpL b ≤ d → d ≤ m → μ[h]? = some (encH acc) → okL A N acc.length b = true → (szL (acc.map (szL [])) b).t ≤ 1000000 →
    f__law_out_n m [.tup (encL b), .ref h] μ = .ok (.tup (encL (outL acc b))) μ
  | 0, m, b, μ, hd, _, _, _, _ => by have := dpL_pos b; omega
  | d + 1, 0, b, μ, _, hm, _, _, _ => by omega
  | d + 1, m + 1, b, μ, hd, hm, hh, hok, hsz => by
    have go : ∀ (l F : List St) (j : Nat) (μ' : DM) (w3 w4 : Option DV), (∀ x ∈ l, x ∈ b) → OS μ F j μ' → F.length + (szL (acc.map (szL [])) l).t ≤ 1000000 →
        ∃ j' w3' w4' μ'', sFor.go (tgN 3) (b__law_out_2 (f__law_out_n m)) (encL b, none) (encL l) (outE (.tup (encL b)) h j w3 w4) μ' = .nx (outE (.tup (encL b)) h j' w3' w4') μ'' ∧ OS μ (F ++ outL acc l) j' μ'' := by
      intro l
      induction l with
      | nil => intro F j μ' w3 w4 _ hF _; exact ⟨j, w3, w4, μ', by rw [show encL [] = [] from rfl, go_nil rfl], by simpa [outL] using hF⟩
      | cons x l ih =>
        intro F j μ' w3 w4 hm' hF hl
        have hx := hm' x (by simp)
        simp only [szL] at hl
        have hdx := dpL_mem hx
        have ol := out_len hn x
        obtain ⟨j1, w4', μ1, e1, h1⟩ := out_body (r := f__law_out_n m) (b := .tup (encL b)) (w4 := w4) hF hh (okL_mem.mp hok x hx) hn (by omega) (fun c hc hcd hco hcs μ2 hh2 => by
          exact l_out hn d m c μ2 (by omega) (by omega) hh2 hco hcs)
        obtain ⟨j', w3', w4'', μ'', e2, h2⟩ := ih (F ++ x.out acc) j1 μ1 (some x.enc) w4' (fun y hy => hm' y (by simp [hy])) h1 (by rw [List.length_append]; omega)
        refine ⟨j', w3', w4'', μ'', ?_, by rw [outL, ← List.append_assoc]; exact h2⟩
        rw [show encL (x :: l) = x.enc :: encL l from rfl, go_cons rfl (ρ1 := outE (.tup (encL b)) h j (some x.enc) w4) rfl e1]
        exact e2
    obtain ⟨j', w3', w4', μ'', e, h2⟩ := go b [] μ.length (μ ++ [DC.lst []]) none none (fun _ h => h) ⟨⟨_, rfl⟩, Nat.le_refl _, by simp [encL]⟩ (by simpa using hsz)
    obtain ⟨T, rfl⟩ := h2.g
    rw [List.nil_append] at h2
    refine run_rtA (t := T) rfl (und_pure _ (by simp [DV.pure, encL_pure])) ?_
    show b__law_out (f__law_out_n m) [some (.tup (encL b)), some (.ref h), none, none, none] μ = _
    unfold b__law_out
    rw [sq (ρ' := outE (.tup (encL b)) h μ.length none none) (μ' := μ ++ [DC.lst []]) (by simp [outE]), sq (ρ' := outE (.tup (encL b)) h j' w3' w4') (μ' := μ ++ T) (by
      rw [x_for, show mIt (mVar 0) (outE (.tup (encL b)) h μ.length none none) (μ ++ [DC.lst []]) = .ok (encL b, none) (μ ++ [DC.lst []]) by simp [outE], st_ok]
      exact e)]
    have : (DV.ref j').seq (μ ++ T) = some (encL (outL acc b)) := seq_ref h2.c
    simp [outE, this]
/-- helps of a right length told out -/
def hTOk (A N : Nat) : List (List St) → List (List St) → Prop
  | _, [] => True
  | acc, b :: hs => (okL A N acc.length b = true ∧ dpL b ≤ 24 ∧ (szL (acc.map (szL [])) b).t ≤ 1000000) ∧ hTOk A N (acc ++ [outL acc b]) hs
theorem hOut_len : ∀ (hs acc : List (List St)), (hOut acc hs).length = acc.length + hs.length
  | [], acc => rfl
  | b :: hs, acc => by rw [hOut, hOut_len hs]; simp; omega
theorem l_told {P : Pg} {μ : DM} (h1 : hTOk P.A P.N [] P.hs) (h2 : okL P.A P.N P.hs.length P.b = true) (h3 : dpL P.b ≤ 24) (h4 : (szL [] P.told).t ≤ 1000000) (hl : P.hs.length ≤ 1000) : f__law_told [P.enc] μ = .ok (.tup (encL P.told)) μ := by
  have go : ∀ (hs acc : List (List St)) (w : Option DV), hTOk P.A P.N acc hs → (∀ b ∈ acc, nrdL b = true) → acc.length + hs.length ≤ 1000 → ∃ w', sFor.go (tgN 2) (sExpr (mAppend (mVar 1) (mCall 2 f__law_out (mCons (mVar 2) (mCons (mVar 1) (mNil)))))) (P.hs.map fun b => .tup (encL b), none) (hs.map fun b => .tup (encL b)) [some P.enc, some (.ref μ.length), w] (μ ++ [encH acc]) = .nx [some P.enc, some (.ref μ.length), w'] (μ ++ [encH (hOut acc hs)]) := by
    intro hs
    induction hs with
    | nil => intro acc w _ _ _; exact ⟨w, by rw [List.map_nil, go_nil rfl]; rfl⟩
    | cons b hs ih =>
      intro acc w ⟨⟨a1, a2, a3⟩, a4⟩ hn hl
      rw [List.length_cons] at hl
      have e := l_out (A := P.A) (N := P.N) (h := μ.length) hn 24 24 b (μ ++ [encH acc]) a2 (Nat.le_refl _) (by simp) a1 a3
      obtain ⟨w', e2⟩ := ih (acc ++ [outL acc b]) (some (.tup (encL b))) a4 (fun c hc => by
        rcases List.mem_append.mp hc with hc | hc
        · exact hn c hc
        · simp at hc; subst hc; exact outL_nrd hn b) (by simp; omega)
      refine ⟨w', ?_⟩
      rw [List.map_cons, go_cons rfl (ρ1 := [some P.enc, some (.ref μ.length), some (.tup (encL b))]) rfl (ρ2 := [some P.enc, some (.ref μ.length), some (.tup (encL b))]) (μ2 := μ ++ [encH (acc ++ [outL acc b])]) (by
        have e' : f__law_out [.tup (encL b), .ref μ.length] (μ ++ [.lst (acc.map fun b => .tup (encL b))]) = .ok (.tup (encL (outL acc b))) (μ ++ [.lst (acc.map fun b => .tup (encL b))]) := e
        have c : (μ ++ [encH acc])[μ.length]? = some (.lst (acc.map fun b => .tup (encL b))) := by simp [encH]
        have l : (acc.map fun b : List St => DV.tup (encL b)).length < LIM := by rw [List.length_map]; show _ < 16777216; omega
        rw [x_sExpr, x_append, x_var (v := .ref μ.length) rfl, DR.bind_ok, lst_ref c, x_call]
        simp [e', encH, show acc.length < 16777216 by omega])]
      exact e2
  obtain ⟨w', e⟩ := go P.hs [] none h1 (by simp) (by simpa using hl)
  have hon := hOut_nrd P.hs [] (by simp)
  have eb := l_out (A := P.A) (N := P.N) (h := μ.length) hon 24 24 P.b (μ ++ [encH (hOut [] P.hs)]) h3 (Nat.le_refl _) (by simp) (by rw [hOut_len]; simpa using h2) (by rw [szL_out]; exact h4)
  refine run_rtA (t := [encH (hOut [] P.hs)]) rfl (und_pure _ (by simp [DV.pure, encL_pure])) ?_
  show b__law_told [some P.enc, none, none] μ = _
  unfold b__law_told
  have g2 : ∀ μ, gIx P.enc (.int 2) μ = .ok (.tup (P.hs.map fun b => .tup (encL b))) μ := fun μ => g2_3
  have g3 : ∀ μ, gIx P.enc (.int 3) μ = .ok (.tup (encL P.b)) μ := fun μ => g3_4
  rw [sq (ρ' := [some P.enc, some (.ref μ.length), none]) (μ' := μ ++ [encH []]) (by simp [encH]), sq (ρ' := [some P.enc, some (.ref μ.length), w']) (μ' := μ ++ [encH (hOut [] P.hs)]) (by
    rw [x_for, show mIt (mOp gIx (mVar 0) (mC (.int 2))) [some P.enc, some (.ref μ.length), none] (μ ++ [encH []]) = .ok (P.hs.map fun b => .tup (encL b), none) (μ ++ [encH []]) by simp [g2], st_ok]
    exact e)]
  have eb' : f__law_out [.tup (encL P.b), .ref μ.length] (μ ++ [encH (hOut [] P.hs)]) = .ok (.tup (encL P.told)) (μ ++ [encH (hOut [] P.hs)]) := eb
  simp [g3, eb']
end Lw

namespace Lw
open PySem L2 Md
def St.inn : St → List (List St)
  | .ask _ _ _ b c => [b, c]
  | .over _ _ _ b c => [b, c]
  | .there _ b c => [b, c]
  | _ => []
def St.mk1 (x : St) : Nat := if x.wd ∈ ["cut", "part", "like"] then 1 else 0
def St.sd1 (x : St) : Nat := if x.wd ∈ ["best", "ask", "over"] then 1 else 0
theorem sz_inn {x : St} (h : x.nrd = true) : (x.sz []).t = 1 + (x.inn.map fun b => (szL [] b).t).sum ∧ (x.sz []).m = x.mk1 + maxL (x.inn.map fun b => (szL [] b).m) ∧ (x.sz []).s = x.sd1 + maxL (x.inn.map fun b => (szL [] b).s) := by
  cases x <;> simp [St.sz, St.inn, St.mk1, St.sd1, St.wd, maxL, St.nrd] at h ⊢ <;> omega
theorem max_natL {γ : Type} (f : γ → Nat) (L : List γ) : ((0 : Int) :: L.map fun x => (f x : Int)).max? = some ((maxL (L.map f) : Nat) : Int) := by
  rw [List.max?_cons]
  induction L with
  | nil => rfl
  | cons x L ih =>
    rw [List.map_cons, List.max?_cons, List.map_cons, maxL]
    cases q : (L.map fun x => (f x : Int)).max? with
    | none => rw [q] at ih; simp at ih ⊢; omega
    | some m => rw [q] at ih; simp at ih ⊢; omega
theorem l_max1 {γ : Type} {m : LM} {ρ : DE} {μ : DM} {L : List γ} {f : γ → Nat} (h : ∀ T, m ρ (μ ++ T) = .ok (L.map fun x => .int (f x : Nat)) (μ ++ T)) (hl : L.length ≤ 1000) : mL1 gMax (mOp gAdd (mKeep (mLst (mCons (mC (.int 0)) mNil))) (mKeep m)) ρ μ
    = .ok (.int ((maxL (L.map f) : Nat) : Int)) (μ ++ [.lst [.int 0], .lst (L.map fun x => .int (f x : Nat)), .lst (.int 0 :: (L.map fun x => .int (f x : Nat)))]) := by
  have e : intsOf (.int 0 :: (L.map fun x => .int (f x : Nat))) = some (0 :: (L.map fun x => (f x : Int))) := by simp [intsOf, intsOf_nat]
  have s1 := max_natL f L
  have g := fun μ => @gAdd_ref (μ ++ [DC.lst [.int 0], DC.lst (L.map fun x => .int (f x : Nat))]).length
  simp only [mL1, x_op, x_keep, x_lst, x_cons, x_c, x_nil, DR.bind_ok, List.length_cons, List.length_nil, LIM_le, Nat.reduceAdd, Nat.zero_add, Nat.reduceLeDiff, if_true, h]
  have g2 : gAdd (.ref μ.length) (.ref (μ ++ [DC.lst [.int 0]]).length) (μ ++ [DC.lst [.int 0]] ++ [DC.lst (L.map fun x => .int (f x : Nat))]) = .ok (.ref (μ ++ [DC.lst [.int 0]] ++ [DC.lst (L.map fun x => .int (f x : Nat))]).length) (μ ++ [DC.lst [.int 0]] ++ [DC.lst (L.map fun x => .int (f x : Nat))] ++ [DC.lst ([.int 0] ++ (L.map fun x => .int (f x : Nat)))]) := gAdd_ref (by simp) (by simp) (by simp; omega)
  rw [g2]
  simp only [DR.noex_ok, DR.bind_ok]
  have l1 : (DV.ref (μ ++ [DC.lst [.int 0]] ++ [DC.lst (L.map fun x => .int (f x : Nat))]).length).lsq (μ ++ [DC.lst [.int 0]] ++ [DC.lst (L.map fun x => .int (f x : Nat))] ++ [DC.lst ([.int 0] ++ (L.map fun x => .int (f x : Nat)))]) = some (.int 0 :: (L.map fun x => .int (f x : Nat))) := by
    simp only [DV.lsq, st_at0]
    rfl
  rw [l1]
  unfold gMax
  simp only [e, s1, DR.noex_ok]
  simp
def cntE (b : DV) (z : SZ) (w4 w5 : Option DV) : DE := [some b, some (.int z.t), some (.int z.m), some (.int z.s), w4, w5, none]
theorem sum_map_enc {L : List (List St)} {r : Fn} {ρ : DE} {μ : DM} {mi : IM} {c : Option Nat} {vs : List Nat} (hi : mi ρ μ = .ok (L.map fun b => .tup (encL b), c) μ) (hc : okAt c (L.map fun b => .tup (encL b)) μ = true) (hl : L.length ≤ 1000) (h6 : (wipeD ρ vs).length = 7) (hr : ∀ b ∈ L, r [.tup (encL b)] μ = .ok (szL [] b).enc μ) :
    mLc vs mi (tgN 6) mYes (mCall 1 r (mCons (mVar 6) mNil)) ρ μ = .ok (L.map fun b => (szL [] b).enc) μ := by
  refine lc_map (fun b : List St => .tup (encL b)) L (fun b => (szL [] b).enc) hi hc (by show L.length ≤ 16777216; omega) fun b hb => ⟨(wipeD ρ vs).set 6 (some (.tup (encL b))), by rw [x_tgN, if_pos (by omega)], ?_⟩
  rw [x_call, x_cons, x_var (by rw [List.getElem?_set_self (by omega)]), DR.bind_ok, x_nil, DR.bind_ok, DR.bind_ok, if_pos (by rfl), hr b hb]
theorem cut_46 {x y z u v w : DV} : cutD [x, y, z, u, v, w] (some 4) (some 6) = [v, w] := rfl
theorem cut_24 {x y z u : DV} : cutD [x, y, z, u] (some 2) (some 4) = [z, u] := rfl
theorem cnt_inner {r : Fn} {b : DV} {z : SZ} {w5 : Option DV} {x : St} {μ : DM} (hn : x.nrd = true) (hr : ∀ c ∈ x.inn, ∀ T, r [.tup (encL c)] (μ ++ T) = .ok (szL [] c).enc (μ ++ T)) :
    ∃ T j, sAsg (mIf (mBl (mOp (gIn false) (mOp gIx (mVar 4) (mC (.int 0))) (mKeep (mLst (mCons (mC (.str "ask")) (mCons (mC (.str "over")) (mNil))))))) (mKeep (mLc [6] (mIt (mSl (mVar 4) (mP (mC (.int 4))) (mP (mC (.int 6))))) (tgN 6) (mYes) (mCall 1 r (mCons (mVar 6) (mNil))))) (mIf (mBl (mOp (gEq false) (mOp gIx (mVar 4) (mC (.int 0))) (mC (.str "there")))) (mKeep (mLc [6] (mIt (mSl (mVar 4) (mP (mC (.int 2))) (mP (mC (.int 4))))) (tgN 6) (mYes) (mCall 1 r (mCons (mVar 6) (mNil))))) (mKeep (mLst (mNil))))) (tgN 5) (cntE b z (some x.enc) w5) μ
      = .nx (cntE b z (some x.enc) (some (.ref j))) (μ ++ T) ∧ (μ ++ T)[j]? = some (.lst (x.inn.map fun b => (szL [] b).enc)) := by
  have t1 := in_wds (ss := ["ask", "over"]) (ms := mCons (mC (.str "ask")) (mCons (mC (.str "over")) (mNil))) (show mOp gIx (mVar 4) (mC (.int 0)) (cntE b z (some x.enc) w5) μ = .ok (.str x.wd) μ by simp [cntE, wd_ix]) (fun _ => rfl) (by decide)
  have w1 : ∀ (s : String) (μ : DM), mBl (mOp (gEq false) (mOp gIx (mVar 4) (mC (.int 0))) (mC (.str s))) (cntE b z (some x.enc) w5) μ = .ok (x.wd == s) μ := fun s μ => by simp [cntE, wd_ix]
  refine ⟨[.lst (["ask", "over"].map .str), .lst (x.inn.map fun b => (szL [] b).enc)], μ.length + 1, ?_, by simp⟩
  have plain : x.wd ∉ ["ask", "over"] → x.wd ≠ "there" → x.inn = [] → _ := fun n1 n2 n3 => (show sAsg (mIf (mBl (mOp (gIn false) (mOp gIx (mVar 4) (mC (.int 0))) (mKeep (mLst (mCons (mC (.str "ask")) (mCons (mC (.str "over")) (mNil))))))) (mKeep (mLc [6] (mIt (mSl (mVar 4) (mP (mC (.int 4))) (mP (mC (.int 6))))) (tgN 6) (mYes) (mCall 1 r (mCons (mVar 6) (mNil))))) (mIf (mBl (mOp (gEq false) (mOp gIx (mVar 4) (mC (.int 0))) (mC (.str "there")))) (mKeep (mLc [6] (mIt (mSl (mVar 4) (mP (mC (.int 2))) (mP (mC (.int 4))))) (tgN 6) (mYes) (mCall 1 r (mCons (mVar 6) (mNil))))) (mKeep (mLst (mNil))))) (tgN 5) (cntE b z (some x.enc) w5) μ = .nx (cntE b z (some x.enc) (some (.ref (μ.length + 1)))) (μ ++ [.lst (["ask", "over"].map .str), .lst (x.inn.map fun b => (szL [] b).enc)]) by
    rw [x_sAsg, x_if, t1, DR.bind_ok, if_neg (by simpa using n1), x_if, w1, DR.bind_ok, if_neg (by simpa using n2), n3]
    simp [cntE])
  have four : ∀ b' c' y z' u v, x.enc = .tup [y, z', u, v, .tup (encL b'), .tup (encL c')] → x.wd ∈ ["ask", "over"] → x.inn = [b', c'] → _ := fun b' c' y z' u v ex n1 n3 => (show sAsg (mIf (mBl (mOp (gIn false) (mOp gIx (mVar 4) (mC (.int 0))) (mKeep (mLst (mCons (mC (.str "ask")) (mCons (mC (.str "over")) (mNil))))))) (mKeep (mLc [6] (mIt (mSl (mVar 4) (mP (mC (.int 4))) (mP (mC (.int 6))))) (tgN 6) (mYes) (mCall 1 r (mCons (mVar 6) (mNil))))) (mIf (mBl (mOp (gEq false) (mOp gIx (mVar 4) (mC (.int 0))) (mC (.str "there")))) (mKeep (mLc [6] (mIt (mSl (mVar 4) (mP (mC (.int 2))) (mP (mC (.int 4))))) (tgN 6) (mYes) (mCall 1 r (mCons (mVar 6) (mNil))))) (mKeep (mLst (mNil))))) (tgN 5) (cntE b z (some x.enc) w5) μ = .nx (cntE b z (some x.enc) (some (.ref (μ.length + 1)))) (μ ++ [.lst (["ask", "over"].map .str), .lst (x.inn.map fun b => (szL [] b).enc)]) by
    have e := sum_map_enc (L := x.inn) (r := r) (ρ := cntE b z (some x.enc) w5) (μ := μ ++ [.lst (["ask", "over"].map .str)]) (mi := mIt (mSl (mVar 4) (mP (mC (.int 4))) (mP (mC (.int 6))))) (c := none) (vs := [6]) (by simp [cntE, ex, cut_46, n3]) rfl (by rw [n3]; simp) (by simp [cntE, wipeD]) (fun c hc => hr c hc _)
    rw [x_sAsg, x_if, t1, DR.bind_ok, if_pos (by simpa using n1), x_keep, e]
    simp [cntE])
  cases x with
  | ask a p q b' c' => exact four b' c' _ _ _ _ rfl (by simp [St.wd]) rfl
  | over a p s b' c' => exact four b' c' _ _ _ _ rfl (by simp [St.wd]) rfl
  | there p b' c' =>
    have e := sum_map_enc (L := (St.there p b' c').inn) (r := r) (ρ := cntE b z (some (St.there p b' c').enc) w5) (μ := μ ++ [.lst (["ask", "over"].map .str)]) (mi := mIt (mSl (mVar 4) (mP (mC (.int 2))) (mP (mC (.int 4))))) (c := none) (vs := [6]) (by simp [cntE, St.enc, cut_24, St.inn]) rfl (by simp [St.inn]) (by simp [cntE, wipeD]) (fun c hc => hr c hc _)
    rw [x_sAsg, x_if, t1, DR.bind_ok, if_neg (by simp [St.wd]), x_if, w1, DR.bind_ok, if_pos (by simp [St.wd]), x_keep, e]
    simp [cntE]
  | rounds => simp [St.nrd] at hn
  | doo => simp [St.nrd] at hn
  | _ => exact plain (by simp [St.wd]) (by simp [St.wd]) rfl
theorem cnt_body {r : Fn} {b : DV} {z : SZ} {w4 w5 : Option DV} {x : St} {μ : DM} (hn : x.nrd = true) (hr : ∀ c ∈ x.inn, ∀ T, r [.tup (encL c)] (μ ++ T) = .ok (szL [] c).enc (μ ++ T)) :
    ∃ T w5', b__law_counts_1 r (cntE b z (some x.enc) w5) μ = .nx (cntE b ⟨z.t + (x.sz []).t, z.m + (x.sz []).m, z.s + (x.sz []).s⟩ (some x.enc) w5') (μ ++ T) := by
  obtain ⟨T, j, e1, hj⟩ := cnt_inner (b := b) (z := z) (w5 := w5) hn hr
  obtain ⟨z1, z2, z3⟩ := sz_inn hn
  have hl : x.inn.length ≤ 2 := by cases x <;> simp [St.inn]
  have lcs : ∀ (U : DM) (i : Nat) (g : SZ → Nat) (z : SZ), (∀ z : SZ, [DV.int z.t, .int z.m, .int z.s][i]? = some (.int (g z : Nat))) → mLc [6] (mIt (mVar 5)) (tgN 6) mYes (mOp gIx (mVar 6) (mC (.int (i : Nat)))) (cntE b z (some x.enc) (some (.ref j))) (μ ++ T ++ U) = .ok (x.inn.map fun c => .int (g (szL [] c) : Nat)) (μ ++ T ++ U) := fun U i g z hg =>
    lc_map (fun c => (szL [] c).enc) x.inn (fun c => .int (g (szL [] c) : Nat)) (c := some j) (by simp only [x_it, cntE]; rw [x_var (v := .ref j) rfl, DR.bind_ok]; simp only [get_app hj]) (by simp only [okAt]; rw [get_app hj]; simp) (by show _ ≤ 16777216; omega) fun c hc => ⟨[some b, some (.int z.t), some (.int z.m), some (.int z.s), some x.enc, some (.ref j), some (szL [] c).enc], rfl, by
      have h := gIx_nat (μ := μ ++ T ++ U) (hg (szL [] c))
      rw [x_op, x_var (v := (szL [] c).enc) rfl, DR.bind_ok, x_c, DR.bind_ok, show gIx (szL [] c).enc (.int (i : Nat)) (μ ++ T ++ U) = _ from h]; rfl⟩
  have w1 : ∀ (ss : List String) (ms : LM) (hs : ∀ (ρ : DE) (μ : DM), ms ρ μ = .ok (ss.map .str) μ) (hl : ss.length ≤ 1000) (z : SZ) (μ : DM), mIf (mBl (mOp (gIn false) (mOp gIx (mVar 4) (mC (.int 0))) (mKeep (mLst ms)))) (mC (.int 1)) (mC (.int 0)) (cntE b z (some x.enc) (some (.ref j))) μ = .ok (.int ((if x.wd ∈ ss then 1 else 0 : Nat) : Int)) (μ ++ [.lst (ss.map .str)]) := fun ss ms hs hl z μ => by
    have t1 := in_wds (ss := ss) (ms := ms) (show mOp gIx (mVar 4) (mC (.int 0)) (cntE b z (some x.enc) (some (.ref j))) μ = .ok (.str x.wd) μ by simp [cntE, wd_ix]) (fun μ => hs _ μ) hl
    rw [x_if, t1, DR.bind_ok]
    by_cases h : x.wd ∈ ss
    · rw [if_pos (by simpa using h), if_pos h]; rfl
    · rw [if_neg (by simpa using h), if_neg h]; rfl
  have k0 := fun U => lcs U 0 SZ.t
  have k1 := fun U => lcs U 1 SZ.m
  have k2 := fun U => lcs U 2 SZ.s
  have S := @g_sumN (List St) (fun c => (szL [] c).t) x.inn
  have m1 := fun (U : DM) (z : SZ) => l_max1 (m := mLc [6] (mIt (mVar 5)) (tgN 6) mYes (mOp gIx (mVar 6) (mC (.int 1)))) (ρ := cntE b z (some x.enc) (some (.ref j))) (μ := μ ++ T ++ U) (L := x.inn) (f := fun c => (szL [] c).m) (fun V => by have := k1 (U ++ V) z (fun _ => rfl); simpa [List.append_assoc] using this) (by omega)
  have m2 := fun (U : DM) (z : SZ) => l_max1 (m := mLc [6] (mIt (mVar 5)) (tgN 6) mYes (mOp gIx (mVar 6) (mC (.int 2)))) (ρ := cntE b z (some x.enc) (some (.ref j))) (μ := μ ++ T ++ U) (L := x.inn) (f := fun c => (szL [] c).s) (fun V => by have := k2 (U ++ V) z (fun _ => rfl); simpa [List.append_assoc] using this) (by omega)
  have k0' : mLc [6] (mIt (mVar 5)) (tgN 6) mYes (mOp gIx (mVar 6) (mC (.int 0))) (cntE b z (some x.enc) (some (.ref j))) (μ ++ T) = .ok (x.inn.map fun c => .int ((szL [] c).t : Nat)) (μ ++ T) := by have := k0 [] z (fun _ => rfl); simpa using this
  have s2 : sAsg (mOp gAdd (mOp gAdd (mVar 1) (mC (.int 1))) (mL1F gSum (mLc [6] (mIt (mVar 5)) (tgN 6) (mYes) (mOp gIx (mVar 6) (mC (.int 0)))))) (tgN 1) (cntE b z (some x.enc) (some (.ref j))) (μ ++ T) = .nx (cntE b ⟨z.t + (x.sz []).t, z.m, z.s⟩ (some x.enc) (some (.ref j))) (μ ++ T) := by
    rw [x_sAsg, x_op, x_op, x_var (v := .int (z.t : Int)) rfl, DR.bind_ok, x_c, DR.bind_ok, gAdd_int, DR.noex_ok, DR.bind_ok, x_l1F, k0', DR.bind_ok, S]
    simp only [DR.noex_ok, DR.bind_ok, gAdd_int, st_ok, cntE]
    rw [x_tgN, if_pos (by simp)]
    simp [z1]; omega
  have a2 := w1 ["cut", "part", "like"] (mCons (mC (.str "cut")) (mCons (mC (.str "part")) (mCons (mC (.str "like")) (mNil)))) (fun _ _ => rfl) (by decide)
  have a3 := w1 ["best", "ask", "over"] (mCons (mC (.str "best")) (mCons (mC (.str "ask")) (mCons (mC (.str "over")) (mNil)))) (fun _ _ => rfl) (by decide)
  have s3 : ∃ U, sAsg (mOp gAdd (mOp gAdd (mVar 2) (mIf (mBl (mOp (gIn false) (mOp gIx (mVar 4) (mC (.int 0))) (mKeep (mLst (mCons (mC (.str "cut")) (mCons (mC (.str "part")) (mCons (mC (.str "like")) (mNil)))))))) (mC (.int 1)) (mC (.int 0)))) (mL1 gMax (mOp gAdd (mKeep (mLst (mCons (mC (.int 0)) (mNil)))) (mKeep (mLc [6] (mIt (mVar 5)) (tgN 6) (mYes) (mOp gIx (mVar 6) (mC (.int 1)))))))) (tgN 2) (cntE b ⟨z.t + (x.sz []).t, z.m, z.s⟩ (some x.enc) (some (.ref j))) (μ ++ T)
      = .nx (cntE b ⟨z.t + (x.sz []).t, z.m + (x.sz []).m, z.s⟩ (some x.enc) (some (.ref j))) (μ ++ T ++ U) := by
    refine ⟨[.lst (["cut", "part", "like"].map .str)] ++ [.lst [.int 0], .lst (x.inn.map fun c => .int ((szL [] c).m : Nat)), .lst (.int 0 :: (x.inn.map fun c => .int ((szL [] c).m : Nat)))], ?_⟩
    rw [x_sAsg, x_op, x_op, x_var (v := .int (z.m : Int)) rfl, DR.bind_ok, a2, DR.bind_ok, gAdd_int, DR.noex_ok, DR.bind_ok, m1]
    simp only [DR.noex_ok, DR.bind_ok, gAdd_int, st_ok, cntE]
    rw [x_tgN, if_pos (by simp)]
    simp only [List.set_cons_succ, List.set_cons_zero, List.append_assoc]
    rw [z2]
    simp [St.mk1, Int.add_assoc]
  obtain ⟨U, s3⟩ := s3
  have s4 : ∃ V, sAsg (mOp gAdd (mOp gAdd (mVar 3) (mIf (mBl (mOp (gIn false) (mOp gIx (mVar 4) (mC (.int 0))) (mKeep (mLst (mCons (mC (.str "best")) (mCons (mC (.str "ask")) (mCons (mC (.str "over")) (mNil)))))))) (mC (.int 1)) (mC (.int 0)))) (mL1 gMax (mOp gAdd (mKeep (mLst (mCons (mC (.int 0)) (mNil)))) (mKeep (mLc [6] (mIt (mVar 5)) (tgN 6) (mYes) (mOp gIx (mVar 6) (mC (.int 2)))))))) (tgN 3) (cntE b ⟨z.t + (x.sz []).t, z.m + (x.sz []).m, z.s⟩ (some x.enc) (some (.ref j))) (μ ++ T ++ U)
      = .nx (cntE b ⟨z.t + (x.sz []).t, z.m + (x.sz []).m, z.s + (x.sz []).s⟩ (some x.enc) (some (.ref j))) (μ ++ V) := by
    refine ⟨T ++ (U ++ ([.lst (["best", "ask", "over"].map .str)] ++ [.lst [.int 0], .lst (x.inn.map fun c => .int ((szL [] c).s : Nat)), .lst (.int 0 :: (x.inn.map fun c => .int ((szL [] c).s : Nat)))])), ?_⟩
    have m2' := m2 (U ++ [.lst (["best", "ask", "over"].map .str)]) ⟨z.t + (x.sz []).t, z.m + (x.sz []).m, z.s⟩
    simp only [← List.append_assoc] at m2'
    rw [x_sAsg, x_op, x_op, x_var (v := .int (z.s : Int)) rfl, DR.bind_ok, a3, DR.bind_ok, gAdd_int, DR.noex_ok, DR.bind_ok, m2']
    simp only [DR.noex_ok, DR.bind_ok, gAdd_int, st_ok, cntE]
    rw [x_tgN, if_pos (by simp)]
    simp only [List.set_cons_succ, List.set_cons_zero, List.append_assoc]
    rw [z3]
    simp [St.sd1, Int.add_assoc]
  obtain ⟨V, s4⟩ := s4
  refine ⟨V, some (.ref j), ?_⟩
  unfold b__law_counts_1
  rw [sq e1, sq s2, sq s3]
  exact s4
theorem inn_dp {x : St} {c : List St} (h : c ∈ x.inn) : dpL c ≤ x.dp := by
  cases x <;> simp [St.inn, St.dp] at h ⊢ <;> rcases h with rfl | rfl <;> omega
theorem inn_nrd {x : St} {c : List St} (hn : x.nrd = true) (h : c ∈ x.inn) : nrdL c = true := by
  cases x <;> simp [St.inn, St.nrd] at h hn <;> rcases h with rfl | rfl <;> simp [hn]
theorem l_counts : ∀ (d m : Nat) (b : List St) (μ : DM), dpL b ≤ d → d ≤ m → nrdL b = true → f__law_counts_n m [.tup (encL b)] μ = .ok (szL [] b).enc μ
  | 0, m, b, μ, hd, _, _ => by have := dpL_pos b; omega
  | d + 1, 0, b, μ, _, hm, _ => by omega
  | d + 1, m + 1, b, μ, hd, hm, hn => by
    have go : ∀ (l : List St) (z : SZ) (T : DM) (w4 w5 : Option DV), (∀ x ∈ l, x ∈ b) → ∃ T' w4' w5', sFor.go (tgN 4) (b__law_counts_1 (f__law_counts_n m)) (encL b, none) (encL l) (cntE (.tup (encL b)) z w4 w5) (μ ++ T) = .nx (cntE (.tup (encL b)) ⟨z.t + (szL [] l).t, z.m + (szL [] l).m, z.s + (szL [] l).s⟩ w4' w5') (μ ++ T') := by
      intro l
      induction l with
      | nil => intro z T w4 w5 _; exact ⟨T, w4, w5, by rw [show encL [] = [] from rfl, go_nil rfl]; rfl⟩
      | cons x l ih =>
        intro z T w4 w5 hm'
        have hx := hm' x (by simp)
        have hdx := dpL_mem hx
        have hnx := nrdL_mem.mp hn x hx
        obtain ⟨U, w5', e1⟩ := cnt_body (r := f__law_counts_n m) (b := .tup (encL b)) (z := z) (w4 := w4) (w5 := w5) (x := x) (μ := μ ++ T) hnx (fun c hc V => l_counts d m c _ (by have := inn_dp hc; omega) (by omega) (inn_nrd hnx hc))
        obtain ⟨T', w4', w5'', e2⟩ := ih ⟨z.t + (x.sz []).t, z.m + (x.sz []).m, z.s + (x.sz []).s⟩ (T ++ U) (some x.enc) w5' (fun y hy => hm' y (by simp [hy]))
        refine ⟨T', w4', w5'', ?_⟩
        rw [show encL (x :: l) = x.enc :: encL l from rfl, go_cons rfl (ρ1 := cntE (.tup (encL b)) z (some x.enc) w5) rfl e1, List.append_assoc, e2]
        simp only [szL, Nat.add_assoc]
    obtain ⟨T, w4', w5', e⟩ := go b ⟨0, 0, 0⟩ [] none none (fun _ h => h)
    simp only [Nat.zero_add, List.append_nil] at e
    refine run_rtA (t := T) rfl rfl ?_
    show b__law_counts (f__law_counts_n m) [some (.tup (encL b)), none, none, none, none, none, none] μ = _
    unfold b__law_counts
    rw [sq (ρ' := cntE (.tup (encL b)) ⟨0, 0, 0⟩ none none) (μ' := μ) (by simp [cntE]), sq (by
      rw [x_for, show mIt (mVar 0) (cntE (.tup (encL b)) ⟨0, 0, 0⟩ none none) μ = .ok (encL b, none) μ by simp [cntE], st_ok]
      exact e)]
    simp [cntE, SZ.enc]
end Lw

namespace Lw
open PySem L2 Md
def Pg.yd (P : Pg) : Yd := { ps := (List.replicate P.N []).set 0 [((0 : Rat), (1 : Rat))], sh := List.replicate P.A [], wt := P.told }
theorem PC_whole : PC [((0 : Rat), (1 : Rat))] = .tup [.tup [.tup [.int 0, .int 1], .tup [.int 1, .int 1]]] := rfl
theorem l_yard {P : Pg} {μ : DM} (ht : f__law_told [P.enc] = fun μ => .ok (.tup (encL P.told)) μ) (hA : P.A ≤ 4) (hN : 1 ≤ P.N ∧ P.N ≤ 8) :
    ∃ T y a b c, f__law_yard [P.enc] μ = .ok (.ref y) (μ ++ T) ∧ YA (μ ++ T) y a b c P.yd ∧ μ.length ≤ y ∧ μ.length ≤ a ∧ μ.length ≤ b ∧ μ.length ≤ c := by
  have g1 : ∀ μ, gIx P.enc (.int 1) μ = .ok (.int P.N) μ := fun μ => gIx_1
  have g0 : ∀ μ, gIx P.enc (.int 0) μ = .ok (.int P.A) μ := fun μ => gIx_0
  have f0 : ∀ k : Nat, (List.replicate k [DV.tup []]).flatten = (List.replicate k ([] : Pc)).map PC := fun k => by
    induction k with
    | zero => rfl
    | succ k ih => rw [List.replicate_succ, List.flatten_cons, ih, List.replicate_succ]; rfl
  have g2 : ∀ (k : Nat) (μ : DM), k ≤ 8 → gMul (.ref μ.length) (.int k) (μ ++ [DC.lst [.tup []]]) = .ok (.ref (μ.length + 1)) (μ ++ [DC.lst [.tup []], DC.lst ((List.replicate k ([] : Pc)).map PC)]) := fun k μ hk => by
    have : (DV.ref μ.length).lst (μ ++ [DC.lst [.tup []]]) = some [.tup []] := lst_ref (by simp)
    rw [← f0]
    simp [gMul, this]
    omega
  have s1 : sAsg (mOp gMul (mKeep (mLst (mCons (mTup (mNil)) (mNil)))) (mOp gIx (mVar 0) (mC (.int 1)))) (tgN 1) [some P.enc, none] μ = .nx [some P.enc, some (.ref (μ.length + 1))] (μ ++ [DC.lst [.tup []], DC.lst ((List.replicate P.N ([] : Pc)).map PC)]) := by
    simp [g1, g2 P.N μ hN.2]
  have hset : ((List.replicate P.N ([] : Pc)).map PC).set 0 (PC [((0 : Rat), (1 : Rat))]) = P.yd.ps.map PC := by rw [← List.map_set]; rfl
  have s2 : sSub (mVar 1) (mC (.int 0)) (mTup (mCons (mTup (mCons (mTup (mCons (mC (.int 0)) (mCons (mC (.int 1)) (mNil)))) (mCons (mTup (mCons (mC (.int 1)) (mCons (mC (.int 1)) (mNil)))) (mNil)))) (mNil))) [some P.enc, some (.ref (μ.length + 1))] (μ ++ [DC.lst [.tup []], DC.lst ((List.replicate P.N ([] : Pc)).map PC)])
      = .nx [some P.enc, some (.ref (μ.length + 1))] (μ ++ [DC.lst [.tup []], DC.lst (P.yd.ps.map PC)]) := by
    have hi : ixN P.N 0 = some 0 := ixN_nat (k := 0) (by omega)
    rw [← hset, PC_whole]
    simp [hi, List.set_append]
  have s3 : mKeep (mLst (mCons (mVar 1) (mCons (mOp gMul (mKeep (mLst (mCons (mTup (mNil)) (mNil)))) (mOp gIx (mVar 0) (mC (.int 0)))) (mCons (mRev (mKeep (mListOf (mCall 1 f__law_told (mCons (mVar 0) (mNil)))))) (mNil))))) [some P.enc, some (.ref (μ.length + 1))] (μ ++ [DC.lst [.tup []], DC.lst (P.yd.ps.map PC)])
      = .ok (.ref (μ.length + 6)) (μ ++ [DC.lst [.tup []], DC.lst (P.yd.ps.map PC), DC.lst [.tup []], DC.lst (P.yd.sh.map PC), DC.lst (encL P.told), DC.lst (encL P.told).reverse, DC.lst [.ref (μ.length + 1), .ref (μ.length + 3), .ref (μ.length + 5)]]) := by
    have h2 := g2 P.A (μ ++ [DC.lst [.tup []], DC.lst (P.yd.ps.map PC)]) (by omega)
    simp [Pg.yd] at h2
    simp [g0, h2, ht, Pg.yd]
  refine ⟨_, _, μ.length + 1, μ.length + 3, μ.length + 5, run_new (k := μ.length + 6) rfl (by omega) (by
    show b__law_yard [some P.enc, none] μ = _
    unfold b__law_yard
    rw [sq s1, sq s2, x_sRet, s3]
    rfl), ⟨by simp, ⟨Nat.le_refl _, by simp, by simp, by simp [Pg.yd], fun _ _ _ _ _ => rfl⟩, by omega, by omega, by omega⟩, by omega, by omega, by omega, by omega⟩
theorem SP_01 : SP 1 ((0 : Rat), (1 : Rat)) := ⟨Sz.zero, Sz.one⟩
theorem yd_inv {P : Pg} (h1 : okTL P.A P.N P.told = true) : P.yd.Inv P.A P.N 1 := by
  refine ⟨by simp [Pg.yd], by simp [Pg.yd], h1, Pg.told_nrd, fun Q hQ x hx => ?_, fun Q hQ x hx => ?_⟩
  · simp only [Pg.yd] at hQ
    rcases mem_setD hQ with hQ | hQ
    · rw [List.eq_of_mem_replicate hQ] at hx; cases hx
    · subst hQ; simp at hx; subst hx; exact SP_01
  · simp only [Pg.yd] at hQ
    rw [List.eq_of_mem_replicate hQ] at hx; cases hx
theorem totP_rep (k : Nat) : totP (List.replicate k []) = 0 := by
  induction k with
  | zero => rfl
  | succ k ih => rw [List.replicate_succ]; simp only [totP, List.map_cons, List.sum_cons, List.length_nil, Nat.zero_add] at ih ⊢; exact ih
theorem yd_tot {P : Pg} (hN : 1 ≤ P.N) : P.yd.tot = 1 := by
  have e := totP_set (List.replicate P.N ([] : Pc)) 0 [] [((0 : Rat), (1 : Rat))] (by rw [List.getElem?_replicate, if_pos (by omega)])
  rw [totP_rep] at e
  simp only [Yd.tot, Pg.yd, totP_rep]
  simpa using e
end Lw

namespace Lw
open PySem L2 Md
/-! ## all ways, typed -/
theorem on_wt {A N k : Nat} : ∀ (n : Nat) (Y : Yd), Y.left < n → Y.Inv A N k → ((Y.on.2).Inv A N k ∧ (Y.on.2).tot = Y.tot ∧ (∀ x, Y.on.1 = some x → x.okT A N = true ∧ x.nrd = true ∧ (Y.on.2).asks x = true ∧ (x.sz []).t + (Y.on.2).left ≤ Y.left ∧ (x.sz []).m + (szL [] (Y.on.2).wt).m ≤ (szL [] Y.wt).m ∧ (x.sz []).s + (szL [] (Y.on.2).wt).s ≤ (szL [] Y.wt).s))
  | 0, Y, h, _ => by omega
  | n + 1, Y, h, hI => by
    cases hw : Y.wt with
    | nil => rw [on_nil hw]; exact ⟨hI, rfl, fun x e => by cases e⟩
    | cons x w =>
      have hn := hI.nrd
      have hok := hI.ok
      rw [hw] at hn hok
      simp only [nrdL, okTL, Bool.and_eq_true] at hn hok
      have hI1 : ({ Y with wt := w } : Yd).Inv A N k := hI.wtt hok.2 hn.2
      have hsz := left_cons hw
      cases ha : ({ Y with wt := w } : Yd).asks x with
      | true =>
        rw [on_ask hw ha]
        refine ⟨hI1, rfl, fun z e => ?_⟩
        cases e
        refine ⟨hok.1, hn.1, ha, ?_, ?_, ?_⟩
        · show _ + (szL [] w).t ≤ _; omega
        · show _ + (szL [] w).m ≤ _; simp only [szL]; omega
        · show _ + (szL [] w).s ≤ _; simp only [szL]; omega
      | false =>
        have e := on_stp hI.nrd hw ha
        have hl := stp_left hn.1 ha
        have h4 : ({ Y with wt := w } : Yd).left = (szL [] w).t := rfl
        rw [h4] at hl
        have ih := on_wt n (({ Y with wt := w } : Yd).stp x) (by omega) (hI1.stp hok.1 hn.1)
        rw [← e] at ih
        refine ⟨ih.1, ?_, fun z ez => ?_⟩
        · rw [ih.2.1, tot_stp hI1 hok.1]; rfl
        · obtain ⟨i1, i2, i3, i4, i5, i6⟩ := ih.2.2 z ez
          have hms : (szL [] (({ Y with wt := w } : Yd).stp x).wt).m ≤ (x.sz []).m + (szL [] w).m ∧ (szL [] (({ Y with wt := w } : Yd).stp x).wt).s ≤ (x.sz []).s + (szL [] w).s := by
            cases x with
            | there p b c =>
              simp only [Yd.stp, szL_app, St.sz]
              split <;> constructor <;> omega
            | best a ps q =>
              simp only [Yd.stp]
              split <;> exact ⟨Nat.le_add_left _ _, Nat.le_add_left _ _⟩
            | ask => simp [Yd.asks] at ha
            | over => simp [Yd.asks] at ha
            | _ => exact ⟨Nat.le_add_left _ _, Nat.le_add_left _ _⟩
          refine ⟨i1, i2, i3, by omega, ?_, ?_⟩
          · simp only [szL]; omega
          · simp only [szL]; omega
theorem on_ok {A N k : Nat} {Y : Yd} (hI : Y.Inv A N k) : (Y.on.2).Inv A N k ∧ (Y.on.2).tot = Y.tot ∧ (∀ x, Y.on.1 = some x → x.okT A N = true ∧ x.nrd = true ∧ (Y.on.2).asks x = true ∧ (x.sz []).t + (Y.on.2).left ≤ Y.left ∧ (x.sz []).m + (szL [] (Y.on.2).wt).m ≤ (szL [] Y.wt).m ∧ (x.sz []).s + (szL [] (Y.on.2).wt).s ≤ (szL [] Y.wt).s) := on_wt (Y.left + 1) Y (Nat.lt_succ_self _) hI
/-- behind an answer less is still to be asked -/
theorem answ_sz {Z : Yd} {x : St} {an : An} (hf : Z.fit x an) : (szL [] (Z.answ x an).wt).t ≤ (x.sz []).t + (szL [] Z.wt).t ∧ (szL [] (Z.answ x an).wt).m + (x.sz []).m ≤ (x.sz []).m + (x.sz []).m + (szL [] Z.wt).m ∧ (szL [] (Z.answ x an).wt).s ≤ (x.sz []).s + (szL [] Z.wt).s ∧
    (szL [] (Z.answ x an).wt).m + (szL [] (Z.answ x an).wt).s + 1 ≤ (x.sz []).m + (szL [] Z.wt).m + ((x.sz []).s + (szL [] Z.wt).s) := by
  cases x <;> cases an <;> simp only [Yd.fit] at hf <;> first
    | exact hf.elim
    | (simp only [Yd.answ, Yd.ct, mv_wt, szL_app, St.sz]
       first
         | omega
         | (split <;> omega))
theorem answ_m {Z : Yd} {x : St} {an : An} (hf : Z.fit x an) : (szL [] (Z.answ x an).wt).m + x.mk1 ≤ (x.sz []).m + (szL [] Z.wt).m := by
  cases x <;> cases an <;> simp only [Yd.fit] at hf <;> first
    | exact hf.elim
    | (simp [Yd.answ, Yd.ct, mv_wt, szL_app, St.sz, St.mk1, St.wd] <;> first
         | omega
         | (split <;> omega))
theorem tot_answ1 {A N k : Nat} {Z : Yd} {x : St} {an : An} (h : Z.Inv A N k) (hx : x.okT A N = true) (hf : Z.fit x an) : (Z.answ x an).tot ≤ Z.tot + x.mk1 := by
  cases x <;> cases an <;> simp only [Yd.fit] at hf <;> first
    | exact hf.elim
    | (simp only [St.okT, Bool.and_eq_true, decide_eq_true_eq] at hx
       simp only [Yd.answ]
       first
         | (rw [tot_ct h hx.1.2.1 hx.1.2.2.1 hx.1.2.2.2 hf]; simp [St.mk1, St.wd])
         | (rw [tot_ct h hx.2.1 hx.2.2.2.1 hx.2.2.2.2.1 hf]; simp [St.mk1, St.wd])
         | (rw [tot_mv h (of_decide_eq_true (List.all_eq_true.mp hx.2 _ hf)) hx.1.2.1 fun e => hx.1.2.2.2.2.2 (e ▸ hf)]; exact Nat.le_add_right _ _)
         | exact Nat.le_add_right _ _)
def kb (c : Nat) : Nat := 5 * 2 ^ c
theorem kb_succ (c : Nat) : 2 * kb c + 4 ≤ kb (c + 1) + 4 := by unfold kb; rw [Nat.pow_succ]; omega
/-- a yard that is carried through all ways: so many marks are left to it -/
structure Yd.Good (A N M : Nat) (Y : Yd) : Prop where
  ex : ∃ c, Y.Inv A N (6 * 2 ^ c - 4) ∧ c + (szL [] Y.wt).m ≤ M ∧ Y.tot + (szL [] Y.wt).m ≤ 1 + M
  lf : Y.left ≤ 1000
theorem kk_succ (c : Nat) : 2 * (6 * 2 ^ c - 4) + 4 = 6 * 2 ^ (c + 1) - 4 := by
  have := Nat.one_le_two_pow (n := c)
  rw [Nat.pow_succ]; omega
theorem kk_le {c M : Nat} (h : c ≤ M) (hM : M ≤ 7) : 6 * 2 ^ c - 4 < 1000 := by
  have : 2 ^ c ≤ 2 ^ 7 := Nat.pow_le_pow_right (by omega) (by omega)
  omega
theorem Yd.Fit.free {Y : Yd} {x : St} {an : An} {k l : Nat} (h : Y.Fit x an k) (hm : x.mk1 = 0) : Y.Fit x an l := by
  refine ⟨h.f, fun j r e => ?_⟩
  subst e
  have hf := h.f
  cases x <;> simp [Yd.fit, St.mk1, St.wd] at hf hm
/-- each way goes on well -/
theorem good_step {A N M n : Nat} {Y : Yd} {x : St} (h : Y.Good A N M) (hx : Y.on.1 = some x) (hn : n ∈ (Y.on.2).opts x) : ((Y.on.2).answ x ((Y.on.2).by x n)).Good A N M ∧ ((Y.on.2).answ x ((Y.on.2).by x n)).rk + 1 ≤ Y.rk := by
  obtain ⟨⟨c, hI, h1, h2⟩, h3⟩ := h
  obtain ⟨o1, o2, o3⟩ := on_ok hI
  obtain ⟨q1, q2, q3, q4, q5, q6⟩ := o3 x hx
  have hf := by_fit o1 q1 q3 hn
  have am := answ_m hf.f
  have at1 := tot_answ1 o1 q1 hf.f
  have az := answ_sz hf.f
  refine ⟨⟨⟨c + x.mk1, ?_, by omega, by omega⟩, ?_⟩, ?_⟩
  · by_cases hm : x.mk1 = 0
    · rw [hm]; exact o1.answ q1 q2 (hf.free hm)
    · have hm1 : x.mk1 = 1 := by unfold St.mk1 at hm ⊢; split at hm <;> simp_all
      rw [hm1, ← kk_succ]
      exact (o1.mono (by omega)).answ q1 q2 hf
  · show (szL [] _).t ≤ 1000
    have : (Y.on.2).left = (szL [] (Y.on.2).wt).t := rfl
    omega
  · simp only [Yd.rk]; omega
theorem opts_len {A N k : Nat} {Z : Yd} {x : St} (hI : Z.Inv A N k) (hx : x.okT A N = true) : (Z.opts x).length ≤ 2 * Z.tot + 8 := by
  have pl : ∀ p, p < N → (Z.pc p).length ≤ Z.tot := fun p hp => by
    have := totP_mem (List.mem_of_getElem? (pc_get hI.np hp))
    simp only [Yd.tot]; omega
  cases x with
  | cut a' p s q =>
    simp only [St.okT, Bool.and_eq_true, decide_eq_true_eq] at hx
    have := pl p hx.1.2.1; simp [Yd.opts]; omega
  | part a' p s q =>
    simp only [St.okT, Bool.and_eq_true, decide_eq_true_eq] at hx
    have := pl p hx.1.2.1; simp [Yd.opts]; omega
  | like a' p r q =>
    simp only [St.okT, decide_eq_true_eq] at hx
    have := pl p hx.2.1; simp [Yd.opts]; omega
  | best a' ps q =>
    simp only [St.okT, Bool.and_eq_true, decide_eq_true_eq] at hx
    have := having_len (Z := Z) (ps := ps)
    have := hx.1.2.2.2.1
    simp only [Yd.opts]; omega
  | _ => simp [Yd.opts]
theorem opts_lt {A N k n : Nat} {Z : Yd} {x : St} (hI : Z.Inv A N k) (hN : N ≤ 8) (hx : x.okT A N = true) (hn : n ∈ Z.opts x) : n < 2 * Z.tot + 8 := by
  have pl : ∀ p, p < N → (Z.pc p).length ≤ Z.tot := fun p hp => by
    have := totP_mem (List.mem_of_getElem? (pc_get hI.np hp))
    simp only [Yd.tot]; omega
  cases x with
  | cut a' p s q =>
    simp only [St.okT, Bool.and_eq_true, decide_eq_true_eq] at hx
    have := pl p hx.1.2.1; simp [Yd.opts] at hn; omega
  | part a' p s q =>
    simp only [St.okT, Bool.and_eq_true, decide_eq_true_eq] at hx
    have := pl p hx.1.2.1; simp [Yd.opts] at hn; omega
  | like a' p r q =>
    simp only [St.okT, decide_eq_true_eq] at hx
    have := pl p hx.2.1; simp [Yd.opts] at hn; omega
  | best a' ps q =>
    simp only [St.okT, Bool.and_eq_true, decide_eq_true_eq] at hx
    have := of_decide_eq_true (List.all_eq_true.mp hx.2 _ (having_mem hn)); omega
  | _ => simp [Yd.opts] at hn; omega
def Yd.wys (Y : Yd) : List (List Nat) := wysN (Y.rk + 1) Y
def Yd.pls (Y : Yd) : Nat := plsN (Y.rk + 1) Y
theorem wysN_more {A N M : Nat} : ∀ (n m : Nat) (Y : Yd), Y.Good A N M → Y.rk < n → Y.rk < m → wysN n Y = wysN m Y ∧ plsN n Y = plsN m Y
  | 0, m, Y, _, h, _ => by omega
  | n + 1, 0, Y, _, _, h => by omega
  | n + 1, m + 1, Y, hg, h1, h2 => by
    have key : ∀ x Z, Y.on = (some x, Z) → ∀ k ∈ Z.opts x, wysN n (Z.answ x (Z.by x k)) = wysN m (Z.answ x (Z.by x k)) ∧ plsN n (Z.answ x (Z.by x k)) = plsN m (Z.answ x (Z.by x k)) := fun x Z e k hk => by
      have hs := good_step (n := k) hg (x := x) (by rw [e]) (by rw [e]; exact hk)
      rw [e] at hs
      have hs1 := hs.1
      have hs2 := hs.2
      simp only at hs1 hs2
      exact wysN_more n m _ hs1 (by omega) (by omega)
    cases e : Y.on with
    | mk o Z =>
      cases o with
      | none => simp only [wysN, plsN, e]; exact ⟨trivial, trivial⟩
      | some x =>
        have k1 := key x Z e
        simp only [wysN, plsN, e]
        refine ⟨?_, ?_⟩
        · rw [List.flatMap_def, List.flatMap_def]
          congr 1
          exact List.map_congr_left fun k hk => by rw [(k1 k hk).1]
        · congr 2
          exact List.map_congr_left fun k hk => by rw [(k1 k hk).2]
theorem wys_none {A N M : Nat} {Y Z : Yd} (hg : Y.Good A N M) (e : Y.on = (none, Z)) : Y.wys = [[]] ∧ Y.pls = 1 := by
  simp [Yd.wys, Yd.pls, wysN, plsN, e]
theorem wys_some {A N M : Nat} {Y Z : Yd} {x : St} (hg : Y.Good A N M) (e : Y.on = (some x, Z)) : Y.wys = (Z.opts x).flatMap (fun k => (Z.answ x (Z.by x k)).wys.map (k :: ·)) ∧ Y.pls = 1 + ((Z.opts x).map fun k => (Z.answ x (Z.by x k)).pls).sum := by
  have key : ∀ k ∈ Z.opts x, wysN Y.rk (Z.answ x (Z.by x k)) = (Z.answ x (Z.by x k)).wys ∧ plsN Y.rk (Z.answ x (Z.by x k)) = (Z.answ x (Z.by x k)).pls := fun k hk => by
    have hs := good_step (n := k) hg (x := x) (by rw [e]) (by rw [e]; exact hk)
    rw [e] at hs
    have hs1 := hs.1
    have hs2 := hs.2
    simp only at hs1 hs2
    exact wysN_more _ _ _ hs1 (by omega) (by omega)
  constructor
  · unfold Yd.wys
    rw [wysN, e]
    simp only
    rw [List.flatMap_def, List.flatMap_def]
    congr 1
    exact List.map_congr_left fun k hk => by rw [(key k hk).1]; rfl
  · unfold Yd.pls
    rw [plsN, e]
    simp only
    congr 2
    exact List.map_congr_left fun k hk => by rw [(key k hk).2]; rfl
theorem sum_le_mul {L : List Nat} {f : Nat → Nat} {B : Nat} (h : ∀ k ∈ L, f k ≤ B) : (L.map f).sum ≤ L.length * B := by
  have := sumL_le (L := L.map f) (M := B) fun z hz => by
    obtain ⟨k, hk, rfl⟩ := List.mem_map.mp hz
    exact h k hk
  simpa using this
/-- how many places there are at most -/
theorem pls_le {A N M : Nat} (hM : M ≤ 7) : ∀ (r : Nat) (Y : Yd), Y.Good A N M → Y.rk ≤ r → Y.pls ≤ 25 ^ (r + 1)
  | r, Y, hg, hr => by
    have hp : 1 ≤ 25 ^ (r + 1) := Nat.one_le_pow _ _ (by omega)
    cases e : Y.on with
    | mk o Z =>
      cases o with
      | none => rw [(wys_none hg e).2]; exact hp
      | some x =>
        obtain ⟨⟨c, hI, h1, h2⟩, h3⟩ := hg
        have hg : Y.Good A N M := ⟨⟨c, hI, h1, h2⟩, h3⟩
        obtain ⟨o1, o2, o3⟩ := on_ok hI
        obtain ⟨q1, q2, q3, q4, q5, q6⟩ := o3 x (by rw [e])
        have hl := opts_len o1 q1
        rw [o2] at hl
        rw [e] at hl
        rw [(wys_some hg e).2]
        cases r with
        | zero =>
          have : (Z.opts x) = [] := by
            cases q : Z.opts x with
            | nil => rfl
            | cons k l =>
              have := (good_step (n := k) hg (x := x) (by rw [e]) (by rw [e, q]; simp)).2
              omega
          rw [this]; simp
        | succ r =>
          have key : ∀ k ∈ Z.opts x, (Z.answ x (Z.by x k)).pls ≤ 25 ^ (r + 1) := fun k hk => by
            have hs := good_step (n := k) hg (x := x) (by rw [e]) (by rw [e]; exact hk)
            rw [e] at hs
            have hs1 := hs.1
            have hs2 := hs.2
            simp only at hs1 hs2
            exact pls_le hM r _ hs1 (by omega)
          have := sum_le_mul key
          have h24 : (Z.opts x).length * 25 ^ (r + 1) ≤ 24 * 25 ^ (r + 1) := Nat.mul_le_mul_right _ (by simp only at hl; omega)
          have hp2 : 1 ≤ 25 ^ (r + 1) := Nat.one_le_pow _ _ (by omega)
          rw [Nat.pow_succ 25 (r + 1)]
          omega
end Lw

namespace Lw
open PySem L2 Md
/-! ## the walk over all ways -/
structure Fr where
  w : List Nat
  y : Nat
  a : Nat
  b : Nat
  c : Nat
  Y : Yd
def encW (w : List Nat) : DV := .tup (w.map encN)
def Fr.enc (fr : Fr) : DV := .tup [encW fr.w, .ref fr.y]
def Fr.within (fr : Fr) (lo hi : Nat) : Prop := (lo ≤ fr.y ∧ fr.y < hi) ∧ (lo ≤ fr.a ∧ fr.a < hi) ∧ (lo ≤ fr.b ∧ fr.b < hi) ∧ (lo ≤ fr.c ∧ fr.c < hi)
/-- the frames that wait, from the top one down: each lies ahead of those above it -/
def Fr.free (fr : Fr) (f w : Nat) : Prop := (fr.y ≠ f ∧ fr.y ≠ w) ∧ (fr.a ≠ f ∧ fr.a ≠ w) ∧ (fr.b ≠ f ∧ fr.b ≠ w) ∧ (fr.c ≠ f ∧ fr.c ≠ w)
def Chn (base f w : Nat) (μ : DM) : List Fr → Nat → Prop
  | [], _ => True
  | fr :: S, hi => YA μ fr.y fr.a fr.b fr.c fr.Y ∧ fr.free f w ∧ ∃ lo, base ≤ lo ∧ lo ≤ hi ∧ fr.within lo hi ∧ Chn base f w μ S lo
theorem YA.keep {μ μ' : DM} {y a b c : Nat} {Y : Yd} (h : YA μ y a b c Y) (hk : ∀ i, i = y ∨ i = a ∨ i = b ∨ i = c → μ'[i]? = μ[i]?) : YA μ' y a b c Y :=
  ⟨by rw [hk y (.inl rfl)]; exact h.hy, ⟨Nat.le_refl _, by rw [hk a (.inr (.inl rfl))]; exact h.s.ha, by rw [hk b (.inr (.inr (.inl rfl)))]; exact h.s.hb, by rw [hk c (.inr (.inr (.inr rfl)))]; exact h.s.hc, fun _ _ _ _ _ => rfl⟩, h.ab, h.ac, h.bc⟩
theorem Chn.keep {base f w : Nat} {μ μ' : DM} : ∀ {S : List Fr} {hi : Nat}, Chn base f w μ S hi → (∀ i, base ≤ i → i < hi → i ≠ f → i ≠ w → μ'[i]? = μ[i]?) → Chn base f w μ' S hi
  | [], _, _, _ => trivial
  | fr :: S, hi, ⟨h1, ⟨u1, u2, u3, u4⟩, lo, h2, h3, h4, h5⟩, hk => by
    obtain ⟨w1, w2, w3, w4⟩ := h4
    refine ⟨h1.keep fun i hi' => ?_, ⟨u1, u2, u3, u4⟩, lo, h2, h3, ⟨w1, w2, w3, w4⟩, h5.keep fun i g1 g2 => hk i g1 (by omega)⟩
    rcases hi' with rfl | rfl | rfl | rfl <;> exact hk _ (by omega) (by omega) (by omega) (by omega)
theorem Chn.mono {base f w : Nat} {μ : DM} : ∀ {S : List Fr} {hi hi' : Nat}, Chn base f w μ S hi → hi ≤ hi' → Chn base f w μ S hi'
  | [], _, _, _, _ => trivial
  | fr :: S, hi, hi', ⟨h1, u, lo, h2, h3, ⟨w1, w2, w3, w4⟩, h5⟩, hk => ⟨h1, u, lo, h2, by omega, ⟨by omega, by omega, by omega, by omega⟩, h5⟩
structure WS (μ0 : DM) (f w : Nat) (found : List (List Nat)) (S : List Fr) (hi : Nat) (μ : DM) : Prop where
  keep : ∀ i, i < μ0.length → μ[i]? = μ0[i]?
  hf : μ[f]? = some (.lst (found.map encW))
  hw : μ[w]? = some (.lst (S.reverse.map Fr.enc))
  ne : f ≠ w
  lf : μ0.length ≤ f
  lw : μ0.length ≤ w
  hl : hi ≤ μ.length
  ch : Chn μ0.length f w μ S hi
theorem frs_push (S : List Fr) (fr : Fr) : (fr :: S).reverse.map Fr.enc = S.reverse.map Fr.enc ++ [fr.enc] := by simp
theorem gIx_ref1 {μ : DM} {x y : DV} : gIx (.tup [x, y]) (.int 1) μ = .ok y μ := gIx_1
/-- one more way is put to those that wait -/
theorem push_step {μ0 μ : DM} {f w y a b c A N k k' n : Nat} {found : List (List Nat)} {S : List Fr} {hi : Nat} {pv mv : DV} {wy : List Nat} {x : St} {Z : Yd} {w8 : Option DV} (h : WS μ0 f w found S hi μ) (hy : YA μ y a b c Z) (hfy : f ≠ y ∧ f ≠ a ∧ f ≠ b ∧ f ≠ c) (hwy : w ≠ y ∧ w ≠ a ∧ w ≠ b ∧ w ≠ c) (hI : Z.Inv A N k) (hk : k < 1000) (hk2 : k' < 1000) (hI2 : Z.Inv A N k') (hT : Z.tot ≤ 1000) (hx : x.okT A N = true) (hxn : x.nrd = true) (ha : Z.asks x = true) (hL : Z.left + (x.sz []).t ≤ 1000)
    (hn : n ∈ Z.opts x) (hn8 : n < 100000) (hf : Z.Fit x (Z.by x n) k') (hS : S.length < 16000000) (hwl : wy.length < 1000) :
    ∃ μ' fr w8', b__law_ways_1 [some pv, some mv, some (.ref f), some (.ref w), some (encW wy), some (.ref y), some x.enc, some (encN n), w8] μ = .nx [some pv, some mv, some (.ref f), some (.ref w), some (encW wy), some (.ref y), some x.enc, some (encN n), w8'] μ' ∧ WS μ0 f w found (fr :: S) μ'.length μ' ∧ YA μ' y a b c Z ∧ fr.w = wy ++ [n] ∧ fr.Y = Z.answ x (Z.by x n) ∧ μ.length ≤ μ'.length ∧ ∀ i, i < μ.length → i ≠ w → μ'[i]? = μ[i]? := by
  have c1 := l_copy hy
  have yc := @YA.copy Z μ
  generalize hμ1 : μ ++ [DC.lst (Z.ps.map PC), DC.lst (Z.sh.map PC), DC.lst (encL Z.wt).reverse, DC.lst [.ref μ.length, .ref (μ.length + 1), .ref (μ.length + 2)]] = μ1 at c1 yc
  have l1 : μ1.length = μ.length + 4 := by rw [← hμ1]; simp
  have k1 : ∀ i, i < μ.length → μ1[i]? = μ[i]? := fun i hi => by rw [← hμ1, List.getElem?_append_left hi]
  have b1 := l_by yc hI hk hx ha hn hn8
  obtain ⟨μ2, e2, s2, l2⟩ := l_answered yc hI2 hk2 hT hx hxn hL hf
  have k2 : ∀ i, i < μ.length → μ2[i]? = μ[i]? := fun i hi => by rw [s2.keep i (by omega) (by omega) (by omega) (by omega), k1 i hi]
  have fl : f < μ.length := (List.getElem?_eq_some_iff.mp h.hf).1
  have wl : w < μ.length := (List.getElem?_eq_some_iff.mp h.hw).1
  have w2 : μ2[w]? = some (.lst (S.reverse.map Fr.enc)) := by rw [k2 w wl]; exact h.hw
  have y3 : μ2[μ.length + 3]? = some (.lst [.ref μ.length, .ref (μ.length + 1), .ref (μ.length + 2)]) := by rw [s2.keep _ (by omega) (by omega) (by omega) (by omega)]; exact yc.hy
  refine ⟨μ2.set w (.lst ((⟨wy ++ [n], μ.length + 3, μ.length, μ.length + 1, μ.length + 2, Z.answ x (Z.by x n)⟩ :: S : List Fr).reverse.map Fr.enc)), ⟨wy ++ [n], μ.length + 3, μ.length, μ.length + 1, μ.length + 2, Z.answ x (Z.by x n)⟩, some (.ref (μ.length + 3)), ?_, ?_, ?_, rfl, rfl, by rw [List.length_set]; omega, fun i hi hw => by rw [set_ne (Ne.symm hw), k2 i hi]⟩
  · unfold b__law_ways_1
    rw [sq (ρ' := [some pv, some mv, some (.ref f), some (.ref w), some (encW wy), some (.ref y), some x.enc, some (encN n), some (.ref (μ.length + 3))]) (μ' := μ1) (by simp [c1]),
      sq (ρ' := [some pv, some mv, some (.ref f), some (.ref w), some (encW wy), some (.ref y), some x.enc, some (encN n), some (.ref (μ.length + 3))]) (μ' := μ2) (by simp [b1, e2])]
    have hwl2 : (S.reverse.map Fr.enc).length < LIM := by simp; omega
    rw [x_sExpr, x_append, x_var (v := .ref w) rfl, DR.bind_ok, lst_ref w2]
    have et : mTup (mCons (mOp gAdd (mVar 4) (mTup (mCons (mVar 7) (mNil)))) (mCons (mVar 8) (mNil))) [some pv, some mv, some (.ref f), some (.ref w), some (encW wy), some (.ref y), some x.enc, some (encN n), some (.ref (μ.length + 3))] μ2 = .ok (Fr.enc ⟨wy ++ [n], μ.length + 3, μ.length, μ.length + 1, μ.length + 2, Z.answ x (Z.by x n)⟩) μ2 := by
      simp [encW, Fr.enc]; omega
    simp only [et, DR.bind_ok, w2, if_pos hwl2, st_ok, frs_push]
  · have hset : ∀ i, i ≠ w → (μ2.set w (.lst ((⟨wy ++ [n], μ.length + 3, μ.length, μ.length + 1, μ.length + 2, Z.answ x (Z.by x n)⟩ :: S : List Fr).reverse.map Fr.enc)))[i]? = μ2[i]? := fun i hi => set_ne (Ne.symm hi)
    have hll := h.hl
    refine ⟨fun i hi => ?_, ?_, set_eq w2, h.ne, h.lf, h.lw, Nat.le_refl _, ?_⟩
    · have := h.lw
      rw [hset i (by omega), k2 i (by have := h.lf; omega)]
      exact h.keep i hi
    · rw [hset f h.ne, k2 f fl]; exact h.hf
    · rw [List.length_set]
      refine ⟨⟨by rw [hset _ (by simp only; omega)]; exact y3, ⟨Nat.le_refl _, by rw [hset _ (by simp only; omega)]; exact s2.ha, by rw [hset _ (by simp only; omega)]; exact s2.hb, by rw [hset _ (by simp only; omega)]; exact s2.hc, fun _ _ _ _ _ => rfl⟩, by simp, by simp only; omega, by simp only; omega⟩, ⟨⟨by simp only; omega, by simp only; omega⟩, ⟨by simp only; omega, by simp only; omega⟩, ⟨by simp only; omega, by simp only; omega⟩, ⟨by simp only; omega, by simp only; omega⟩⟩, μ.length, by have := h.lf; omega, by omega, ⟨by simp only; omega, by simp only; omega, by simp only; omega, by simp only; omega⟩, ?_⟩
      refine (h.ch.mono hll).keep fun i g1 g2 g3 g4 => ?_
      rw [hset i g4, k2 i g2]
  · have hyl := hy.lt
    have hyy : y < μ.length := (List.getElem?_eq_some_iff.mp hy.hy).1
    refine hy.keep fun i hi => ?_
    rw [set_ne (by rcases hi with rfl | rfl | rfl | rfl <;> omega), k2 i (by rcases hi with rfl | rfl | rfl | rfl <;> omega)]
def Dep : List Fr → Prop
  | [] => True
  | fr :: S => S.length ≤ 24 * fr.w.length ∧ Dep S
/-- all numbers at one place -/
theorem push_all {μ0 : DM} {f w y a b c A N k k' : Nat} {found : List (List Nat)} {pv mv : DV} {wy : List Nat} {x : St} {Z : Yd} {s : Src} (hI : Z.Inv A N k) (hk : k < 1000) (hk2 : k' < 1000) (hI2 : Z.Inv A N k') (hT : Z.tot ≤ 1000) (hx : x.okT A N = true) (hxn : x.nrd = true) (ha : Z.asks x = true) (hL : Z.left + (x.sz []).t ≤ 1000)
    (hfy : f ≠ y ∧ f ≠ a ∧ f ≠ b ∧ f ≠ c) (hwy : w ≠ y ∧ w ≠ a ∧ w ≠ b ∧ w ≠ c) (hwl : wy.length < 1000) (hfit : ∀ n ∈ Z.opts x, Z.Fit x (Z.by x n) k' ∧ n < 100000) {r : Nat} (hs : s.2 = some r) (hrw : r ≠ w) : ∀ (L : List Nat) (S : List Fr) (hi : Nat) (μ : DM) (w7 w8 : Option DV), (∀ n ∈ L, n ∈ Z.opts x) → WS μ0 f w found S hi μ → YA μ y a b c Z → μ[r]? = some (.lst s.1) → S.length + L.length < 16000000 →
    Dep S → S.length + L.length ≤ 24 * (wy.length + 1) + 1 →
    ∃ μ' S' hi' w7' w8', sFor.go (tgN 7) b__law_ways_1 s (L.map encN) [some pv, some mv, some (.ref f), some (.ref w), some (encW wy), some (.ref y), some x.enc, w7, w8] μ = .nx [some pv, some mv, some (.ref f), some (.ref w), some (encW wy), some (.ref y), some x.enc, w7', w8'] μ' ∧ WS μ0 f w found S' hi' μ' ∧ Dep S' ∧
      S'.map (fun fr => (fr.w, fr.Y)) = (L.reverse.map fun n => (wy ++ [n], Z.answ x (Z.by x n))) ++ S.map (fun fr => (fr.w, fr.Y))
  | [], S, hi, μ, w7, w8, _, hW, _, hr, _, hD, _ => ⟨μ, S, hi, w7, w8, by rw [List.map_nil, go_nil (by rw [hs]; simp [okAt, hr])], hW, hD, by simp⟩
  | n :: L, S, hi, μ, w7, w8, hm, hW, hy, hr, hl, hD, hl2 => by
    rw [List.length_cons] at hl hl2
    obtain ⟨hf, hn8⟩ := hfit n (hm n (by simp))
    obtain ⟨μ1, fr, w8', e1, g1, g2, g3, g4, g5, g6⟩ := push_step (pv := pv) (mv := mv) (wy := wy) (w8 := w8) hW hy hfy hwy hI hk hk2 hI2 hT hx hxn ha hL (hm n (by simp)) hn8 hf (by omega) hwl
    have hrl : r < μ.length := (List.getElem?_eq_some_iff.mp hr).1
    obtain ⟨μ', S', hi', w7', w8'', e2, q1, q2, q3⟩ := push_all (pv := pv) (mv := mv) hI hk hk2 hI2 hT hx hxn ha hL hfy hwy hwl hfit hs hrw L (fr :: S) μ1.length μ1 (some (encN n)) w8' (fun m hm' => hm m (by simp [hm'])) g1 g2 (by rw [g6 r hrl hrw]; exact hr) (by rw [List.length_cons]; omega)
      ⟨by rw [g3, List.length_append, List.length_singleton]; omega, hD⟩ (by rw [List.length_cons]; omega)
    refine ⟨μ', S', hi', w7', w8'', ?_, q1, q2, ?_⟩
    · rw [List.map_cons, go_cons (by rw [hs]; simp [okAt, hr]) (ρ1 := [some pv, some mv, some (.ref f), some (.ref w), some (encW wy), some (.ref y), some x.enc, some (encN n), w8]) rfl e1]
      exact e2
    · rw [q3]
      simp [g3, g4]
def ctb (fr : Fr) : List (List Nat) := fr.Y.wys.map (fr.w ++ ·)
theorem ctb_pair {S S' : List Fr} (h : S.map (fun fr => (fr.w, fr.Y)) = S'.map (fun fr => (fr.w, fr.Y))) : S.flatMap ctb = S'.flatMap ctb := by
  have e : ∀ S : List Fr, S.flatMap ctb = (S.map (fun fr => (fr.w, fr.Y))).flatMap fun q => q.2.wys.map (q.1 ++ ·) := fun S => by
    rw [List.flatMap_map]; rfl
  rw [e S, e S', h]
end Lw

namespace Lw
open PySem L2 Md
structure WI (P : Pg) (most f w A N M R0 : Nat) (μ0 : DM) (tot : List (List Nat)) (m : Nat) (ρ : DE) (μ : DM) (found : List (List Nat)) (S : List Fr) (hi : Nat) : Prop where
  e : ∃ w4 w5 w6 w7 w8, ρ = [some P.enc, some (.int most), some (.ref f), some (.ref w), w4, w5, w6, w7, w8]
  ws : WS μ0 f w found S hi μ
  gd : ∀ fr ∈ S, fr.Y.Good A N M ∧ fr.w.length + fr.Y.rk ≤ R0
  dp : Dep S
  tt : found ++ S.flatMap ctb = tot
  ms : m = (S.map fun fr => fr.Y.pls).sum
  fl : found.length ≤ most
def wP (most f : Nat) (μ0 : DM) (tot : List (List Nat)) : EP := { nx := fun ρ μ => tot.length ≤ most ∧ ρ[2]? = some (some (.ref f)) ∧ μ[f]? = some (.lst (tot.map encW)) ∧ μ0.length ≤ f ∧ ∀ i, i < μ0.length → μ[i]? = μ0[i]?, rt := fun v μ => v = .non ∧ most < tot.length ∧ (∀ i, i < μ0.length → μ[i]? = μ0[i]?) ∧ μ0.length ≤ μ.length }
theorem ways_body {P : Pg} {most f w A N M R0 m : Nat} {μ0 μ : DM} {tot : List (List Nat)} {ρ : DE} {found : List (List Nat)} {S : List Fr} {hi : Nat} (hM : M ≤ 7) (hN : N ≤ 8) (hR : R0 ≤ 400) (hmost : most ≤ 1000) (h : WI P most f w A N M R0 μ0 tot m ρ μ found S hi) :
    OkE (fun t μ => if t = true then OkS { nx := fun ρ μ => ∃ m', m' < m ∧ ∃ found S hi, WI P most f w A N M R0 μ0 tot m' ρ μ found S hi, ct := fun ρ μ => ∃ m', m' < m ∧ ∃ found S hi, WI P most f w A N M R0 μ0 tot m' ρ μ found S hi, bk := (wP most f μ0 tot).nx, rt := (wP most f μ0 tot).rt, ex := (wP most f μ0 tot).ex } (b__law_ways_2 ρ μ) else (wP most f μ0 tot).nx ρ μ) (fun e μ => (wP most f μ0 tot).ex e ρ μ) (mBl (mOp qGt (mLen (mVar 3)) (mC (.int 0))) ρ μ) := by
  obtain ⟨⟨w4, w5, w6, w7, w8, rfl⟩, hW, hg, hD, ht, rfl, hfl⟩ := h
  have hsq : (DV.ref w).seq μ = some (S.reverse.map Fr.enc) := seq_ref hW.hw
  cases S with
  | nil =>
    have e : mBl (mOp qGt (mLen (mVar 3)) (mC (.int 0))) [some P.enc, some (.int most), some (.ref f), some (.ref w), w4, w5, w6, w7, w8] μ = .ok false μ := by simp [hsq]
    rw [e, okE_ok, if_neg (by decide)]
    simp only [List.flatMap_nil, List.append_nil] at ht
    subst ht
    exact ⟨hfl, rfl, hW.hf, hW.lf, hW.keep⟩
  | cons fr S =>
    have e : mBl (mOp qGt (mLen (mVar 3)) (mC (.int 0))) [some P.enc, some (.int most), some (.ref f), some (.ref w), w4, w5, w6, w7, w8] μ = .ok true μ := by
      have : (0 : Int) < (S.length : Int) + 1 := by omega
      simp [hsq, this]
    rw [e, okE_ok, if_pos rfl]
    obtain ⟨hyF, ⟨⟨u1, u2⟩, ⟨u3, u4⟩, ⟨u5, u6⟩, ⟨u7, u8⟩⟩, lo, b1, b2, ⟨⟨y1, y2⟩, ⟨a1, a2⟩, ⟨bb1, bb2⟩, ⟨c1, c2⟩⟩, hCh⟩ := hW.ch
    obtain ⟨hgd, hrk⟩ := hg fr (by simp)
    obtain ⟨hD1, hD2⟩ := hD
    have hw0 := hW.hw
    rw [frs_push] at hw0
    have hwl := (List.getElem?_eq_some_iff.mp hW.hw).1
    have hfl' := (List.getElem?_eq_some_iff.mp hW.hf).1
    have hhi := hW.hl
    have hlf := hW.lf
    have hlw := hW.lw
    -- the top one goes
    have s1 : sAsg (mPop (mVar 3)) (tgTup 2 (tgCons (tgN 4) (tgCons (tgN 5) (tgNil)))) [some P.enc, some (.int most), some (.ref f), some (.ref w), w4, w5, w6, w7, w8] μ
        = .nx [some P.enc, some (.int most), some (.ref f), some (.ref w), some (encW fr.w), some (.ref fr.y), w6, w7, w8] (μ.set w (.lst (S.reverse.map Fr.enc))) := by
      have : mPop (mVar 3) [some P.enc, some (.int most), some (.ref f), some (.ref w), w4, w5, w6, w7, w8] μ = .ok fr.enc (μ.set w (.lst (S.reverse.map Fr.enc))) := by
        rw [x_pop, x_var (v := .ref w) rfl, DR.bind_ok]
        simp only [hw0]
        simp
      rw [x_sAsg, this, st_ok]
      simp [Fr.enc]
    generalize hμ1 : μ.set w (.lst (S.reverse.map Fr.enc)) = μ1 at s1
    have k1 : ∀ i, i ≠ w → μ1[i]? = μ[i]? := fun i hi => by rw [← hμ1, set_ne (Ne.symm hi)]
    have l1 : μ1.length = μ.length := by rw [← hμ1, List.length_set]
    have w1 : μ1[w]? = some (.lst (S.reverse.map Fr.enc)) := by rw [← hμ1]; exact set_eq hW.hw
    have hy1 : YA μ1 fr.y fr.a fr.b fr.c fr.Y := hyF.keep fun i hi => k1 i (by rcases hi with rfl | rfl | rfl | rfl <;> omega)
    obtain ⟨⟨cc, hI, h1, h2⟩, h3⟩ := hgd
    have hgd : fr.Y.Good A N M := ⟨⟨cc, hI, h1, h2⟩, h3⟩
    have hk := kk_le (c := cc) (by omega) hM
    obtain ⟨μ2, e2, ys2, l2⟩ := l_on hy1 hI hk (by omega) h3
    have k2 : ∀ i, i < lo → i ≠ w → μ2[i]? = μ[i]? := fun i hi hw => by
      rw [ys2.keep i (by omega) (by omega) (by omega) (by omega), k1 i hw]
    have w2 : μ2[w]? = some (.lst (S.reverse.map Fr.enc)) := by rw [ys2.keep w (by omega) (by omega) (by omega) (by omega)]; exact w1
    have f2 : μ2[f]? = some (.lst (found.map encW)) := by rw [ys2.keep f (by omega) (by omega) (by omega) (by omega), k1 f hW.ne]; exact hW.hf
    have hy2 : YA μ2 fr.y fr.a fr.b fr.c (fr.Y.on.2) := by
      have d1 : fr.y ≠ fr.a ∧ fr.y ≠ fr.b ∧ fr.y ≠ fr.c := by
        have hy := hyF.hy
        refine ⟨fun e => ?_, fun e => ?_, fun e => ?_⟩
        · have hh := hyF.s.ha; rw [← e, hy] at hh
          simp only [Option.some.injEq, DC.lst.injEq] at hh
          cases q : fr.Y.ps with
          | nil => rw [q] at hh; cases hh
          | cons P l => rw [q] at hh; simp [PC] at hh
        · have hh := hyF.s.hb; rw [← e, hy] at hh
          simp only [Option.some.injEq, DC.lst.injEq] at hh
          cases q : fr.Y.sh with
          | nil => rw [q] at hh; cases hh
          | cons P l => rw [q] at hh; simp [PC] at hh
        · have hh := hyF.s.hc; rw [← e, hy] at hh
          simp only [Option.some.injEq, DC.lst.injEq] at hh
          have : DV.ref fr.a ∈ (encL fr.Y.wt).reverse := by rw [← hh]; simp
          rw [List.mem_reverse, encL_map] at this
          obtain ⟨z, _, hz⟩ := List.mem_map.mp this
          cases z <;> simp [St.enc] at hz
      exact ⟨by rw [ys2.keep fr.y (by omega) d1.1 d1.2.1 d1.2.2]; exact hy1.hy, ⟨Nat.le_refl _, ys2.ha, ys2.hb, ys2.hc, fun _ _ _ _ _ => rfl⟩, hyF.ab, hyF.ac, hyF.bc⟩
    have hW2 : WS μ0 f w found S lo μ2 := ⟨fun i hi => by have := hW.lf; have := hW.lw; rw [k2 i (by omega) (by omega)]; exact hW.keep i hi, f2, w2, hW.ne, hW.lf, hW.lw, by omega, hCh.keep fun i g1 g2 g3 g4 => k2 i g2 g4⟩
    have s2 : sAsg (mCall 1 f__law_on (mCons (mVar 5) (mNil))) (tgN 6) [some P.enc, some (.int most), some (.ref f), some (.ref w), some (encW fr.w), some (.ref fr.y), w6, w7, w8] μ1
        = .nx [some P.enc, some (.int most), some (.ref f), some (.ref w), some (encW fr.w), some (.ref fr.y), some (optE fr.Y.on.1), w7, w8] μ2 := by simp [e2]
    unfold b__law_ways_2
    refine seq_step s1 (seq_step s2 ?_)
    obtain ⟨o1, o2, o3⟩ := on_ok hI
    cases eo : fr.Y.on with
    | mk o Z =>
      rw [eo] at o1 o2 o3 hy2
      simp only at o1 o2 o3 hy2
      cases o with
      | none =>
        obtain ⟨q1, q2⟩ := wys_none hgd eo
        have t1 : mBl (mOp (gIs false) (mVar 6) (mC .non)) [some P.enc, some (.int most), some (.ref f), some (.ref w), some (encW fr.w), some (.ref fr.y), some (optE none), w7, w8] μ2 = .ok true μ2 := rfl
        rw [sIf_t t1]
        have fl2 : (found.map encW).length < LIM := by rw [List.length_map]; show _ < 16777216; omega
        have s3 : sExpr (mAppend (mVar 2) (mVar 4)) [some P.enc, some (.int most), some (.ref f), some (.ref w), some (encW fr.w), some (.ref fr.y), some (optE none), w7, w8] μ2 = .nx [some P.enc, some (.int most), some (.ref f), some (.ref w), some (encW fr.w), some (.ref fr.y), some (optE none), w7, w8] (μ2.set f (.lst ((found ++ [fr.w]).map encW))) := by
          rw [x_sExpr, x_append, x_var (v := .ref f) rfl, DR.bind_ok, lst_ref f2]
          simp only [x_var (v := encW fr.w) (i := 4) (ρ := [some P.enc, some (.int most), some (.ref f), some (.ref w), some (encW fr.w), some (.ref fr.y), some (optE none), w7, w8]) rfl, DR.bind_ok, f2, if_pos fl2, st_ok]
          simp
        have f3 : (μ2.set f (.lst ((found ++ [fr.w]).map encW)))[f]? = some (.lst ((found ++ [fr.w]).map encW)) := set_eq f2
        have k3 : ∀ i, i ≠ f → (μ2.set f (.lst ((found ++ [fr.w]).map encW)))[i]? = μ2[i]? := fun i hi => set_ne (Ne.symm hi)
        refine seq_step s3 ?_
        have tt2 : (found ++ [fr.w]) ++ S.flatMap ctb = tot := by
          rw [← ht, List.flatMap_cons, ctb, q1]
          simp
        have sq1 : (DV.ref f).seq (μ2.set f (.lst ((found ++ [fr.w]).map encW))) = some ((found ++ [fr.w]).map encW) := seq_ref f3
        have kk : ∀ i, i < μ0.length → (μ2.set f (.lst ((found ++ [fr.w]).map encW)))[i]? = μ0[i]? := fun i hi => by rw [k3 i (by have := hW.lf; omega)]; exact hW2.keep i hi
        by_cases hc : most < (found ++ [fr.w]).length
        · have t2 : mBl (mOp qGt (mLen (mVar 2)) (mVar 1)) [some P.enc, some (.int most), some (.ref f), some (.ref w), some (encW fr.w), some (.ref fr.y), some (optE none), w7, w8] (μ2.set f (.lst ((found ++ [fr.w]).map encW))) = .ok true (μ2.set f (.lst ((found ++ [fr.w]).map encW))) := by
            have hc' : (most : Int) < (((found ++ [fr.w]).map encW).length : Nat) := by rw [List.length_map]; omega
            rw [x_bl, x_op, x_len, x_var (v := .ref f) rfl, DR.bind_ok, sq1]
            simp only [DR.bind_ok, x_var (v := .int (most : Int)) (i := 1) (ρ := [some P.enc, some (.int most), some (.ref f), some (.ref w), some (encW fr.w), some (.ref fr.y), some (optE none), w7, w8]) rfl, gI_int, CT_true, if_true, DR.noex_ok, asBl_bl, decide_eq_true hc']
          rw [sIf_t t2]
          refine ⟨rfl, ?_, kk, ?_⟩
          · have := congrArg List.length tt2
            rw [List.length_append] at this; omega
          · rw [List.length_set]; have := hW.lf; omega
        · have t2 : mBl (mOp qGt (mLen (mVar 2)) (mVar 1)) [some P.enc, some (.int most), some (.ref f), some (.ref w), some (encW fr.w), some (.ref fr.y), some (optE none), w7, w8] (μ2.set f (.lst ((found ++ [fr.w]).map encW))) = .ok false (μ2.set f (.lst ((found ++ [fr.w]).map encW))) := by
            have hc' : ¬ (most : Int) < (((found ++ [fr.w]).map encW).length : Nat) := by rw [List.length_map]; omega
            rw [x_bl, x_op, x_len, x_var (v := .ref f) rfl, DR.bind_ok, sq1]
            simp only [DR.bind_ok, x_var (v := .int (most : Int)) (i := 1) (ρ := [some P.enc, some (.int most), some (.ref f), some (.ref w), some (encW fr.w), some (.ref fr.y), some (optE none), w7, w8]) rfl, gI_int, CT_true, if_true, DR.noex_ok, asBl_bl, decide_eq_false hc']
          rw [sIf_f t2]
          refine ⟨(S.map fun fr => fr.Y.pls).sum, by rw [List.map_cons, List.sum_cons, q2]; omega, found ++ [fr.w], S, lo, ⟨_, _, _, _, _, rfl⟩, ⟨kk, f3, by rw [k3 w (Ne.symm hW.ne)]; exact w2, hW.ne, hW.lf, hW.lw, by rw [List.length_set]; omega, hW2.ch.keep fun i g1 g2 g3 g4 => k3 i g3⟩, fun z hz => hg z (by simp [hz]), hD2, tt2, rfl, by omega⟩
      | some x =>
        obtain ⟨q1, q2, q3, q4, q5, q6⟩ := o3 x rfl
        obtain ⟨z1, z2⟩ := wys_some hgd eo
        have t1 : mBl (mOp (gIs false) (mVar 6) (mC .non)) [some P.enc, some (.int most), some (.ref f), some (.ref w), some (encW fr.w), some (.ref fr.y), some (optE (some x)), w7, w8] μ2 = .ok false μ2 := by
          cases x <;> rfl
        rw [sIf_f t1]
        obtain ⟨T, r, e3, hr3, hlr⟩ := l_options hy2 o1 (by omega) q1 q3
        have e4 : mIt (mRev (mCall 2 f__law_options (mCons (mVar 5) (mCons (mVar 6) (mNil))))) [some P.enc, some (.int most), some (.ref f), some (.ref w), some (encW fr.w), some (.ref fr.y), some (optE (some x)), w7, w8] μ2 = .ok (((Z.opts x).reverse).map encN, some (μ2 ++ T).length) (μ2 ++ T ++ [DC.lst (((Z.opts x).reverse).map encN)]) := by
          have ec : mCall 2 f__law_options (mCons (mVar 5) (mCons (mVar 6) (mNil))) [some P.enc, some (.int most), some (.ref f), some (.ref w), some (encW fr.w), some (.ref fr.y), some (optE (some x)), w7, w8] μ2 = .ok (.ref r) (μ2 ++ T) := by
            rw [x_call, x_cons, x_var (v := .ref fr.y) rfl, DR.bind_ok, x_cons, x_var (v := x.enc) rfl, DR.bind_ok, x_nil, DR.bind_ok, DR.bind_ok, DR.bind_ok, if_pos (by rfl), e3]
          rw [x_it, x_rev, ec, DR.bind_ok]
          simp only [hr3, DR.bind_ok, st_at0, List.map_reverse]
          rfl
        rw [x_for, e4, st_ok]
        have W3 : WS μ0 f w found S lo (μ2 ++ T ++ [DC.lst (((Z.opts x).reverse).map encN)]) := by
          have ap : ∀ i, i < μ2.length → (μ2 ++ T ++ [DC.lst (((Z.opts x).reverse).map encN)])[i]? = μ2[i]? := fun i hi => by rw [List.append_assoc, List.getElem?_append_left hi]
          exact ⟨fun i hi => by have := hW.lf; rw [ap i (by omega)]; exact hW2.keep i hi, by rw [ap f (by omega)]; exact f2, by rw [ap w (by omega)]; exact w2, hW.ne, hW.lf, hW.lw, by rw [List.length_append, List.length_append]; have := hW2.hl; omega, hW2.ch.keep fun i g1 g2 g3 g4 => ap i (by omega)⟩
        have Y3 : YA (μ2 ++ T ++ [DC.lst (((Z.opts x).reverse).map encN)]) fr.y fr.a fr.b fr.c Z := hy2.keep fun i hi => by
          rw [List.append_assoc, List.getElem?_append_left (by rcases hi with rfl | rfl | rfl | rfl <;> omega)]
        have hol := opts_len o1 q1
        have hfit : ∀ n ∈ Z.opts x, Z.Fit x (Z.by x n) (6 * 2 ^ (cc + x.mk1) - 4) ∧ n < 100000 := fun n hn => by
          have hf := by_fit o1 q1 q3 hn
          refine ⟨?_, by have := opts_lt o1 hN q1 hn; omega⟩
          by_cases hm : x.mk1 = 0
          · exact hf.free hm
          · have hm1 : x.mk1 = 1 := by unfold St.mk1 at hm ⊢; split at hm <;> simp_all
            rw [hm1, ← kk_succ]; exact hf
        have hmk : x.mk1 ≤ (x.sz []).m := (sz_inn q2).2.1 ▸ Nat.le_add_right _ _
        obtain ⟨μ', S', hi', w7', w8', e5, g1, g2, g3⟩ := push_all (A := A) (N := N) (k := 6 * 2 ^ cc - 4) (k' := 6 * 2 ^ (cc + x.mk1) - 4) (pv := P.enc) (mv := .int most) (wy := fr.w) (x := x) (Z := Z) (s := (((Z.opts x).reverse).map encN, some (μ2 ++ T).length)) (r := (μ2 ++ T).length)
          o1 hk (kk_le (by omega) hM) (o1.mono (by have : 2 ^ cc ≤ 2 ^ (cc + x.mk1) := Nat.pow_le_pow_right (by omega) (by omega); omega)) (by omega) q1 q2 q3 (by omega) ⟨by omega, by omega, by omega, by omega⟩ ⟨by omega, by omega, by omega, by omega⟩ (by omega) hfit rfl (by rw [List.length_append]; omega) (Z.opts x).reverse S lo _ w7 w8 (fun n hn => List.mem_reverse.mp hn) W3 Y3 (by simp) (by rw [List.length_reverse]; omega) hD2 (by rw [List.length_reverse]; omega)
        refine (?_ : OkS _ (sFor.go (tgN 7) b__law_ways_1 (((Z.opts x).reverse).map encN, some (μ2 ++ T).length) (((Z.opts x).reverse).map encN) [some P.enc, some (.int most), some (.ref f), some (.ref w), some (encW fr.w), some (.ref fr.y), some x.enc, w7, w8] _))
        rw [e5]
        rw [List.reverse_reverse] at g3
        have hm2 : ∀ z ∈ S', (∃ n ∈ Z.opts x, z.w = fr.w ++ [n] ∧ z.Y = Z.answ x (Z.by x n)) ∨ ∃ z' ∈ S, z.w = z'.w ∧ z.Y = z'.Y := fun z hz => by
          have := List.mem_map_of_mem (f := fun fr : Fr => (fr.w, fr.Y)) hz
          rw [g3, List.mem_append] at this
          rcases this with this | this
          · obtain ⟨n, hn, e⟩ := List.mem_map.mp this
            simp only [Prod.mk.injEq] at e
            exact .inl ⟨n, hn, e.1.symm, e.2.symm⟩
          · obtain ⟨z', hz', e⟩ := List.mem_map.mp this
            simp only [Prod.mk.injEq] at e
            exact .inr ⟨z', hz', e.1.symm, e.2.symm⟩
        have hgs := fun n hn => good_step (n := n) hgd (x := x) (by rw [eo]) (by rw [eo]; exact hn)
        rw [eo] at hgs
        simp only at hgs
        refine ⟨(S'.map fun fr => fr.Y.pls).sum, ?_, found, S', hi', ⟨_, _, _, _, _, rfl⟩, g1, fun z hz => ?_, g2, ?_, rfl, hfl⟩
        · have e6 : (S'.map fun fr => fr.Y.pls) = ((Z.opts x).map fun k => (Z.answ x (Z.by x k)).pls) ++ S.map fun fr => fr.Y.pls := by
            have := congrArg (List.map fun q : List Nat × Yd => q.2.pls) g3
            simpa [List.map_map, Function.comp_def] using this
          rw [e6, List.sum_append, List.map_cons, List.sum_cons, z2]
          omega
        · rcases hm2 z hz with ⟨n, hn, e1, e2⟩ | ⟨z', hz', e1, e2⟩
          · rw [e1, e2]
            refine ⟨(hgs n hn).1, ?_⟩
            have := (hgs n hn).2
            rw [List.length_append, List.length_singleton]; omega
          · rw [e1, e2]; exact hg z' (by simp [hz'])
        · rw [← ht, List.flatMap_cons]
          congr 1
          have e6 : S'.flatMap ctb = ((Z.opts x).flatMap fun n => (Z.answ x (Z.by x n)).wys.map ((fr.w ++ [n]) ++ ·)) ++ S.flatMap ctb := by
            have ec : ∀ S : List Fr, S.flatMap ctb = (S.map (fun fr => (fr.w, fr.Y))).flatMap fun q => q.2.wys.map (q.1 ++ ·) := fun S => by
              rw [List.flatMap_map]; rfl
            rw [ec S', g3, List.flatMap_append, ← ec S, List.flatMap_map]
          rw [e6]
          congr 1
          rw [ctb, z1, List.map_flatMap]
          simp [List.map_map, Function.comp_def]
end Lw

namespace Lw
open PySem L2 Md
theorem eq_app {μ0 μ : DM} (hl : μ0.length ≤ μ.length) (h : ∀ i, i < μ0.length → μ[i]? = μ0[i]?) : μ.take μ0.length = μ0 ∧ ∃ T, μ = μ0 ++ T := by
  have e : μ.take μ0.length = μ0 := by
    apply List.ext_getElem?
    intro i
    rw [List.getElem?_take]
    by_cases hi : i < μ0.length
    · rw [if_pos hi, h i hi]
    · rw [if_neg hi, List.getElem?_eq_none (by omega)]
  exact ⟨e, μ.drop μ0.length, by conv => lhs; rw [← List.take_append_drop μ0.length μ, e]⟩
structure Pg.Run (P : Pg) (M : Nat) : Prop where
  A : 1 ≤ P.A ∧ P.A ≤ 4
  N : 1 ≤ P.N ∧ P.N ≤ 8
  t : f__law_told [P.enc] = fun μ => .ok (.tup (encL P.told)) μ
  ok : okTL P.A P.N P.told = true
  m : (szL [] P.told).m ≤ M
  s : (szL [] P.told).s ≤ 16
  l : (szL [] P.told).t ≤ 1000
  M7 : M ≤ 7
theorem Pg.Run.good {P : Pg} {M : Nat} (h : P.Run M) : P.yd.Good P.A P.N M :=
  ⟨⟨0, (yd_inv h.ok).mono (by omega), by have := h.m; show 0 + (szL [] P.told).m ≤ M; omega, by rw [yd_tot h.N.1]; have := h.m; show 1 + (szL [] P.told).m ≤ 1 + M; omega⟩, h.l⟩
theorem l_ways {P : Pg} {M most : Nat} {μ0 : DM} (h : P.Run M) (hm : most ≤ 1000) :
    (most < P.yd.wys.length ∧ f__law_ways [P.enc, .int most] μ0 = .ok .non μ0) ∨ (P.yd.wys.length ≤ most ∧ ∃ f T, f__law_ways [P.enc, .int most] μ0 = .ok (.ref f) (μ0 ++ T) ∧ (μ0 ++ T)[f]? = some (.lst (P.yd.wys.map encW)) ∧ μ0.length ≤ f) := by
  obtain ⟨T, y, a, b, c, e1, hy, ly, la, lb, lc⟩ := l_yard (μ := μ0 ++ [DC.lst []]) h.t h.A.2 h.N
  have hg := h.good
  have hl := hy.lt
  have hyl := (List.getElem?_eq_some_iff.mp hy.hy).1
  simp only [List.length_append, List.length_singleton] at ly la lb lc
  suffices hs : OkE (fun v μ' => (most < P.yd.wys.length ∧ v = .non ∧ μ' = μ0) ∨ (P.yd.wys.length ≤ most ∧ ∃ f T, v = .ref f ∧ μ' = μ0 ++ T ∧ (μ0 ++ T)[f]? = some (.lst (P.yd.wys.map encW)) ∧ μ0.length ≤ f)) NoX (f__law_ways [P.enc, .int most] μ0) by
    obtain ⟨v, μ', e, r⟩ := hs.ok
    rcases r with ⟨r1, rfl, rfl⟩ | ⟨r1, f, T, rfl, rfl, r2⟩
    · exact .inl ⟨r1, e⟩
    · exact .inr ⟨r1, f, T, e, r2⟩
  refine okE_run rfl ?_
  generalize hμ : μ0 ++ [DC.lst []] ++ T = μ at e1 hy hl hyl
  have hμl : μ0.length < μ.length := by rw [← hμ]; simp only [List.length_append, List.length_singleton]; omega
  refine seq_step (ρ' := [some P.enc, some (.int most), some (.ref μ0.length), some (.ref μ.length), none, none, none, none, none]) (μ' := μ ++ [DC.lst [Fr.enc ⟨[], y, a, b, c, P.yd⟩]]) (by
    simp [e1, Fr.enc, encW]) ?_
  refine seq_thn ?_
  have k0 : ∀ i, i < μ0.length → (μ ++ [DC.lst [Fr.enc ⟨[], y, a, b, c, P.yd⟩]])[i]? = μ0[i]? := fun i hi => by
    rw [List.getElem?_append_left (by omega), ← hμ, List.append_assoc, List.getElem?_append_left hi]
  have hf : (μ ++ [DC.lst [Fr.enc ⟨[], y, a, b, c, P.yd⟩]])[μ0.length]? = some (.lst []) := by
    rw [List.getElem?_append_left hμl, ← hμ, List.append_assoc]; simp
  have hR : P.yd.rk ≤ 23 := by have := h.m; have := h.s; have := h.M7; simp only [Yd.rk, Pg.yd]; omega
  have hpl := pls_le h.M7 23 P.yd hg hR
  have hW : WS μ0 μ0.length μ.length [] [⟨[], y, a, b, c, P.yd⟩] μ.length (μ ++ [DC.lst [Fr.enc ⟨[], y, a, b, c, P.yd⟩]]) :=
    ⟨k0, hf, by simp, by omega, Nat.le_refl _, by omega, by simp, ⟨hy.keep fun i hi => by
      rw [List.getElem?_append_left (by rcases hi with rfl | rfl | rfl | rfl <;> omega)], ⟨⟨by simp only; omega, by simp only; omega⟩, ⟨by simp only; omega, by simp only; omega⟩, ⟨by simp only; omega, by simp only; omega⟩, ⟨by simp only; omega, by simp only; omega⟩⟩, μ0.length, Nat.le_refl _, by omega, ⟨by simp only; omega, by simp only; omega, by simp only; omega, by simp only; omega⟩, trivial⟩⟩
  refine (while_inv (P := wP most μ0.length μ0 P.yd.wys) (fun m ρ μ' => ∃ found S hi, WI P most μ0.length μ.length P.A P.N M 23 μ0 P.yd.wys m ρ μ' found S hi) (fun m ρ μ' ⟨found, S, hi, hI⟩ => ways_body h.M7 h.N.2 (by omega) hm hI) WG P.yd.pls _ _ (Nat.lt_of_le_of_lt hpl (by decide)) ⟨[], [⟨[], y, a, b, c, P.yd⟩], μ.length, ⟨_, _, _, _, _, rfl⟩, hW, fun fr hfr => by
      simp at hfr; subst hfr; exact ⟨hg, by simpa using hR⟩, ⟨by simp, trivial⟩, by simp [ctb], by simp, Nat.zero_le _⟩).mono (fun ρ μ' ⟨h1, h2, h3, h4, h5⟩ => ?_) (fun v μ' ⟨h1, h2, h3, h4⟩ => ?_) (fun e ρ μ' z => z.elim) (fun ρ μ' z => z.elim) (fun ρ μ' z => z.elim)
  · have hl' : μ0.length < μ'.length := (List.getElem?_eq_some_iff.mp h3).1
    obtain ⟨_, U, rfl⟩ := eq_app (Nat.le_of_lt hl') h5
    show OkS _ (sRet (mVar 2) ρ (μ0 ++ U))
    rw [x_sRet, x_var h2, st_ok]
    show OkE _ _ (tidy μ0 (.ref μ0.length) (μ0 ++ U))
    unfold tidy
    rw [if_neg (fun z => by have := z.1; simp [DV.und] at this)]
    exact .inr ⟨h1, μ0.length, U, rfl, rfl, h3, Nat.le_refl _⟩
  · subst h1
    show OkE _ _ (tidy μ0 .non μ')
    unfold tidy
    rw [if_pos ⟨rfl, h4, fun i hi => .inl (h3 i hi)⟩]
    exact .inl ⟨h2, rfl, (eq_app h4 h3).1⟩
end Lw

namespace Lw
open PySem L2 Md
/-! ## drawn programs -/
theorem dpL_app : ∀ (a b : List St), dpL (a ++ b) = max (dpL a) (dpL b)
  | [], b => by have := dpL_pos b; simp [dpL]; omega
  | x :: a, b => by rw [List.cons_append, dpL, dpL, dpL_app a b]; omega
theorem dpL_flat {b : List St} : ∀ k : Nat, dpL (List.replicate k b).flatten ≤ dpL b
  | 0 => by simp [dpL, dpL_pos]
  | k + 1 => by rw [List.replicate_succ, List.flatten_cons, dpL_app]; have := dpL_flat (b := b) k; omega
mutual
theorem St.out_dp {hs : List (List St)} {D : Nat} (h : ∀ b ∈ hs, dpL b ≤ D + 1) : ∀ x : St, dpL (x.out hs) ≤ x.dp + 1 + D
  | .doo k => by
    simp only [St.out, List.getD]
    cases q : hs[k]? with
    | none => simp [dpL]; omega
    | some b => have := h b (List.mem_of_getElem? q); simp; omega
  | .rounds k b => by
    rw [St.out]
    have := dpL_flat (b := outL hs b) k
    have := outL_dp h b
    simp only [St.dp]; omega
  | .ask a p r b c => by
    have := outL_dp h b
    have := outL_dp h c
    simp only [St.out, dpL, St.dp]; omega
  | .over a p s b c => by
    have := outL_dp h b
    have := outL_dp h c
    simp only [St.out, dpL, St.dp]; omega
  | .there p b c => by
    have := outL_dp h b
    have := outL_dp h c
    simp only [St.out, dpL, St.dp]; omega
  | .cut .. => by simp [St.out, dpL, St.dp]
  | .part .. => by simp [St.out, dpL, St.dp]
  | .like .. => by simp [St.out, dpL, St.dp]
  | .best .. => by simp [St.out, dpL, St.dp]
  | .give .. => by simp [St.out, dpL, St.dp]
  | .move .. => by simp [St.out, dpL, St.dp]
  | .swap .. => by simp [St.out, dpL, St.dp]
theorem outL_dp {hs : List (List St)} {D : Nat} (h : ∀ b ∈ hs, dpL b ≤ D + 1) : ∀ l : List St, dpL (outL hs l) ≤ dpL l + D
  | [] => by simp [outL, dpL]
  | x :: l => by
    have := St.out_dp h x
    have := outL_dp h l
    rw [outL, dpL_app, dpL]; omega
end
theorem hOut_dp : ∀ (hs acc : List (List St)) (D : Nat), (∀ b ∈ acc, dpL b ≤ D + 1) → (∀ b ∈ hs, dpL b ≤ 2) → ∀ b ∈ hOut acc hs, dpL b ≤ D + hs.length + 1
  | [], acc, D, h, _ => h
  | c :: hs, acc, D, h, g => by
    rw [hOut, List.length_cons]
    have := hOut_dp hs (acc ++ [outL acc c]) (D + 1) (fun b hb => by
      rcases List.mem_append.mp hb with hb | hb
      · have := h b hb; omega
      · simp at hb; subst hb
        have := outL_dp h c
        have := g c (by simp)
        omega) (fun b hb => g b (by simp [hb]))
    intro b hb
    have := this b hb
    omega
theorem hOut_sz : ∀ (hs acc : List (List St)) (M : Nat), 1 ≤ M → (∀ b ∈ acc, (szL [] b).t ≤ M) → (∀ b ∈ hs, SBL 1 2 b) → ∀ b ∈ hOut acc hs, (szL [] b).t ≤ M * 50 ^ hs.length
  | [], acc, M, _, h, _ => by simpa [hOut] using h
  | c :: hs, acc, M, h1, h, g => by
    have hc := g c (by simp) (acc.map (szL [])) M h1 (fun z hz => by obtain ⟨b, hb, rfl⟩ := List.mem_map.mp hz; exact h b hb)
    rw [szL_out] at hc
    have := hOut_sz hs (acc ++ [outL acc c]) (M * 50) (by omega) (fun b hb => by
      rcases List.mem_append.mp hb with hb | hb
      · have := h b hb; omega
      · simp at hb; subst hb
        omega) (fun b hb => g b (by simp [hb]))
    intro b hb
    have := this b hb
    rw [List.length_cons, Nat.pow_succ, Nat.mul_comm (50 ^ hs.length) 50, ← Nat.mul_assoc]
    exact this
/-- what a drawn help is -/
def HpR (A N i : Nat) (b : List St) : Prop := okL A N i b = true ∧ dpL b ≤ 2 ∧ b.length ≤ 2 ∧ SBL 1 2 b
def HpA (A N : Nat) : Nat → List (List St) → Prop
  | _, [] => True
  | i, b :: hs => HpR A N i b ∧ HpA A N (i + 1) hs
theorem HpA.of {A N : Nat} : ∀ (k i : Nat) (ys : List DV), All2 (fun x v => ∃ j : Nat, x = encN j ∧ BlkR A N j 1 2 v) ((List.range' i k).map encN) ys → ∃ hs : List (List St), ys = hs.map (fun b => .tup (encL b)) ∧ HpA A N i hs ∧ hs.length = k
  | 0, i, ys, h => by
    cases h
    exact ⟨[], rfl, trivial, rfl⟩
  | k + 1, i, ys, h => by
    rw [List.range'_succ, List.map_cons] at h
    cases h with
    | cons h t =>
      obtain ⟨j, e, b, rfl, b1, b2, b3, b4⟩ := h
      have : j = i := by simp [encN] at e; omega
      subst this
      obtain ⟨hs, rfl, g1, g2⟩ := HpA.of k (j + 1) _ t
      exact ⟨b :: hs, rfl, ⟨⟨b1, b2, b3, b4⟩, g1⟩, by simp [g2]⟩
theorem HpA.mem {A N : Nat} : ∀ {hs : List (List St)} {i : Nat}, HpA A N i hs → ∀ b ∈ hs, ∃ j, HpR A N j b
  | [], _, _, b, hb => by cases hb
  | c :: hs, i, ⟨h1, h2⟩, b, hb => by
    rcases List.mem_cons.mp hb with rfl | hb
    · exact ⟨i, h1⟩
    · exact h2.mem b hb
theorem HpA.get {A N : Nat} : ∀ {hs : List (List St)} {i : Nat}, HpA A N i hs → ∀ (k : Nat) (b : List St), hs[k]? = some b → HpR A N (i + k) b
  | [], _, _, k, b, e => by simp at e
  | c :: hs, i, ⟨h1, h2⟩, 0, b, e => by simp at e; subst e; exact h1
  | c :: hs, i, ⟨h1, h2⟩, k + 1, b, e => by
    have := h2.get k b (by simpa using e)
    rwa [show i + (k + 1) = i + 1 + k by omega]
theorem hTOk_of {A N : Nat} : ∀ (hs acc : List (List St)) (M : Nat), HpA A N acc.length hs → 1 ≤ M → (∀ b ∈ acc, (szL [] b).t ≤ M) → M * 50 ^ hs.length ≤ 1000000 → hTOk A N acc hs
  | [], acc, M, _, _, _, _ => trivial
  | c :: hs, acc, M, ⟨⟨h1, h2, h3, h4⟩, h5⟩, m1, h, hM => by
    have hc := h4 (acc.map (szL [])) M m1 (fun z hz => by obtain ⟨b, hb, rfl⟩ := List.mem_map.mp hz; exact h b hb)
    have hp : 1 ≤ 50 ^ hs.length := Nat.one_le_pow _ _ (by omega)
    have hpm : M * 50 * 1 ≤ M * 50 * 50 ^ hs.length := Nat.mul_le_mul_left _ hp
    rw [List.length_cons, Nat.pow_succ, Nat.mul_comm (50 ^ hs.length) 50, ← Nat.mul_assoc] at hM
    refine ⟨⟨h1, by omega, by omega⟩, hTOk_of hs _ (M * 50) (by simpa using h5) (by omega) (fun b hb => ?_) hM⟩
    rcases List.mem_append.mp hb with hb | hb
    · have := h b hb; omega
    · simp at hb; subst hb; rw [← szL_out]; omega
/-- what a drawn program is -/
structure Pg.Drawn (P : Pg) (marks most : Nat) : Prop where
  A : 1 ≤ P.A ∧ P.A ≤ 3
  N : 3 ≤ P.N ∧ P.N ≤ 4
  hs : HpA P.A P.N 0 P.hs
  hl : P.hs.length ≤ 2
  b : okL P.A P.N P.hs.length P.b = true
  bd : dpL P.b ≤ 3
  bl : P.b.length ≤ 9
  t : (szL [] P.told).t < 60
  m : (szL [] P.told).m ≤ marks
  s : (szL [] P.told).s < 12
  w : P.yd.wys.length ≤ most
theorem Pg.Drawn.ok {P : Pg} {marks most : Nat} (h : P.Drawn marks most) : P.ok :=
  ⟨⟨h.A.1, by have := h.A.2; omega⟩, ⟨by have := h.N.1; omega, by have := h.N.2; omega⟩, by have := h.hl; omega, fun i b e => by
    obtain ⟨q1, q2, q3, q4⟩ := h.hs.get i b e
    rw [Nat.zero_add] at q1
    exact ⟨q1, by omega, by omega⟩, h.b, by have := h.bl; omega, by have := h.bd; omega⟩
theorem told_ok {P : Pg} (hs : HpA P.A P.N 0 P.hs) (hb : okL P.A P.N P.hs.length P.b = true) : okTL P.A P.N P.told = true :=
  outL_ok (H := P.hs.length) (fun b hb => hOut_ok P.hs [] (by simp) (fun c hc => by obtain ⟨j, h, _⟩ := hs.mem c hc; exact ⟨j, h⟩) b hb) P.b hb
theorem told_run {P : Pg} (hs : HpA P.A P.N 0 P.hs) (hl : P.hs.length ≤ 2) (hb : okL P.A P.N P.hs.length P.b = true) (hd : dpL P.b ≤ 3) (hz : (szL [] P.told).t ≤ 1000000) : f__law_told [P.enc] = fun μ => .ok (.tup (encL P.told)) μ := by
  funext μ
  have h50 : 1 * 50 ^ P.hs.length ≤ 1000000 := by
    have : 50 ^ P.hs.length ≤ 50 ^ 2 := Nat.pow_le_pow_right (by omega) hl
    omega
  exact l_told (hTOk_of P.hs [] 1 hs (Nat.le_refl _) (by simp) h50) hb (by omega) hz (by omega)
theorem told_dp {P : Pg} (hs : HpA P.A P.N 0 P.hs) (hl : P.hs.length ≤ 2) (hd : dpL P.b ≤ 3) : dpL P.told ≤ 24 := by
  have h1 := hOut_dp P.hs [] 0 (by simp) (fun b hb => by obtain ⟨j, _, h, _⟩ := hs.mem b hb; exact h)
  have h2 := outL_dp (D := 2) (fun b hb => by have := h1 b hb; omega) P.b
  have : P.told = outL (hOut [] P.hs) P.b := rfl
  rw [this]; omega
theorem Pg.Drawn.run {P : Pg} {marks most M : Nat} (h : P.Drawn marks most) (hM : marks ≤ M) (hM7 : M ≤ 7) : P.Run M :=
  ⟨⟨h.A.1, by have := h.A.2; omega⟩, ⟨by have := h.N.1; omega, by have := h.N.2; omega⟩, Lw.told_run h.hs h.hl h.b h.bd (by have := h.t; omega), Lw.told_ok h.hs h.b, by have := h.m; omega, by have := h.s; omega, by have := h.t; omega, hM7⟩
theorem Pg.Drawn.prog {P : Pg} {marks most : Nat} (h : P.Drawn marks most) (hm : marks ≤ 12) : Lw.isProg P.enc = true :=
  Pg.isProg h.ok (by have := h.t; omega) (by have := h.m; omega) (by have := h.s; omega)
end Lw

namespace Lw
open PySem L2 Md
def hsE (hs : List (List St)) : DV := .tup (hs.map fun b => .tup (encL b))
def prE (marks most A N : Nat) (hs : List (List St)) (b : List St) (w7 w8 w9 : Option DV) : DE := [some (.ref 2), some (.int marks), some (.int most), some (.int A), some (.int N), some (hsE hs), some (.tup (encL b)), w7, w8, w9, none]
theorem prog_body {n marks most A N : Nat} {hs : List (List St)} {b : List St} {w7 w8 w9 : Option DV} {X C HD : DC} {rest : DM} (h : HOk n C HD) (hn : n ≤ 2 ^ 38) (hm : marks ≤ 7) (hmost : most ≤ 1000) (hP : (⟨A, N, hs, b⟩ : Pg).Drawn marks most) (hbl : b.length ≤ 8) :
    ∃ b' w8' w9' HD' T, b__law_program_1 (prE marks most A N hs b w7 w8 w9) (X :: C :: HD :: rest) = .nx (prE marks most A N hs b' w7 w8' w9') (X :: C :: HD' :: (rest ++ T)) ∧ (⟨A, N, hs, b'⟩ : Pg).Drawn marks most ∧ b'.length ≤ b.length + 1 ∧ HOk (n + 10000) C HD' := by
  have hA := hP.A
  have hN := hP.N
  simp only at hA hN
  have hl := hP.hl
  simp only at hl
  obtain ⟨v, H1, e1, ⟨x, rfl, x1, x2, x3⟩, h1⟩ := l_statement (A := A) (N := N) (H := hs.length) ⟨hA.1, by omega⟩ ⟨hN.1, by omega⟩ (by omega) (d := 2) (Nat.le_refl _) n X C HD rest h (by rw [show cst 2 = 10000 from rfl]; omega)
  have hc2 : cst 2 = 10000 := by decide
  rw [hc2] at h1
  generalize hQ : (⟨A, N, hs, b ++ [x]⟩ : Pg) = Q
  have qA : Q.A = A := by rw [← hQ]
  have qN : Q.N = N := by rw [← hQ]
  have qh : Q.hs = hs := by rw [← hQ]
  have qb : Q.b = b ++ [x] := by rw [← hQ]
  have q1 : HpA Q.A Q.N 0 Q.hs := by rw [qA, qN, qh]; exact hP.hs
  have q2 : Q.hs.length ≤ 2 := by rw [qh]; exact hl
  have q3 : okL Q.A Q.N Q.hs.length Q.b = true := by
    rw [qA, qN, qh, qb, okL_mem]
    intro y hy
    rcases List.mem_append.mp hy with hy | hy
    · exact okL_mem.mp hP.b y hy
    · simp at hy; subst hy; exact x1
  have q4 : dpL Q.b ≤ 3 := by
    have := hP.bd
    simp only at this
    rw [qb, dpL_app]; simp only [dpL]; omega
  have q5 : (szL [] Q.told).t ≤ 1000000 := by
    have hz := hOut_sz hs [] 1 (Nat.le_refl _) (by simp) (fun c hc => by obtain ⟨j, _, _, _, h⟩ := hP.hs.mem c hc; exact h)
    have h50 : 50 ^ hs.length ≤ 50 ^ 2 := Nat.pow_le_pow_right (by omega) hl
    have e : Q.told = outL (hOut [] hs) (b ++ [x]) := by rw [← hQ]; rfl
    have e2 : szL [] Q.told = szL ((hOut [] hs).map (szL [])) (b ++ [x]) := by rw [e, szL_out]
    rw [e2, szL_app]
    have e3 : szL ((hOut [] hs).map (szL [])) b = szL [] (⟨A, N, hs, b⟩ : Pg).told := by rw [szL_out]; rfl
    rw [e3]
    have ht := hP.t
    have hx := x3 ((hOut [] hs).map (szL [])) 2500 (by omega) (fun z hz' => by
      obtain ⟨c, hc, rfl⟩ := List.mem_map.mp hz'
      have := hz c hc
      omega)
    simp only [szL, Nat.add_zero]
    omega
  have t1 := told_run q1 q2 q3 q4 q5
  have t2 := l_counts 24 24 Q.told (X :: C :: H1 :: rest) (told_dp q1 q2 q4) (Nat.le_refl _) Pg.told_nrd
  have t1' : f__law_told [Q.enc] (X :: C :: H1 :: rest) = .ok (.tup (encL Q.told)) (X :: C :: H1 :: rest) := by rw [t1]
  have encQ : Q.enc = .tup [.int A, .int N, hsE hs, .tup (encL b ++ [x.enc])] := by
    rw [← hQ]; simp [Pg.enc, hsE, encL_app, encL]
  have s1 : sAsg (mTup (mCons (mVar 3) (mCons (mVar 4) (mCons (mVar 5) (mCons (mOp gAdd (mVar 6) (mTup (mCons (mCall 5 f__law_statement (mCons (mVar 0) (mCons (mVar 3) (mCons (mVar 4) (mCons (mC (.int 2)) (mCons (mLen (mVar 5)) (mNil))))))) (mNil)))) (mNil)))))) (tgN 8) (prE marks most A N hs b w7 w8 w9) (X :: C :: HD :: rest)
      = .nx (prE marks most A N hs b w7 (some Q.enc) w9) (X :: C :: H1 :: rest) := by
    have lb : (encL b).length + 1 ≤ 16777216 := by rw [encL_len]; omega
    rw [encQ]
    have e1' : f__law_statement [.ref 2, .int A, .int N, .int 2, .int hs.length] (X :: C :: HD :: rest) = .ok x.enc (X :: C :: H1 :: rest) := e1
    simp [prE, hsE, e1']
    omega
  have s2 : sAsg (mCall 1 f__law_counts (mCons (mCall 1 f__law_told (mCons (mVar 8) (mNil))) (mNil))) (tgN 9) (prE marks most A N hs b w7 (some Q.enc) w9) (X :: C :: H1 :: rest)
      = .nx (prE marks most A N hs b w7 (some Q.enc) (some (szL [] Q.told).enc)) (X :: C :: H1 :: rest) := by
    have t2' : f__law_counts [.tup (encL Q.told)] (X :: C :: H1 :: rest) = .ok (szL [] Q.told).enc (X :: C :: H1 :: rest) := t2
    simp [prE, t1', t2']
  generalize hz : szL [] Q.told = z at *
  have i0 : ∀ μ, mOp gIx (mVar 9) (mC (.int 0)) (prE marks most A N hs b w7 (some Q.enc) (some z.enc)) μ = .ok (.int z.t) μ := fun μ => by simp [prE, SZ.enc]
  have i1 : ∀ μ, mOp gIx (mVar 9) (mC (.int 1)) (prE marks most A N hs b w7 (some Q.enc) (some z.enc)) μ = .ok (.int z.m) μ := fun μ => by simp [prE, SZ.enc]
  have i2 : ∀ μ, mOp gIx (mVar 9) (mC (.int 2)) (prE marks most A N hs b w7 (some Q.enc) (some z.enc)) μ = .ok (.int z.s) μ := fun μ => by simp [prE, SZ.enc]
  have c0 : mBl (mOp qLt (mOp gIx (mVar 9) (mC (.int 0))) (mC (.int 60))) (prE marks most A N hs b w7 (some Q.enc) (some z.enc)) (X :: C :: H1 :: rest) = .ok (decide (z.t < 60)) (X :: C :: H1 :: rest) := by
    rw [x_bl, x_op, i0]
    simp; omega
  have c1 : mBl (mOp qLe (mOp gIx (mVar 9) (mC (.int 1))) (mVar 1)) (prE marks most A N hs b w7 (some Q.enc) (some z.enc)) (X :: C :: H1 :: rest) = .ok (decide (z.m ≤ marks)) (X :: C :: H1 :: rest) := by
    rw [x_bl, x_op, i1, DR.bind_ok, x_var (v := .int (marks : Int)) rfl]
    simp
  have c2 : mBl (mOp qLt (mOp gIx (mVar 9) (mC (.int 2))) (mC (.int 12))) (prE marks most A N hs b w7 (some Q.enc) (some z.enc)) (X :: C :: H1 :: rest) = .ok (decide (z.s < 12)) (X :: C :: H1 :: rest) := by
    rw [x_bl, x_op, i2]
    simp; omega
  have fin : ∀ (tt : Bool) (T : DM), mAnd (mBl (mOp qLt (mOp gIx (mVar 9) (mC (.int 0))) (mC (.int 60)))) (mAnd (mBl (mOp qLe (mOp gIx (mVar 9) (mC (.int 1))) (mVar 1))) (mAnd (mBl (mOp qLt (mOp gIx (mVar 9) (mC (.int 2))) (mC (.int 12)))) (mBl (mOp (gIs true) (mCall 2 f__law_ways (mCons (mVar 8) (mCons (mVar 2) (mNil)))) (mC .non))))) (prE marks most A N hs b w7 (some Q.enc) (some z.enc)) (X :: C :: H1 :: rest) = .ok tt (X :: C :: H1 :: (rest ++ T)) →
      (tt = true → Q.Drawn marks most) → ∃ b' w8' w9' HD' T, b__law_program_1 (prE marks most A N hs b w7 w8 w9) (X :: C :: HD :: rest) = .nx (prE marks most A N hs b' w7 w8' w9') (X :: C :: HD' :: (rest ++ T)) ∧ (⟨A, N, hs, b'⟩ : Pg).Drawn marks most ∧ b'.length ≤ b.length + 1 ∧ HOk (n + 10000) C HD' := fun tt T et hd => by
    cases tt with
    | true =>
      refine ⟨b ++ [x], some Q.enc, some z.enc, H1, T, ?_, by rw [hQ]; exact hd rfl, by simp, h1⟩
      unfold b__law_program_1
      rw [sq s1, sq s2, sIf_t et]
      have : gIx Q.enc (.int 3) (X :: C :: H1 :: (rest ++ T)) = .ok (.tup (encL b ++ [x.enc])) (X :: C :: H1 :: (rest ++ T)) := by rw [encQ]; exact g3_4
      simp [prE, this, encL_app, encL]
    | false =>
      refine ⟨b, some Q.enc, some z.enc, H1, T, ?_, hP, by omega, h1⟩
      unfold b__law_program_1
      rw [sq s1, sq s2, sIf_f et]
      rfl
  by_cases z0 : z.t < 60
  · by_cases z1 : z.m ≤ marks
    · by_cases z2 : z.s < 12
      · have hrun : Q.Run 7 := ⟨⟨by omega, by omega⟩, ⟨by omega, by omega⟩, t1, Lw.told_ok q1 q3, by rw [hz]; omega, by rw [hz]; omega, by rw [hz]; omega, Nat.le_refl _⟩
        have v8 : mCall 2 f__law_ways (mCons (mVar 8) (mCons (mVar 2) (mNil))) (prE marks most A N hs b w7 (some Q.enc) (some z.enc)) (X :: C :: H1 :: rest) = f__law_ways [Q.enc, .int most] (X :: C :: H1 :: rest) := by
          simp [prE]
        rcases l_ways (μ0 := X :: C :: H1 :: rest) hrun hmost with ⟨w1, w2⟩ | ⟨w1, f, T, w2, w3, w4⟩
        · refine fin false [] ?_ (fun e => by cases e)
          rw [x_and, c0, DR.bind_ok, if_pos (by simpa using z0), x_and, c1, DR.bind_ok, if_pos (by simpa using z1), x_and, c2, DR.bind_ok, if_pos (by simpa using z2), x_bl, x_op, v8, w2, List.append_nil]
          rfl
        · refine fin true T ?_ (fun _ => ⟨by omega, by omega, q1, q2, q3, q4, by rw [qb]; simp; omega, by rw [hz]; exact z0, by rw [hz]; exact z1, by rw [hz]; exact z2, w1⟩)
          rw [x_and, c0, DR.bind_ok, if_pos (by simpa using z0), x_and, c1, DR.bind_ok, if_pos (by simpa using z1), x_and, c2, DR.bind_ok, if_pos (by simpa using z2), x_bl, x_op, v8, w2]
          rfl
      · refine fin false [] ?_ (fun e => by cases e)
        rw [x_and, c0, DR.bind_ok, if_pos (by simpa using z0), x_and, c1, DR.bind_ok, if_pos (by simpa using z1), x_and, c2, DR.bind_ok, if_neg (by simpa using z2), List.append_nil]
    · refine fin false [] ?_ (fun e => by cases e)
      rw [x_and, c0, DR.bind_ok, if_pos (by simpa using z0), x_and, c1, DR.bind_ok, if_neg (by simpa using z1), List.append_nil]
  · refine fin false [] ?_ (fun e => by cases e)
    rw [x_and, c0, DR.bind_ok, if_neg (by simpa using z0), List.append_nil]
theorem zero_yd {P : Pg} (hN : 1 ≤ P.N) : P.yd.pc 0 = [((0 : Rat), (1 : Rat))] := by
  simp only [Yd.pc, Pg.yd, List.getD_eq_getElem?_getD]
  rw [List.getElem?_set_self (by simp; omega)]; rfl
/-- the program that starts has one way -/
theorem first_wys {P : Pg} {a q : Nat} {s : Rat} (hN : 1 ≤ P.N) (h : P.told = [.cut a 0 s q]) : P.yd.wys = [[0]] := by
  have hw : P.yd.wt = .cut a 0 s q :: [] := h
  have p0 := zero_yd hN
  have e : P.yd.on = (some (.cut a 0 s q), { P.yd with wt := [] }) := on_ask hw (by
    have : ({ P.yd with wt := [] } : Yd).pc 0 = P.yd.pc 0 := rfl
    simp only [Yd.asks, this, p0]; rfl)
  have hr : P.yd.rk = 1 := by simp only [Yd.rk, hw]; rfl
  unfold Yd.wys
  rw [hr, wysN, e]
  have ho : ({ P.yd with wt := [] } : Yd).opts (.cut a 0 s q) = [0] := by
    show List.range (P.yd.pc 0).length = [0]
    rw [p0]; rfl
  simp only [ho, List.flatMap_cons, List.flatMap_nil, List.append_nil]
  rw [wysN, on_nil (by rfl)]
  rfl
theorem l_program {n marks most : Nat} {X C HD : DC} {rest : DM} (h : HOk n C HD) (hn : n ≤ 2 ^ 37) (hm : 1 ≤ marks ∧ marks ≤ 7) (hmost : 1 ≤ most ∧ most ≤ 1000) :
    ∃ (P : Pg) (HD' : DC), f__law_program [.ref 2, .int marks, .int most] (X :: C :: HD :: rest) = .ok P.enc (X :: C :: HD' :: rest) ∧ P.Drawn marks most ∧ HOk (n + 90000) C HD' := by
  obtain ⟨a, H1, e1, p1, q1, h1⟩ := l_draw (X := X) (rest := rest) h (m := 3) (by omega) (by omega) (by omega)
  obtain ⟨a, rfl⟩ := Int.eq_ofNat_of_zero_le p1
  obtain ⟨b, H2, e2, p2, q2, h2⟩ := l_draw (X := X) (rest := rest) h1 (m := 2) (by omega) (by omega) (by omega)
  obtain ⟨b, rfl⟩ := Int.eq_ofNat_of_zero_le p2
  obtain ⟨k, H3, e3, p3, q3, h3⟩ := l_draw (X := X) (rest := rest) h2 (m := 3) (by omega) (by omega) (by omega)
  obtain ⟨k, rfl⟩ := Int.eq_ofNat_of_zero_le p3
  have hA : 1 ≤ 1 + a ∧ 1 + a ≤ 3 := by omega
  have hN : 3 ≤ 3 + b ∧ 3 + b ≤ 4 := by omega
  have c1 : cst 1 = 1000 := rfl
  obtain ⟨ys, H4, e4, g4, h4⟩ := lc_drawn0 (R := fun x v => ∃ j : Nat, x = encN j ∧ BlkR (1 + a) (3 + b) j 1 2 v) 2001 (2 ^ 38) (n := n + 3) (X := X) (C := C) (HD := H3) (rest := rest) (vs := [10]) (mi := mItR1 (mCall 2 f__law_draw (mCons (mVar 0) (mCons (mC (.int 3)) (mNil)))))
    (ρ := [some (.ref 2), some (.int marks), some (.int most), some (.int (1 + a : Nat)), some (.int (3 + b : Nat)), none, none, none, none, none, none]) (t := tgN 10) (te := mCall 6 f__law_block (mCons (mVar 0) (mCons (mVar 3) (mCons (mVar 4) (mCons (mC (.int 1)) (mCons (mVar 10) (mCons (mOp gAdd (mC (.int 1)) (mCall 2 f__law_draw (mCons (mVar 0) (mCons (mC (.int 2)) (mNil))))) (mNil)))))))) (l := (List.range k).map encN) (μ0 := X :: C :: H2 :: rest)
    (x_rgI (by simp [e3]) (by omega)) (fun x hx HD n hh hn => by
      obtain ⟨j, hj, rfl⟩ := List.mem_map.mp hx
      have hj2 : j < k := List.mem_range.mp hj
      obtain ⟨z, G1, f1, r1, r2, r3⟩ := l_draw (X := X) (rest := rest) hh (m := 2) (by omega) (by omega) (by omega)
      obtain ⟨z, rfl⟩ := Int.eq_ofNat_of_zero_le r1
      have hz : cst 1 * (1 + z) ≤ 2000 := by rw [c1]; omega
      obtain ⟨v, G2, f2, ⟨bb, hv, y1, y2, y3, y4⟩, r4⟩ := l_block (A := 1 + a) (N := 3 + b) (H := j) ⟨by omega, by omega⟩ ⟨by omega, by omega⟩ (by omega) (d := 1) (by omega) (n + 1) (1 + z) X C G1 rest r3 (by omega) (by rw [c1] at *; omega)
      refine ⟨[some (.ref 2), some (.int marks), some (.int most), some (.int (1 + a : Nat)), some (.int (3 + b : Nat)), none, none, none, none, none, some (encN j)], v, G2, rfl, ?_, ⟨j, rfl, bb, hv, y1, y2, by omega, fun hs M m1 m2 => Nat.le_trans (y4 hs M m1 m2) (Nat.mul_le_mul_right _ (by omega))⟩, r4.mono (by omega)⟩
      have f2' : f__law_block [.ref 2, .int (1 + a : Nat), .int (3 + b : Nat), .int 1, .int (j : Nat), .int (1 + (z : Int))] (X :: C :: G1 :: rest) = .ok v (X :: C :: G2 :: rest) := by
        rw [show 1 + (z : Int) = ((1 + z : Nat) : Int) by omega]; exact f2
      simp at f1 f2'
      simp [encN, f1, f2']) h3 (by simp; omega) (by simp; omega)
  have g4' : All2 (fun x v => ∃ j : Nat, x = encN j ∧ BlkR (1 + a) (3 + b) j 1 2 v) ((List.range' 0 k).map encN) ys := by rw [← List.range_eq_range']; exact g4
  obtain ⟨hs, rfl, hH, hHl⟩ := HpA.of k 0 ys g4'
  simp only [List.length_map, List.length_range] at h4
  obtain ⟨u, H5, e5, p5, q5, h5⟩ := l_draw (X := X) (rest := rest) h4 (m := (1 + a : Nat)) (by omega) (by omega) (by omega)
  obtain ⟨u, rfl⟩ := Int.eq_ofNat_of_zero_le p5
  obtain ⟨s, H6, e6, s6, h6⟩ := l_share (X := X) (rest := rest) h5 (by omega)
  obtain ⟨m, H7, e7, p7, q7, h7⟩ := l_draw (X := X) (rest := rest) h6 (m := 5) (by omega) (by omega) (by omega)
  obtain ⟨m, rfl⟩ := Int.eq_ofNat_of_zero_le p7
  have hu : u < 1 + a := by omega
  generalize hA' : 1 + a = A at *
  generalize hN' : 3 + b = N at *
  have P0 : (⟨A, N, hs, [.cut u 0 s 1]⟩ : Pg).Drawn marks most := by
    have et : (⟨A, N, hs, [.cut u 0 s 1]⟩ : Pg).told = [.cut u 0 s 1] := rfl
    refine ⟨hA, hN, hH, by rw [hHl]; omega, by simp [okL, St.ok, s6]; omega, by simp [dpL, St.dp], by simp, ?_, ?_, ?_, ?_⟩
    · rw [et]; simp [szL, St.sz]
    · rw [et]; simp [szL, St.sz]; omega
    · rw [et]; simp [szL, St.sz]
    · rw [first_wys (by simp only; omega) et]; simp; omega
  have go : ∀ (l : List Nat) (b : List St) (w7 w8 w9 : Option DV) (HD : DC) (rest : DM) (n : Nat) (s : Src), s.2 = none → HOk n C HD → n + 10000 * l.length ≤ 2 ^ 38 → (⟨A, N, hs, b⟩ : Pg).Drawn marks most → b.length + l.length ≤ 9 →
      ∃ b' w7' w8' w9' HD' T, sFor.go (tgN 7) b__law_program_1 s (l.map encN) (prE marks most A N hs b w7 w8 w9) (X :: C :: HD :: rest) = .nx (prE marks most A N hs b' w7' w8' w9') (X :: C :: HD' :: (rest ++ T)) ∧ (⟨A, N, hs, b'⟩ : Pg).Drawn marks most ∧ HOk (n + 10000 * l.length) C HD' := by
    intro l
    induction l with
    | nil => intro b w7 w8 w9 HD rest n s hs2 hh _ hP _; exact ⟨b, w7, w8, w9, HD, [], by rw [List.map_nil, go_nil (by rw [hs2]; rfl), List.append_nil], hP, by simpa using hh⟩
    | cons i l ih =>
      intro b w7 w8 w9 HD rest n s hs2 hh hn hP hb
      rw [List.length_cons] at hn hb
      obtain ⟨b1, w8', w9', HD1, T1, f1, P1, hb1, hh1⟩ := prog_body (w7 := some (encN i)) (w8 := w8) (w9 := w9) (X := X) (rest := rest) hh (by omega) hm.2 hmost.2 hP (by omega)
      obtain ⟨b2, w7', w8'', w9'', HD2, T2, f2, P2, hh2⟩ := ih b1 (some (encN i)) w8' w9' HD1 (rest ++ T1) (n + 10000) s hs2 hh1 (by omega) P1 (by omega)
      refine ⟨b2, w7', w8'', w9'', HD2, T1 ++ T2, ?_, P2, hh2.mono (by rw [List.length_cons]; omega)⟩
      rw [List.map_cons, go_cons (by rw [hs2]; rfl) (ρ1 := prE marks most A N hs b (some (encN i)) w8 w9) rfl f1, f2, List.append_assoc]
  obtain ⟨b', w7', w8', w9', HD', T, f, PF, hF⟩ := go (List.range (4 + m)) [.cut u 0 s 1] none none none H7 rest _ ((List.range (4 + m)).map encN, none) rfl h7 (by rw [List.length_range]; omega) P0 (by simp; omega)
  rw [List.length_range] at hF
  have hF' : HOk (n + 90000) C HD' := hF.mono (by omega)
  refine ⟨⟨A, N, hs, b'⟩, HD', ?_, PF, hF'⟩
  refine run_hand rfl (und_pure _ (Pg.pure _)) hF' (t := T) ?_
  show b__law_program [some (.ref 2), some (.int marks), some (.int most), none, none, none, none, none, none, none, none] (X :: C :: HD :: rest) = _
  unfold b__law_program
  rw [sq (ρ' := [some (.ref 2), some (.int marks), some (.int most), some (.int A), some (.int N), none, none, none, none, none, none]) (μ' := X :: C :: H2 :: rest) (by
      rw [← hA', ← hN']
      simp [e1, e2]),
    sq (ρ' := [some (.ref 2), some (.int marks), some (.int most), some (.int A), some (.int N), some (hsE hs), none, none, none, none, none]) (μ' := X :: C :: H4 :: rest) (by
      rw [x_sAsg, x_tupF, e4, DR.bind_ok, st_ok]; rfl),
    sq (ρ' := prE marks most A N hs [.cut u 0 s 1] none none none) (μ' := X :: C :: H6 :: rest) (by
      simp [e5, e6, prE, encL, St.enc]),
    sq (ρ' := prE marks most A N hs b' w7' w8' w9') (μ' := X :: C :: HD' :: (rest ++ T)) (by
      have ei : mItR1 (mOp gAdd (mC (.int 4)) (mCall 2 f__law_draw (mCons (mVar 0) (mCons (mC (.int 5)) (mNil))))) (prE marks most A N hs [.cut u 0 s 1] none none none) (X :: C :: H6 :: rest) = .ok ((List.range (4 + m)).map encN, none) (X :: C :: H7 :: rest) := x_rgI (by simp [prE, e7]) (by omega)
      rw [x_for, ei, st_ok]
      exact f)]
  simp [prE, Pg.enc, hsE]
end Lw

namespace Lw
open PySem L2 Md
/-! ## what is no program -/
def BadS (J : JD) (n : Nat) (v : DV) : Prop := v.und n = true ∧ szD v = true ∧ stmOk J (isBlk J 4) v = false
def BadP (n : Nat) (v : DV) : Prop := v.und n = true ∧ szD v = true ∧ isProg v = false
theorem BadP.more {n m : Nat} {v : DV} (h : BadP n v) (hm : n ≤ m) : BadP m v := ⟨und_more hm v h.1, h.2⟩
theorem BadS.more {J : JD} {n m : Nat} {v : DV} (h : BadS J n v) (hm : n ≤ m) : BadS J m v := ⟨und_more hm v h.1, h.2⟩
theorem some_step {n : Nat} {X C HD : DC} {rest T : DM} {ρ : DE} {m : EM} {r : Nat} {xs : List DV} (h : HOk n C HD) (hn : n < 2 ^ 50) (h0 : ρ[0]? = some (some (.ref 2))) (hm : m ρ (X :: C :: HD :: rest) = .ok (.ref (r + 3)) (X :: C :: HD :: (rest ++ T))) (ht : (rest ++ T)[r]? = some (.lst xs)) (hx : 0 < xs.length) (hl : xs.length < 1000000) :
    ∃ v HD', mCall 2 f__law_some (mCons (mVar 0) (mCons m (mNil))) ρ (X :: C :: HD :: rest) = .ok v (X :: C :: HD' :: (rest ++ T)) ∧ v ∈ xs ∧ HOk (n + 1) C HD' := by
  obtain ⟨v, HD', e, hv, h'⟩ := l_some (X := X) (rest := rest ++ T) h hn ht hx hl
  refine ⟨v, HD', ?_, hv, h'⟩
  simp [x_var h0, hm, e]
theorem bad_blk {P : Pg} {n : Nat} {v : DV} (hb : BadS ⟨P.A, P.N, P.hs.length⟩ n v) (hP : szDL (encL P.b) = true) (hl : P.b.length ≤ 20) (hh : szD (hsE P.hs) = true) : BadP n (.tup [.int P.A, .int P.N, hsE P.hs, .tup (encL P.b ++ [v])]) := by
  refine ⟨?_, ?_, ?_⟩
  · have e1 : (hsE P.hs).und n = true := und_pure _ (by
      simp only [hsE, DV.pure]
      exact pureL_map (fun b => by simp [DV.pure, encL_pure]) _)
    have e2 : DV.undL n (encL P.b ++ [v]) = true := by
      have : DV.undL n (encL P.b) = true := undL_pure _ (encL_pure _)
      have app : ∀ xs ys : List DV, DV.undL n (xs ++ ys) = (DV.undL n xs && DV.undL n ys) := fun xs ys => by induction xs <;> simp_all [DV.undL, Bool.and_assoc]
      rw [app, this]; simp [DV.undL, hb.1]
    simp [DV.und, DV.undL, e1, e2]
  · have app : ∀ xs ys : List DV, szDL (xs ++ ys) = (szDL xs && szDL ys) := fun xs ys => by induction xs <;> simp_all [szDL, Bool.and_assoc]
    simp [szD, szDL, hh, app, hP, hb.2.1, encL_len]
    omega
  · have : isBlk ⟨P.A, P.N, P.hs.length⟩ 5 (.tup (encL P.b ++ [v])) = false := by
      simp only [isBlk, List.all_append, List.all_cons, hb.2.2, Bool.false_and, Bool.and_false]
    simp [isProg, hsE, iI, this]
theorem nfr (a b : Int) (h : decide (0 < b ∧ Nat.gcd a.natAbs b.natAbs = 1) = false) : isShr (.tup [.int a, .int b]) = false := by
  unfold isShr isFr
  simp only [h, Bool.false_and]
theorem zp1 : zpQ "apsq" = fun args => ['a', 'p', 's', 'q'].zip args := by funext a; unfold zpQ; rw [t_apsq]
def nb1 (A : Nat) : List DV := [DV.tup [.str "cut", .int A, .int 0, .tup [.int 1, .int 2], .int 1], .tup [.str "cut", .int 0, .int 0, .tup [.int 1, .int 2], .int 0], .tup [.str "cut", .int 0, .int 0, .tup [.int 3, .int 2], .int 1], .tup [.str "cut", .int 0, .int 0, .tup [.int 2, .int 4], .int 1]]
def nb2 (N : Nat) (w : DV) : List DV := [w, w, DV.tup [.str "give", .int 0], .tup [.str "give", .int 0, .int N], .tup [.str "move", .int 1, .int 1], .non]
def nb3 (k H : Nat) : List DV := [DV.tup [.str "best", .int 0, .tup [], .int 1], .tup [.str "best", .int 0, .tup [.int 0, .int 0], .int 1], .tup [.str "best", .int 0, .tup [.int 0, .int 1], .int 1], .tup [.str "best", .int 0, .ref k, .int 1], .tup [.str "rounds", .int 5, .tup []], .tup [.str "rounds", .bl true, .tup []], .tup [.str "do", .int H]]
def nb4 (k : Nat) (w : DV) : List DV := [w, w, DV.tup [.str "there", .int 0, .tup []], .tup [.str "skip"], .ref k]
/-- the wrong statements -/
theorem bad_1 {A N H n : Nat} (hN : 2 ≤ N) : ∀ v ∈ nb1 A, BadS ⟨A, N, H⟩ n v := by
  intro v hv
  simp only [nb1, List.mem_cons, List.not_mem_nil, or_false] at hv
  have s3 : isShr (.tup [.int 3, .int 2]) = false := by decide +kernel
  have s4 : isShr (.tup [.int 2, .int 4]) = false := by decide +kernel
  rcases hv with rfl | rfl | rfl | rfl
  · refine ⟨by simp [DV.und, DV.undL], by simp [szD, szDL], ?_⟩
    simp [stmOk, kF1, t_apsq, zpQ, isPart, isBtw]
    intro z; omega
  · refine ⟨by simp [DV.und, DV.undL], by simp [szD, szDL], ?_⟩
    simp [stmOk, kF1, t_apsq, t_prq, zpQ, isPart, isBtw, namedQ, moreQ]
  · refine ⟨by simp [DV.und, DV.undL], by simp [szD, szDL], ?_⟩
    simp [stmOk, kF1, t_apsq, zpQ, isPart, s3]
  · refine ⟨by simp [DV.und, DV.undL], by simp [szD, szDL], ?_⟩
    simp [stmOk, kF1, t_apsq, zpQ, isPart, s4]
theorem bad_2 {A N H n : Nat} {w : DV} (hw : BadS ⟨A, N, H⟩ n w) : ∀ v ∈ nb2 N w, BadS ⟨A, N, H⟩ n v := by
  intro v hv
  simp only [nb2, List.mem_cons, List.not_mem_nil, or_false] at hv
  rcases hv with rfl | rfl | rfl | rfl | rfl | rfl
  · exact hw
  · exact hw
  · refine ⟨by simp [DV.und, DV.undL], by simp [szD, szDL], ?_⟩
    simp [stmOk, kF8, t_ap]
  · refine ⟨by simp [DV.und, DV.undL], by simp [szD, szDL], ?_⟩
    simp [stmOk, kF8, t_ap, zpQ, isPart, isBtw]
    intro _ z; omega
  · refine ⟨by simp [DV.und, DV.undL], by simp [szD, szDL], ?_⟩
    simp [stmOk, kF9, t_pq, t_prq, zpQ, namedQ, moreQ]
  · exact ⟨rfl, rfl, rfl⟩
theorem bad_3 {A N H n k : Nat} (hk : k < n) : ∀ v ∈ nb3 k H, BadS ⟨A, N, H⟩ n v := by
  intro v hv
  simp only [nb3, List.mem_cons, List.not_mem_nil, or_false] at hv
  rcases hv with rfl | rfl | rfl | rfl | rfl | rfl | rfl
  · refine ⟨by simp [DV.und, DV.undL], by simp [szD, szDL], ?_⟩
    simp [stmOk, kF4, t_amq, zpQ, isPart, isPcs]
  · refine ⟨by simp [DV.und, DV.undL], by simp [szD, szDL], ?_⟩
    simp [stmOk, kF4, t_amq, zpQ, isPart, isPcs, ascAt]
  · refine ⟨by simp [DV.und, DV.undL], by simp [szD, szDL], ?_⟩
    simp [stmOk, kF4, t_amq, t_prq, zpQ, namedQ, moreQ, rowOf]
  · refine ⟨by simp [DV.und, DV.undL, hk], by simp [szD, szDL], ?_⟩
    simp [stmOk, kF4, t_amq, zpQ, isPart, isPcs]
  · refine ⟨by simp [DV.und, DV.undL], by simp [szD, szDL], ?_⟩
    simp [stmOk, kF11, t_kb, zpQ, isPart, isBtw]
  · refine ⟨by simp [DV.und, DV.undL], by simp [szD, szDL], ?_⟩
    simp [stmOk, kF11, t_kb, zpQ, isPart, isBtw]
  · refine ⟨by simp [DV.und, DV.undL], by simp [szD, szDL], ?_⟩
    simp [stmOk, kF12, t_h, zpQ, isPart, isBtw]
    intro z; omega
theorem bad_4 {A N H n k : Nat} {w : DV} (hk : k < n) (hw : BadS ⟨A, N, H⟩ n w) : ∀ v ∈ nb4 k w, BadS ⟨A, N, H⟩ n v := by
  intro v hv
  simp only [nb4, List.mem_cons, List.not_mem_nil, or_false] at hv
  rcases hv with rfl | rfl | rfl | rfl | rfl
  · exact hw
  · exact hw
  · refine ⟨by simp [DV.und, DV.undL], by simp [szD, szDL], ?_⟩
    simp [stmOk, kF7, t_pbb]
  · refine ⟨by simp [DV.und, DV.undL], by simp [szD, szDL], ?_⟩
    simp [stmOk, kd_FORMS, kFind]
  · exact ⟨by simp [DV.und, hk], rfl, rfl⟩
def mv1 : DV := .tup [.str "move", .int 0, .int 1]
def ct1 : DV := .tup [.str "cut", .int 0, .int 0, .tup [.int 1, .int 2], .int 1]
def nb5 (A N : Nat) (Hs : DV) (b : List DV) (v w : DV) : List DV := [.tup [.int A, .int N, Hs, .tup (b ++ [v])], .tup [.int A, .int N, Hs, .tup (b ++ [w])], .tup [.int A, .int N, Hs, .tup (List.replicate 21 mv1)]]
def nb6 (A N : Nat) (Hs B : DV) : List DV := [.tup [.int A, .int N, .tup (List.replicate 5 (DV.tup [])), B], .tup [.int A, .int N, Hs, .tup (List.replicate 13 ct1)], .str "program"]
theorem pureL_rep {x : DV} (h : x.pure = true) : ∀ k : Nat, DV.pureL (List.replicate k x) = true
  | 0 => rfl
  | k + 1 => by rw [List.replicate_succ]; simp only [DV.pureL, h, pureL_rep h k, Bool.and_self]
theorem szDL_rep {x : DV} (h : szD x = true) : ∀ k : Nat, szDL (List.replicate k x) = true
  | 0 => rfl
  | k + 1 => by rw [List.replicate_succ]; simp only [szDL, h, szDL_rep h k, Bool.and_self]
theorem ct1_sz {hs : List SZ} {r : DV → SZ} : szStm hs r ct1 = ⟨1, 1, 0⟩ := by
  unfold ct1
  rw [szStm_blks kF1 (by decide) (by decide)]
  simp [t_apsq, blksQ, zpQ, maxL]
theorem ct_sum {hs : List SZ} {r : DV → SZ} : ∀ k : Nat, (sumZ ((List.replicate k ct1).map (szStm hs r))).m = k
  | 0 => rfl
  | k + 1 => by
    rw [List.replicate_succ, List.map_cons]
    simp only [sumZ, ct1_sz, ct_sum k]
    omega
theorem l_no_program {P : Pg} {n marks most : Nat} {X C HD : DC} {rest : DM} (h : HOk n C HD) (hn : n < 2 ^ 40) (hP : P.Drawn marks most) :
    ∃ v HD' T, f__law_no_program [.ref 2, P.enc] (X :: C :: HD :: rest) = .ok v (X :: C :: HD' :: (rest ++ T)) ∧ BadP (rest.length + T.length + 3) v ∧ HOk (n + 20) C HD' := by
  have hA := hP.A
  have hN := hP.N
  have hok := hP.ok
  have hsz := Pg.szD hok
  simp only [Pg.enc, szD, szDL, Bool.and_eq_true] at hsz
  have zh : szD (hsE P.hs) = true := by simp only [hsE, szD, Bool.and_eq_true]; exact hsz.2.2.2.1
  have zb : szDL (encL P.b) = true := hsz.2.2.2.2.1.2
  have hbl := hP.bl
  generalize hB : DV.tup (encL P.b) = B
  generalize hHs : hsE P.hs = Hs
  have encP : P.enc = .tup [.int P.A, .int P.N, Hs, B] := by rw [← hB, ← hHs]; rfl
  have uH : ∀ n, Hs.und n = true := fun n => by rw [← hHs]; exact und_pure _ (by simp only [hsE, DV.pure]; exact pureL_map (fun b => by simp [DV.pure, encL_pure]) _)
  have uB : ∀ n, B.und n = true := fun n => by rw [← hB]; exact und_pure _ (by simp [DV.pure, encL_pure])
  have zB : szD B = true := by rw [← hB]; simp [szD, zb, encL_len]; omega
  have zH : szD Hs = true := by rw [← hHs]; exact zh
  have sH : ∀ μ, Hs.seq μ = some (P.hs.map fun b => .tup (encL b)) := fun μ => by rw [← hHs]; rfl
  have sB : ∀ μ, B.seq μ = some (encL P.b) := fun μ => by rw [← hB]; rfl
  have isH : ∀ a n b, isProg (.tup [a, n, Hs, b]) = isProg (.tup [a, n, hsE P.hs, b]) := fun a n b => by rw [hHs]
  have hlB : (encL P.b).length ≤ 9 := by rw [encL_len]; exact hbl
  let L := rest.length
  let b1 : List DV := [.non, .tup [.int P.A, .int P.N, Hs], .ref (L + 3), .tup [.int 0, .int P.N, Hs, B], .tup [.int 5, .int P.N, Hs, B], .tup [.bl true, .int P.N, Hs, B]]
  let b2 : List DV := [.tup [.int P.A, .int 0, Hs, B], .tup [.int P.A, .int 9, Hs, B], .tup [.int P.A, .int P.N, .ref (L + 5), B], .tup [.int P.A, .int P.N, Hs, .ref (L + 6)]]
  let T2 : DM := [.lst [.int P.A, .int P.N, Hs, B], .lst b1, .lst (P.hs.map fun b => .tup (encL b)), .lst (encL P.b), .lst b2, .lst (b1 ++ b2)]
  let E : Option DV → Option DV → Option DV → DE := fun w6 w7 w8 => [some (.ref 2), some P.enc, some (.int P.A), some (.int P.N), some Hs, some B, w6, w7, w8]
  have s1 : sAsg (mVar 1) (tgTup 4 (tgCons (tgN 2) (tgCons (tgN 3) (tgCons (tgN 4) (tgCons (tgN 5) (tgNil)))))) [some (.ref 2), some P.enc, none, none, none, none, none, none, none] (X :: C :: HD :: rest) = .nx (E none none none) (X :: C :: HD :: rest) := by
    simp [encP, E]
  have s2 : sAsg (mKeep (mLst (mCons (mC .non) (mCons (mTup (mCons (mVar 2) (mCons (mVar 3) (mCons (mVar 4) (mNil))))) (mCons (mKeep (mLst (mCons (mVar 2) (mCons (mVar 3) (mCons (mVar 4) (mCons (mVar 5) (mNil))))))) (mCons (mTup (mCons (mC (.int 0)) (mCons (mVar 3) (mCons (mVar 4) (mCons (mVar 5) (mNil)))))) (mCons (mTup (mCons (mC (.int 5)) (mCons (mVar 3) (mCons (mVar 4) (mCons (mVar 5) (mNil)))))) (mCons (mTup (mCons (mC (.bl true)) (mCons (mVar 3) (mCons (mVar 4) (mCons (mVar 5) (mNil)))))) (mNil))))))))) (tgN 6) (E none none none) (X :: C :: HD :: rest)
      = .nx (E (some (.ref (L + 4))) none none) (X :: C :: HD :: (rest ++ [.lst [.int P.A, .int P.N, Hs, B], .lst b1])) := by
    simp [E, b1, L]
  have s3 : sAsg (mOp gAdd (mVar 6) (mKeep (mLst (mCons (mTup (mCons (mVar 2) (mCons (mC (.int 0)) (mCons (mVar 4) (mCons (mVar 5) (mNil)))))) (mCons (mTup (mCons (mVar 2) (mCons (mC (.int 9)) (mCons (mVar 4) (mCons (mVar 5) (mNil)))))) (mCons (mTup (mCons (mVar 2) (mCons (mVar 3) (mCons (mKeep (mListOf (mVar 4))) (mCons (mVar 5) (mNil)))))) (mCons (mTup (mCons (mVar 2) (mCons (mVar 3) (mCons (mVar 4) (mCons (mKeep (mListOf (mVar 5))) (mNil)))))) (mNil)))))))) (tgN 6) (E (some (.ref (L + 4))) none none) (X :: C :: HD :: (rest ++ [.lst [.int P.A, .int P.N, Hs, B], .lst b1]))
      = .nx (E (some (.ref (L + 8))) none none) (X :: C :: HD :: (rest ++ T2)) := by
    have g := gAdd_ref (a := L + 4) (b := L + 7) (xs := b1) (ys := b2) (μ := X :: C :: HD :: (rest ++ [.lst [.int P.A, .int P.N, Hs, B], .lst b1, .lst (P.hs.map fun b => .tup (encL b)), .lst (encL P.b), .lst b2])) (by simp [L]) (by simp [L]) (by simp [b1, b2])
    simp [L, b2] at g
    simp [E, sH, sB, L, g, T2, b2]
  have b1P : ∀ v ∈ b1, ∀ n, L + 3 < n → BadP n v := fun v hv n hn => by
    simp only [b1, List.mem_cons, List.not_mem_nil, or_false] at hv
    rcases hv with rfl | rfl | rfl | rfl | rfl | rfl
    · exact ⟨rfl, rfl, rfl⟩
    · exact ⟨by simp [DV.und, DV.undL, uH], by simp [szD, szDL, zH], by simp [isProg]⟩
    · exact ⟨by simp [DV.und]; omega, rfl, rfl⟩
    · exact ⟨by simp [DV.und, DV.undL, uH, uB], by simp [szD, szDL, zH, zB], by rw [← hHs]; simp [hsE, isProg, isBtw]⟩
    · exact ⟨by simp [DV.und, DV.undL, uH, uB], by simp [szD, szDL, zH, zB], by rw [← hHs]; simp [hsE, isProg, isBtw]⟩
    · exact ⟨by simp [DV.und, DV.undL, uH, uB], by simp [szD, szDL, zH, zB], by rw [← hHs]; simp [hsE, isProg, isBtw]⟩
  have b2P : ∀ v ∈ b2, ∀ n, L + 6 < n → BadP n v := fun v hv n hn => by
    simp only [b2, List.mem_cons, List.not_mem_nil, or_false] at hv
    rcases hv with rfl | rfl | rfl | rfl
    · exact ⟨by simp [DV.und, DV.undL, uH, uB], by simp [szD, szDL, zH, zB], by rw [← hHs]; simp [hsE, isProg, isBtw]⟩
    · exact ⟨by simp [DV.und, DV.undL, uH, uB], by simp [szD, szDL, zH, zB], by rw [← hHs]; simp [hsE, isProg, isBtw]⟩
    · exact ⟨by simp [DV.und, DV.undL, uB]; omega, by simp [szD, szDL, zB], rfl⟩
    · exact ⟨by simp [DV.und, DV.undL, uH]; omega, by simp [szD, szDL, zH], by rw [← hHs]; simp [hsE, isProg, isBlk]⟩
  have lT2 : T2.length = 6 := rfl
  have g6 : ∀ (U : DM) (HD : DC), (X :: C :: HD :: (rest ++ (T2 ++ U)))[L + 8]? = some (.lst (b1 ++ b2)) := fun U HD => by simp [L, T2]
  have lb1 : b1.length = 6 := rfl
  have lb2 : b2.length = 4 := rfl
  clear_value T2 b1 b2
  -- the four things
  obtain ⟨o1, H1, e1, v1, h1⟩ := some_step (T := [.lst (nb1 P.A)]) (xs := nb1 P.A) (X := X) (rest := rest ++ T2) (ρ := E (some (.ref (L + 8))) none none) (r := (rest ++ T2).length) (m := mKeep (mLst (mCons (mTup (mCons (mC (.str "cut")) (mCons (mVar 2) (mCons (mC (.int 0)) (mCons (mTup (mCons (mC (.int 1)) (mCons (mC (.int 2)) (mNil)))) (mCons (mC (.int 1)) (mNil))))))) (mCons (mTup (mCons (mC (.str "cut")) (mCons (mC (.int 0)) (mCons (mC (.int 0)) (mCons (mTup (mCons (mC (.int 1)) (mCons (mC (.int 2)) (mNil)))) (mCons (mC (.int 0)) (mNil))))))) (mCons (mTup (mCons (mC (.str "cut")) (mCons (mC (.int 0)) (mCons (mC (.int 0)) (mCons (mTup (mCons (mC (.int 3)) (mCons (mC (.int 2)) (mNil)))) (mCons (mC (.int 1)) (mNil))))))) (mCons (mTup (mCons (mC (.str "cut")) (mCons (mC (.int 0)) (mCons (mC (.int 0)) (mCons (mTup (mCons (mC (.int 2)) (mCons (mC (.int 4)) (mNil)))) (mCons (mC (.int 1)) (mNil))))))) (mNil)))))))
    h (by omega) rfl (by simp [E, nb1]) (by simp) (by simp [nb1]) (by simp [nb1])
  have o1B := bad_1 (A := P.A) (N := P.N) (H := P.hs.length) (n := rest.length) (by omega) o1 v1
  obtain ⟨o2, H2, e2, v2, h2⟩ := some_step (T := [.lst (nb2 P.N o1)]) (xs := nb2 P.N o1) (X := X) (rest := rest ++ T2 ++ [.lst (nb1 P.A)]) (ρ := E (some (.ref (L + 8))) (some o1) none) (r := (rest ++ T2 ++ [DC.lst (nb1 P.A)]).length) (m := mKeep (mLst (mCons (mVar 7) (mCons (mVar 7) (mCons (mTup (mCons (mC (.str "give")) (mCons (mC (.int 0)) (mNil)))) (mCons (mTup (mCons (mC (.str "give")) (mCons (mC (.int 0)) (mCons (mVar 3) (mNil))))) (mCons (mTup (mCons (mC (.str "move")) (mCons (mC (.int 1)) (mCons (mC (.int 1)) (mNil))))) (mCons (mC .non) (mNil)))))))))
    h1 (by omega) rfl (by simp [E, nb2]) (by simp) (by simp [nb2]) (by simp [nb2])
  have o2B := bad_2 o1B o2 v2
  generalize hR2 : rest ++ T2 ++ [DC.lst (nb1 P.A)] ++ [DC.lst (nb2 P.N o1)] = R2 at e2
  have lR2 : R2.length = L + 8 := by rw [← hR2]; simp [lT2, L]
  obtain ⟨o3, H3, e3, v3, h3⟩ := some_step (T := [.lst [.int 0], .lst (nb3 (R2.length + 3) P.hs.length)]) (xs := nb3 (R2.length + 3) P.hs.length) (X := X) (rest := R2) (ρ := E (some (.ref (L + 8))) (some o2) none) (r := R2.length + 1) (m := mKeep (mLst (mCons (mTup (mCons (mC (.str "best")) (mCons (mC (.int 0)) (mCons (mTup (mNil)) (mCons (mC (.int 1)) (mNil)))))) (mCons (mTup (mCons (mC (.str "best")) (mCons (mC (.int 0)) (mCons (mTup (mCons (mC (.int 0)) (mCons (mC (.int 0)) (mNil)))) (mCons (mC (.int 1)) (mNil)))))) (mCons (mTup (mCons (mC (.str "best")) (mCons (mC (.int 0)) (mCons (mTup (mCons (mC (.int 0)) (mCons (mC (.int 1)) (mNil)))) (mCons (mC (.int 1)) (mNil)))))) (mCons (mTup (mCons (mC (.str "best")) (mCons (mC (.int 0)) (mCons (mKeep (mLst (mCons (mC (.int 0)) (mNil)))) (mCons (mC (.int 1)) (mNil)))))) (mCons (mTup (mCons (mC (.str "rounds")) (mCons (mC (.int 5)) (mCons (mTup (mNil)) (mNil))))) (mCons (mTup (mCons (mC (.str "rounds")) (mCons (mC (.bl true)) (mCons (mTup (mNil)) (mNil))))) (mCons (mTup (mCons (mC (.str "do")) (mCons (mLen (mVar 4)) (mNil)))) (mNil))))))))))
    h2 (by omega) rfl (by simp [E, nb3, sH]) (by simp) (by simp [nb3]) (by simp [nb3])
  have o3B := bad_3 (A := P.A) (N := P.N) (H := P.hs.length) (n := R2.length + 4) (k := R2.length + 3) (by omega) o3 v3
  generalize hR3 : R2 ++ [DC.lst [.int 0], DC.lst (nb3 (R2.length + 3) P.hs.length)] = R3 at e3
  have lR3 : R3.length = L + 10 := by rw [← hR3]; simp [lR2]
  obtain ⟨o4, H4, e4, v4, h4⟩ := some_step (T := [.lst [.str "move", .int 0, .int 1], .lst (nb4 (R3.length + 3) o3)]) (xs := nb4 (R3.length + 3) o3) (X := X) (rest := R3) (ρ := E (some (.ref (L + 8))) (some o2) (some o3)) (r := R3.length + 1) (m := mKeep (mLst (mCons (mVar 8) (mCons (mVar 8) (mCons (mTup (mCons (mC (.str "there")) (mCons (mC (.int 0)) (mCons (mTup (mNil)) (mNil))))) (mCons (mTup (mCons (mC (.str "skip")) (mNil))) (mCons (mKeep (mLst (mCons (mC (.str "move")) (mCons (mC (.int 0)) (mCons (mC (.int 1)) (mNil)))))) (mNil))))))))
    h3 (by omega) rfl (by simp [E, nb4]) (by simp) (by simp [nb4]) (by simp [nb4])
  have o4B := bad_4 (k := R3.length + 3) (n := R3.length + 4) (by omega) (o3B.more (by omega)) o4 v4
  generalize hR4 : R3 ++ [DC.lst [.str "move", .int 0, .int 1], DC.lst (nb4 (R3.length + 3) o3)] = R4 at e4
  have lR4 : R4.length = L + 12 := by rw [← hR4]; simp [lR3]
  have c6 : ∀ (U : DM) (HD : DC), (X :: C :: HD :: (R4 ++ U))[L + 8]? = some (.lst (b1 ++ b2)) := fun U HD => by
    rw [← hR4, ← hR3, ← hR2]
    simp only [List.append_assoc]
    exact g6 _ HD
  have gB : ∀ (v : DV) (μ : DM), gAdd B (.tup [v]) μ = .ok (.tup (encL P.b ++ [v])) μ := fun v μ => by rw [← hB]; simp; omega
  have s8 : sAsg (mOp gAdd (mVar 6) (mKeep (mLst (mCons (mTup (mCons (mVar 2) (mCons (mVar 3) (mCons (mVar 4) (mCons (mOp gAdd (mVar 5) (mTup (mCons (mVar 7) (mNil)))) (mNil)))))) (mCons (mTup (mCons (mVar 2) (mCons (mVar 3) (mCons (mVar 4) (mCons (mOp gAdd (mVar 5) (mTup (mCons (mVar 8) (mNil)))) (mNil)))))) (mCons (mTup (mCons (mVar 2) (mCons (mVar 3) (mCons (mVar 4) (mCons (mOp gMul (mTup (mCons (mTup (mCons (mC (.str "move")) (mCons (mC (.int 0)) (mCons (mC (.int 1)) (mNil))))) (mNil))) (mC (.int 21))) (mNil)))))) (mNil))))))) (tgN 6) (E (some (.ref (L + 8))) (some o2) (some o4)) (X :: C :: H4 :: R4)
      = .nx (E (some (.ref (R4.length + 4))) (some o2) (some o4)) (X :: C :: H4 :: (R4 ++ [.lst (nb5 P.A P.N Hs (encL P.b) o2 o4), .lst (b1 ++ b2 ++ nb5 P.A P.N Hs (encL P.b) o2 o4)])) := by
    have c := c6 [.lst (nb5 P.A P.N Hs (encL P.b) o2 o4)] H4
    have hl12 : b1.length + b2.length + 3 ≤ 16777216 := by omega
    have g := gAdd_ref (a := L + 8) (b := R4.length + 3) (ys := nb5 P.A P.N Hs (encL P.b) o2 o4) (μ := X :: C :: H4 :: (R4 ++ [.lst (nb5 P.A P.N Hs (encL P.b) o2 o4)])) c (by simp) (by simp [nb5]; omega)
    simp [nb5, mv1, -List.reduceReplicate] at g
    simp [E, gB, g, nb5, mv1, -List.reduceReplicate]
  have o2P := bad_blk (n := R4.length + 4) (P := P) (o2B.more (by omega)) zb (by omega) zh
  have o4P := bad_blk (n := R4.length + 4) (P := P) (o4B.more (by omega)) zb (by omega) zh
  rw [hHs] at o2P o4P
  have b5P : ∀ v ∈ nb5 P.A P.N Hs (encL P.b) o2 o4, BadP (R4.length + 4) v := fun v hv => by
    simp only [nb5, List.mem_cons, List.not_mem_nil, or_false] at hv
    rcases hv with rfl | rfl | rfl
    · exact o2P
    · exact o4P
    · refine ⟨?_, ?_, ?_⟩
      · have : DV.undL (R4.length + 4) (List.replicate 21 mv1) = true := undL_pure _ (pureL_rep rfl 21)
        simp only [DV.und, DV.undL, uH, this]; rfl
      · have := szDL_rep (x := mv1) rfl 21
        simp only [szD, szDL, zH, this, List.length_replicate]; rfl
      · rw [← hHs]
        have : isBlk ⟨P.A, P.N, P.hs.length⟩ 5 (.tup (List.replicate 21 mv1)) = false := by
          simp only [isBlk, List.length_replicate]; rfl
        simp only [hsE, isProg, iI, List.length_map, this, Bool.false_and, Bool.and_false]
  have b6P : ∀ v ∈ nb6 P.A P.N Hs B, BadP (R4.length + 4) v := fun v hv => by
    simp only [nb6, List.mem_cons, List.not_mem_nil, or_false] at hv
    rcases hv with rfl | rfl | rfl
    · refine ⟨?_, ?_, ?_⟩
      · have : DV.undL (R4.length + 4) (List.replicate 5 (DV.tup [])) = true := undL_pure _ (pureL_rep rfl 5)
        simp only [DV.und, DV.undL, uB, this]; rfl
      · have := szDL_rep (x := DV.tup []) rfl 5
        simp only [szD, szDL, zB, this, List.length_replicate]; rfl
      · simp only [isProg, List.length_replicate]
        simp
    · refine ⟨?_, ?_, ?_⟩
      · have : DV.undL (R4.length + 4) (List.replicate 13 ct1) = true := undL_pure _ (pureL_rep rfl 13)
        simp only [DV.und, DV.undL, uH, this]; rfl
      · have := szDL_rep (x := ct1) rfl 13
        simp only [szD, szDL, zH, this, List.length_replicate]; rfl
      · rw [← hHs]
        have : (szBlk (hSzD [] (P.hs.map fun b => .tup (encL b))) 5 (.tup (List.replicate 13 ct1))).m = 13 := by
          rw [szBlk]; exact ct_sum 13
        simp only [hsE, isProg, this]
        simp
    · exact ⟨rfl, rfl, rfl⟩
  obtain ⟨o9, H9, e9, v9, h9⟩ := some_step (T := [.lst (nb6 P.A P.N Hs B), .lst (b1 ++ b2 ++ nb5 P.A P.N Hs (encL P.b) o2 o4 ++ nb6 P.A P.N Hs B)]) (xs := b1 ++ b2 ++ nb5 P.A P.N Hs (encL P.b) o2 o4 ++ nb6 P.A P.N Hs B) (X := X) (rest := R4 ++ [DC.lst (nb5 P.A P.N Hs (encL P.b) o2 o4), DC.lst (b1 ++ b2 ++ nb5 P.A P.N Hs (encL P.b) o2 o4)]) (ρ := E (some (.ref (R4.length + 4))) (some o2) (some o4)) (r := (R4 ++ [DC.lst (nb5 P.A P.N Hs (encL P.b) o2 o4), DC.lst (b1 ++ b2 ++ nb5 P.A P.N Hs (encL P.b) o2 o4)]).length + 1) (m := mOp gAdd (mVar 6) (mKeep (mLst (mCons (mTup (mCons (mVar 2) (mCons (mVar 3) (mCons (mOp gMul (mTup (mCons (mTup (mNil)) (mNil))) (mC (.int 5))) (mCons (mVar 5) (mNil)))))) (mCons (mTup (mCons (mVar 2) (mCons (mVar 3) (mCons (mVar 4) (mCons (mOp gMul (mTup (mCons (mTup (mCons (mC (.str "cut")) (mCons (mC (.int 0)) (mCons (mC (.int 0)) (mCons (mTup (mCons (mC (.int 1)) (mCons (mC (.int 2)) (mNil)))) (mCons (mC (.int 1)) (mNil))))))) (mNil))) (mC (.int 13))) (mNil)))))) (mCons (mC (.str "program")) (mNil)))))))
    h4 (by omega) rfl (by
      have g := gAdd_ref (a := R4.length + 4) (b := R4.length + 5) (xs := b1 ++ b2 ++ nb5 P.A P.N Hs (encL P.b) o2 o4) (ys := nb6 P.A P.N Hs B) (μ := X :: C :: H4 :: (R4 ++ [DC.lst (nb5 P.A P.N Hs (encL P.b) o2 o4), DC.lst (b1 ++ b2 ++ nb5 P.A P.N Hs (encL P.b) o2 o4), DC.lst (nb6 P.A P.N Hs B)])) (by simp) (by simp) (by simp [lb1, lb2, nb5, nb6])
      simp [nb6, ct1, -List.reduceReplicate] at g
      simp [E, g, nb6, ct1, -List.reduceReplicate]) (by simp) (by simp [nb6]; omega) (by simp [lb1, lb2, nb5, nb6])
  have o9P : BadP (R4.length + 4) o9 := by
    simp only [List.mem_append] at v9
    rcases v9 with ((v9 | v9) | v9) | v9
    · exact b1P o9 v9 _ (by omega)
    · exact b2P o9 v9 _ (by omega)
    · exact b5P o9 v9
    · exact b6P o9 v9
  have hrest : ∃ U, R4 = rest ++ U := by
    rw [← hR4, ← hR3, ← hR2]
    simp only [List.append_assoc]
    exact ⟨_, rfl⟩
  obtain ⟨U, hU⟩ := hrest
  have hb : b__law_no_program [some (.ref 2), some P.enc, none, none, none, none, none, none, none] (X :: C :: HD :: rest) = .rt o9 (X :: C :: H9 :: (rest ++ (U ++ [DC.lst (nb5 P.A P.N Hs (encL P.b) o2 o4), DC.lst (b1 ++ b2 ++ nb5 P.A P.N Hs (encL P.b) o2 o4)] ++ [.lst (nb6 P.A P.N Hs B), .lst (b1 ++ b2 ++ nb5 P.A P.N Hs (encL P.b) o2 o4 ++ nb6 P.A P.N Hs B)]))) := by
    unfold b__law_no_program
    have k4 : ∀ (m : EM) (i : Nat) (w6 w7 w8 w7' w8' : Option DV) (v : DV) (μ μ' : DM), m (E w6 w7 w8) μ = .ok v μ' → (E w6 w7 w8).set i (some v) = E w6 w7' w8' → i < 9 → sAsg m (tgN i) (E w6 w7 w8) μ = .nx (E w6 w7' w8') μ' := fun m i w6 w7 w8 w7' w8' v μ μ' e1 e2 e3 => by
      rw [x_sAsg, e1, st_ok, x_tgN, if_pos (by simpa [E] using e3), e2]
    rw [sq s1, sq s2, sq s3, sq (k4 _ 7 _ _ _ (some o1) none _ _ _ e1 rfl (by omega)), sq (k4 _ 7 _ _ _ (some o2) none _ _ _ e2 rfl (by omega)), sq (k4 _ 8 _ _ _ (some o2) (some o3) _ _ _ e3 rfl (by omega)), sq (k4 _ 8 _ _ _ (some o2) (some o4) _ _ _ e4 rfl (by omega)), sq s8, x_sRet, e9, st_ok]
    rw [hU]
    simp
  have hlen : (rest ++ U).length = L + 12 := by rw [← hU]; exact lR4
  rw [List.length_append] at hlen
  generalize hW : (U ++ [DC.lst (nb5 P.A P.N Hs (encL P.b) o2 o4), DC.lst (b1 ++ b2 ++ nb5 P.A P.N Hs (encL P.b) o2 o4)] ++ [.lst (nb6 P.A P.N Hs B), .lst (b1 ++ b2 ++ nb5 P.A P.N Hs (encL P.b) o2 o4 ++ nb6 P.A P.N Hs B)]) = W at hb
  have lW : W.length = 16 := by rw [← hW]; simp; omega
  have er : f__law_no_program [.ref 2, P.enc] (X :: C :: HD :: rest) = tidy (X :: C :: HD :: rest) o9 (X :: C :: H9 :: (rest ++ W)) := by
    unfold f__law_no_program runFn
    rw [if_pos (by rfl)]
    show (match b__law_no_program [some (.ref 2), some P.enc, none, none, none, none, none, none, none] (X :: C :: HD :: rest) with | .rt v μ' => tidy (X :: C :: HD :: rest) v μ' | .nx _ μ' => tidy (X :: C :: HD :: rest) .non μ' | .ex e _ μ' => tidyE (X :: C :: HD :: rest) e μ' | _ => .bad) = _
    rw [hb]
  unfold tidy at er
  split at er
  · rename_i ht
    refine ⟨o9, H9, [], ?_, ⟨?_, o9P.2⟩, h9.mono (by omega)⟩
    · rw [er]; simp
    · have := ht.1
      simpa using this
  · exact ⟨o9, H9, W, er, o9P.more (by rw [lR4, lW]; omega), h9.mono (by omega)⟩
end Lw

namespace Lw
open PySem L2 Md
theorem chk {mA : EM} {ρ : DE} {μ : DM} {v : DV} {b : Bool} (h : mA ρ μ = .ok v μ) (hp : f_is_program [v] μ = .ok (.bl b) μ) : mBl (mOp (gIs true) (mCall 1 f_is_program (mCons mA (mNil))) (mC (.bl b))) ρ μ = .ok false μ := by
  simp [h, hp, gIs]
theorem chkF {mA : EM} {ρ : DE} {μ : DM} {v : DV} {b : Bool} (h : mA ρ μ = .ok v μ) (hp : f_is_program [v] μ = .ok (.bl b) μ) : mOp (gIs false) (mCall 1 f_is_program (mCons mA (mNil))) (mC (.bl b)) ρ μ = .ok (.bl true) μ := by
  simp [h, hp, gIs]
theorem prg_closed {v : DV} {b : Bool} (h : isProg v = b) (hp : v.pure = true) (hz : szD v = true) (μ : DM) : f_is_program [v] μ = .ok (.bl b) μ := by
  rw [l_isProg (und_pure _ hp) hz, h]
def sy1 : DV := .tup [.str "ask", .int 0, .int 0, .int 1, .tup [], .tup []]
def wd1 : DV := .tup [.str "rounds", .int 4, .tup (List.replicate 3 ct1)]
def sw1 : DV := .tup [.str "rounds", .int 4, .tup (List.replicate 4 sy1)]
def bo1 : DV := .tup [.str "ask", .int 0, .int 0, .int 1, .tup (List.replicate 12 ct1), .tup (List.replicate 12 ct1)]
def p12 (hs b : List DV) : DV := .tup [.int 1, .int 2, .tup hs, .tup b]
theorem q1 (μ : DM) : f_is_program [p12 [] [wd1]] μ = .ok (.bl true) μ := prg_closed (by decide +kernel) (by decide +kernel) (by decide +kernel) μ
theorem q2 (μ : DM) : f_is_program [p12 [] [wd1, ct1]] μ = .ok (.bl false) μ := prg_closed (by decide +kernel) (by decide +kernel) (by decide +kernel) μ
theorem q3 (μ : DM) : f_is_program [p12 [] [sw1]] μ = .ok (.bl true) μ := prg_closed (by decide +kernel) (by decide +kernel) (by decide +kernel) μ
theorem q4 (μ : DM) : f_is_program [p12 [] [sw1, sy1]] μ = .ok (.bl false) μ := prg_closed (by decide +kernel) (by decide +kernel) (by decide +kernel) μ
theorem q5 (μ : DM) : f_is_program [p12 [] [bo1]] μ = .ok (.bl true) μ := prg_closed (by decide +kernel) (by decide +kernel) (by decide +kernel) μ
theorem q6 (μ : DM) : f_is_program [p12 [] [bo1, ct1]] μ = .ok (.bl false) μ := prg_closed (by decide +kernel) (by decide +kernel) (by decide +kernel) μ
def inD : Nat → DV
  | 0 => .tup []
  | n + 1 => .tup [.tup [.str "there", .int 0, inD n, .tup []]]
theorem q7 (μ : DM) : f_is_program [.tup [.int 1, .int 2, .tup [], inD 4]] μ = .ok (.bl true) μ := prg_closed (by decide +kernel) (by decide +kernel) (by decide +kernel) μ
theorem q8 (μ : DM) : f_is_program [.tup [.int 1, .int 2, .tup [], inD 5]] μ = .ok (.bl false) μ := prg_closed (by decide +kernel) (by decide +kernel) (by decide +kernel) μ
def do1 (k : Int) : DV := .tup [.str "do", .int k]
def gv1 : DV := .tup [.str "give", .int 0, .int 1]
theorem q9 (μ : DM) : f_is_program [p12 [.tup (List.replicate 15 mv1)] (List.replicate 10 (do1 0))] μ = .ok (.bl true) μ := prg_closed (by decide +kernel) (by decide +kernel) (by decide +kernel) μ
theorem q10 (μ : DM) : f_is_program [p12 [.tup (List.replicate 15 mv1)] (List.replicate 10 (do1 0) ++ [gv1])] μ = .ok (.bl false) μ := prg_closed (by decide +kernel) (by decide +kernel) (by decide +kernel) μ
theorem q11 (μ : DM) : f_is_program [p12 [.tup [do1 1], .tup [mv1]] []] μ = .ok (.bl false) μ := prg_closed (by decide +kernel) (by decide +kernel) (by decide +kernel) μ
theorem q12 (μ : DM) : f_is_program [p12 [.tup [mv1], .tup [do1 1]] []] μ = .ok (.bl false) μ := prg_closed (by decide +kernel) (by decide +kernel) (by decide +kernel) μ
theorem q13 (μ : DM) : f_is_program [p12 [.tup [mv1], .tup [do1 0]] [do1 1]] μ = .ok (.bl true) μ := prg_closed (by decide +kernel) (by decide +kernel) (by decide +kernel) μ
end Lw

namespace Lw
open PySem L2 Md
def lE (scr : DV) (v2 v3 v4 v5 v6 v7 v8 v9 v10 v11 v12 v13 v14 v15 v16 : Option DV) : DE := [some scr, some (.ref 2), v2, v3, v4, v5, v6, v7, v8, v9, v10, v11, v12, v13, v14, v15, v16]
theorem bad_loop {P : Pg} {marks most : Nat} {X C : DC} {scr : DV} {v2 v4 v5 v6 v7 v9 v10 v11 v12 v13 v14 v15 v16 : Option DV} {s : Src} (hs : s.2 = none) (hP : P.Drawn marks most) : ∀ (l : List Nat) (n : Nat) (HD : DC) (rest : DM) (v8 : Option DV), HOk n C HD → n + 20 * l.length < 2 ^ 39 →
    ∃ v8' HD' T, sFor.go (tgN 8) b_law_1 s (l.map encN) (lE scr v2 (some P.enc) v4 v5 v6 v7 v8 v9 v10 v11 v12 v13 v14 v15 v16) (X :: C :: HD :: rest) = .nx (lE scr v2 (some P.enc) v4 v5 v6 v7 v8' v9 v10 v11 v12 v13 v14 v15 v16) (X :: C :: HD' :: (rest ++ T)) ∧ HOk (n + 20 * l.length) C HD'
  | [], n, HD, rest, v8, h, _ => ⟨v8, HD, [], by rw [List.map_nil, go_nil (by rw [hs]; rfl), List.append_nil], by simpa using h⟩
  | i :: l, n, HD, rest, v8, h, hn => by
    rw [List.length_cons] at hn
    obtain ⟨v, H1, T1, e1, hb, h1⟩ := l_no_program (X := X) (rest := rest) h (by omega) hP
    obtain ⟨v8', H2, T2, e2, h2⟩ := bad_loop (scr := scr) (v2 := v2) (v4 := v4) (v5 := v5) (v6 := v6) (v7 := v7) (v9 := v9) (v10 := v10) (v11 := v11) (v12 := v12) (v13 := v13) (v14 := v14) (v15 := v15) (v16 := v16) (X := X) hs hP l (n + 20) H1 (rest ++ T1) (some (encN i)) h1 (by omega)
    refine ⟨v8', H2, T1 ++ T2, ?_, h2.mono (by rw [List.length_cons]; omega)⟩
    have ip := l_isProg (v := v) (μ := X :: C :: H1 :: (rest ++ T1)) (by
      have := hb.1
      simpa [Nat.add_assoc] using this) hb.2.1
    rw [hb.2.2] at ip
    have eb : b_law_1 (lE scr v2 (some P.enc) v4 v5 v6 v7 (some (encN i)) v9 v10 v11 v12 v13 v14 v15 v16) (X :: C :: HD :: rest) = .nx (lE scr v2 (some P.enc) v4 v5 v6 v7 (some (encN i)) v9 v10 v11 v12 v13 v14 v15 v16) (X :: C :: H1 :: (rest ++ T1)) := by
      simp [b_law_1, lE, e1, ip, gIs]
    rw [List.map_cons, go_cons (by rw [hs]; rfl) (ρ1 := lE scr v2 (some P.enc) v4 v5 v6 v7 (some (encN i)) v9 v10 v11 v12 v13 v14 v15 v16) rfl eb, e2, List.append_assoc]
theorem if_or2 {t u : BM} {a : SM} {ρ : DE} {μ : DM} (h : t ρ μ = .ok false μ) (h2 : u ρ μ = .ok false μ) : sIf (mOr t u) a sNil ρ μ = .nx ρ μ := by
  rw [x_sIf, x_or, h, DR.bind_ok, if_neg (by decide), h2]; rfl
theorem turn_loop {X C : DC} {scr : DV} {s : Src} (hs : s.2 = none) : ∀ (l : List Nat) (n : Nat) (HD : DC) (rest : DM) (v2 v3 v4 v5 v6 v7 v8 v9 v10 v11 v12 : Option DV), HOk n C HD → n + 95000 * l.length < 2 ^ 36 →
    ∃ v2' v3' v4' v5' v6' v7' v8' v9' v10' v11' v12' HD' T, sFor.go (tgN 2) b_law_2 s (l.map encN) (lE scr v2 v3 v4 v5 v6 v7 v8 v9 v10 v11 v12 none none none none) (X :: C :: HD :: rest) = .nx (lE scr v2' v3' v4' v5' v6' v7' v8' v9' v10' v11' v12' none none none none) (X :: C :: HD' :: (rest ++ T)) ∧ HOk (n + 95000 * l.length) C HD' := by
  intro l
  induction l with
  | nil => intro n HD rest v2 v3 v4 v5 v6 v7 v8 v9 v10 v11 v12 h _; exact ⟨v2, v3, v4, v5, v6, v7, v8, v9, v10, v11, v12, HD, [], by rw [List.map_nil, go_nil (by rw [hs]; rfl), List.append_nil], h.mono (Nat.le_add_right _ _)⟩
  | cons i l ih =>
      intro n HD rest v2 v3 v4 v5 v6 v7 v8 v9 v10 v11 v12 h hn
      rw [List.length_cons, Nat.mul_succ] at hn
      obtain ⟨P, H1, e1, hP, h1⟩ := l_program (X := X) (rest := rest) (marks := 5) (most := 40) h (by omega) (by omega) (by omega)
      have u := P.pure
      have ip := l_isProg (v := P.enc) (μ := X :: C :: H1 :: rest) (und_pure _ u) (Pg.szD hP.ok)
      rw [hP.prog (by omega)] at ip
      have encP : P.enc = .tup [.int P.A, .int P.N, hsE P.hs, .tup (encL P.b)] := rfl
      have hbnd : n + 90000 + 20 * (List.range 4).length < 2 ^ 39 := by
        have e4 : (List.range 4).length = 4 := List.length_range
        rw [e4]
        exact Nat.lt_of_le_of_lt (m := n + (95000 * l.length + 95000)) (by rw [Nat.add_assoc]; exact Nat.add_le_add_left (Nat.le_trans (by decide) (Nat.le_add_left _ _)) n) (Nat.lt_of_lt_of_le hn (by decide))
      obtain ⟨v8', H2, T1, e2, h2⟩ := bad_loop (X := X) (scr := scr) (v2 := some (encN i)) (v4 := some (.int P.A)) (v5 := some (.int P.N)) (v6 := some (hsE P.hs)) (v7 := some (.tup (encL P.b))) (v9 := v9) (v10 := v10) (v11 := v11) (v12 := v12) (v13 := none) (v14 := none) (v15 := none) (v16 := none) (s := ((List.range 4).map encN, none)) rfl hP (List.range 4) (n + 90000) H1 rest v8 h1 hbnd
      have h2' : HOk (n + 95000) C H2 := h2.mono (by rw [List.length_range, Nat.add_assoc]; exact Nat.add_le_add_left (by decide) n)
      let ρ4 : DE := lE scr (some (encN i)) (some P.enc) (some (.int P.A)) (some (.int P.N)) (some (hsE P.hs)) (some (.tup (encL P.b))) v8' (some ct1) (some sy1) v11 v12 none none none none
      let ρ5 : DE := lE scr (some (encN i)) (some P.enc) (some (.int P.A)) (some (.int P.N)) (some (hsE P.hs)) (some (.tup (encL P.b))) v8' (some ct1) (some sy1) (some wd1) v12 none none none none
      let ρ8 : DE := lE scr (some (encN i)) (some P.enc) (some (.int P.A)) (some (.int P.N)) (some (hsE P.hs)) (some (.tup (encL P.b))) v8' (some ct1) (some sy1) (some wd1) (some bo1) none none none none
      have body : b_law_2 (lE scr (some (encN i)) v3 v4 v5 v6 v7 v8 v9 v10 v11 v12 none none none none) (X :: C :: HD :: rest) = .nx ρ8 (X :: C :: H2 :: (rest ++ T1)) := by
        unfold b_law_2
        generalize hμ : X :: C :: H2 :: (rest ++ T1) = μ at e2
        rw [sq (ρ' := lE scr (some (encN i)) (some P.enc) v4 v5 v6 v7 v8 v9 v10 v11 v12 none none none none) (μ' := X :: C :: H1 :: rest) (by
            have e1' : f__law_program [.ref 2, .int 5, .int 40] (X :: C :: HD :: rest) = .ok P.enc (X :: C :: H1 :: rest) := e1
            simp [lE, e1']),
          sq (ρ' := lE scr (some (encN i)) (some P.enc) (some (.int P.A)) (some (.int P.N)) (some (hsE P.hs)) (some (.tup (encL P.b))) v8 v9 v10 v11 v12 none none none none) (μ' := X :: C :: H1 :: rest) (by
            rw [x_sAsg, x_var (v := P.enc) rfl, st_ok, encP]; rfl),
          sq (ρ' := lE scr (some (encN i)) (some P.enc) (some (.int P.A)) (some (.int P.N)) (some (hsE P.hs)) (some (.tup (encL P.b))) v8 v9 v10 v11 v12 none none none none) (μ' := X :: C :: H1 :: rest) (by
            rw [sIf_f (chk (x_var (v := P.enc) rfl) ip)]; rfl),
          sq (ρ' := lE scr (some (encN i)) (some P.enc) (some (.int P.A)) (some (.int P.N)) (some (hsE P.hs)) (some (.tup (encL P.b))) v8' v9 v10 v11 v12 none none none none) (μ' := μ) (by
            rw [x_for, x_rgI (N := 4) rfl (by omega), st_ok]; exact e2),
          sq (ρ' := ρ4) (μ' := μ) (by simp [lE, ρ4, ct1, sy1]),
          sq (ρ' := ρ5) (μ' := μ) (by simp [lE, ρ4, ρ5, wd1, ct1, -List.reduceReplicate]),
          sq (ρ' := ρ5) (μ' := μ) (if_or2 (chk (v := p12 [] [wd1]) (by simp [lE, ρ5, p12]) (q1 μ)) (chk (v := p12 [] [wd1, ct1]) (by simp [lE, ρ5, p12]) (q2 μ))),
          sq (ρ' := ρ5) (μ' := μ) (if_or2 (chk (v := p12 [] [sw1]) (by simp [lE, ρ5, p12, sw1, -List.reduceReplicate]) (q3 μ)) (chk (v := p12 [] [sw1, sy1]) (by simp [lE, ρ5, p12, sw1, -List.reduceReplicate]) (q4 μ))),
          sq (ρ' := ρ8) (μ' := μ) (by simp [lE, ρ5, ρ8, bo1, -List.reduceReplicate])]
        exact if_or2 (chk (v := p12 [] [bo1]) (by simp [lE, ρ8, p12]) (q5 μ)) (chk (v := p12 [] [bo1, ct1]) (by simp [lE, ρ8, p12]) (q6 μ))
      obtain ⟨v2', v3', v4', v5', v6', v7', v8'', v9', v10', v11', v12', HD', T2, e3, h3⟩ := ih (n + 95000) H2 (rest ++ T1) (some (encN i)) (some P.enc) (some (.int P.A)) (some (.int P.N)) (some (hsE P.hs)) (some (.tup (encL P.b))) v8' (some ct1) (some sy1) (some wd1) (some bo1) h2' (by rw [Nat.add_assoc, Nat.add_comm 95000]; exact hn)
      refine ⟨v2', v3', v4', v5', v6', v7', v8'', v9', v10', v11', v12', HD', T1 ++ T2, ?_, h3.mono (by rw [List.length_cons, Nat.mul_succ, Nat.add_assoc, Nat.add_comm 95000]; exact Nat.le_refl _)⟩
      rw [List.map_cons, go_cons (by rw [hs]; rfl) (ρ1 := lE scr (some (encN i)) v3 v4 v5 v6 v7 v8 v9 v10 v11 v12 none none none none) rfl body, e3, List.append_assoc]
theorem in_loop {scr : DV} {v2 v3 v4 v5 v6 v7 v8 v9 v10 v11 v12 : Option DV} {s : Src} {μ : DM} (hs : s.2 = none) : ∀ (l : List Nat) (k : Nat) (v14 : Option DV), ∃ v14', sFor.go (tgN 14) b_law_3 s (l.map encN) (lE scr v2 v3 v4 v5 v6 v7 v8 v9 v10 v11 v12 (some (inD k)) v14 none none) μ = .nx (lE scr v2 v3 v4 v5 v6 v7 v8 v9 v10 v11 v12 (some (inD (k + l.length))) v14' none none) μ
  | [], k, v14 => ⟨v14, by rw [List.map_nil, go_nil (by rw [hs]; rfl)]; rfl⟩
  | i :: l, k, v14 => by
    obtain ⟨v14', e⟩ := in_loop (scr := scr) (v2 := v2) (v3 := v3) (v4 := v4) (v5 := v5) (v6 := v6) (v7 := v7) (v8 := v8) (v9 := v9) (v10 := v10) (v11 := v11) (v12 := v12) (μ := μ) hs l (k + 1) (some (encN i))
    refine ⟨v14', ?_⟩
    have eb : b_law_3 (lE scr v2 v3 v4 v5 v6 v7 v8 v9 v10 v11 v12 (some (inD k)) (some (encN i)) none none) μ = .nx (lE scr v2 v3 v4 v5 v6 v7 v8 v9 v10 v11 v12 (some (inD (k + 1))) (some (encN i)) none none) μ := by
      simp [b_law_3, lE, inD]
    rw [List.map_cons, go_cons (by rw [hs]; rfl) (ρ1 := lE scr v2 v3 v4 v5 v6 v7 v8 v9 v10 v11 v12 (some (inD k)) (some (encN i)) none none) rfl eb, e, List.length_cons, show k + 1 + l.length = k + (l.length + 1) by omega]
theorem law_true : ∀ ns : List Int, ns.length ≤ 63 → ∃ μ, f_law [.kl (ns.map .int)] [] = .ok (.bl true) μ := by
  intro ns hns
  obtain ⟨X, C, HD, e0, h0⟩ := l_hand hns
  obtain ⟨v2, v3, v4, v5, v6, v7, v8, v9, v10, v11, v12, HD', T, e1, h1⟩ := turn_loop (X := X) (scr := .kl (ns.map .int)) (s := ((List.range 8).map encN, none)) rfl (List.range 8) 0 HD [] none none none none none none none none none none none h0 (by rw [List.length_range]; decide)
  generalize hμ : X :: C :: HD' :: ([] ++ T) = μ at e1
  obtain ⟨v14, e2⟩ := in_loop (scr := .kl (ns.map .int)) (v2 := v2) (v3 := v3) (v4 := v4) (v5 := v5) (v6 := v6) (v7 := v7) (v8 := v8) (v9 := v9) (v10 := v10) (v11 := v11) (v12 := v12) (μ := μ) (s := ((List.range 4).map encN, none)) rfl (List.range 4) 0 none
  let scr : DV := .kl (ns.map .int)
  let ρ5 : DE := lE scr v2 v3 v4 v5 v6 v7 v8 v9 v10 v11 v12 (some (inD 4)) v14 (some (.tup (List.replicate 15 mv1))) none
  let ρ7 : DE := lE scr v2 v3 v4 v5 v6 v7 v8 v9 v10 v11 v12 (some (inD 4)) v14 (some (.tup (List.replicate 15 mv1))) (some (.tup [.tup [do1 1], .tup [mv1]]))
  have body : b_law (lE scr none none none none none none none none none none none none none none none |>.set 1 none) [] = .rt (.bl true) μ := by
    unfold b_law
    rw [sq (ρ' := lE scr none none none none none none none none none none none none none none none) (μ' := [X, C, HD]) (by simp [lE, scr, e0]),
      sq (ρ' := lE scr v2 v3 v4 v5 v6 v7 v8 v9 v10 v11 v12 none none none none) (μ' := μ) (by
        rw [x_for, x_rgI (N := 8) rfl (by omega), st_ok]; exact e1),
      sq (ρ' := lE scr v2 v3 v4 v5 v6 v7 v8 v9 v10 v11 v12 (some (inD 0)) none none none) (μ' := μ) (by simp [lE, inD]),
      sq (ρ' := lE scr v2 v3 v4 v5 v6 v7 v8 v9 v10 v11 v12 (some (inD 4)) v14 none none) (μ' := μ) (by
        rw [x_for, x_rgI (N := 4) rfl (by omega), st_ok]; exact e2),
      sq (ρ' := lE scr v2 v3 v4 v5 v6 v7 v8 v9 v10 v11 v12 (some (inD 4)) v14 none none) (μ' := μ) (if_or2 (chk (v := .tup [.int 1, .int 2, .tup [], inD 4]) (by simp [lE]) (q7 μ)) (chk (v := .tup [.int 1, .int 2, .tup [], inD 5]) (by simp [lE, inD]) (q8 μ))),
      sq (ρ' := ρ5) (μ' := μ) (by simp [lE, ρ5, mv1, -List.reduceReplicate]),
      sq (ρ' := ρ5) (μ' := μ) (if_or2 (chk (v := p12 [.tup (List.replicate 15 mv1)] (List.replicate 10 (do1 0))) (by simp [lE, ρ5, p12, do1, -List.reduceReplicate]) (q9 μ)) (chk (v := p12 [.tup (List.replicate 15 mv1)] (List.replicate 10 (do1 0) ++ [gv1])) (by simp [lE, ρ5, p12, do1, gv1, -List.reduceReplicate]) (q10 μ))),
      sq (ρ' := ρ7) (μ' := μ) (by simp [lE, ρ5, ρ7, mv1, do1])]
    have r1 := chkF (mA := mTup (mCons (mC (.int 1)) (mCons (mC (.int 2)) (mCons (mVar 16) (mCons (mTup (mNil)) (mNil)))))) (ρ := ρ7) (v := p12 [.tup [do1 1], .tup [mv1]] []) (by simp [lE, ρ7, p12]) (q11 μ)
    have r2 := chkF (mA := mTup (mCons (mC (.int 1)) (mCons (mC (.int 2)) (mCons (mRev (mVar 16)) (mCons (mTup (mNil)) (mNil)))))) (ρ := ρ7) (v := p12 [.tup [mv1], .tup [do1 1]] []) (by simp [lE, ρ7, p12]) (q12 μ)
    have r3 := chkF (mA := mTup (mCons (mC (.int 1)) (mCons (mC (.int 2)) (mCons (mTup (mCons (mOp gIx (mVar 16) (mC (.int 1))) (mCons (mTup (mCons (mTup (mCons (mC (.str "do")) (mCons (mC (.int 0)) (mNil)))) (mNil))) (mNil)))) (mCons (mTup (mCons (mTup (mCons (mC (.str "do")) (mCons (mC (.int 1)) (mNil)))) (mNil))) (mNil)))))) (ρ := ρ7) (v := p12 [.tup [mv1], .tup [do1 0]] [do1 1]) (by simp [lE, ρ7, p12, do1]) (q13 μ)
    rw [x_sRet, x_andV, x_bl, r1, DR.bind_ok, asBl_bl, DR.bind_ok, if_pos rfl, x_andV, x_bl, r2, DR.bind_ok, asBl_bl, DR.bind_ok, if_pos rfl, r3, st_ok]
  have body' : b_law (List.map some [DV.kl (ns.map .int)] ++ List.replicate (17 - 1) none) [] = .rt (.bl true) μ := body
  have e3 : f_law [.kl (ns.map .int)] [] = tidy [] (.bl true) μ := by
    unfold f_law runFn
    rw [if_pos (by rfl), body']
  rw [e3]
  unfold tidy
  split
  · exact ⟨_, rfl⟩
  · exact ⟨_, rfl⟩
end Lw

/-! ## that the code does so, printed by gen.py -/
namespace Lw
open PySem L2 Md
def top (i : Nat) : Stmt := PySem.Challenge.pw_sharespromised_k06_programs_judged.main.body.getD i (.Pass ⟨0, 0, 0, 0⟩)
def within (s : Stmt) (j : Nat) : Stmt := match s with
  | .ClassDef _ _ _ body _ _ _ _ _ _ _ => body.getD j (.Pass ⟨0, 0, 0, 0⟩)
  | _ => .Pass ⟨0, 0, 0, 0⟩
abbrev s_is_integer : Stmt := top 2
abbrev s_is_between : Stmt := top 3
abbrev s_is_tuple_of : Stmt := top 4
abbrev s_is_fraction : Stmt := top 5
abbrev s_is_share : Stmt := top 6
abbrev s_blocks_in : Stmt := top 21
abbrev s_Sizes_size : Stmt := within (top 22) 1
abbrev s_Sizes_size_of : Stmt := within (top 22) 2
abbrev s_Judge_are_pieces : Stmt := within (top 20) 4
abbrev s_Judge_is_part : Stmt := within (top 20) 3
abbrev s_Judge_is_block : Stmt := within (top 20) 1
abbrev s_Judge_is_statement : Stmt := within (top 20) 2
abbrev s_Sizes___init__ : Stmt := within (top 22) 0
abbrev s_Judge___init__ : Stmt := within (top 20) 0
abbrev s_is_program : Stmt := top 23
abbrev s__law_hand : Stmt := top 25
abbrev s__law_draw : Stmt := top 26
abbrev s__law_some : Stmt := top 27
abbrev s__law_mixed : Stmt := top 28
abbrev s__law_part : Stmt := top 29
abbrev s__law_plus : Stmt := top 30
abbrev s__law_times : Stmt := top 31
abbrev s__law_less : Stmt := top 32
abbrev s__law_ahead : Stmt := top 33
abbrev s__law_joined : Stmt := top 34
abbrev s__law_cut : Stmt := top 35
abbrev s__law_share : Stmt := top 36
abbrev s__law_plain : Stmt := top 37
abbrev s__law_statement : Stmt := top 38
abbrev s__law_block : Stmt := top 39
abbrev s__law_out : Stmt := top 40
abbrev s__law_told : Stmt := top 41
abbrev s__law_yard : Stmt := top 42
abbrev s__law_on : Stmt := top 43
abbrev s__law_answered : Stmt := top 44
abbrev s__law_copy : Stmt := top 45
abbrev s__law_options : Stmt := top 46
abbrev s__law_by : Stmt := top 47
abbrev s__law_ways : Stmt := top 48
abbrev s__law_counts : Stmt := top 49
abbrev s__law_program : Stmt := top 50
abbrev s__law_no_program : Stmt := top 51
abbrev s_law : Stmt := top 52
structure Txt (mg : Str → Option Value) : Prop where
  b_abs : mg "abs" = none
  b_all : mg "all" = none
  b_bool : mg "bool" = none
  b_enumerate : mg "enumerate" = none
  b_int : mg "int" = none
  b_isinstance : mg "isinstance" = none
  b_len : mg "len" = none
  b_list : mg "list" = none
  b_max : mg "max" = none
  b_range : mg "range" = none
  b_sorted : mg "sorted" = none
  b_str : mg "str" = none
  b_sum : mg "sum" = none
  b_tuple : mg "tuple" = none
  b_zip : mg "zip" = none
  b_gcd : mg "gcd" = some (.builtin "math.gcd")
section
variable {P : Program} {w : World} {K : PySem.W.Frag} {mg : Str → Option Value} {base : Heap} {xt : String → Option Addr}
abbrev ns_is_integer : List Str := ["thing"]
theorem sc_is_integer : FnScope ["thing"] ["thing"] (defScope s_is_integer) := ⟨rfl, rfl, rfl, by decide +kernel, rfl, by decide +kernel, by decide +kernel⟩

theorem c_is_integer (T : Txt mg) (A : At K mg "is_integer" s_is_integer)  : Cal P w K mg base xt "is_integer" (1) 1 f_is_integer :=
  A.cal sc_is_integer (fun _ _ _ _ _ _ us hl => match us, hl with | [_], _ => rfl) rfl fun f cdv A' outer s H E hr tk po =>
    ss_one (s_ret (d_and (d_isi (T := "int") (by decide) T.b_isinstance T.b_int (d_var 0)) (d_one (d_not (d_isi (T := "bool") (by decide) T.b_isinstance T.b_bool (d_var 0))))))

abbrev ns_is_between : List Str := ["thing", "least", "greatest"]
theorem sc_is_between : FnScope ["thing", "least", "greatest"] ["thing", "least", "greatest"] (defScope s_is_between) := ⟨rfl, rfl, rfl, by decide +kernel, rfl, by decide +kernel, by decide +kernel⟩

theorem c_is_between (T : Txt mg) (A : At K mg "is_between" s_is_between) (c_is_integer : Cal P w K mg base xt "is_integer" (1) 1 f_is_integer) : Cal P w K mg base xt "is_between" (2) 3 f_is_between :=
  A.cal sc_is_between (fun _ _ _ _ _ _ us hl => match us, hl with | [_, _, _], _ => rfl) rfl fun f cdv A' outer s H E hr tk po =>
    ss_one (s_ret (d_and (d_fn c_is_integer hr tk (d_acons (d_var 0) (d_anil))) (d_one (d_chain o_le o_le (d_var 1) (d_var 0) (d_var 2)))))

abbrev ns_is_tuple_of : List Str := ["thing", "many"]
theorem sc_is_tuple_of : FnScope ["thing", "many"] ["thing", "many"] (defScope s_is_tuple_of) := ⟨rfl, rfl, rfl, by decide +kernel, rfl, by decide +kernel, by decide +kernel⟩

theorem c_is_tuple_of (T : Txt mg) (A : At K mg "is_tuple_of" s_is_tuple_of)  : Cal P w K mg base xt "is_tuple_of" (1) 2 f_is_tuple_of :=
  A.cal sc_is_tuple_of (fun _ _ _ _ _ _ us hl => match us, hl with | [_, _], _ => rfl) rfl fun f cdv A' outer s H E hr tk po =>
    ss_one (s_ret (d_and (d_isi (T := "tuple") (by decide) T.b_isinstance T.b_tuple (d_var 0)) (d_one (d_cmp (o_eq hr.units) (d_len T.b_len (d_var 0)) (d_var 1) (nomark _)))))

abbrev ns_is_fraction : List Str := ["thing", "part"]
theorem sc_is_fraction : FnScope ["thing", "part"] ["thing"] (defScope s_is_fraction) := ⟨rfl, rfl, rfl, by decide +kernel, rfl, by decide +kernel, by decide +kernel⟩

theorem c_is_fraction (T : Txt mg) (A : At K mg "is_fraction" s_is_fraction) (c_is_tuple_of : Cal P w K mg base xt "is_tuple_of" (1) 2 f_is_tuple_of) (c_is_integer : Cal P w K mg base xt "is_integer" (1) 1 f_is_integer) : Cal P w K mg base xt "is_fraction" (2) 1 f_is_fraction :=
  A.cal sc_is_fraction (fun _ _ _ _ _ _ us hl => match us, hl with | [_], _ => rfl) rfl fun f cdv A' outer s H E hr tk po =>
    ss_cons (s_if (t_w (w_or (t_not (t_tru (d_fn c_is_tuple_of hr tk (d_acons (d_var 0) (d_acons (d_int) (d_anil)))))) (w_or1 (t_not (t_tru (d_b1F (cr_all rfl) lf_all (hm := T.b_all) (h := d_lc rfl sc_is_fraction.nd (i_seq (d_var 0)) (blkOk_at (own := [("part", 1)]) (N := ns_is_fraction) (sc := defScope s_is_fraction) rfl rfl (by decide +kernel)) (by decide) (fun _ _ _ _ _ => g_name 1 sc_is_fraction.nd) (fun _ _ _ _ _ => q_nil) (fun _ _ _ _ _ => d_fn c_is_integer hr takes0 (d_acons (d_var 1) (d_anil)))))))))) (ss_one (s_ret (d_bl))) (ss_nil)) <|
    ss_one (s_ret (d_and (d_cmp o_gt (d_ix (d_var 0) (d_int)) (d_int) (nomark _)) (d_one (d_cmp (o_eq hr.units) (d_gcd T.b_gcd (d_abs T.b_abs (d_ix (d_var 0) (d_int))) (d_ix (d_var 0) (d_int))) (d_int) (nomark _)))))

abbrev ns_is_share : List Str := ["thing"]
theorem sc_is_share : FnScope ["thing"] ["thing"] (defScope s_is_share) := ⟨rfl, rfl, rfl, by decide +kernel, rfl, by decide +kernel, by decide +kernel⟩

theorem c_is_share (T : Txt mg) (A : At K mg "is_share" s_is_share) (c_is_fraction : Cal P w K mg base xt "is_fraction" (2) 1 f_is_fraction) : Cal P w K mg base xt "is_share" (3) 1 f_is_share :=
  A.cal sc_is_share (fun _ _ _ _ _ _ us hl => match us, hl with | [_], _ => rfl) rfl fun f cdv A' outer s H E hr tk po =>
    ss_one (s_ret (d_and (d_fn c_is_fraction hr tk (d_acons (d_var 0) (d_anil))) (d_one (d_chain o_le o_le (d_int) (d_ix (d_var 0) (d_int)) (d_ix (d_var 0) (d_int))))))

abbrev ns_blocks_in : List Str := ["here", "one", "sort"]
theorem sc_blocks_in : FnScope ["here", "one", "sort"] ["here"] (defScope s_blocks_in) := ⟨rfl, rfl, rfl, by decide +kernel, rfl, by decide +kernel, by decide +kernel⟩

theorem c_blocks_in (T : Txt mg) (A : At K mg "blocks_in" s_blocks_in) (k_FORMS : KDc K w mg "FORMS" kd_FORMS) : Cal P w K mg base xt "blocks_in" (1) 1 f_blocks_in :=
  A.cal sc_blocks_in (fun _ _ _ _ _ _ us hl => match us, hl with | [_], _ => rfl) rfl fun f cdv A' outer s H E hr tk po =>
    ss_one (s_ret (d_keep (d_lc rfl sc_blocks_in.nd (i_zipS T.b_zip (d_kget k_FORMS (d_ix (d_var 0) (d_int))) (d_slice (d_var 0) (p_some (d_int)) (p_none))) (blkOk_at (own := [("sort", 2), ("one", 1)]) (N := ns_blocks_in) (sc := defScope s_blocks_in) rfl rfl (by decide +kernel)) (by decide) (fun _ _ _ _ _ => g_tup rfl (g_cons (g_name 2 sc_blocks_in.nd) (g_cons (g_name 1 sc_blocks_in.nd) (g_nil)))) (fun _ _ _ _ _ => q_one (t_cmp (o_eq hr.units) (d_var 2) (d_str "b") (nomark _))) (fun _ _ _ _ _ => d_var 1))))

abbrev ns_Sizes_size : List Str := ["self", "block", "told", "marks", "said", "here", "more"]
theorem sc_Sizes_size : FnScope ["self", "block", "told", "marks", "said", "here", "more"] ["self", "block"] (defScope s_Sizes_size) := ⟨rfl, rfl, rfl, by decide +kernel, rfl, by decide +kernel, by decide +kernel⟩

abbrev ns_Sizes_size_of : List Str := ["self", "here", "inner", "told", "marks", "block", "part"]
theorem sc_Sizes_size_of : FnScope ["self", "here", "inner", "told", "marks", "block", "part"] ["self", "here"] (defScope s_Sizes_size_of) := ⟨rfl, rfl, rfl, by decide +kernel, rfl, by decide +kernel, by decide +kernel⟩

theorem g_Sizes_size (T : Txt mg) (A_Sizes_size : AtM K "Sizes" "size" "Sizes.size" s_Sizes_size) (A_Sizes_size_of : AtM K "Sizes" "size_of" "Sizes.size_of" s_Sizes_size_of) (k_MARKS : Con' K mg "MARKS" (.tup [.str "cut", .str "part", .str "like"])) (k_SAID : Con' K mg "SAID" (.tup [.str "best", .str "ask", .str "over"])) (c_blocks_in : Cal P w K mg base xt "blocks_in" (1) 1 f_blocks_in) : ∀ n : Nat, (CalM P w K mg base xt "Sizes" "size" (2 + n) 2 (f_Sizes_size_n n)) ∧ (CalM P w K mg base xt "Sizes" "size_of" (2 + n) 2 (f_Sizes_size_of_n n))
  | 0 => ⟨A_Sizes_size.bad (ps := ["self", "block"]) (fun _ _ _ _ _ _ us hl => match us, hl with | [_, _], _ => rfl) rfl, A_Sizes_size_of.bad (ps := ["self", "here"]) (fun _ _ _ _ _ _ us hl => match us, hl with | [_, _], _ => rfl) rfl⟩
  | n + 1 =>
    have ih := g_Sizes_size T A_Sizes_size A_Sizes_size_of k_MARKS k_SAID c_blocks_in n
    have cr_Sizes_size := ih.1
    have cr_Sizes_size_of := ih.2
    ⟨A_Sizes_size.cal sc_Sizes_size (fun _ _ _ _ _ _ us hl => match us, hl with | [_, _], _ => rfl) rfl fun f cdv A' outer s H E hr tk po =>
    ss_cons (s_asg (d_tup (d_acons (d_int) (d_acons (d_int) (d_acons (d_int) (d_anil))))) (g_tup rfl (g_cons (g_name 2 sc_Sizes_size.nd) (g_cons (g_name 3 sc_Sizes_size.nd) (g_cons (g_name 4 sc_Sizes_size.nd) (g_nil)))))) <|
    ss_cons (s_for po rfl (i_seq (d_var 1)) (g_name 5 sc_Sizes_size.nd) (ss_cons (s_set 6 sc_Sizes_size.nd (d_meth cr_Sizes_size_of hr (d_var 0) (d_acons (d_var 5) (d_anil)) (Nat.le_refl _))) <|
    ss_one (s_par3 rfl sc_Sizes_size.nd (by decide) (by decide) (by decide) (d_acons (d_bin o_add (d_var 2) (d_ix (d_var 6) (d_int))) (d_acons (d_bin o_add (d_var 3) (d_ix (d_var 6) (d_int))) (d_acons (d_bin o_add (d_var 4) (d_ix (d_var 6) (d_int))) (d_anil)))) (i := 2) (j := 3) (k := 4)))) <|
    ss_one (s_ret (d_tup (d_acons (d_var 2) (d_acons (d_var 3) (d_acons (d_var 4) (d_anil)))))),
    A_Sizes_size_of.cal sc_Sizes_size_of (fun _ _ _ _ _ _ us hl => match us, hl with | [_, _], _ => rfl) rfl fun f cdv A' outer s H E hr tk po =>
    ss_cons (s_if (t_cmp (o_eq hr.units) (d_ix (d_var 1) (d_int)) (d_str "do") (nomark _)) (ss_one (s_ret (d_ix (d_fld "helps" (d_var 0)) (d_ix (d_var 1) (d_int))))) (ss_nil)) <|
    ss_cons (s_if (t_cmp (o_eq hr.units) (d_ix (d_var 1) (d_int)) (d_str "rounds") (nomark _)) (ss_one (s_ret (d_tupF T.b_tuple (d_lc rfl sc_Sizes_size_of.nd (i_seq (d_meth cr_Sizes_size hr (d_var 0) (d_acons (d_ix (d_var 1) (d_int)) (d_anil)) (Nat.le_refl _))) (blkOk_at (own := [("part", 6)]) (N := ns_Sizes_size_of) (sc := defScope s_Sizes_size_of) rfl rfl (by decide +kernel)) (by decide) (fun _ _ _ _ _ => g_name 6 sc_Sizes_size_of.nd) (fun _ _ _ _ _ => q_nil) (fun _ _ _ _ _ => d_bin o_mul (d_ix (d_var 1) (d_int)) (d_var 6)))))) (ss_nil)) <|
    ss_cons (s_setLc rfl sc_Sizes_size_of.nd rfl rfl (sw_true rfl rfl rfl (by decide +kernel)) (i_seq (d_fn c_blocks_in hr tk (d_acons (d_var 1) (d_anil)) (Nat.le_trans (by decide) (Nat.le_add_right 2 n)))) (blkOk_at (own := [("block", 5)]) (N := ns_Sizes_size_of) (sc := defScope s_Sizes_size_of) rfl rfl (by decide +kernel)) (by decide) (fun _ _ _ _ _ => g_name 5 sc_Sizes_size_of.nd) (fun _ _ _ _ _ => q_nil) (fun _ _ _ _ _ => d_meth cr_Sizes_size hr (d_var 0) (d_acons (d_var 5) (d_anil)) (Nat.le_refl _))) <|
    ss_cons (s_set 3 sc_Sizes_size_of.nd (d_bin o_add (d_int) (d_b1F (cr_sum rfl) lf_sum (hm := T.b_sum) (h := d_lc rfl sc_Sizes_size_of.nd (i_seq (d_var 2)) (blkOk_at (own := [("part", 6)]) (N := ns_Sizes_size_of) (sc := defScope s_Sizes_size_of) rfl rfl (by decide +kernel)) (by decide) (fun _ _ _ _ _ => g_name 6 sc_Sizes_size_of.nd) (fun _ _ _ _ _ => q_nil) (fun _ _ _ _ _ => d_ix (d_var 6) (d_int)))))) <|
    ss_cons (s_set 4 sc_Sizes_size_of.nd (d_bin o_add (d_b1 (cr_max rfl) lf_max (hm := T.b_max) (hv := by decide +kernel) (h := d_bin o_add (d_keep (d_lc rfl sc_Sizes_size_of.nd (i_seq (d_var 2)) (blkOk_at (own := [("part", 6)]) (N := ns_Sizes_size_of) (sc := defScope s_Sizes_size_of) rfl rfl (by decide +kernel)) (by decide) (fun _ _ _ _ _ => g_name 6 sc_Sizes_size_of.nd) (fun _ _ _ _ _ => q_nil) (fun _ _ _ _ _ => d_ix (d_var 6) (d_int)))) (d_keep (d_lstF (d_acons (d_int) (d_anil)))))) (d_if (t_cmp (o_inX (Room.u65 hr)) (d_ix (d_var 1) (d_int)) (d_con k_MARKS) (by rfl)) (d_int) (d_int)))) <|
    ss_one (s_ret (d_tup (d_acons (d_var 3) (d_acons (d_var 4) (d_acons (d_bin o_add (d_b1 (cr_max rfl) lf_max (hm := T.b_max) (hv := by decide +kernel) (h := d_bin o_add (d_keep (d_lc rfl sc_Sizes_size_of.nd (i_seq (d_var 2)) (blkOk_at (own := [("part", 6)]) (N := ns_Sizes_size_of) (sc := defScope s_Sizes_size_of) rfl rfl (by decide +kernel)) (by decide) (fun _ _ _ _ _ => g_name 6 sc_Sizes_size_of.nd) (fun _ _ _ _ _ => q_nil) (fun _ _ _ _ _ => d_ix (d_var 6) (d_int)))) (d_keep (d_lstF (d_acons (d_int) (d_anil)))))) (d_if (t_cmp (o_inX (Room.u65 hr)) (d_ix (d_var 1) (d_int)) (d_con k_SAID) (by rfl)) (d_int) (d_int))) (d_anil))))))⟩
theorem c_Sizes_size (T : Txt mg) (A_Sizes_size : AtM K "Sizes" "size" "Sizes.size" s_Sizes_size) (A_Sizes_size_of : AtM K "Sizes" "size_of" "Sizes.size_of" s_Sizes_size_of) (k_MARKS : Con' K mg "MARKS" (.tup [.str "cut", .str "part", .str "like"])) (k_SAID : Con' K mg "SAID" (.tup [.str "best", .str "ask", .str "over"])) (c_blocks_in : Cal P w K mg base xt "blocks_in" (1) 1 f_blocks_in) : CalM P w K mg base xt "Sizes" "size" (26) 2 f_Sizes_size := (g_Sizes_size T A_Sizes_size A_Sizes_size_of k_MARKS k_SAID c_blocks_in 24).1
theorem c_Sizes_size_of (T : Txt mg) (A_Sizes_size : AtM K "Sizes" "size" "Sizes.size" s_Sizes_size) (A_Sizes_size_of : AtM K "Sizes" "size_of" "Sizes.size_of" s_Sizes_size_of) (k_MARKS : Con' K mg "MARKS" (.tup [.str "cut", .str "part", .str "like"])) (k_SAID : Con' K mg "SAID" (.tup [.str "best", .str "ask", .str "over"])) (c_blocks_in : Cal P w K mg base xt "blocks_in" (1) 1 f_blocks_in) : CalM P w K mg base xt "Sizes" "size_of" (26) 2 f_Sizes_size_of := (g_Sizes_size T A_Sizes_size A_Sizes_size_of k_MARKS k_SAID c_blocks_in 24).2

abbrev ns_Judge_are_pieces : List Str := ["self", "thing", "at", "one"]
theorem sc_Judge_are_pieces : FnScope ["self", "thing", "at", "one"] ["self", "thing"] (defScope s_Judge_are_pieces) := ⟨rfl, rfl, rfl, by decide +kernel, rfl, by decide +kernel, by decide +kernel⟩

theorem c_Judge_are_pieces (T : Txt mg) (A : AtM K "Judge" "are_pieces" "Judge.are_pieces" s_Judge_are_pieces) (c_is_between : Cal P w K mg base xt "is_between" (2) 3 f_is_between) : CalM P w K mg base xt "Judge" "are_pieces" (3) 2 f_Judge_are_pieces :=
  A.cal sc_Judge_are_pieces (fun _ _ _ _ _ _ us hl => match us, hl with | [_, _], _ => rfl) rfl fun f cdv A' outer s H E hr tk po =>
    ss_cons (s_if (t_w (w_or (t_not (t_tru (d_isi (T := "tuple") (by decide) T.b_isinstance T.b_tuple (d_var 1)))) (w_or1 (t_not (t_tru (d_b1F (cr_all rfl) lf_all (hm := T.b_all) (h := d_lc rfl sc_Judge_are_pieces.nd (i_seq (d_var 1)) (blkOk_at (own := [("one", 3)]) (N := ns_Judge_are_pieces) (sc := defScope s_Judge_are_pieces) rfl rfl (by decide +kernel)) (by decide) (fun _ _ _ _ _ => g_name 3 sc_Judge_are_pieces.nd) (fun _ _ _ _ _ => q_nil) (fun _ _ _ _ _ => d_fn c_is_between hr takes0 (d_acons (d_var 3) (d_acons (d_int) (d_acons (d_bin o_sub (d_fld "pieces" (d_var 0)) (d_int)) (d_anil)))))))))))) (ss_one (s_ret (d_bl))) (ss_nil)) <|
    ss_one (s_ret (d_and (d_cmp o_gt (d_len T.b_len (d_var 1)) (d_int) (nomark _)) (d_one (d_b1F (cr_all rfl) lf_all (hm := T.b_all) (h := d_lc rfl sc_Judge_are_pieces.nd (i_rg2 T.b_range (d_int) (d_len T.b_len (d_var 1))) (blkOk_at (own := [("at", 2)]) (N := ns_Judge_are_pieces) (sc := defScope s_Judge_are_pieces) rfl rfl (by decide +kernel)) (by decide) (fun _ _ _ _ _ => g_name 2 sc_Judge_are_pieces.nd) (fun _ _ _ _ _ => q_nil) (fun _ _ _ _ _ => d_cmp o_lt (d_ix (d_var 1) (d_bin o_sub (d_var 2) (d_int))) (d_ix (d_var 1) (d_var 2)) (nomark _)))))))

abbrev ns_Judge_is_part : List Str := ["self", "sort", "one"]
theorem sc_Judge_is_part : FnScope ["self", "sort", "one"] ["self", "sort", "one"] (defScope s_Judge_is_part) := ⟨rfl, rfl, rfl, by decide +kernel, rfl, by decide +kernel, by decide +kernel⟩

theorem c_Judge_is_part (T : Txt mg) (A : AtM K "Judge" "is_part" "Judge.is_part" s_Judge_is_part) (k_MOST_ROUNDS : Con' K mg "MOST_ROUNDS" (.int 4)) (c_is_between : Cal P w K mg base xt "is_between" (2) 3 f_is_between) (c_is_share : Cal P w K mg base xt "is_share" (3) 1 f_is_share) (c_Judge_are_pieces : CalM P w K mg base xt "Judge" "are_pieces" (3) 2 f_Judge_are_pieces) : CalM P w K mg base xt "Judge" "is_part" (4) 3 f_Judge_is_part :=
  A.cal sc_Judge_is_part (fun _ _ _ _ _ _ us hl => match us, hl with | [_, _, _], _ => rfl) rfl fun f cdv A' outer s H E hr tk po =>
    ss_cons (s_if (t_cmp (o_eq hr.units) (d_var 1) (d_str "a") (nomark _)) (ss_one (s_ret (d_fn c_is_between hr tk (d_acons (d_var 2) (d_acons (d_int) (d_acons (d_bin o_sub (d_fld "sharers" (d_var 0)) (d_int)) (d_anil))))))) (ss_nil)) <|
    ss_cons (s_if (t_cmp (o_inX (Room.u65 hr)) (d_var 1) (d_str "prq") (by rfl)) (ss_one (s_ret (d_fn c_is_between hr tk (d_acons (d_var 2) (d_acons (d_int) (d_acons (d_bin o_sub (d_fld "pieces" (d_var 0)) (d_int)) (d_anil))))))) (ss_nil)) <|
    ss_cons (s_if (t_cmp (o_eq hr.units) (d_var 1) (d_str "s") (nomark _)) (ss_one (s_ret (d_fn c_is_share hr tk (d_acons (d_var 2) (d_anil))))) (ss_nil)) <|
    ss_cons (s_if (t_cmp (o_eq hr.units) (d_var 1) (d_str "k") (nomark _)) (ss_one (s_ret (d_fn c_is_between hr tk (d_acons (d_var 2) (d_acons (d_int) (d_acons (d_con k_MOST_ROUNDS) (d_anil))))))) (ss_nil)) <|
    ss_cons (s_if (t_cmp (o_eq hr.units) (d_var 1) (d_str "h") (nomark _)) (ss_one (s_ret (d_fn c_is_between hr tk (d_acons (d_var 2) (d_acons (d_int) (d_acons (d_bin o_sub (d_fld "helps" (d_var 0)) (d_int)) (d_anil))))))) (ss_nil)) <|
    ss_one (s_ret (d_or (d_cmp (o_eq hr.units) (d_var 1) (d_str "b") (nomark _)) (d_one (d_meth c_Judge_are_pieces hr (d_var 0) (d_acons (d_var 2) (d_anil))))))

abbrev ns_Judge_is_block : List Str := ["self", "thing", "deep", "here"]
theorem sc_Judge_is_block : FnScope ["self", "thing", "deep", "here"] ["self", "thing", "deep"] (defScope s_Judge_is_block) := ⟨rfl, rfl, rfl, by decide +kernel, rfl, by decide +kernel, by decide +kernel⟩

abbrev ns_Judge_is_statement : List Str := ["self", "here", "deep", "form", "named", "one", "piece", "sort"]
theorem sc_Judge_is_statement : FnScope ["self", "here", "deep", "form", "named", "one", "piece", "sort"] ["self", "here", "deep"] (defScope s_Judge_is_statement) := ⟨rfl, rfl, rfl, by decide +kernel, rfl, by decide +kernel, by decide +kernel⟩

theorem g_Judge_is_block (T : Txt mg) (A_Judge_is_block : AtM K "Judge" "is_block" "Judge.is_block" s_Judge_is_block) (A_Judge_is_statement : AtM K "Judge" "is_statement" "Judge.is_statement" s_Judge_is_statement) (k_MOST_LONG : Con' K mg "MOST_LONG" (.int 20)) (k_FORMS : KDc K w mg "FORMS" kd_FORMS) (c_Judge_is_part : CalM P w K mg base xt "Judge" "is_part" (4) 3 f_Judge_is_part) : ∀ n : Nat, (CalM P w K mg base xt "Judge" "is_block" (5 + n) 3 (f_Judge_is_block_n n)) ∧ (CalM P w K mg base xt "Judge" "is_statement" (5 + n) 3 (f_Judge_is_statement_n n))
  | 0 => ⟨A_Judge_is_block.bad (ps := ["self", "thing", "deep"]) (fun _ _ _ _ _ _ us hl => match us, hl with | [_, _, _], _ => rfl) rfl, A_Judge_is_statement.bad (ps := ["self", "here", "deep"]) (fun _ _ _ _ _ _ us hl => match us, hl with | [_, _, _], _ => rfl) rfl⟩
  | n + 1 =>
    have ih := g_Judge_is_block T A_Judge_is_block A_Judge_is_statement k_MOST_LONG k_FORMS c_Judge_is_part n
    have cr_Judge_is_block := ih.1
    have cr_Judge_is_statement := ih.2
    ⟨A_Judge_is_block.cal sc_Judge_is_block (fun _ _ _ _ _ _ us hl => match us, hl with | [_, _, _], _ => rfl) rfl fun f cdv A' outer s H E hr tk po =>
    ss_cons (s_if (t_w (w_or (t_not (t_tru (d_isi (T := "tuple") (by decide) T.b_isinstance T.b_tuple (d_var 1)))) (w_or (t_cmp o_gt (d_len T.b_len (d_var 1)) (d_con k_MOST_LONG) (nomark _)) (w_or1 (t_cmp (o_eq hr.units) (d_var 2) (d_int) (nomark _)))))) (ss_one (s_ret (d_bl))) (ss_nil)) <|
    ss_one (s_ret (d_b1F (cr_all rfl) lf_all (hm := T.b_all) (h := d_lc rfl sc_Judge_is_block.nd (i_seq (d_var 1)) (blkOk_at (own := [("here", 3)]) (N := ns_Judge_is_block) (sc := defScope s_Judge_is_block) rfl rfl (by decide +kernel)) (by decide) (fun _ _ _ _ _ => g_name 3 sc_Judge_is_block.nd) (fun _ _ _ _ _ => q_nil) (fun _ _ _ _ _ => d_meth cr_Judge_is_statement hr (d_var 0) (d_acons (d_var 3) (d_acons (d_var 2) (d_anil))) (Nat.le_refl _))))),
    A_Judge_is_statement.cal sc_Judge_is_statement (fun _ _ _ _ _ _ us hl => match us, hl with | [_, _, _], _ => rfl) rfl fun f cdv A' outer s H E hr tk po =>
    ss_cons (s_if (t_w (w_or (t_not (t_tru (d_isi (T := "tuple") (by decide) T.b_isinstance T.b_tuple (d_var 1)))) (w_or (t_cmp (o_eq hr.units) (d_len T.b_len (d_var 1)) (d_int) (nomark _)) (w_or (t_not (t_tru (d_isi (T := "str") (by decide) T.b_isinstance T.b_str (d_ix (d_var 1) (d_int))))) (w_or1 (t_knotin k_FORMS (d_ix (d_var 1) (d_int)))))))) (ss_one (s_ret (d_bl))) (ss_nil)) <|
    ss_cons (s_set 3 sc_Judge_is_statement.nd (d_kget k_FORMS (d_ix (d_var 1) (d_int)))) <|
    ss_cons (s_if (t_w (w_or (t_cmp (o_ne hr.units) (d_len T.b_len (d_var 1)) (d_bin o_add (d_lenS T.b_len (d_var 3)) (d_int)) (nomark _)) (w_or1 (t_not (t_tru (d_b1F (cr_all rfl) lf_all (hm := T.b_all) (h := d_lc rfl sc_Judge_is_statement.nd (i_zipS T.b_zip (d_var 3) (d_slice (d_var 1) (p_some (d_int)) (p_none))) (blkOk_at (own := [("sort", 7), ("one", 5)]) (N := ns_Judge_is_statement) (sc := defScope s_Judge_is_statement) rfl rfl (by decide +kernel)) (by decide) (fun _ _ _ _ _ => g_tup rfl (g_cons (g_name 7 sc_Judge_is_statement.nd) (g_cons (g_name 5 sc_Judge_is_statement.nd) (g_nil)))) (fun _ _ _ _ _ => q_nil) (fun _ _ _ _ _ => d_meth c_Judge_is_part hr (d_var 0) (d_acons (d_var 7) (d_acons (d_var 5) (d_anil))) (Nat.le_trans (by decide) (Nat.le_add_right 5 n)))))))))) (ss_one (s_ret (d_bl))) (ss_nil)) <|
    ss_cons (s_setLc rfl sc_Judge_is_statement.nd rfl rfl (sw_true rfl rfl rfl (by decide +kernel)) (i_zipS T.b_zip (d_var 3) (d_slice (d_var 1) (p_some (d_int)) (p_none))) (blkOk_at (own := [("sort", 7), ("one", 5)]) (N := ns_Judge_is_statement) (sc := defScope s_Judge_is_statement) rfl rfl (by decide +kernel)) (by decide) (fun _ _ _ _ _ => g_tup rfl (g_cons (g_name 7 sc_Judge_is_statement.nd) (g_cons (g_name 5 sc_Judge_is_statement.nd) (g_nil)))) (fun _ _ _ _ _ => q_one (t_cmp (o_inX (Room.u65 hr)) (d_var 7) (d_str "prq") (by rfl))) (fun _ _ _ _ _ => d_var 5)) <|
    ss_cons (s_if (t_cmp (o_inX (Room.u65 hr)) (d_str "m") (d_var 3) (by rfl)) (ss_one (s_expr (d_extend (d_var 4) (d_ix (d_var 1) (d_int))))) (ss_nil)) <|
    ss_cons (s_if (t_cmp (o_ne hr.units) (d_lenD T.b_len (d_dc rfl sc_Judge_is_statement.nd (i_seq (d_var 4)) (blkOk_at (own := [("piece", 6)]) (N := ns_Judge_is_statement) (sc := defScope s_Judge_is_statement) rfl rfl (by decide +kernel)) (by decide) (fun _ _ _ _ _ => g_name 6 sc_Judge_is_statement.nd) (fun _ _ _ _ _ => d_var 6) (fun _ _ _ _ _ => d_bl))) (d_len T.b_len (d_var 4)) (nomark _)) (ss_one (s_ret (d_bl))) (ss_nil)) <|
    ss_one (s_ret (d_b1F (cr_all rfl) lf_all (hm := T.b_all) (h := d_lc rfl sc_Judge_is_statement.nd (i_zipS T.b_zip (d_var 3) (d_slice (d_var 1) (p_some (d_int)) (p_none))) (blkOk_at (own := [("sort", 7), ("one", 5)]) (N := ns_Judge_is_statement) (sc := defScope s_Judge_is_statement) rfl rfl (by decide +kernel)) (by decide) (fun _ _ _ _ _ => g_tup rfl (g_cons (g_name 7 sc_Judge_is_statement.nd) (g_cons (g_name 5 sc_Judge_is_statement.nd) (g_nil)))) (fun _ _ _ _ _ => q_one (t_cmp (o_eq hr.units) (d_var 7) (d_str "b") (nomark _))) (fun _ _ _ _ _ => d_meth cr_Judge_is_block hr (d_var 0) (d_acons (d_var 5) (d_acons (d_bin o_sub (d_var 2) (d_int)) (d_anil))) (Nat.le_refl _)))))⟩
theorem c_Judge_is_block (T : Txt mg) (A_Judge_is_block : AtM K "Judge" "is_block" "Judge.is_block" s_Judge_is_block) (A_Judge_is_statement : AtM K "Judge" "is_statement" "Judge.is_statement" s_Judge_is_statement) (k_MOST_LONG : Con' K mg "MOST_LONG" (.int 20)) (k_FORMS : KDc K w mg "FORMS" kd_FORMS) (c_Judge_is_part : CalM P w K mg base xt "Judge" "is_part" (4) 3 f_Judge_is_part) : CalM P w K mg base xt "Judge" "is_block" (29) 3 f_Judge_is_block := (g_Judge_is_block T A_Judge_is_block A_Judge_is_statement k_MOST_LONG k_FORMS c_Judge_is_part 24).1
theorem c_Judge_is_statement (T : Txt mg) (A_Judge_is_block : AtM K "Judge" "is_block" "Judge.is_block" s_Judge_is_block) (A_Judge_is_statement : AtM K "Judge" "is_statement" "Judge.is_statement" s_Judge_is_statement) (k_MOST_LONG : Con' K mg "MOST_LONG" (.int 20)) (k_FORMS : KDc K w mg "FORMS" kd_FORMS) (c_Judge_is_part : CalM P w K mg base xt "Judge" "is_part" (4) 3 f_Judge_is_part) : CalM P w K mg base xt "Judge" "is_statement" (29) 3 f_Judge_is_statement := (g_Judge_is_block T A_Judge_is_block A_Judge_is_statement k_MOST_LONG k_FORMS c_Judge_is_part 24).2

abbrev ns_Sizes___init__ : List Str := ["self", "helps", "block"]
theorem sc_Sizes___init__ : FnScope ["self", "helps", "block"] ["self", "helps"] (defScope s_Sizes___init__) := ⟨rfl, rfl, rfl, by decide +kernel, rfl, by decide +kernel, by decide +kernel⟩

theorem c_Sizes___init__ (T : Txt mg) (A : AtM K "Sizes" "__init__" "Sizes.__init__" s_Sizes___init__) (K_Sizes : KCl K mg "Sizes" ["helps"]) (c_Sizes_size : CalM P w K mg base xt "Sizes" "size" (26) 2 f_Sizes_size) : CalM P w K mg base xt "Sizes" "__init__" (27) 2 f_Sizes___init__ :=
  A.cal sc_Sizes___init__ (fun _ _ _ _ _ _ us hl => match us, hl with | [_, _], _ => rfl) rfl fun f cdv A' outer s H E hr tk po =>
    ss_cons (s_fld "helps" K_Sizes (by simp) (d_var 0) (d_keep (d_lstF (d_anil)))) <|
    ss_one (s_for po rfl (i_seq (d_var 1)) (g_name 2 sc_Sizes___init__.nd) (ss_one (s_expr (d_append (d_fld "helps" (d_var 0)) (d_meth c_Sizes_size hr (d_var 0) (d_acons (d_var 2) (d_anil)))))))

abbrev ns_Judge___init__ : List Str := ["self", "sharers", "pieces", "helps"]
theorem sc_Judge___init__ : FnScope ["self", "sharers", "pieces", "helps"] ["self", "sharers", "pieces", "helps"] (defScope s_Judge___init__) := ⟨rfl, rfl, rfl, by decide +kernel, rfl, by decide +kernel, by decide +kernel⟩

theorem c_Judge___init__ (T : Txt mg) (A : AtM K "Judge" "__init__" "Judge.__init__" s_Judge___init__) (K_Judge : KCl K mg "Judge" ["sharers", "pieces", "helps"]) : CalM P w K mg base xt "Judge" "__init__" (1) 4 f_Judge___init__ :=
  A.cal sc_Judge___init__ (fun _ _ _ _ _ _ us hl => match us, hl with | [_, _, _, _], _ => rfl) rfl fun f cdv A' outer s H E hr tk po =>
    ss_cons (s_fld "sharers" K_Judge (by simp) (d_var 0) (d_var 1)) <|
    ss_cons (s_fld "pieces" K_Judge (by simp) (d_var 0) (d_var 2)) <|
    ss_one (s_fld "helps" K_Judge (by simp) (d_var 0) (d_var 3))

abbrev ns_is_program : List Str := ["thing", "sharers", "pieces", "helps", "block", "told", "marks", "said", "at", "one"]
theorem sc_is_program : FnScope ["thing", "sharers", "pieces", "helps", "block", "told", "marks", "said", "at", "one"] ["thing"] (defScope s_is_program) := ⟨rfl, rfl, rfl, by decide +kernel, rfl, by decide +kernel, by decide +kernel⟩

theorem c_is_program (T : Txt mg) (A : At K mg "is_program" s_is_program) (k_MOST_SHARERS : Con' K mg "MOST_SHARERS" (.int 4)) (k_MOST_PIECES : Con' K mg "MOST_PIECES" (.int 8)) (k_MOST_HELPS : Con' K mg "MOST_HELPS" (.int 4)) (k_MOST_DEEP : Con' K mg "MOST_DEEP" (.int 5)) (k_MOST_TOLD : Con' K mg "MOST_TOLD" (.int 150)) (k_MOST_MARKS : Con' K mg "MOST_MARKS" (.int 12)) (k_MOST_SAID : Con' K mg "MOST_SAID" (.int 16)) (M_Sizes : MkC K mg "Sizes") (M_Judge : MkC K mg "Judge") (c_Sizes_size : CalM P w K mg base xt "Sizes" "size" (26) 2 f_Sizes_size) (c_Judge_is_block : CalM P w K mg base xt "Judge" "is_block" (29) 3 f_Judge_is_block) (c_is_tuple_of : Cal P w K mg base xt "is_tuple_of" (1) 2 f_is_tuple_of) (c_is_between : Cal P w K mg base xt "is_between" (2) 3 f_is_between) (c_Sizes___init__ : CalM P w K mg base xt "Sizes" "__init__" (27) 2 f_Sizes___init__) (c_Judge___init__ : CalM P w K mg base xt "Judge" "__init__" (1) 4 f_Judge___init__) : Cal P w K mg base xt "is_program" (30) 1 f_is_program :=
  A.cal sc_is_program (fun _ _ _ _ _ _ us hl => match us, hl with | [_], _ => rfl) rfl fun f cdv A' outer s H E hr tk po =>
    ss_cons (s_if (t_w (w_or (t_not (t_tru (d_fn c_is_tuple_of hr tk (d_acons (d_var 0) (d_acons (d_int) (d_anil)))))) (w_or1 (t_not (t_tru (d_fn c_is_between hr tk (d_acons (d_ix (d_var 0) (d_int)) (d_acons (d_int) (d_acons (d_con k_MOST_SHARERS) (d_anil)))))))))) (ss_one (s_ret (d_bl))) (ss_nil)) <|
    ss_cons (s_if (t_w (w_or (t_not (t_tru (d_fn c_is_between hr tk (d_acons (d_ix (d_var 0) (d_int)) (d_acons (d_int) (d_acons (d_con k_MOST_PIECES) (d_anil))))))) (w_or (t_not (t_tru (d_isi (T := "tuple") (by decide) T.b_isinstance T.b_tuple (d_ix (d_var 0) (d_int))))) (w_or1 (t_cmp o_gt (d_len T.b_len (d_ix (d_var 0) (d_int))) (d_con k_MOST_HELPS) (nomark _)))))) (ss_one (s_ret (d_bl))) (ss_nil)) <|
    ss_cons (s_asg (d_var 0) (g_tup rfl (g_cons (g_name 1 sc_is_program.nd) (g_cons (g_name 2 sc_is_program.nd) (g_cons (g_name 3 sc_is_program.nd) (g_cons (g_name 4 sc_is_program.nd) (g_nil))))))) <|
    ss_cons (s_if (t_not (t_tru (d_b1F (cr_all rfl) lf_all (hm := T.b_all) (h := d_lc rfl sc_is_program.nd (i_enum T.b_enumerate (d_var 3)) (blkOk_at (own := [("at", 8), ("one", 9)]) (N := ns_is_program) (sc := defScope s_is_program) rfl rfl (by decide +kernel)) (by decide) (fun _ _ _ _ _ => g_tup rfl (g_cons (g_name 8 sc_is_program.nd) (g_cons (g_name 9 sc_is_program.nd) (g_nil)))) (fun _ _ _ _ _ => q_nil) (fun _ _ _ _ _ => d_meth c_Judge_is_block hr (d_new M_Judge c_Judge___init__ hr (d_acons (d_var 1) (d_acons (d_var 2) (d_acons (d_var 8) (d_anil))))) (d_acons (d_var 9) (d_acons (d_con k_MOST_DEEP) (d_anil)))))))) (ss_one (s_ret (d_bl))) (ss_nil)) <|
    ss_cons (s_if (t_not (t_tru (d_meth c_Judge_is_block hr (d_new M_Judge c_Judge___init__ hr (d_acons (d_var 1) (d_acons (d_var 2) (d_acons (d_len T.b_len (d_var 3)) (d_anil))))) (d_acons (d_var 4) (d_acons (d_con k_MOST_DEEP) (d_anil)))))) (ss_one (s_ret (d_bl))) (ss_nil)) <|
    ss_cons (s_asg (d_meth c_Sizes_size hr (d_new M_Sizes c_Sizes___init__ hr (d_acons (d_var 3) (d_anil))) (d_acons (d_var 4) (d_anil))) (g_tup rfl (g_cons (g_name 5 sc_is_program.nd) (g_cons (g_name 6 sc_is_program.nd) (g_cons (g_name 7 sc_is_program.nd) (g_nil)))))) <|
    ss_one (s_ret (d_and (d_cmp o_le (d_var 5) (d_con k_MOST_TOLD) (nomark _)) (d_and (d_cmp o_le (d_var 6) (d_con k_MOST_MARKS) (nomark _)) (d_one (d_cmp o_le (d_var 7) (d_con k_MOST_SAID) (nomark _))))))

abbrev ns__law_hand : List Str := ["script", "cells", "cell"]
theorem sc__law_hand : FnScope ["script", "cells", "cell"] ["script"] (defScope s__law_hand) := ⟨rfl, rfl, rfl, by decide +kernel, rfl, by decide +kernel, by decide +kernel⟩

theorem c__law_hand (T : Txt mg) (A : At K mg "_law_hand" s__law_hand)  : Cal P w K mg base xt "_law_hand" (1) 1 f__law_hand :=
  A.cal sc__law_hand (fun _ _ _ _ _ _ us hl => match us, hl with | [_], _ => rfl) rfl fun f cdv A' outer s H E hr tk po =>
    ss_cons (s_setLc rfl sc__law_hand.nd rfl rfl (sw_true rfl rfl rfl (by decide +kernel)) (i_seq (d_slice (d_var 0) (p_none) (p_some (d_int)))) (blkOk_at (own := [("cell", 2)]) (N := ns__law_hand) (sc := defScope s__law_hand) rfl rfl (by decide +kernel)) (by decide) (fun _ _ _ _ _ => g_name 2 sc__law_hand.nd) (fun _ _ _ _ _ => q_nil) (fun _ _ _ _ _ => d_abs T.b_abs (d_intOf T.b_int (d_var 2)))) <|
    ss_one (s_ret (d_keep (d_lstF (d_acons (d_var 1) (d_acons (d_int) (d_acons (d_int) (d_acons (d_bin o_add (d_int) (d_bin o_mul (d_int) (d_len T.b_len (d_var 1)))) (d_acons (d_int) (d_anil)))))))))

abbrev ns__law_draw : List Str := ["hand", "many", "cell", "digit", "number"]
theorem sc__law_draw : FnScope ["hand", "many", "cell", "digit", "number"] ["hand", "many"] (defScope s__law_draw) := ⟨rfl, rfl, rfl, by decide +kernel, rfl, by decide +kernel, by decide +kernel⟩

theorem c__law_draw (T : Txt mg) (A : At K mg "_law_draw" s__law_draw)  : Cal P w K mg base xt "_law_draw" (1) 2 f__law_draw :=
  A.cal sc__law_draw (fun _ _ _ _ _ _ us hl => match us, hl with | [_, _], _ => rfl) rfl fun f cdv A' outer s H E hr tk po =>
    ss_cons (s_if (t_w (w_and (t_cmp (o_eq hr.units) (d_ix (d_var 0) (d_int)) (d_int) (nomark _)) (w_and1 (t_cmp o_lt (d_ix (d_var 0) (d_int)) (d_len T.b_len (d_ix (d_var 0) (d_int))) (nomark _))))) (ss_cons (s_set 2 sc__law_draw.nd (d_ix (d_ix (d_var 0) (d_int)) (d_ix (d_var 0) (d_int)))) <|
    ss_cons (s_sub (d_var 0) (d_int) (d_bin o_add (d_ix (d_var 0) (d_int)) (d_int))) <|
    ss_cons (s_sub (d_var 0) (d_int) (d_bin o_mod (d_intOf T.b_int (d_bin o_add (d_bin o_add (d_bin o_mul (d_ix (d_var 0) (d_int)) (d_int)) (d_var 2)) (d_int))) (d_int))) <|
    ss_one (s_if (t_cmp o_ge (d_var 2) (d_bin o_pow (d_int) (d_int)) (nomark _)) (ss_one (s_sub (d_var 0) (d_int) (d_var 2))) (ss_nil))) (ss_nil)) <|
    ss_cons (s_if (t_cmp o_gt (d_ix (d_var 0) (d_int)) (d_int) (nomark _)) (ss_cons (s_set 3 sc__law_draw.nd (d_bin o_mod (d_intOf T.b_int (d_ix (d_var 0) (d_int))) (d_var 1))) <|
    ss_cons (s_sub (d_var 0) (d_int) (d_bin o_fdiv (d_ix (d_var 0) (d_int)) (d_var 1))) <|
    ss_one (s_ret (d_var 3))) (ss_nil)) <|
    ss_cons (s_sub (d_var 0) (d_int) (d_bin o_add (d_ix (d_var 0) (d_int)) (d_int))) <|
    ss_cons (s_set 4 sc__law_draw.nd (d_bin o_mod (d_intOf T.b_int (d_bin o_mul (d_intOf T.b_int (d_bin o_add (d_ix (d_var 0) (d_int)) (d_bin o_mul (d_int) (d_ix (d_var 0) (d_int))))) (d_int))) (d_int))) <|
    ss_cons (s_set 4 sc__law_draw.nd (d_bin o_mod (d_intOf T.b_int (d_bin o_mul (d_var 4) (d_bin o_add (d_bin o_fdiv (d_var 4) (d_int)) (d_int)))) (d_int))) <|
    ss_cons (s_set 4 sc__law_draw.nd (d_bin o_mod (d_intOf T.b_int (d_bin o_mul (d_var 4) (d_bin o_add (d_bin o_fdiv (d_var 4) (d_int)) (d_int)))) (d_int))) <|
    ss_one (s_ret (d_bin o_mod (d_intOf T.b_int (d_bin o_fdiv (d_var 4) (d_int))) (d_var 1)))

abbrev ns__law_some : List Str := ["hand", "things"]
theorem sc__law_some : FnScope ["hand", "things"] ["hand", "things"] (defScope s__law_some) := ⟨rfl, rfl, rfl, by decide +kernel, rfl, by decide +kernel, by decide +kernel⟩

theorem c__law_some (T : Txt mg) (A : At K mg "_law_some" s__law_some) (c__law_draw : Cal P w K mg base xt "_law_draw" (1) 2 f__law_draw) : Cal P w K mg base xt "_law_some" (2) 2 f__law_some :=
  A.cal sc__law_some (fun _ _ _ _ _ _ us hl => match us, hl with | [_, _], _ => rfl) rfl fun f cdv A' outer s H E hr tk po =>
    ss_one (s_ret (d_ix (d_var 1) (d_fn c__law_draw hr tk (d_acons (d_var 0) (d_acons (d_len T.b_len (d_var 1)) (d_anil))))))

abbrev ns__law_mixed : List Str := ["hand", "things", "left", "found"]
theorem sc__law_mixed : FnScope ["hand", "things", "left", "found"] ["hand", "things"] (defScope s__law_mixed) := ⟨rfl, rfl, rfl, by decide +kernel, rfl, by decide +kernel, by decide +kernel⟩

theorem c__law_mixed (T : Txt mg) (A : At K mg "_law_mixed" s__law_mixed) (c__law_draw : Cal P w K mg base xt "_law_draw" (1) 2 f__law_draw) : Cal P w K mg base xt "_law_mixed" (2) 2 f__law_mixed :=
  A.cal sc__law_mixed (fun _ _ _ _ _ _ us hl => match us, hl with | [_, _], _ => rfl) rfl fun f cdv A' outer s H E hr tk po =>
    ss_cons (s_par rfl sc__law_mixed.nd (by decide) (d_acons (d_keep (d_listOf T.b_list (d_var 1))) (d_acons (d_keep (d_lstF (d_anil))) (d_anil))) (i := 2) (j := 3)) <|
    ss_cons (s_while WF po (t_cmp o_gt (d_len T.b_len (d_var 2)) (d_int) (nomark _)) (ss_one (s_expr (d_append (d_var 3) (d_popAt (d_var 2) (d_fn c__law_draw hr tk (d_acons (d_var 0) (d_acons (d_len T.b_len (d_var 2)) (d_anil))))))))) <|
    ss_one (s_ret (d_var 3))

abbrev ns__law_part : List Str := ["top", "bottom", "one", "other"]
theorem sc__law_part : FnScope ["top", "bottom", "one", "other"] ["top", "bottom"] (defScope s__law_part) := ⟨rfl, rfl, rfl, by decide +kernel, rfl, by decide +kernel, by decide +kernel⟩

theorem c__law_part (T : Txt mg) (A : At K mg "_law_part" s__law_part)  : Cal P w K mg base xt "_law_part" (1) 2 f__law_part :=
  A.cal sc__law_part (fun _ _ _ _ _ _ us hl => match us, hl with | [_, _], _ => rfl) rfl fun f cdv A' outer s H E hr tk po =>
    ss_cons (s_par rfl sc__law_part.nd (by decide) (d_acons (d_abs T.b_abs (d_var 0)) (d_acons (d_var 1) (d_anil))) (i := 2) (j := 3)) <|
    ss_cons (s_while WF po (t_cmp o_gt (d_var 3) (d_int) (nomark _)) (ss_one (s_par rfl sc__law_part.nd (by decide) (d_acons (d_var 3) (d_acons (d_bin o_mod (d_intOf T.b_int (d_var 2)) (d_var 3)) (d_anil))) (i := 2) (j := 3)))) <|
    ss_one (s_ret (d_tup (d_acons (d_bin o_fdiv (d_var 0) (d_var 2)) (d_acons (d_bin o_fdiv (d_var 1) (d_var 2)) (d_anil)))))

abbrev ns__law_plus : List Str := ["one", "other"]
theorem sc__law_plus : FnScope ["one", "other"] ["one", "other"] (defScope s__law_plus) := ⟨rfl, rfl, rfl, by decide +kernel, rfl, by decide +kernel, by decide +kernel⟩

theorem c__law_plus (T : Txt mg) (A : At K mg "_law_plus" s__law_plus) (c__law_part : Cal P w K mg base xt "_law_part" (1) 2 f__law_part) : Cal P w K mg base xt "_law_plus" (2) 2 f__law_plus :=
  A.cal sc__law_plus (fun _ _ _ _ _ _ us hl => match us, hl with | [_, _], _ => rfl) rfl fun f cdv A' outer s H E hr tk po =>
    ss_one (s_ret (d_fn c__law_part hr tk (d_acons (d_bin o_add (d_bin o_mul (d_ix (d_var 0) (d_int)) (d_ix (d_var 1) (d_int))) (d_bin o_mul (d_ix (d_var 1) (d_int)) (d_ix (d_var 0) (d_int)))) (d_acons (d_bin o_mul (d_ix (d_var 0) (d_int)) (d_ix (d_var 1) (d_int))) (d_anil)))))

abbrev ns__law_times : List Str := ["one", "other"]
theorem sc__law_times : FnScope ["one", "other"] ["one", "other"] (defScope s__law_times) := ⟨rfl, rfl, rfl, by decide +kernel, rfl, by decide +kernel, by decide +kernel⟩

theorem c__law_times (T : Txt mg) (A : At K mg "_law_times" s__law_times) (c__law_part : Cal P w K mg base xt "_law_part" (1) 2 f__law_part) : Cal P w K mg base xt "_law_times" (2) 2 f__law_times :=
  A.cal sc__law_times (fun _ _ _ _ _ _ us hl => match us, hl with | [_, _], _ => rfl) rfl fun f cdv A' outer s H E hr tk po =>
    ss_one (s_ret (d_fn c__law_part hr tk (d_acons (d_bin o_mul (d_ix (d_var 0) (d_int)) (d_ix (d_var 1) (d_int))) (d_acons (d_bin o_mul (d_ix (d_var 0) (d_int)) (d_ix (d_var 1) (d_int))) (d_anil)))))

abbrev ns__law_less : List Str := ["one", "other"]
theorem sc__law_less : FnScope ["one", "other"] ["one", "other"] (defScope s__law_less) := ⟨rfl, rfl, rfl, by decide +kernel, rfl, by decide +kernel, by decide +kernel⟩

theorem c__law_less (T : Txt mg) (A : At K mg "_law_less" s__law_less)  : Cal P w K mg base xt "_law_less" (1) 2 f__law_less :=
  A.cal sc__law_less (fun _ _ _ _ _ _ us hl => match us, hl with | [_, _], _ => rfl) rfl fun f cdv A' outer s H E hr tk po =>
    ss_one (s_ret (d_cmp o_lt (d_bin o_mul (d_ix (d_var 0) (d_int)) (d_ix (d_var 1) (d_int))) (d_bin o_mul (d_ix (d_var 1) (d_int)) (d_ix (d_var 0) (d_int))) (nomark _)))

abbrev ns__law_ahead : List Str := ["one", "other"]
theorem sc__law_ahead : FnScope ["one", "other"] ["one", "other"] (defScope s__law_ahead) := ⟨rfl, rfl, rfl, by decide +kernel, rfl, by decide +kernel, by decide +kernel⟩

theorem c__law_ahead (T : Txt mg) (A : At K mg "_law_ahead" s__law_ahead) (c__law_less : Cal P w K mg base xt "_law_less" (1) 2 f__law_less) : Cal P w K mg base xt "_law_ahead" (2) 2 f__law_ahead :=
  A.cal sc__law_ahead (fun _ _ _ _ _ _ us hl => match us, hl with | [_, _], _ => rfl) rfl fun f cdv A' outer s H E hr tk po =>
    ss_cons (s_if (t_cmp (o_ne hr.units) (d_ix (d_var 0) (d_int)) (d_ix (d_var 1) (d_int)) (nomark _)) (ss_one (s_ret (d_fn c__law_less hr tk (d_acons (d_ix (d_var 0) (d_int)) (d_acons (d_ix (d_var 1) (d_int)) (d_anil)))))) (ss_nil)) <|
    ss_one (s_ret (d_not (d_fn c__law_less hr tk (d_acons (d_ix (d_var 1) (d_int)) (d_acons (d_ix (d_var 0) (d_int)) (d_anil))))))

abbrev ns__law_joined : List Str := ["one", "other", "found", "left", "stretch", "at", "here"]
theorem sc__law_joined : FnScope ["one", "other", "found", "left", "stretch", "at", "here"] ["one", "other"] (defScope s__law_joined) := ⟨rfl, rfl, rfl, by decide +kernel, rfl, by decide +kernel, by decide +kernel⟩

theorem c__law_joined (T : Txt mg) (A : At K mg "_law_joined" s__law_joined) (c__law_ahead : Cal P w K mg base xt "_law_ahead" (2) 2 f__law_ahead) : Cal P w K mg base xt "_law_joined" (3) 2 f__law_joined :=
  A.cal sc__law_joined (fun _ _ _ _ _ _ us hl => match us, hl with | [_, _], _ => rfl) rfl fun f cdv A' outer s H E hr tk po =>
    ss_cons (s_par rfl sc__law_joined.nd (by decide) (d_acons (d_keep (d_listOf T.b_list (d_var 0))) (d_acons (d_keep (d_listOf T.b_list (d_var 1))) (d_anil))) (i := 2) (j := 3)) <|
    ss_cons (s_for po rfl (i_seq (d_var 3)) (g_name 4 sc__law_joined.nd) (ss_cons (s_set 5 sc__law_joined.nd (d_b1F call_len_seq lf_len (hm := T.b_len) (h := d_lc rfl sc__law_joined.nd (i_seq (d_var 2)) (blkOk_at (own := [("here", 6)]) (N := ns__law_joined) (sc := defScope s__law_joined) rfl rfl (by decide +kernel)) (by decide) (fun _ _ _ _ _ => g_name 6 sc__law_joined.nd) (fun _ _ _ _ _ => q_one (t_tru (d_fn c__law_ahead hr takes0 (d_acons (d_var 6) (d_acons (d_var 4) (d_anil)))))) (fun _ _ _ _ _ => d_var 6)))) <|
    ss_one (s_set 2 sc__law_joined.nd (d_bin o_add (d_bin o_add (d_slice (d_var 2) (p_none) (p_some (d_var 5))) (d_keep (d_lstF (d_acons (d_var 4) (d_anil))))) (d_slice (d_var 2) (p_some (d_var 5)) (p_none)))))) <|
    ss_one (s_ret (d_tupOf T.b_tuple (d_var 2)))

abbrev ns__law_cut : List Str := ["piece", "j", "x"]
theorem sc__law_cut : FnScope ["piece", "j", "x"] ["piece", "j", "x"] (defScope s__law_cut) := ⟨rfl, rfl, rfl, by decide +kernel, rfl, by decide +kernel, by decide +kernel⟩

theorem c__law_cut (T : Txt mg) (A : At K mg "_law_cut" s__law_cut)  : Cal P w K mg base xt "_law_cut" (1) 3 f__law_cut :=
  A.cal sc__law_cut (fun _ _ _ _ _ _ us hl => match us, hl with | [_, _, _], _ => rfl) rfl fun f cdv A' outer s H E hr tk po =>
    ss_one (s_ret (d_tup (d_acons (d_bin o_add (d_slice (d_var 0) (p_none) (p_some (d_var 1))) (d_tup (d_acons (d_tup (d_acons (d_ix (d_ix (d_var 0) (d_var 1)) (d_int)) (d_acons (d_var 2) (d_anil)))) (d_anil)))) (d_acons (d_bin o_add (d_tup (d_acons (d_tup (d_acons (d_var 2) (d_acons (d_ix (d_ix (d_var 0) (d_var 1)) (d_int)) (d_anil)))) (d_anil))) (d_slice (d_var 0) (p_some (d_bin o_add (d_var 1) (d_int))) (p_none))) (d_anil)))))

abbrev ns__law_share : List Str := ["hand"]
theorem sc__law_share : FnScope ["hand"] ["hand"] (defScope s__law_share) := ⟨rfl, rfl, rfl, by decide +kernel, rfl, by decide +kernel, by decide +kernel⟩

theorem c__law_share (T : Txt mg) (A : At K mg "_law_share" s__law_share) (c__law_some : Cal P w K mg base xt "_law_some" (2) 2 f__law_some) : Cal P w K mg base xt "_law_share" (3) 1 f__law_share :=
  A.cal sc__law_share (fun _ _ _ _ _ _ us hl => match us, hl with | [_], _ => rfl) rfl fun f cdv A' outer s H E hr tk po =>
    ss_one (s_ret (d_fn c__law_some hr tk (d_acons (d_var 0) (d_acons (d_keep (d_lstF (d_acons (d_tup (d_acons (d_int) (d_acons (d_int) (d_anil)))) (d_acons (d_tup (d_acons (d_int) (d_acons (d_int) (d_anil)))) (d_acons (d_tup (d_acons (d_int) (d_acons (d_int) (d_anil)))) (d_acons (d_tup (d_acons (d_int) (d_acons (d_int) (d_anil)))) (d_acons (d_tup (d_acons (d_int) (d_acons (d_int) (d_anil)))) (d_acons (d_tup (d_acons (d_int) (d_acons (d_int) (d_anil)))) (d_acons (d_tup (d_acons (d_int) (d_acons (d_int) (d_anil)))) (d_acons (d_tup (d_acons (d_int) (d_acons (d_int) (d_anil)))) (d_acons (d_tup (d_acons (d_int) (d_acons (d_int) (d_anil)))) (d_anil)))))))))))) (d_anil)))))

abbrev ns__law_plain : List Str := ["hand", "sharers", "pieces", "words", "word", "a", "order"]
theorem sc__law_plain : FnScope ["hand", "sharers", "pieces", "words", "word", "a", "order"] ["hand", "sharers", "pieces", "words"] (defScope s__law_plain) := ⟨rfl, rfl, rfl, by decide +kernel, rfl, by decide +kernel, by decide +kernel⟩

theorem c__law_plain (T : Txt mg) (A : At K mg "_law_plain" s__law_plain) (c__law_mixed : Cal P w K mg base xt "_law_mixed" (2) 2 f__law_mixed) (c__law_some : Cal P w K mg base xt "_law_some" (2) 2 f__law_some) (c__law_draw : Cal P w K mg base xt "_law_draw" (1) 2 f__law_draw) (c__law_share : Cal P w K mg base xt "_law_share" (3) 1 f__law_share) : Cal P w K mg base xt "_law_plain" (4) 4 f__law_plain :=
  A.cal sc__law_plain (fun _ _ _ _ _ _ us hl => match us, hl with | [_, _, _, _], _ => rfl) rfl fun f cdv A' outer s H E hr tk po =>
    ss_cons (s_par rfl sc__law_plain.nd (by decide) (d_acons (d_fn c__law_some hr tk (d_acons (d_var 0) (d_acons (d_var 3) (d_anil)))) (d_acons (d_fn c__law_draw hr tk (d_acons (d_var 0) (d_acons (d_var 1) (d_anil)))) (d_anil))) (i := 4) (j := 5)) <|
    ss_cons (s_set 6 sc__law_plain.nd (d_fn c__law_mixed hr tk (d_acons (d_var 0) (d_acons (d_keep (d_listRg1 rfl T.b_list T.b_range (d_var 2))) (d_anil))))) <|
    ss_cons (s_if (t_cmp (o_in (Room.u65 hr)) (d_var 4) (d_keep (d_lstF (d_acons (d_str "cut") (d_acons (d_str "part") (d_anil))))) (by rfl)) (ss_one (s_ret (d_tup (d_acons (d_var 4) (d_acons (d_var 5) (d_acons (d_ix (d_var 6) (d_int)) (d_acons (d_fn c__law_share hr tk (d_acons (d_var 0) (d_anil))) (d_acons (d_ix (d_var 6) (d_int)) (d_anil))))))))) (ss_nil)) <|
    ss_cons (s_if (t_cmp (o_eq hr.units) (d_var 4) (d_str "like") (nomark _)) (ss_one (s_ret (d_tup (d_acons (d_var 4) (d_acons (d_var 5) (d_acons (d_ix (d_var 6) (d_int)) (d_acons (d_ix (d_var 6) (d_int)) (d_acons (d_ix (d_var 6) (d_int)) (d_anil))))))))) (ss_nil)) <|
    ss_cons (s_if (t_cmp (o_eq hr.units) (d_var 4) (d_str "best") (nomark _)) (ss_one (s_ret (d_tup (d_acons (d_var 4) (d_acons (d_var 5) (d_acons (d_tupF T.b_tuple (d_sorted T.b_sorted (d_slice (d_var 6) (p_some (d_int)) (p_some (d_bin o_add (d_int) (d_fn c__law_draw hr tk (d_acons (d_var 0) (d_acons (d_bin o_sub (d_var 2) (d_int)) (d_anil))))))))) (d_acons (d_ix (d_var 6) (d_int)) (d_anil)))))))) (ss_nil)) <|
    ss_one (s_ret (d_if (t_cmp (o_eq hr.units) (d_var 4) (d_str "give") (nomark _)) (d_tup (d_acons (d_var 4) (d_acons (d_var 5) (d_acons (d_ix (d_var 6) (d_int)) (d_anil))))) (d_tup (d_acons (d_var 4) (d_acons (d_ix (d_var 6) (d_int)) (d_acons (d_ix (d_var 6) (d_int)) (d_anil)))))))

abbrev ns__law_statement : List Str := ["hand", "sharers", "pieces", "deep", "helps", "kind", "order", "blocks", "at"]
theorem sc__law_statement : FnScope ["hand", "sharers", "pieces", "deep", "helps", "kind", "order", "blocks", "at"] ["hand", "sharers", "pieces", "deep", "helps"] (defScope s__law_statement) := ⟨rfl, rfl, rfl, by decide +kernel, rfl, by decide +kernel, by decide +kernel⟩

abbrev ns__law_block : List Str := ["hand", "sharers", "pieces", "deep", "helps", "many", "step"]
theorem sc__law_block : FnScope ["hand", "sharers", "pieces", "deep", "helps", "many", "step"] ["hand", "sharers", "pieces", "deep", "helps", "many"] (defScope s__law_block) := ⟨rfl, rfl, rfl, by decide +kernel, rfl, by decide +kernel, by decide +kernel⟩

theorem g__law_statement (T : Txt mg) (A__law_statement : At K mg "_law_statement" s__law_statement) (A__law_block : At K mg "_law_block" s__law_block) (c__law_draw : Cal P w K mg base xt "_law_draw" (1) 2 f__law_draw) (c__law_mixed : Cal P w K mg base xt "_law_mixed" (2) 2 f__law_mixed) (c__law_plain : Cal P w K mg base xt "_law_plain" (4) 4 f__law_plain) (c__law_share : Cal P w K mg base xt "_law_share" (3) 1 f__law_share) : ∀ n : Nat, (Cal P w K mg base xt "_law_statement" (5 + n) 5 (f__law_statement_n n)) ∧ (Cal P w K mg base xt "_law_block" (5 + n) 6 (f__law_block_n n))
  | 0 => ⟨A__law_statement.bad (ps := ["hand", "sharers", "pieces", "deep", "helps"]) (fun _ _ _ _ _ _ us hl => match us, hl with | [_, _, _, _, _], _ => rfl) rfl, A__law_block.bad (ps := ["hand", "sharers", "pieces", "deep", "helps", "many"]) (fun _ _ _ _ _ _ us hl => match us, hl with | [_, _, _, _, _, _], _ => rfl) rfl⟩
  | n + 1 =>
    have ih := g__law_statement T A__law_statement A__law_block c__law_draw c__law_mixed c__law_plain c__law_share n
    have cr__law_statement := ih.1
    have cr__law_block := ih.2
    ⟨A__law_statement.cal sc__law_statement (fun _ _ _ _ _ _ us hl => match us, hl with | [_, _, _, _, _], _ => rfl) rfl fun f cdv A' outer s H E hr tk po =>
    ss_cons (s_set 5 sc__law_statement.nd (d_fn c__law_draw hr tk (d_acons (d_var 0) (d_acons (d_int) (d_anil))) (Nat.le_trans (by decide) (Nat.le_add_right 5 n)))) <|
    ss_cons (s_set 6 sc__law_statement.nd (d_fn c__law_mixed hr tk (d_acons (d_var 0) (d_acons (d_keep (d_listRg1 rfl T.b_list T.b_range (d_var 2))) (d_anil))) (Nat.le_trans (by decide) (Nat.le_add_right 5 n)))) <|
    ss_cons (s_if (t_w (w_and (t_cmp o_gt (d_var 3) (d_int) (nomark _)) (w_and1 (t_cmp o_lt (d_var 5) (d_int) (nomark _))))) (ss_cons (s_set 7 sc__law_statement.nd (d_tupF T.b_tuple (d_lc rfl sc__law_statement.nd (i_rg1 T.b_range (d_int)) (blkOk_at (own := [("at", 8)]) (N := ns__law_statement) (sc := defScope s__law_statement) rfl rfl (by decide +kernel)) (by decide) (fun _ _ _ _ _ => g_name 8 sc__law_statement.nd) (fun _ _ _ _ _ => q_nil) (fun _ _ _ _ _ => d_fn cr__law_block hr takes0 (d_acons (d_var 0) (d_acons (d_var 1) (d_acons (d_var 2) (d_acons (d_bin o_sub (d_var 3) (d_int)) (d_acons (d_var 4) (d_acons (d_bin o_sub (d_bin o_add (d_int) (d_fn c__law_draw hr takes0 (d_acons (d_var 0) (d_acons (d_int) (d_anil))) (Nat.le_trans (by decide) (Nat.le_add_right 5 n)))) (d_var 8)) (d_anil))))))) (Nat.le_refl _))))) <|
    ss_cons (s_if (t_cmp (o_eq hr.units) (d_var 5) (d_int) (nomark _)) (ss_one (s_ret (d_bin o_add (d_tup (d_acons (d_str "ask") (d_acons (d_fn c__law_draw hr tk (d_acons (d_var 0) (d_acons (d_var 1) (d_anil))) (Nat.le_trans (by decide) (Nat.le_add_right 5 n))) (d_acons (d_ix (d_var 6) (d_int)) (d_acons (d_ix (d_var 6) (d_int)) (d_anil)))))) (d_var 7)))) (ss_nil)) <|
    ss_cons (s_if (t_cmp (o_eq hr.units) (d_var 5) (d_int) (nomark _)) (ss_one (s_ret (d_bin o_add (d_tup (d_acons (d_str "over") (d_acons (d_fn c__law_draw hr tk (d_acons (d_var 0) (d_acons (d_var 1) (d_anil))) (Nat.le_trans (by decide) (Nat.le_add_right 5 n))) (d_acons (d_ix (d_var 6) (d_int)) (d_acons (d_fn c__law_share hr tk (d_acons (d_var 0) (d_anil)) (Nat.le_trans (by decide) (Nat.le_add_right 5 n))) (d_anil)))))) (d_var 7)))) (ss_nil)) <|
    ss_one (s_ret (d_if (t_cmp (o_eq hr.units) (d_var 5) (d_int) (nomark _)) (d_bin o_add (d_tup (d_acons (d_str "there") (d_acons (d_ix (d_var 6) (d_int)) (d_anil)))) (d_var 7)) (d_tup (d_acons (d_str "rounds") (d_acons (d_fn c__law_draw hr tk (d_acons (d_var 0) (d_acons (d_int) (d_anil))) (Nat.le_trans (by decide) (Nat.le_add_right 5 n))) (d_acons (d_ix (d_var 7) (d_int)) (d_anil)))))))) (ss_nil)) <|
    ss_cons (s_if (t_w (w_and (t_cmp (o_eq hr.units) (d_var 5) (d_int) (nomark _)) (w_and1 (t_cmp o_gt (d_var 4) (d_int) (nomark _))))) (ss_one (s_ret (d_tup (d_acons (d_str "do") (d_acons (d_fn c__law_draw hr tk (d_acons (d_var 0) (d_acons (d_var 4) (d_anil))) (Nat.le_trans (by decide) (Nat.le_add_right 5 n))) (d_anil)))))) (ss_nil)) <|
    ss_one (s_ret (d_fn c__law_plain hr tk (d_acons (d_var 0) (d_acons (d_var 1) (d_acons (d_var 2) (d_acons (d_keep (d_lstF (d_acons (d_str "cut") (d_acons (d_str "cut") (d_acons (d_str "part") (d_acons (d_str "like") (d_acons (d_str "best") (d_acons (d_str "best") (d_acons (d_str "give") (d_acons (d_str "give") (d_acons (d_str "move") (d_acons (d_str "swap") (d_anil))))))))))))) (d_anil))))) (Nat.le_trans (by decide) (Nat.le_add_right 5 n)))),
    A__law_block.cal sc__law_block (fun _ _ _ _ _ _ us hl => match us, hl with | [_, _, _, _, _, _], _ => rfl) rfl fun f cdv A' outer s H E hr tk po =>
    ss_one (s_ret (d_tupF T.b_tuple (d_lc rfl sc__law_block.nd (i_rg1 T.b_range (d_var 5)) (blkOk_at (own := [("step", 6)]) (N := ns__law_block) (sc := defScope s__law_block) rfl rfl (by decide +kernel)) (by decide) (fun _ _ _ _ _ => g_name 6 sc__law_block.nd) (fun _ _ _ _ _ => q_nil) (fun _ _ _ _ _ => d_fn cr__law_statement hr takes0 (d_acons (d_var 0) (d_acons (d_var 1) (d_acons (d_var 2) (d_acons (d_var 3) (d_acons (d_var 4) (d_anil)))))) (Nat.le_refl _)))))⟩
theorem c__law_statement (T : Txt mg) (A__law_statement : At K mg "_law_statement" s__law_statement) (A__law_block : At K mg "_law_block" s__law_block) (c__law_draw : Cal P w K mg base xt "_law_draw" (1) 2 f__law_draw) (c__law_mixed : Cal P w K mg base xt "_law_mixed" (2) 2 f__law_mixed) (c__law_plain : Cal P w K mg base xt "_law_plain" (4) 4 f__law_plain) (c__law_share : Cal P w K mg base xt "_law_share" (3) 1 f__law_share) : Cal P w K mg base xt "_law_statement" (29) 5 f__law_statement := (g__law_statement T A__law_statement A__law_block c__law_draw c__law_mixed c__law_plain c__law_share 24).1
theorem c__law_block (T : Txt mg) (A__law_statement : At K mg "_law_statement" s__law_statement) (A__law_block : At K mg "_law_block" s__law_block) (c__law_draw : Cal P w K mg base xt "_law_draw" (1) 2 f__law_draw) (c__law_mixed : Cal P w K mg base xt "_law_mixed" (2) 2 f__law_mixed) (c__law_plain : Cal P w K mg base xt "_law_plain" (4) 4 f__law_plain) (c__law_share : Cal P w K mg base xt "_law_share" (3) 1 f__law_share) : Cal P w K mg base xt "_law_block" (29) 6 f__law_block := (g__law_statement T A__law_statement A__law_block c__law_draw c__law_mixed c__law_plain c__law_share 24).2

abbrev ns__law_out : List Str := ["block", "helps", "found", "here", "step"]
theorem sc__law_out : FnScope ["block", "helps", "found", "here", "step"] ["block", "helps"] (defScope s__law_out) := ⟨rfl, rfl, rfl, by decide +kernel, rfl, by decide +kernel, by decide +kernel⟩

theorem g__law_out (T : Txt mg) (A__law_out : At K mg "_law_out" s__law_out)  : ∀ n : Nat, (Cal P w K mg base xt "_law_out" (1 + n) 2 (f__law_out_n n))
  | 0 => A__law_out.bad (ps := ["block", "helps"]) (fun _ _ _ _ _ _ us hl => match us, hl with | [_, _], _ => rfl) rfl
  | n + 1 =>
    have ih := g__law_out T A__law_out  n
    have cr__law_out := ih
    A__law_out.cal sc__law_out (fun _ _ _ _ _ _ us hl => match us, hl with | [_, _], _ => rfl) rfl fun f cdv A' outer s H E hr tk po =>
    ss_cons (s_set 2 sc__law_out.nd (d_keep (d_lstF (d_anil)))) <|
    ss_cons (s_for po rfl (i_seq (d_var 0)) (g_name 3 sc__law_out.nd) (ss_one (s_if (t_cmp (o_eq hr.units) (d_ix (d_var 3) (d_int)) (d_str "do") (nomark _)) (ss_one (s_set 2 sc__law_out.nd (d_bin o_add (d_var 2) (d_keep (d_listOf T.b_list (d_ix (d_var 1) (d_ix (d_var 3) (d_int)))))))) (ss_one (s_if (t_cmp (o_eq hr.units) (d_ix (d_var 3) (d_int)) (d_str "rounds") (nomark _)) (ss_one (s_for po rfl (i_rg1 T.b_range (d_ix (d_var 3) (d_int))) (g_name 4 sc__law_out.nd) (ss_one (s_set 2 sc__law_out.nd (d_bin o_add (d_var 2) (d_keep (d_listOf T.b_list (d_fn cr__law_out hr tk (d_acons (d_ix (d_var 3) (d_int)) (d_acons (d_var 1) (d_anil))) (Nat.le_refl _))))))))) (ss_one (s_if (t_cmp (o_in (Room.u65 hr)) (d_ix (d_var 3) (d_int)) (d_keep (d_lstF (d_acons (d_str "ask") (d_acons (d_str "over") (d_anil))))) (by rfl)) (ss_one (s_expr (d_append (d_var 2) (d_bin o_add (d_slice (d_var 3) (p_none) (p_some (d_int))) (d_tup (d_acons (d_fn cr__law_out hr tk (d_acons (d_ix (d_var 3) (d_int)) (d_acons (d_var 1) (d_anil))) (Nat.le_refl _)) (d_acons (d_fn cr__law_out hr tk (d_acons (d_ix (d_var 3) (d_int)) (d_acons (d_var 1) (d_anil))) (Nat.le_refl _)) (d_anil)))))))) (ss_one (s_if (t_cmp (o_eq hr.units) (d_ix (d_var 3) (d_int)) (d_str "there") (nomark _)) (ss_one (s_expr (d_append (d_var 2) (d_bin o_add (d_slice (d_var 3) (p_none) (p_some (d_int))) (d_tup (d_acons (d_fn cr__law_out hr tk (d_acons (d_ix (d_var 3) (d_int)) (d_acons (d_var 1) (d_anil))) (Nat.le_refl _)) (d_acons (d_fn cr__law_out hr tk (d_acons (d_ix (d_var 3) (d_int)) (d_acons (d_var 1) (d_anil))) (Nat.le_refl _)) (d_anil)))))))) (ss_one (s_expr (d_append (d_var 2) (d_var 3))))))))))))) <|
    ss_one (s_ret (d_tupOf T.b_tuple (d_var 2)))
theorem c__law_out (T : Txt mg) (A__law_out : At K mg "_law_out" s__law_out)  : Cal P w K mg base xt "_law_out" (25) 2 f__law_out := (g__law_out T A__law_out  24)

abbrev ns__law_told : List Str := ["program", "helps", "block"]
theorem sc__law_told : FnScope ["program", "helps", "block"] ["program"] (defScope s__law_told) := ⟨rfl, rfl, rfl, by decide +kernel, rfl, by decide +kernel, by decide +kernel⟩

theorem c__law_told (T : Txt mg) (A : At K mg "_law_told" s__law_told) (c__law_out : Cal P w K mg base xt "_law_out" (25) 2 f__law_out) : Cal P w K mg base xt "_law_told" (26) 1 f__law_told :=
  A.cal sc__law_told (fun _ _ _ _ _ _ us hl => match us, hl with | [_], _ => rfl) rfl fun f cdv A' outer s H E hr tk po =>
    ss_cons (s_set 1 sc__law_told.nd (d_keep (d_lstF (d_anil)))) <|
    ss_cons (s_for po rfl (i_seq (d_ix (d_var 0) (d_int))) (g_name 2 sc__law_told.nd) (ss_one (s_expr (d_append (d_var 1) (d_fn c__law_out hr tk (d_acons (d_var 2) (d_acons (d_var 1) (d_anil)))))))) <|
    ss_one (s_ret (d_fn c__law_out hr tk (d_acons (d_ix (d_var 0) (d_int)) (d_acons (d_var 1) (d_anil)))))

abbrev ns__law_yard : List Str := ["program", "pieces"]
theorem sc__law_yard : FnScope ["program", "pieces"] ["program"] (defScope s__law_yard) := ⟨rfl, rfl, rfl, by decide +kernel, rfl, by decide +kernel, by decide +kernel⟩

theorem c__law_yard (T : Txt mg) (A : At K mg "_law_yard" s__law_yard) (c__law_told : Cal P w K mg base xt "_law_told" (26) 1 f__law_told) : Cal P w K mg base xt "_law_yard" (27) 1 f__law_yard :=
  A.cal sc__law_yard (fun _ _ _ _ _ _ us hl => match us, hl with | [_], _ => rfl) rfl fun f cdv A' outer s H E hr tk po =>
    ss_cons (s_set 1 sc__law_yard.nd (d_bin o_mul (d_keep (d_lstF (d_acons (d_tup (d_anil)) (d_anil)))) (d_ix (d_var 0) (d_int)))) <|
    ss_cons (s_sub (d_var 1) (d_int) (d_tup (d_acons (d_tup (d_acons (d_tup (d_acons (d_int) (d_acons (d_int) (d_anil)))) (d_acons (d_tup (d_acons (d_int) (d_acons (d_int) (d_anil)))) (d_anil)))) (d_anil)))) <|
    ss_one (s_ret (d_keep (d_lstF (d_acons (d_var 1) (d_acons (d_bin o_mul (d_keep (d_lstF (d_acons (d_tup (d_anil)) (d_anil)))) (d_ix (d_var 0) (d_int))) (d_acons (d_rev (d_keep (d_listOf T.b_list (d_fn c__law_told hr tk (d_acons (d_var 0) (d_anil)))))) (d_anil)))))))

abbrev ns__law_on : List Str := ["yard", "pieces", "shares", "waiting", "here", "having", "piece"]
theorem sc__law_on : FnScope ["yard", "pieces", "shares", "waiting", "here", "having", "piece"] ["yard"] (defScope s__law_on) := ⟨rfl, rfl, rfl, by decide +kernel, rfl, by decide +kernel, by decide +kernel⟩

theorem c__law_on (T : Txt mg) (A : At K mg "_law_on" s__law_on) (c__law_joined : Cal P w K mg base xt "_law_joined" (3) 2 f__law_joined) : Cal P w K mg base xt "_law_on" (4) 1 f__law_on :=
  A.cal sc__law_on (fun _ _ _ _ _ _ us hl => match us, hl with | [_], _ => rfl) rfl fun f cdv A' outer s H E hr tk po =>
    ss_cons (s_asg (d_var 0) (g_sq rfl (g_cons (g_name 1 sc__law_on.nd) (g_cons (g_name 2 sc__law_on.nd) (g_cons (g_name 3 sc__law_on.nd) (g_nil)))))) <|
    ss_cons (s_while WF po (t_cmp o_gt (d_len T.b_len (d_var 3)) (d_int) (nomark _)) (ss_cons (s_set 4 sc__law_on.nd (d_pop (d_var 3))) <|
    ss_cons (s_if (t_w (w_or (t_cmp (o_in (Room.u65 hr)) (d_ix (d_var 4) (d_int)) (d_keep (d_lstF (d_acons (d_str "ask") (d_acons (d_str "over") (d_anil))))) (by rfl)) (w_or1 (t_w (w_and (t_cmp (o_in (Room.u65 hr)) (d_ix (d_var 4) (d_int)) (d_keep (d_lstF (d_acons (d_str "cut") (d_acons (d_str "part") (d_acons (d_str "like") (d_anil)))))) (by rfl)) (w_and1 (t_cmp o_gt (d_len T.b_len (d_ix (d_var 1) (d_ix (d_var 4) (d_int)))) (d_int) (nomark _)))))))) (ss_one (s_ret (d_var 4))) (ss_nil)) <|
    ss_one (s_if (t_cmp (o_eq hr.units) (d_ix (d_var 4) (d_int)) (d_str "best") (nomark _)) (ss_cons (s_setLc rfl sc__law_on.nd rfl rfl (sw_true rfl rfl rfl (by decide +kernel)) (i_seq (d_ix (d_var 4) (d_int))) (blkOk_at (own := [("piece", 6)]) (N := ns__law_on) (sc := defScope s__law_on) rfl rfl (by decide +kernel)) (by decide) (fun _ _ _ _ _ => g_name 6 sc__law_on.nd) (fun _ _ _ _ _ => q_one (t_cmp o_gt (d_len T.b_len (d_ix (d_var 1) (d_var 6))) (d_int) (nomark _))) (fun _ _ _ _ _ => d_var 6)) <|
    ss_cons (s_if (t_cmp o_gt (d_len T.b_len (d_var 5)) (d_int) (nomark _)) (ss_one (s_ret (d_var 4))) (ss_nil)) <|
    ss_one (s_for po rfl (i_seq (d_var 5)) (g_name 6 sc__law_on.nd) (ss_one (s_asgS (d_tup (d_acons (d_fn c__law_joined hr tk (d_acons (d_ix (d_var 1) (d_ix (d_var 4) (d_int))) (d_acons (d_ix (d_var 1) (d_var 6)) (d_anil)))) (d_acons (d_tup (d_anil)) (d_anil)))) (h_tup rfl (h_cons (h_sub (xt := xt) (W := fun cls d _ H => E cls d H) (d_var 1) (d_ix (d_var 4) (d_int))) (h_cons (h_sub (xt := xt) (W := fun cls d _ H => E cls d H) (d_var 1) (d_var 6)) (h_nil)))))))) (ss_one (s_if (t_cmp (o_eq hr.units) (d_ix (d_var 4) (d_int)) (d_str "there") (nomark _)) (ss_one (s_expr (d_extend (d_var 3) (d_rev (d_if (t_cmp o_gt (d_len T.b_len (d_ix (d_var 1) (d_ix (d_var 4) (d_int)))) (d_int) (nomark _)) (d_ix (d_var 4) (d_int)) (d_ix (d_var 4) (d_int))))))) (ss_one (s_if (t_cmp (o_eq hr.units) (d_ix (d_var 4) (d_int)) (d_str "give") (nomark _)) (ss_one (s_asgS (d_tup (d_acons (d_fn c__law_joined hr tk (d_acons (d_ix (d_var 2) (d_ix (d_var 4) (d_int))) (d_acons (d_ix (d_var 1) (d_ix (d_var 4) (d_int))) (d_anil)))) (d_acons (d_tup (d_anil)) (d_anil)))) (h_tup rfl (h_cons (h_sub (xt := xt) (W := fun cls d _ H => E cls d H) (d_var 2) (d_ix (d_var 4) (d_int))) (h_cons (h_sub (xt := xt) (W := fun cls d _ H => E cls d H) (d_var 1) (d_ix (d_var 4) (d_int))) (h_nil)))))) (ss_one (s_if (t_cmp (o_eq hr.units) (d_ix (d_var 4) (d_int)) (d_str "move") (nomark _)) (ss_one (s_asgS (d_tup (d_acons (d_fn c__law_joined hr tk (d_acons (d_ix (d_var 1) (d_ix (d_var 4) (d_int))) (d_acons (d_ix (d_var 1) (d_ix (d_var 4) (d_int))) (d_anil)))) (d_acons (d_tup (d_anil)) (d_anil)))) (h_tup rfl (h_cons (h_sub (xt := xt) (W := fun cls d _ H => E cls d H) (d_var 1) (d_ix (d_var 4) (d_int))) (h_cons (h_sub (xt := xt) (W := fun cls d _ H => E cls d H) (d_var 1) (d_ix (d_var 4) (d_int))) (h_nil)))))) (ss_one (s_if (t_cmp (o_eq hr.units) (d_ix (d_var 4) (d_int)) (d_str "swap") (nomark _)) (ss_one (s_asgS (d_tup (d_acons (d_ix (d_var 1) (d_ix (d_var 4) (d_int))) (d_acons (d_ix (d_var 1) (d_ix (d_var 4) (d_int))) (d_anil)))) (h_tup rfl (h_cons (h_sub (xt := xt) (W := fun cls d _ H => E cls d H) (d_var 1) (d_ix (d_var 4) (d_int))) (h_cons (h_sub (xt := xt) (W := fun cls d _ H => E cls d H) (d_var 1) (d_ix (d_var 4) (d_int))) (h_nil)))))) (ss_nil)))))))))))) <|
    ss_one (s_ret (d_non))

abbrev ns__law_answered : List Str := ["yard", "here", "answer", "pieces", "shares", "waiting", "left"]
theorem sc__law_answered : FnScope ["yard", "here", "answer", "pieces", "shares", "waiting", "left"] ["yard", "here", "answer"] (defScope s__law_answered) := ⟨rfl, rfl, rfl, by decide +kernel, rfl, by decide +kernel, by decide +kernel⟩

theorem c__law_answered (T : Txt mg) (A : At K mg "_law_answered" s__law_answered) (c__law_cut : Cal P w K mg base xt "_law_cut" (1) 3 f__law_cut) (c__law_joined : Cal P w K mg base xt "_law_joined" (3) 2 f__law_joined) : Cal P w K mg base xt "_law_answered" (4) 3 f__law_answered :=
  A.cal sc__law_answered (fun _ _ _ _ _ _ us hl => match us, hl with | [_, _, _], _ => rfl) rfl fun f cdv A' outer s H E hr tk po =>
    ss_cons (s_asg (d_var 0) (g_sq rfl (g_cons (g_name 3 sc__law_answered.nd) (g_cons (g_name 4 sc__law_answered.nd) (g_cons (g_name 5 sc__law_answered.nd) (g_nil)))))) <|
    ss_one (s_if (t_cmp (o_in (Room.u65 hr)) (d_ix (d_var 1) (d_int)) (d_keep (d_lstF (d_acons (d_str "cut") (d_acons (d_str "part") (d_acons (d_str "like") (d_anil)))))) (by rfl)) (ss_cons (s_asgS (d_fn c__law_cut hr tk (d_acons (d_ix (d_var 3) (d_ix (d_var 1) (d_int))) (d_acons (d_ix (d_var 2) (d_int)) (d_acons (d_ix (d_var 2) (d_int)) (d_anil))))) (h_tup rfl (h_cons (h_name 6 sc__law_answered.nd) (h_cons (h_sub (xt := xt) (W := fun cls d _ H => E cls d H) (d_var 3) (d_ix (d_var 1) (d_int))) (h_nil))))) <|
    ss_one (s_sub (d_var 3) (d_ix (d_var 1) (d_int)) (d_fn c__law_joined hr tk (d_acons (d_ix (d_var 3) (d_ix (d_var 1) (d_int))) (d_acons (d_var 6) (d_anil)))))) (ss_one (s_if (t_cmp (o_eq hr.units) (d_ix (d_var 1) (d_int)) (d_str "best") (nomark _)) (ss_one (s_asgS (d_tup (d_acons (d_fn c__law_joined hr tk (d_acons (d_ix (d_var 3) (d_ix (d_var 1) (d_int))) (d_acons (d_ix (d_var 3) (d_var 2)) (d_anil)))) (d_acons (d_tup (d_anil)) (d_anil)))) (h_tup rfl (h_cons (h_sub (xt := xt) (W := fun cls d _ H => E cls d H) (d_var 3) (d_ix (d_var 1) (d_int))) (h_cons (h_sub (xt := xt) (W := fun cls d _ H => E cls d H) (d_var 3) (d_var 2)) (h_nil)))))) (ss_one (s_expr (d_extend (d_var 5) (d_rev (d_if (t_tru (d_var 2)) (d_ix (d_var 1) (d_int)) (d_ix (d_var 1) (d_int))))))))))

abbrev ns__law_copy : List Str := ["yard", "part"]
theorem sc__law_copy : FnScope ["yard", "part"] ["yard"] (defScope s__law_copy) := ⟨rfl, rfl, rfl, by decide +kernel, rfl, by decide +kernel, by decide +kernel⟩

theorem c__law_copy (T : Txt mg) (A : At K mg "_law_copy" s__law_copy)  : Cal P w K mg base xt "_law_copy" (1) 1 f__law_copy :=
  A.cal sc__law_copy (fun _ _ _ _ _ _ us hl => match us, hl with | [_], _ => rfl) rfl fun f cdv A' outer s H E hr tk po =>
    ss_one (s_ret (d_keep (d_lc rfl sc__law_copy.nd (i_seq (d_var 0)) (blkOk_at (own := [("part", 1)]) (N := ns__law_copy) (sc := defScope s__law_copy) rfl rfl (by decide +kernel)) (by decide) (fun _ _ _ _ _ => g_name 1 sc__law_copy.nd) (fun _ _ _ _ _ => q_nil) (fun _ _ _ _ _ => d_keep (d_listOf T.b_list (d_var 1))))))

abbrev ns__law_options : List Str := ["yard", "here", "piece"]
theorem sc__law_options : FnScope ["yard", "here", "piece"] ["yard", "here"] (defScope s__law_options) := ⟨rfl, rfl, rfl, by decide +kernel, rfl, by decide +kernel, by decide +kernel⟩

theorem c__law_options (T : Txt mg) (A : At K mg "_law_options" s__law_options)  : Cal P w K mg base xt "_law_options" (1) 2 f__law_options :=
  A.cal sc__law_options (fun _ _ _ _ _ _ us hl => match us, hl with | [_, _], _ => rfl) rfl fun f cdv A' outer s H E hr tk po =>
    ss_cons (s_if (t_cmp (o_eq hr.units) (d_ix (d_var 1) (d_int)) (d_str "cut") (nomark _)) (ss_one (s_ret (d_keep (d_listRg1 rfl T.b_list T.b_range (d_len T.b_len (d_ix (d_ix (d_var 0) (d_int)) (d_ix (d_var 1) (d_int)))))))) (ss_nil)) <|
    ss_cons (s_if (t_cmp (o_in (Room.u65 hr)) (d_ix (d_var 1) (d_int)) (d_keep (d_lstF (d_acons (d_str "part") (d_acons (d_str "like") (d_anil))))) (by rfl)) (ss_one (s_ret (d_keep (d_listRg1 rfl T.b_list T.b_range (d_bin o_mul (d_int) (d_len T.b_len (d_ix (d_ix (d_var 0) (d_int)) (d_ix (d_var 1) (d_int))))))))) (ss_nil)) <|
    ss_one (s_ret (d_if (t_cmp (o_eq hr.units) (d_ix (d_var 1) (d_int)) (d_str "best") (nomark _)) (d_keep (d_lc rfl sc__law_options.nd (i_seq (d_ix (d_var 1) (d_int))) (blkOk_at (own := [("piece", 2)]) (N := ns__law_options) (sc := defScope s__law_options) rfl rfl (by decide +kernel)) (by decide) (fun _ _ _ _ _ => g_name 2 sc__law_options.nd) (fun _ _ _ _ _ => q_one (t_cmp o_gt (d_len T.b_len (d_ix (d_ix (d_var 0) (d_int)) (d_var 2))) (d_int) (nomark _))) (fun _ _ _ _ _ => d_var 2))) (d_keep (d_lstF (d_acons (d_int) (d_acons (d_int) (d_anil)))))))

abbrev ns__law_by : List Str := ["yard", "here", "number", "j", "low", "high"]
theorem sc__law_by : FnScope ["yard", "here", "number", "j", "low", "high"] ["yard", "here", "number"] (defScope s__law_by) := ⟨rfl, rfl, rfl, by decide +kernel, rfl, by decide +kernel, by decide +kernel⟩

theorem c__law_by (T : Txt mg) (A : At K mg "_law_by" s__law_by) (c__law_times : Cal P w K mg base xt "_law_times" (2) 2 f__law_times) (c__law_plus : Cal P w K mg base xt "_law_plus" (2) 2 f__law_plus) : Cal P w K mg base xt "_law_by" (3) 3 f__law_by :=
  A.cal sc__law_by (fun _ _ _ _ _ _ us hl => match us, hl with | [_, _, _], _ => rfl) rfl fun f cdv A' outer s H E hr tk po =>
    ss_cons (s_if (t_cmp (o_in (Room.u65 hr)) (d_ix (d_var 1) (d_int)) (d_keep (d_lstF (d_acons (d_str "cut") (d_acons (d_str "part") (d_acons (d_str "like") (d_anil)))))) (by rfl)) (ss_cons (s_set 3 sc__law_by.nd (d_if (t_cmp (o_eq hr.units) (d_ix (d_var 1) (d_int)) (d_str "cut") (nomark _)) (d_var 2) (d_bin o_fdiv (d_var 2) (d_int)))) <|
    ss_cons (s_asg (d_ix (d_ix (d_ix (d_var 0) (d_int)) (d_ix (d_var 1) (d_int))) (d_var 3)) (g_tup rfl (g_cons (g_name 4 sc__law_by.nd) (g_cons (g_name 5 sc__law_by.nd) (g_nil))))) <|
    ss_one (s_ret (d_tup (d_acons (d_var 3) (d_acons (d_fn c__law_times hr tk (d_acons (d_tup (d_acons (d_int) (d_acons (d_int) (d_anil)))) (d_acons (d_fn c__law_plus hr tk (d_acons (d_var 4) (d_acons (d_var 5) (d_anil)))) (d_anil)))) (d_anil)))))) (ss_nil)) <|
    ss_one (s_ret (d_if (t_cmp (o_eq hr.units) (d_ix (d_var 1) (d_int)) (d_str "best") (nomark _)) (d_var 2) (d_cmp (o_eq hr.units) (d_var 2) (d_int) (nomark _))))

abbrev ns__law_ways : List Str := ["program", "most", "found", "waiting", "way", "yard", "here", "number", "other"]
theorem sc__law_ways : FnScope ["program", "most", "found", "waiting", "way", "yard", "here", "number", "other"] ["program", "most"] (defScope s__law_ways) := ⟨rfl, rfl, rfl, by decide +kernel, rfl, by decide +kernel, by decide +kernel⟩

theorem c__law_ways (T : Txt mg) (A : At K mg "_law_ways" s__law_ways) (c__law_on : Cal P w K mg base xt "_law_on" (4) 1 f__law_on) (c__law_yard : Cal P w K mg base xt "_law_yard" (27) 1 f__law_yard) (c__law_options : Cal P w K mg base xt "_law_options" (1) 2 f__law_options) (c__law_copy : Cal P w K mg base xt "_law_copy" (1) 1 f__law_copy) (c__law_answered : Cal P w K mg base xt "_law_answered" (4) 3 f__law_answered) (c__law_by : Cal P w K mg base xt "_law_by" (3) 3 f__law_by) : Cal P w K mg base xt "_law_ways" (28) 2 f__law_ways :=
  A.cal sc__law_ways (fun _ _ _ _ _ _ us hl => match us, hl with | [_, _], _ => rfl) rfl fun f cdv A' outer s H E hr tk po =>
    ss_cons (s_par rfl sc__law_ways.nd (by decide) (d_acons (d_keep (d_lstF (d_anil))) (d_acons (d_keep (d_lstF (d_acons (d_tup (d_acons (d_tup (d_anil)) (d_acons (d_fn c__law_yard hr tk (d_acons (d_var 0) (d_anil))) (d_anil)))) (d_anil)))) (d_anil))) (i := 2) (j := 3)) <|
    ss_cons (s_while WG po (t_cmp o_gt (d_len T.b_len (d_var 3)) (d_int) (nomark _)) (ss_cons (s_asg (d_pop (d_var 3)) (g_tup rfl (g_cons (g_name 4 sc__law_ways.nd) (g_cons (g_name 5 sc__law_ways.nd) (g_nil))))) <|
    ss_cons (s_set 6 sc__law_ways.nd (d_fn c__law_on hr tk (d_acons (d_var 5) (d_anil)))) <|
    ss_one (s_if (t_cmp o_is (d_var 6) (d_non) (nomark _)) (ss_cons (s_expr (d_append (d_var 2) (d_var 4))) <|
    ss_one (s_if (t_cmp o_gt (d_len T.b_len (d_var 2)) (d_var 1) (nomark _)) (ss_one (s_ret (d_non))) (ss_nil))) (ss_one (s_for po rfl (i_seq (d_rev (d_fn c__law_options hr tk (d_acons (d_var 5) (d_acons (d_var 6) (d_anil)))))) (g_name 7 sc__law_ways.nd) (ss_cons (s_set 8 sc__law_ways.nd (d_fn c__law_copy hr tk (d_acons (d_var 5) (d_anil)))) <|
    ss_cons (s_expr (d_fn c__law_answered hr tk (d_acons (d_var 8) (d_acons (d_var 6) (d_acons (d_fn c__law_by hr tk (d_acons (d_var 8) (d_acons (d_var 6) (d_acons (d_var 7) (d_anil))))) (d_anil)))))) <|
    ss_one (s_expr (d_append (d_var 3) (d_tup (d_acons (d_bin o_add (d_var 4) (d_tup (d_acons (d_var 7) (d_anil)))) (d_acons (d_var 8) (d_anil)))))))))))) <|
    ss_one (s_ret (d_var 2))

abbrev ns__law_counts : List Str := ["block", "told", "marks", "said", "here", "inner", "part"]
theorem sc__law_counts : FnScope ["block", "told", "marks", "said", "here", "inner", "part"] ["block"] (defScope s__law_counts) := ⟨rfl, rfl, rfl, by decide +kernel, rfl, by decide +kernel, by decide +kernel⟩

theorem g__law_counts (T : Txt mg) (A__law_counts : At K mg "_law_counts" s__law_counts)  : ∀ n : Nat, (Cal P w K mg base xt "_law_counts" (1 + n) 1 (f__law_counts_n n))
  | 0 => A__law_counts.bad (ps := ["block"]) (fun _ _ _ _ _ _ us hl => match us, hl with | [_], _ => rfl) rfl
  | n + 1 =>
    have ih := g__law_counts T A__law_counts  n
    have cr__law_counts := ih
    A__law_counts.cal sc__law_counts (fun _ _ _ _ _ _ us hl => match us, hl with | [_], _ => rfl) rfl fun f cdv A' outer s H E hr tk po =>
    ss_cons (s_asg (d_tup (d_acons (d_int) (d_acons (d_int) (d_acons (d_int) (d_anil))))) (g_tup rfl (g_cons (g_name 1 sc__law_counts.nd) (g_cons (g_name 2 sc__law_counts.nd) (g_cons (g_name 3 sc__law_counts.nd) (g_nil)))))) <|
    ss_cons (s_for po rfl (i_seq (d_var 0)) (g_name 4 sc__law_counts.nd) (ss_cons (s_set 5 sc__law_counts.nd (d_if (t_cmp (o_in (Room.u65 hr)) (d_ix (d_var 4) (d_int)) (d_keep (d_lstF (d_acons (d_str "ask") (d_acons (d_str "over") (d_anil))))) (by rfl)) (d_keep (d_lc rfl sc__law_counts.nd (i_seq (d_slice (d_var 4) (p_some (d_int)) (p_some (d_int)))) (blkOk_at (own := [("part", 6)]) (N := ns__law_counts) (sc := defScope s__law_counts) rfl rfl (by decide +kernel)) (by decide) (fun _ _ _ _ _ => g_name 6 sc__law_counts.nd) (fun _ _ _ _ _ => q_nil) (fun _ _ _ _ _ => d_fn cr__law_counts hr takes0 (d_acons (d_var 6) (d_anil)) (Nat.le_refl _)))) (d_if (t_cmp (o_eq hr.units) (d_ix (d_var 4) (d_int)) (d_str "there") (nomark _)) (d_keep (d_lc rfl sc__law_counts.nd (i_seq (d_slice (d_var 4) (p_some (d_int)) (p_some (d_int)))) (blkOk_at (own := [("part", 6)]) (N := ns__law_counts) (sc := defScope s__law_counts) rfl rfl (by decide +kernel)) (by decide) (fun _ _ _ _ _ => g_name 6 sc__law_counts.nd) (fun _ _ _ _ _ => q_nil) (fun _ _ _ _ _ => d_fn cr__law_counts hr takes0 (d_acons (d_var 6) (d_anil)) (Nat.le_refl _)))) (d_keep (d_lstF (d_anil)))))) <|
    ss_cons (s_set 1 sc__law_counts.nd (d_bin o_add (d_bin o_add (d_var 1) (d_int)) (d_b1F (cr_sum rfl) lf_sum (hm := T.b_sum) (h := d_lc rfl sc__law_counts.nd (i_seq (d_var 5)) (blkOk_at (own := [("part", 6)]) (N := ns__law_counts) (sc := defScope s__law_counts) rfl rfl (by decide +kernel)) (by decide) (fun _ _ _ _ _ => g_name 6 sc__law_counts.nd) (fun _ _ _ _ _ => q_nil) (fun _ _ _ _ _ => d_ix (d_var 6) (d_int)))))) <|
    ss_cons (s_set 2 sc__law_counts.nd (d_bin o_add (d_bin o_add (d_var 2) (d_if (t_cmp (o_in (Room.u65 hr)) (d_ix (d_var 4) (d_int)) (d_keep (d_lstF (d_acons (d_str "cut") (d_acons (d_str "part") (d_acons (d_str "like") (d_anil)))))) (by rfl)) (d_int) (d_int))) (d_b1 (cr_max rfl) lf_max (hm := T.b_max) (hv := by decide +kernel) (h := d_bin o_add (d_keep (d_lstF (d_acons (d_int) (d_anil)))) (d_keep (d_lc rfl sc__law_counts.nd (i_seq (d_var 5)) (blkOk_at (own := [("part", 6)]) (N := ns__law_counts) (sc := defScope s__law_counts) rfl rfl (by decide +kernel)) (by decide) (fun _ _ _ _ _ => g_name 6 sc__law_counts.nd) (fun _ _ _ _ _ => q_nil) (fun _ _ _ _ _ => d_ix (d_var 6) (d_int)))))))) <|
    ss_one (s_set 3 sc__law_counts.nd (d_bin o_add (d_bin o_add (d_var 3) (d_if (t_cmp (o_in (Room.u65 hr)) (d_ix (d_var 4) (d_int)) (d_keep (d_lstF (d_acons (d_str "best") (d_acons (d_str "ask") (d_acons (d_str "over") (d_anil)))))) (by rfl)) (d_int) (d_int))) (d_b1 (cr_max rfl) lf_max (hm := T.b_max) (hv := by decide +kernel) (h := d_bin o_add (d_keep (d_lstF (d_acons (d_int) (d_anil)))) (d_keep (d_lc rfl sc__law_counts.nd (i_seq (d_var 5)) (blkOk_at (own := [("part", 6)]) (N := ns__law_counts) (sc := defScope s__law_counts) rfl rfl (by decide +kernel)) (by decide) (fun _ _ _ _ _ => g_name 6 sc__law_counts.nd) (fun _ _ _ _ _ => q_nil) (fun _ _ _ _ _ => d_ix (d_var 6) (d_int)))))))))) <|
    ss_one (s_ret (d_tup (d_acons (d_var 1) (d_acons (d_var 2) (d_acons (d_var 3) (d_anil))))))
theorem c__law_counts (T : Txt mg) (A__law_counts : At K mg "_law_counts" s__law_counts)  : Cal P w K mg base xt "_law_counts" (25) 1 f__law_counts := (g__law_counts T A__law_counts  24)

abbrev ns__law_program : List Str := ["hand", "marks", "most", "sharers", "pieces", "helps", "block", "step", "made", "told", "at"]
theorem sc__law_program : FnScope ["hand", "marks", "most", "sharers", "pieces", "helps", "block", "step", "made", "told", "at"] ["hand", "marks", "most"] (defScope s__law_program) := ⟨rfl, rfl, rfl, by decide +kernel, rfl, by decide +kernel, by decide +kernel⟩

theorem c__law_program (T : Txt mg) (A : At K mg "_law_program" s__law_program) (c__law_counts : Cal P w K mg base xt "_law_counts" (25) 1 f__law_counts) (c__law_draw : Cal P w K mg base xt "_law_draw" (1) 2 f__law_draw) (c__law_block : Cal P w K mg base xt "_law_block" (29) 6 f__law_block) (c__law_share : Cal P w K mg base xt "_law_share" (3) 1 f__law_share) (c__law_told : Cal P w K mg base xt "_law_told" (26) 1 f__law_told) (c__law_ways : Cal P w K mg base xt "_law_ways" (28) 2 f__law_ways) (c__law_statement : Cal P w K mg base xt "_law_statement" (29) 5 f__law_statement) : Cal P w K mg base xt "_law_program" (30) 3 f__law_program :=
  A.cal sc__law_program (fun _ _ _ _ _ _ us hl => match us, hl with | [_, _, _], _ => rfl) rfl fun f cdv A' outer s H E hr tk po =>
    ss_cons (s_asg (d_tup (d_acons (d_bin o_add (d_int) (d_fn c__law_draw hr tk (d_acons (d_var 0) (d_acons (d_int) (d_anil))))) (d_acons (d_bin o_add (d_int) (d_fn c__law_draw hr tk (d_acons (d_var 0) (d_acons (d_int) (d_anil))))) (d_anil)))) (g_tup rfl (g_cons (g_name 3 sc__law_program.nd) (g_cons (g_name 4 sc__law_program.nd) (g_nil))))) <|
    ss_cons (s_set 5 sc__law_program.nd (d_tupF T.b_tuple (d_lc rfl sc__law_program.nd (i_rg1 T.b_range (d_fn c__law_draw hr tk (d_acons (d_var 0) (d_acons (d_int) (d_anil))))) (blkOk_at (own := [("at", 10)]) (N := ns__law_program) (sc := defScope s__law_program) rfl rfl (by decide +kernel)) (by decide) (fun _ _ _ _ _ => g_name 10 sc__law_program.nd) (fun _ _ _ _ _ => q_nil) (fun _ _ _ _ _ => d_fn c__law_block hr takes0 (d_acons (d_var 0) (d_acons (d_var 3) (d_acons (d_var 4) (d_acons (d_int) (d_acons (d_var 10) (d_acons (d_bin o_add (d_int) (d_fn c__law_draw hr takes0 (d_acons (d_var 0) (d_acons (d_int) (d_anil))))) (d_anil))))))))))) <|
    ss_cons (s_set 6 sc__law_program.nd (d_tup (d_acons (d_tup (d_acons (d_str "cut") (d_acons (d_fn c__law_draw hr tk (d_acons (d_var 0) (d_acons (d_var 3) (d_anil)))) (d_acons (d_int) (d_acons (d_fn c__law_share hr tk (d_acons (d_var 0) (d_anil))) (d_acons (d_int) (d_anil))))))) (d_anil)))) <|
    ss_cons (s_for po rfl (i_rg1 T.b_range (d_bin o_add (d_int) (d_fn c__law_draw hr tk (d_acons (d_var 0) (d_acons (d_int) (d_anil)))))) (g_name 7 sc__law_program.nd) (ss_cons (s_set 8 sc__law_program.nd (d_tup (d_acons (d_var 3) (d_acons (d_var 4) (d_acons (d_var 5) (d_acons (d_bin o_add (d_var 6) (d_tup (d_acons (d_fn c__law_statement hr tk (d_acons (d_var 0) (d_acons (d_var 3) (d_acons (d_var 4) (d_acons (d_int) (d_acons (d_len T.b_len (d_var 5)) (d_anil))))))) (d_anil)))) (d_anil))))))) <|
    ss_cons (s_set 9 sc__law_program.nd (d_fn c__law_counts hr tk (d_acons (d_fn c__law_told hr tk (d_acons (d_var 8) (d_anil))) (d_anil)))) <|
    ss_one (s_if (t_w (w_and (t_cmp o_lt (d_ix (d_var 9) (d_int)) (d_int) (nomark _)) (w_and (t_cmp o_le (d_ix (d_var 9) (d_int)) (d_var 1) (nomark _)) (w_and (t_cmp o_lt (d_ix (d_var 9) (d_int)) (d_int) (nomark _)) (w_and1 (t_cmp o_isNot (d_fn c__law_ways hr tk (d_acons (d_var 8) (d_acons (d_var 2) (d_anil)))) (d_non) (nomark _))))))) (ss_one (s_set 6 sc__law_program.nd (d_ix (d_var 8) (d_int)))) (ss_nil)))) <|
    ss_one (s_ret (d_tup (d_acons (d_var 3) (d_acons (d_var 4) (d_acons (d_var 5) (d_acons (d_var 6) (d_anil)))))))

abbrev ns__law_no_program : List Str := ["hand", "program", "sharers", "pieces", "helps", "block", "bad", "one", "other"]
theorem sc__law_no_program : FnScope ["hand", "program", "sharers", "pieces", "helps", "block", "bad", "one", "other"] ["hand", "program"] (defScope s__law_no_program) := ⟨rfl, rfl, rfl, by decide +kernel, rfl, by decide +kernel, by decide +kernel⟩

theorem c__law_no_program (T : Txt mg) (A : At K mg "_law_no_program" s__law_no_program) (c__law_some : Cal P w K mg base xt "_law_some" (2) 2 f__law_some) : Cal P w K mg base xt "_law_no_program" (3) 2 f__law_no_program :=
  A.cal sc__law_no_program (fun _ _ _ _ _ _ us hl => match us, hl with | [_, _], _ => rfl) rfl fun f cdv A' outer s H E hr tk po =>
    ss_cons (s_asg (d_var 1) (g_tup rfl (g_cons (g_name 2 sc__law_no_program.nd) (g_cons (g_name 3 sc__law_no_program.nd) (g_cons (g_name 4 sc__law_no_program.nd) (g_cons (g_name 5 sc__law_no_program.nd) (g_nil))))))) <|
    ss_cons (s_set 6 sc__law_no_program.nd (d_keep (d_lstF (d_acons (d_non) (d_acons (d_tup (d_acons (d_var 2) (d_acons (d_var 3) (d_acons (d_var 4) (d_anil))))) (d_acons (d_keep (d_lstF (d_acons (d_var 2) (d_acons (d_var 3) (d_acons (d_var 4) (d_acons (d_var 5) (d_anil))))))) (d_acons (d_tup (d_acons (d_int) (d_acons (d_var 3) (d_acons (d_var 4) (d_acons (d_var 5) (d_anil)))))) (d_acons (d_tup (d_acons (d_int) (d_acons (d_var 3) (d_acons (d_var 4) (d_acons (d_var 5) (d_anil)))))) (d_acons (d_tup (d_acons (d_bl) (d_acons (d_var 3) (d_acons (d_var 4) (d_acons (d_var 5) (d_anil)))))) (d_anil)))))))))) <|
    ss_cons (s_set 6 sc__law_no_program.nd (d_bin o_add (d_var 6) (d_keep (d_lstF (d_acons (d_tup (d_acons (d_var 2) (d_acons (d_int) (d_acons (d_var 4) (d_acons (d_var 5) (d_anil)))))) (d_acons (d_tup (d_acons (d_var 2) (d_acons (d_int) (d_acons (d_var 4) (d_acons (d_var 5) (d_anil)))))) (d_acons (d_tup (d_acons (d_var 2) (d_acons (d_var 3) (d_acons (d_keep (d_listOf T.b_list (d_var 4))) (d_acons (d_var 5) (d_anil)))))) (d_acons (d_tup (d_acons (d_var 2) (d_acons (d_var 3) (d_acons (d_var 4) (d_acons (d_keep (d_listOf T.b_list (d_var 5))) (d_anil)))))) (d_anil))))))))) <|
    ss_cons (s_set 7 sc__law_no_program.nd (d_fn c__law_some hr tk (d_acons (d_var 0) (d_acons (d_keep (d_lstF (d_acons (d_tup (d_acons (d_str "cut") (d_acons (d_var 2) (d_acons (d_int) (d_acons (d_tup (d_acons (d_int) (d_acons (d_int) (d_anil)))) (d_acons (d_int) (d_anil))))))) (d_acons (d_tup (d_acons (d_str "cut") (d_acons (d_int) (d_acons (d_int) (d_acons (d_tup (d_acons (d_int) (d_acons (d_int) (d_anil)))) (d_acons (d_int) (d_anil))))))) (d_acons (d_tup (d_acons (d_str "cut") (d_acons (d_int) (d_acons (d_int) (d_acons (d_tup (d_acons (d_int) (d_acons (d_int) (d_anil)))) (d_acons (d_int) (d_anil))))))) (d_acons (d_tup (d_acons (d_str "cut") (d_acons (d_int) (d_acons (d_int) (d_acons (d_tup (d_acons (d_int) (d_acons (d_int) (d_anil)))) (d_acons (d_int) (d_anil))))))) (d_anil))))))) (d_anil))))) <|
    ss_cons (s_set 7 sc__law_no_program.nd (d_fn c__law_some hr tk (d_acons (d_var 0) (d_acons (d_keep (d_lstF (d_acons (d_var 7) (d_acons (d_var 7) (d_acons (d_tup (d_acons (d_str "give") (d_acons (d_int) (d_anil)))) (d_acons (d_tup (d_acons (d_str "give") (d_acons (d_int) (d_acons (d_var 3) (d_anil))))) (d_acons (d_tup (d_acons (d_str "move") (d_acons (d_int) (d_acons (d_int) (d_anil))))) (d_acons (d_non) (d_anil))))))))) (d_anil))))) <|
    ss_cons (s_set 8 sc__law_no_program.nd (d_fn c__law_some hr tk (d_acons (d_var 0) (d_acons (d_keep (d_lstF (d_acons (d_tup (d_acons (d_str "best") (d_acons (d_int) (d_acons (d_tup (d_anil)) (d_acons (d_int) (d_anil)))))) (d_acons (d_tup (d_acons (d_str "best") (d_acons (d_int) (d_acons (d_tup (d_acons (d_int) (d_acons (d_int) (d_anil)))) (d_acons (d_int) (d_anil)))))) (d_acons (d_tup (d_acons (d_str "best") (d_acons (d_int) (d_acons (d_tup (d_acons (d_int) (d_acons (d_int) (d_anil)))) (d_acons (d_int) (d_anil)))))) (d_acons (d_tup (d_acons (d_str "best") (d_acons (d_int) (d_acons (d_keep (d_lstF (d_acons (d_int) (d_anil)))) (d_acons (d_int) (d_anil)))))) (d_acons (d_tup (d_acons (d_str "rounds") (d_acons (d_int) (d_acons (d_tup (d_anil)) (d_anil))))) (d_acons (d_tup (d_acons (d_str "rounds") (d_acons (d_bl) (d_acons (d_tup (d_anil)) (d_anil))))) (d_acons (d_tup (d_acons (d_str "do") (d_acons (d_len T.b_len (d_var 4)) (d_anil)))) (d_anil)))))))))) (d_anil))))) <|
    ss_cons (s_set 8 sc__law_no_program.nd (d_fn c__law_some hr tk (d_acons (d_var 0) (d_acons (d_keep (d_lstF (d_acons (d_var 8) (d_acons (d_var 8) (d_acons (d_tup (d_acons (d_str "there") (d_acons (d_int) (d_acons (d_tup (d_anil)) (d_anil))))) (d_acons (d_tup (d_acons (d_str "skip") (d_anil))) (d_acons (d_keep (d_lstF (d_acons (d_str "move") (d_acons (d_int) (d_acons (d_int) (d_anil)))))) (d_anil)))))))) (d_anil))))) <|
    ss_cons (s_set 6 sc__law_no_program.nd (d_bin o_add (d_var 6) (d_keep (d_lstF (d_acons (d_tup (d_acons (d_var 2) (d_acons (d_var 3) (d_acons (d_var 4) (d_acons (d_bin o_add (d_var 5) (d_tup (d_acons (d_var 7) (d_anil)))) (d_anil)))))) (d_acons (d_tup (d_acons (d_var 2) (d_acons (d_var 3) (d_acons (d_var 4) (d_acons (d_bin o_add (d_var 5) (d_tup (d_acons (d_var 8) (d_anil)))) (d_anil)))))) (d_acons (d_tup (d_acons (d_var 2) (d_acons (d_var 3) (d_acons (d_var 4) (d_acons (d_bin o_mul (d_tup (d_acons (d_tup (d_acons (d_str "move") (d_acons (d_int) (d_acons (d_int) (d_anil))))) (d_anil))) (d_int)) (d_anil)))))) (d_anil)))))))) <|
    ss_one (s_ret (d_fn c__law_some hr tk (d_acons (d_var 0) (d_acons (d_bin o_add (d_var 6) (d_keep (d_lstF (d_acons (d_tup (d_acons (d_var 2) (d_acons (d_var 3) (d_acons (d_bin o_mul (d_tup (d_acons (d_tup (d_anil)) (d_anil))) (d_int)) (d_acons (d_var 5) (d_anil)))))) (d_acons (d_tup (d_acons (d_var 2) (d_acons (d_var 3) (d_acons (d_var 4) (d_acons (d_bin o_mul (d_tup (d_acons (d_tup (d_acons (d_str "cut") (d_acons (d_int) (d_acons (d_int) (d_acons (d_tup (d_acons (d_int) (d_acons (d_int) (d_anil)))) (d_acons (d_int) (d_anil))))))) (d_anil))) (d_int)) (d_anil)))))) (d_acons (d_str "program") (d_anil))))))) (d_anil)))))

abbrev ns_law : List Str := ["script", "hand", "turn", "program", "sharers", "pieces", "helps", "block", "again", "mark", "say", "wide", "both", "inner", "step", "lines", "ring"]
theorem sc_law : FnScope ["script", "hand", "turn", "program", "sharers", "pieces", "helps", "block", "again", "mark", "say", "wide", "both", "inner", "step", "lines", "ring"] ["script"] (defScope s_law) := ⟨rfl, rfl, rfl, by decide +kernel, rfl, by decide +kernel, by decide +kernel⟩

theorem d_law (T : Txt mg) (c__law_hand : Cal P w K mg base xt "_law_hand" (1) 1 f__law_hand) (c__law_program : Cal P w K mg base xt "_law_program" (30) 3 f__law_program) (c_is_program : Cal P w K mg base xt "is_program" (30) 1 f_is_program) (c__law_no_program : Cal P w K mg base xt "_law_no_program" (3) 2 f__law_no_program) (f : Addr) : DefH P w K mg base xt "law" s_law ns_law f 30 b_law :=
  fun cdv A' outer s H E hr tk po =>
    ss_cons (s_set 1 sc_law.nd (d_fn c__law_hand hr tk (d_acons (d_var 0) (d_anil)))) <|
    ss_cons (s_for po rfl (i_rg1 T.b_range (d_int)) (g_name 2 sc_law.nd) (ss_cons (s_set 3 sc_law.nd (d_fn c__law_program hr tk (d_acons (d_var 1) (d_acons (d_int) (d_acons (d_int) (d_anil)))))) <|
    ss_cons (s_asg (d_var 3) (g_tup rfl (g_cons (g_name 4 sc_law.nd) (g_cons (g_name 5 sc_law.nd) (g_cons (g_name 6 sc_law.nd) (g_cons (g_name 7 sc_law.nd) (g_nil))))))) <|
    ss_cons (s_if (t_cmp o_isNot (d_fn c_is_program hr tk (d_acons (d_var 3) (d_anil))) (d_bl) (nomark _)) (ss_one (s_ret (d_bl))) (ss_nil)) <|
    ss_cons (s_for po rfl (i_rg1 T.b_range (d_int)) (g_name 8 sc_law.nd) (ss_one (s_if (t_cmp o_isNot (d_fn c_is_program hr tk (d_acons (d_fn c__law_no_program hr tk (d_acons (d_var 1) (d_acons (d_var 3) (d_anil)))) (d_anil))) (d_bl) (nomark _)) (ss_one (s_ret (d_bl))) (ss_nil)))) <|
    ss_cons (s_asg (d_tup (d_acons (d_tup (d_acons (d_str "cut") (d_acons (d_int) (d_acons (d_int) (d_acons (d_tup (d_acons (d_int) (d_acons (d_int) (d_anil)))) (d_acons (d_int) (d_anil))))))) (d_acons (d_tup (d_acons (d_str "ask") (d_acons (d_int) (d_acons (d_int) (d_acons (d_int) (d_acons (d_tup (d_anil)) (d_acons (d_tup (d_anil)) (d_anil)))))))) (d_anil)))) (g_tup rfl (g_cons (g_name 9 sc_law.nd) (g_cons (g_name 10 sc_law.nd) (g_nil))))) <|
    ss_cons (s_set 11 sc_law.nd (d_tup (d_acons (d_str "rounds") (d_acons (d_int) (d_acons (d_bin o_mul (d_tup (d_acons (d_var 9) (d_anil))) (d_int)) (d_anil)))))) <|
    ss_cons (s_if (t_w (w_or (t_cmp o_isNot (d_fn c_is_program hr tk (d_acons (d_tup (d_acons (d_int) (d_acons (d_int) (d_acons (d_tup (d_anil)) (d_acons (d_tup (d_acons (d_var 11) (d_anil))) (d_anil)))))) (d_anil))) (d_bl) (nomark _)) (w_or1 (t_cmp o_isNot (d_fn c_is_program hr tk (d_acons (d_tup (d_acons (d_int) (d_acons (d_int) (d_acons (d_tup (d_anil)) (d_acons (d_tup (d_acons (d_var 11) (d_acons (d_var 9) (d_anil)))) (d_anil)))))) (d_anil))) (d_bl) (nomark _))))) (ss_one (s_ret (d_bl))) (ss_nil)) <|
    ss_cons (s_if (t_w (w_or (t_cmp o_isNot (d_fn c_is_program hr tk (d_acons (d_tup (d_acons (d_int) (d_acons (d_int) (d_acons (d_tup (d_anil)) (d_acons (d_tup (d_acons (d_tup (d_acons (d_str "rounds") (d_acons (d_int) (d_acons (d_bin o_mul (d_tup (d_acons (d_var 10) (d_anil))) (d_int)) (d_anil))))) (d_anil))) (d_anil)))))) (d_anil))) (d_bl) (nomark _)) (w_or1 (t_cmp o_isNot (d_fn c_is_program hr tk (d_acons (d_tup (d_acons (d_int) (d_acons (d_int) (d_acons (d_tup (d_anil)) (d_acons (d_tup (d_acons (d_tup (d_acons (d_str "rounds") (d_acons (d_int) (d_acons (d_bin o_mul (d_tup (d_acons (d_var 10) (d_anil))) (d_int)) (d_anil))))) (d_acons (d_var 10) (d_anil)))) (d_anil)))))) (d_anil))) (d_bl) (nomark _))))) (ss_one (s_ret (d_bl))) (ss_nil)) <|
    ss_cons (s_set 12 sc_law.nd (d_tup (d_acons (d_str "ask") (d_acons (d_int) (d_acons (d_int) (d_acons (d_int) (d_acons (d_bin o_mul (d_tup (d_acons (d_var 9) (d_anil))) (d_int)) (d_acons (d_bin o_mul (d_tup (d_acons (d_var 9) (d_anil))) (d_int)) (d_anil))))))))) <|
    ss_one (s_if (t_w (w_or (t_cmp o_isNot (d_fn c_is_program hr tk (d_acons (d_tup (d_acons (d_int) (d_acons (d_int) (d_acons (d_tup (d_anil)) (d_acons (d_tup (d_acons (d_var 12) (d_anil))) (d_anil)))))) (d_anil))) (d_bl) (nomark _)) (w_or1 (t_cmp o_isNot (d_fn c_is_program hr tk (d_acons (d_tup (d_acons (d_int) (d_acons (d_int) (d_acons (d_tup (d_anil)) (d_acons (d_tup (d_acons (d_var 12) (d_acons (d_var 9) (d_anil)))) (d_anil)))))) (d_anil))) (d_bl) (nomark _))))) (ss_one (s_ret (d_bl))) (ss_nil)))) <|
    ss_cons (s_set 13 sc_law.nd (d_tup (d_anil))) <|
    ss_cons (s_for po rfl (i_rg1 T.b_range (d_int)) (g_name 14 sc_law.nd) (ss_one (s_set 13 sc_law.nd (d_tup (d_acons (d_tup (d_acons (d_str "there") (d_acons (d_int) (d_acons (d_var 13) (d_acons (d_tup (d_anil)) (d_anil)))))) (d_anil)))))) <|
    ss_cons (s_if (t_w (w_or (t_cmp o_isNot (d_fn c_is_program hr tk (d_acons (d_tup (d_acons (d_int) (d_acons (d_int) (d_acons (d_tup (d_anil)) (d_acons (d_var 13) (d_anil)))))) (d_anil))) (d_bl) (nomark _)) (w_or1 (t_cmp o_isNot (d_fn c_is_program hr tk (d_acons (d_tup (d_acons (d_int) (d_acons (d_int) (d_acons (d_tup (d_anil)) (d_acons (d_tup (d_acons (d_tup (d_acons (d_str "there") (d_acons (d_int) (d_acons (d_var 13) (d_acons (d_tup (d_anil)) (d_anil)))))) (d_anil))) (d_anil)))))) (d_anil))) (d_bl) (nomark _))))) (ss_one (s_ret (d_bl))) (ss_nil)) <|
    ss_cons (s_set 15 sc_law.nd (d_bin o_mul (d_tup (d_acons (d_tup (d_acons (d_str "move") (d_acons (d_int) (d_acons (d_int) (d_anil))))) (d_anil))) (d_int))) <|
    ss_cons (s_if (t_w (w_or (t_cmp o_isNot (d_fn c_is_program hr tk (d_acons (d_tup (d_acons (d_int) (d_acons (d_int) (d_acons (d_tup (d_acons (d_var 15) (d_anil))) (d_acons (d_bin o_mul (d_tup (d_acons (d_tup (d_acons (d_str "do") (d_acons (d_int) (d_anil)))) (d_anil))) (d_int)) (d_anil)))))) (d_anil))) (d_bl) (nomark _)) (w_or1 (t_cmp o_isNot (d_fn c_is_program hr tk (d_acons (d_tup (d_acons (d_int) (d_acons (d_int) (d_acons (d_tup (d_acons (d_var 15) (d_anil))) (d_acons (d_bin o_add (d_bin o_mul (d_tup (d_acons (d_tup (d_acons (d_str "do") (d_acons (d_int) (d_anil)))) (d_anil))) (d_int)) (d_tup (d_acons (d_tup (d_acons (d_str "give") (d_acons (d_int) (d_acons (d_int) (d_anil))))) (d_anil)))) (d_anil)))))) (d_anil))) (d_bl) (nomark _))))) (ss_one (s_ret (d_bl))) (ss_nil)) <|
    ss_cons (s_set 16 sc_law.nd (d_tup (d_acons (d_tup (d_acons (d_tup (d_acons (d_str "do") (d_acons (d_int) (d_anil)))) (d_anil))) (d_acons (d_tup (d_acons (d_tup (d_acons (d_str "move") (d_acons (d_int) (d_acons (d_int) (d_anil))))) (d_anil))) (d_anil))))) <|
    ss_one (s_ret (d_and (d_cmp o_is (d_fn c_is_program hr tk (d_acons (d_tup (d_acons (d_int) (d_acons (d_int) (d_acons (d_var 16) (d_acons (d_tup (d_anil)) (d_anil)))))) (d_anil))) (d_bl) (nomark _)) (d_and (d_cmp o_is (d_fn c_is_program hr tk (d_acons (d_tup (d_acons (d_int) (d_acons (d_int) (d_acons (d_rev (d_var 16)) (d_acons (d_tup (d_anil)) (d_anil)))))) (d_anil))) (d_bl) (nomark _)) (d_one (d_cmp o_is (d_fn c_is_program hr tk (d_acons (d_tup (d_acons (d_int) (d_acons (d_int) (d_acons (d_tup (d_acons (d_ix (d_var 16) (d_int)) (d_acons (d_tup (d_acons (d_tup (d_acons (d_str "do") (d_acons (d_int) (d_anil)))) (d_anil))) (d_anil)))) (d_acons (d_tup (d_acons (d_tup (d_acons (d_str "do") (d_acons (d_int) (d_anil)))) (d_anil))) (d_anil)))))) (d_anil))) (d_bl) (nomark _))))))
end
end Lw

/-! ## the top, printed by gen.py -/
namespace Lw
open PySem L2 Md
theorem all_mk {l : PySem.W.OpenLaw} {w : World} {K : PySem.W.Frag} {h : Heap} {mg : Str → Option Value} {fa : Addr} (X : K.In h) (G : h.Ns mainGlobals mg) (hfa : mg "law" = some (.ref fa)) (law : ∀ ns : List Int, ns.length ≤ 63 → ∃ μ, f_law [.kl (ns.map .int)] [] = .ok (.bl true) μ)
    {a0 a1 a2 a3 a4 a5 a6 CSizes a7 a8 CJudge a9 a10 a11 a12 a13 a14 a15 a16 a17 a18 a19 a20 a21 a22 a23 a24 a25 a26 a27 a28 a29 a30 a31 a32 a33 a34 a35 a36 a37 a38 a39 a40 a41 a42 kdFORMS z_MARKS_0 z_SAID_0 : Addr} {od0 an0 od1 an1 od2 an2 od3 an3 od4 an4 od5 an5 od6 an6 od7 an7 od8 an8 od9 an9 od10 an10 od11 an11 od12 an12 od13 an13 od14 an14 od15 an15 od16 an16 od17 an17 od18 an18 od19 an19 od20 an20 od21 an21 od22 an22 od23 an23 od24 an24 od25 an25 od26 an26 od27 an27 od28 an28 od29 an29 od30 an30 od31 an31 od32 an32 od33 an33 od34 an34 od35 an35 od36 an36 od37 an37 od38 an38 od39 an39 od40 an40 od41 an41 od42 an42 zd_MARKS_0 zd_SAID_0 : Option Addr} {sl0 sl1 sl2 sl3 sl4 sl5 sl6 sl7 sl8 sl9 sl10 sl11 sl12 sl13 sl14 sl15 sl16 sl17 sl18 sl19 sl20 sl21 sl22 sl23 sl24 sl25 sl26 sl27 sl28 sl29 sl30 sl31 sl32 sl33 sl34 sl35 sl36 sl37 sl38 sl39 sl40 sl41 sl42 zs_MARKS_0 zs_SAID_0 : Array (Option Value)} {oc0 kV0 dc0 pm0 cd0 ct0 oc1 kV1 dc1 pm1 cd1 ct1 oc2 kV2 dc2 pm2 cd2 ct2 oc3 kV3 dc3 pm3 cd3 ct3 oc4 kV4 dc4 pm4 cd4 ct4 oc5 kV5 dc5 pm5 cd5 ct5 oc6 kV6 dc6 pm6 cd6 ct6 oc7 kV7 dc7 pm7 cd7 ct7 oc8 kV8 dc8 pm8 cd8 ct8 oc9 kV9 dc9 pm9 cd9 ct9 oc10 kV10 dc10 pm10 cd10 ct10 oc11 kV11 dc11 pm11 cd11 ct11 oc12 kV12 dc12 pm12 cd12 ct12 oc13 kV13 dc13 pm13 cd13 ct13 oc14 kV14 dc14 pm14 cd14 ct14 oc15 kV15 dc15 pm15 cd15 ct15 oc16 kV16 dc16 pm16 cd16 ct16 oc17 kV17 dc17 pm17 cd17 ct17 oc18 kV18 dc18 pm18 cd18 ct18 oc19 kV19 dc19 pm19 cd19 ct19 oc20 kV20 dc20 pm20 cd20 ct20 oc21 kV21 dc21 pm21 cd21 ct21 oc22 kV22 dc22 pm22 cd22 ct22 oc23 kV23 dc23 pm23 cd23 ct23 oc24 kV24 dc24 pm24 cd24 ct24 oc25 kV25 dc25 pm25 cd25 ct25 oc26 kV26 dc26 pm26 cd26 ct26 oc27 kV27 dc27 pm27 cd27 ct27 oc28 kV28 dc28 pm28 cd28 ct28 oc29 kV29 dc29 pm29 cd29 ct29 oc30 kV30 dc30 pm30 cd30 ct30 oc31 kV31 dc31 pm31 cd31 ct31 oc32 kV32 dc32 pm32 cd32 ct32 oc33 kV33 dc33 pm33 cd33 ct33 oc34 kV34 dc34 pm34 cd34 ct34 oc35 kV35 dc35 pm35 cd35 ct35 oc36 kV36 dc36 pm36 cd36 ct36 oc37 kV37 dc37 pm37 cd37 ct37 oc38 kV38 dc38 pm38 cd38 ct38 oc39 kV39 dc39 pm39 cd39 ct39 oc40 kV40 dc40 pm40 cd40 ct40 oc41 kV41 dc41 pm41 cd41 ct41 oc42 kV42 dc42 pm42 cd42 ct42 : Value} {ktFORMS_0 kuFORMS_0 ktFORMS_1 kuFORMS_1 ktFORMS_2 kuFORMS_2 ktFORMS_3 kuFORMS_3 ktFORMS_4 kuFORMS_4 ktFORMS_5 kuFORMS_5 ktFORMS_6 kuFORMS_6 ktFORMS_7 kuFORMS_7 ktFORMS_8 kuFORMS_8 ktFORMS_9 kuFORMS_9 ktFORMS_10 kuFORMS_10 ktFORMS_11 kuFORMS_11 t_MOST_SHARERS t_MOST_PIECES t_MOST_HELPS t_MOST_LONG t_MOST_DEEP t_MOST_TOLD t_MOST_MARKS t_MOST_SAID t_MOST_ROUNDS zt_MARKS_1 zt_MARKS_2 zt_MARKS_3 zt_SAID_1 zt_SAID_2 zt_SAID_3 : Tok} {knFORMS zn_MARKS_0 zn_SAID_0 : Nat} {khFORMS_0 khFORMS_1 khFORMS_2 khFORMS_3 khFORMS_4 khFORMS_5 khFORMS_6 khFORMS_7 khFORMS_8 khFORMS_9 khFORMS_10 khFORMS_11 : Int}
    (ha0 : PySem.W.nsIn K mainGlobals "is_integer" = some (some (.ref a0)))
    (hl0 : K.lookup a0 = some ⟨oc0, od0, .func (PySem.W.fnOf "is_integer" "is_integer" (defArgs s_is_integer) (defBody s_is_integer) (defScope s_is_integer) .none kV0 dc0 pm0 an0 cd0 ct0), sl0⟩)
    (hc0 : PySem.W.codeIn K cd0 "is_integer" = true)
    (hk0 : PySem.W.keepIn K (.ref a0) = true)
    (ha1 : PySem.W.nsIn K mainGlobals "is_between" = some (some (.ref a1)))
    (hl1 : K.lookup a1 = some ⟨oc1, od1, .func (PySem.W.fnOf "is_between" "is_between" (defArgs s_is_between) (defBody s_is_between) (defScope s_is_between) .none kV1 dc1 pm1 an1 cd1 ct1), sl1⟩)
    (hc1 : PySem.W.codeIn K cd1 "is_between" = true)
    (hk1 : PySem.W.keepIn K (.ref a1) = true)
    (ha2 : PySem.W.nsIn K mainGlobals "is_tuple_of" = some (some (.ref a2)))
    (hl2 : K.lookup a2 = some ⟨oc2, od2, .func (PySem.W.fnOf "is_tuple_of" "is_tuple_of" (defArgs s_is_tuple_of) (defBody s_is_tuple_of) (defScope s_is_tuple_of) .none kV2 dc2 pm2 an2 cd2 ct2), sl2⟩)
    (hc2 : PySem.W.codeIn K cd2 "is_tuple_of" = true)
    (hk2 : PySem.W.keepIn K (.ref a2) = true)
    (ha3 : PySem.W.nsIn K mainGlobals "is_fraction" = some (some (.ref a3)))
    (hl3 : K.lookup a3 = some ⟨oc3, od3, .func (PySem.W.fnOf "is_fraction" "is_fraction" (defArgs s_is_fraction) (defBody s_is_fraction) (defScope s_is_fraction) .none kV3 dc3 pm3 an3 cd3 ct3), sl3⟩)
    (hc3 : PySem.W.codeIn K cd3 "is_fraction" = true)
    (hk3 : PySem.W.keepIn K (.ref a3) = true)
    (ha4 : PySem.W.nsIn K mainGlobals "is_share" = some (some (.ref a4)))
    (hl4 : K.lookup a4 = some ⟨oc4, od4, .func (PySem.W.fnOf "is_share" "is_share" (defArgs s_is_share) (defBody s_is_share) (defScope s_is_share) .none kV4 dc4 pm4 an4 cd4 ct4), sl4⟩)
    (hc4 : PySem.W.codeIn K cd4 "is_share" = true)
    (hk4 : PySem.W.keepIn K (.ref a4) = true)
    (ha5 : PySem.W.nsIn K mainGlobals "blocks_in" = some (some (.ref a5)))
    (hl5 : K.lookup a5 = some ⟨oc5, od5, .func (PySem.W.fnOf "blocks_in" "blocks_in" (defArgs s_blocks_in) (defBody s_blocks_in) (defScope s_blocks_in) .none kV5 dc5 pm5 an5 cd5 ct5), sl5⟩)
    (hc5 : PySem.W.codeIn K cd5 "blocks_in" = true)
    (hk5 : PySem.W.keepIn K (.ref a5) = true)
    (ho_Sizes : PySem.W.nsIn K mainGlobals "Sizes" = some (some (.ref CSizes)))
    (hop_Sizes : PySem.W.plainGet K CSizes Str.empty = true)
    (hoh_Sizes : PySem.W.hasDictIn K CSizes = true)
    (hoo_Sizes : PySem.W.plainOver K CSizes = true)
    (hos_Sizes : PySem.W.findIn K (.ref CSizes) "__setattr__" = some (some (.builtin "object.__setattr__")))
    (hoa_Sizes : PySem.W.findIn K (.ref CSizes) "__class__" = some (some (.builtin "object.__class__")))
    (hon_Sizes : PySem.W.specialIn K (.builtin "object.__class__") "__get__" = some (some (.builtin "getset_descriptor.__get__")))
    (hot_Sizes : PySem.W.takesIn K (.builtin "object.__class__") = some true)
    (hom_Sizes : PySem.W.mroIn K CSizes (.type "object") = some true)
    (hoint_Sizes : PySem.W.subIn K (.ref CSizes) (.type "int") = some false)
    (hobool_Sizes : PySem.W.subIn K (.ref CSizes) (.type "bool") = some false)
    (hotuple_Sizes : PySem.W.subIn K (.ref CSizes) (.type "tuple") = some false)
    (holist_Sizes : PySem.W.subIn K (.ref CSizes) (.type "list") = some false)
    (hostr_Sizes : PySem.W.subIn K (.ref CSizes) (.type "str") = some false)
    (hof_Sizes_helps : PySem.W.findIn K (.ref CSizes) "helps" = some none)
    (hok_Sizes : PySem.W.makesIn K CSizes = true)
    (hoq_Sizes : PySem.W.keepIn K (.ref CSizes) = true)
    (ha6 : PySem.W.findIn K (.ref CSizes) "size" = some (some (.ref a6)))
    (hi6 : PySem.W.isFn K (.ref a6) = true)
    (hl6 : K.lookup a6 = some ⟨oc6, od6, .func (PySem.W.fnOf "size" "Sizes.size" (defArgs s_Sizes_size) (defBody s_Sizes_size) (defScope s_Sizes_size) .none kV6 dc6 pm6 an6 cd6 ct6), sl6⟩)
    (hc6 : PySem.W.codeIn K cd6 "Sizes.size" = true)
    (hk6 : PySem.W.keepIn K (.ref a6) = true)
    (ha7 : PySem.W.findIn K (.ref CSizes) "size_of" = some (some (.ref a7)))
    (hi7 : PySem.W.isFn K (.ref a7) = true)
    (hl7 : K.lookup a7 = some ⟨oc7, od7, .func (PySem.W.fnOf "size_of" "Sizes.size_of" (defArgs s_Sizes_size_of) (defBody s_Sizes_size_of) (defScope s_Sizes_size_of) .none kV7 dc7 pm7 an7 cd7 ct7), sl7⟩)
    (hc7 : PySem.W.codeIn K cd7 "Sizes.size_of" = true)
    (hk7 : PySem.W.keepIn K (.ref a7) = true)
    (ho_Judge : PySem.W.nsIn K mainGlobals "Judge" = some (some (.ref CJudge)))
    (hop_Judge : PySem.W.plainGet K CJudge Str.empty = true)
    (hoh_Judge : PySem.W.hasDictIn K CJudge = true)
    (hoo_Judge : PySem.W.plainOver K CJudge = true)
    (hos_Judge : PySem.W.findIn K (.ref CJudge) "__setattr__" = some (some (.builtin "object.__setattr__")))
    (hoa_Judge : PySem.W.findIn K (.ref CJudge) "__class__" = some (some (.builtin "object.__class__")))
    (hon_Judge : PySem.W.specialIn K (.builtin "object.__class__") "__get__" = some (some (.builtin "getset_descriptor.__get__")))
    (hot_Judge : PySem.W.takesIn K (.builtin "object.__class__") = some true)
    (hom_Judge : PySem.W.mroIn K CJudge (.type "object") = some true)
    (hoint_Judge : PySem.W.subIn K (.ref CJudge) (.type "int") = some false)
    (hobool_Judge : PySem.W.subIn K (.ref CJudge) (.type "bool") = some false)
    (hotuple_Judge : PySem.W.subIn K (.ref CJudge) (.type "tuple") = some false)
    (holist_Judge : PySem.W.subIn K (.ref CJudge) (.type "list") = some false)
    (hostr_Judge : PySem.W.subIn K (.ref CJudge) (.type "str") = some false)
    (hof_Judge_sharers : PySem.W.findIn K (.ref CJudge) "sharers" = some none)
    (hof_Judge_pieces : PySem.W.findIn K (.ref CJudge) "pieces" = some none)
    (hof_Judge_helps : PySem.W.findIn K (.ref CJudge) "helps" = some none)
    (hok_Judge : PySem.W.makesIn K CJudge = true)
    (hoq_Judge : PySem.W.keepIn K (.ref CJudge) = true)
    (ha8 : PySem.W.findIn K (.ref CJudge) "are_pieces" = some (some (.ref a8)))
    (hi8 : PySem.W.isFn K (.ref a8) = true)
    (hl8 : K.lookup a8 = some ⟨oc8, od8, .func (PySem.W.fnOf "are_pieces" "Judge.are_pieces" (defArgs s_Judge_are_pieces) (defBody s_Judge_are_pieces) (defScope s_Judge_are_pieces) .none kV8 dc8 pm8 an8 cd8 ct8), sl8⟩)
    (hc8 : PySem.W.codeIn K cd8 "Judge.are_pieces" = true)
    (hk8 : PySem.W.keepIn K (.ref a8) = true)
    (ha9 : PySem.W.findIn K (.ref CJudge) "is_part" = some (some (.ref a9)))
    (hi9 : PySem.W.isFn K (.ref a9) = true)
    (hl9 : K.lookup a9 = some ⟨oc9, od9, .func (PySem.W.fnOf "is_part" "Judge.is_part" (defArgs s_Judge_is_part) (defBody s_Judge_is_part) (defScope s_Judge_is_part) .none kV9 dc9 pm9 an9 cd9 ct9), sl9⟩)
    (hc9 : PySem.W.codeIn K cd9 "Judge.is_part" = true)
    (hk9 : PySem.W.keepIn K (.ref a9) = true)
    (ha10 : PySem.W.findIn K (.ref CJudge) "is_block" = some (some (.ref a10)))
    (hi10 : PySem.W.isFn K (.ref a10) = true)
    (hl10 : K.lookup a10 = some ⟨oc10, od10, .func (PySem.W.fnOf "is_block" "Judge.is_block" (defArgs s_Judge_is_block) (defBody s_Judge_is_block) (defScope s_Judge_is_block) .none kV10 dc10 pm10 an10 cd10 ct10), sl10⟩)
    (hc10 : PySem.W.codeIn K cd10 "Judge.is_block" = true)
    (hk10 : PySem.W.keepIn K (.ref a10) = true)
    (ha11 : PySem.W.findIn K (.ref CJudge) "is_statement" = some (some (.ref a11)))
    (hi11 : PySem.W.isFn K (.ref a11) = true)
    (hl11 : K.lookup a11 = some ⟨oc11, od11, .func (PySem.W.fnOf "is_statement" "Judge.is_statement" (defArgs s_Judge_is_statement) (defBody s_Judge_is_statement) (defScope s_Judge_is_statement) .none kV11 dc11 pm11 an11 cd11 ct11), sl11⟩)
    (hc11 : PySem.W.codeIn K cd11 "Judge.is_statement" = true)
    (hk11 : PySem.W.keepIn K (.ref a11) = true)
    (ha12 : PySem.W.findIn K (.ref CSizes) "__init__" = some (some (.ref a12)))
    (hi12 : PySem.W.isFn K (.ref a12) = true)
    (hl12 : K.lookup a12 = some ⟨oc12, od12, .func (PySem.W.fnOf "__init__" "Sizes.__init__" (defArgs s_Sizes___init__) (defBody s_Sizes___init__) (defScope s_Sizes___init__) .none kV12 dc12 pm12 an12 cd12 ct12), sl12⟩)
    (hc12 : PySem.W.codeIn K cd12 "Sizes.__init__" = true)
    (hk12 : PySem.W.keepIn K (.ref a12) = true)
    (ha13 : PySem.W.findIn K (.ref CJudge) "__init__" = some (some (.ref a13)))
    (hi13 : PySem.W.isFn K (.ref a13) = true)
    (hl13 : K.lookup a13 = some ⟨oc13, od13, .func (PySem.W.fnOf "__init__" "Judge.__init__" (defArgs s_Judge___init__) (defBody s_Judge___init__) (defScope s_Judge___init__) .none kV13 dc13 pm13 an13 cd13 ct13), sl13⟩)
    (hc13 : PySem.W.codeIn K cd13 "Judge.__init__" = true)
    (hk13 : PySem.W.keepIn K (.ref a13) = true)
    (ha14 : PySem.W.nsIn K mainGlobals "is_program" = some (some (.ref a14)))
    (hl14 : K.lookup a14 = some ⟨oc14, od14, .func (PySem.W.fnOf "is_program" "is_program" (defArgs s_is_program) (defBody s_is_program) (defScope s_is_program) .none kV14 dc14 pm14 an14 cd14 ct14), sl14⟩)
    (hc14 : PySem.W.codeIn K cd14 "is_program" = true)
    (hk14 : PySem.W.keepIn K (.ref a14) = true)
    (ha15 : PySem.W.nsIn K mainGlobals "_law_hand" = some (some (.ref a15)))
    (hl15 : K.lookup a15 = some ⟨oc15, od15, .func (PySem.W.fnOf "_law_hand" "_law_hand" (defArgs s__law_hand) (defBody s__law_hand) (defScope s__law_hand) .none kV15 dc15 pm15 an15 cd15 ct15), sl15⟩)
    (hc15 : PySem.W.codeIn K cd15 "_law_hand" = true)
    (hk15 : PySem.W.keepIn K (.ref a15) = true)
    (ha16 : PySem.W.nsIn K mainGlobals "_law_draw" = some (some (.ref a16)))
    (hl16 : K.lookup a16 = some ⟨oc16, od16, .func (PySem.W.fnOf "_law_draw" "_law_draw" (defArgs s__law_draw) (defBody s__law_draw) (defScope s__law_draw) .none kV16 dc16 pm16 an16 cd16 ct16), sl16⟩)
    (hc16 : PySem.W.codeIn K cd16 "_law_draw" = true)
    (hk16 : PySem.W.keepIn K (.ref a16) = true)
    (ha17 : PySem.W.nsIn K mainGlobals "_law_some" = some (some (.ref a17)))
    (hl17 : K.lookup a17 = some ⟨oc17, od17, .func (PySem.W.fnOf "_law_some" "_law_some" (defArgs s__law_some) (defBody s__law_some) (defScope s__law_some) .none kV17 dc17 pm17 an17 cd17 ct17), sl17⟩)
    (hc17 : PySem.W.codeIn K cd17 "_law_some" = true)
    (hk17 : PySem.W.keepIn K (.ref a17) = true)
    (ha18 : PySem.W.nsIn K mainGlobals "_law_mixed" = some (some (.ref a18)))
    (hl18 : K.lookup a18 = some ⟨oc18, od18, .func (PySem.W.fnOf "_law_mixed" "_law_mixed" (defArgs s__law_mixed) (defBody s__law_mixed) (defScope s__law_mixed) .none kV18 dc18 pm18 an18 cd18 ct18), sl18⟩)
    (hc18 : PySem.W.codeIn K cd18 "_law_mixed" = true)
    (hk18 : PySem.W.keepIn K (.ref a18) = true)
    (ha19 : PySem.W.nsIn K mainGlobals "_law_part" = some (some (.ref a19)))
    (hl19 : K.lookup a19 = some ⟨oc19, od19, .func (PySem.W.fnOf "_law_part" "_law_part" (defArgs s__law_part) (defBody s__law_part) (defScope s__law_part) .none kV19 dc19 pm19 an19 cd19 ct19), sl19⟩)
    (hc19 : PySem.W.codeIn K cd19 "_law_part" = true)
    (hk19 : PySem.W.keepIn K (.ref a19) = true)
    (ha20 : PySem.W.nsIn K mainGlobals "_law_plus" = some (some (.ref a20)))
    (hl20 : K.lookup a20 = some ⟨oc20, od20, .func (PySem.W.fnOf "_law_plus" "_law_plus" (defArgs s__law_plus) (defBody s__law_plus) (defScope s__law_plus) .none kV20 dc20 pm20 an20 cd20 ct20), sl20⟩)
    (hc20 : PySem.W.codeIn K cd20 "_law_plus" = true)
    (hk20 : PySem.W.keepIn K (.ref a20) = true)
    (ha21 : PySem.W.nsIn K mainGlobals "_law_times" = some (some (.ref a21)))
    (hl21 : K.lookup a21 = some ⟨oc21, od21, .func (PySem.W.fnOf "_law_times" "_law_times" (defArgs s__law_times) (defBody s__law_times) (defScope s__law_times) .none kV21 dc21 pm21 an21 cd21 ct21), sl21⟩)
    (hc21 : PySem.W.codeIn K cd21 "_law_times" = true)
    (hk21 : PySem.W.keepIn K (.ref a21) = true)
    (ha22 : PySem.W.nsIn K mainGlobals "_law_less" = some (some (.ref a22)))
    (hl22 : K.lookup a22 = some ⟨oc22, od22, .func (PySem.W.fnOf "_law_less" "_law_less" (defArgs s__law_less) (defBody s__law_less) (defScope s__law_less) .none kV22 dc22 pm22 an22 cd22 ct22), sl22⟩)
    (hc22 : PySem.W.codeIn K cd22 "_law_less" = true)
    (hk22 : PySem.W.keepIn K (.ref a22) = true)
    (ha23 : PySem.W.nsIn K mainGlobals "_law_ahead" = some (some (.ref a23)))
    (hl23 : K.lookup a23 = some ⟨oc23, od23, .func (PySem.W.fnOf "_law_ahead" "_law_ahead" (defArgs s__law_ahead) (defBody s__law_ahead) (defScope s__law_ahead) .none kV23 dc23 pm23 an23 cd23 ct23), sl23⟩)
    (hc23 : PySem.W.codeIn K cd23 "_law_ahead" = true)
    (hk23 : PySem.W.keepIn K (.ref a23) = true)
    (ha24 : PySem.W.nsIn K mainGlobals "_law_joined" = some (some (.ref a24)))
    (hl24 : K.lookup a24 = some ⟨oc24, od24, .func (PySem.W.fnOf "_law_joined" "_law_joined" (defArgs s__law_joined) (defBody s__law_joined) (defScope s__law_joined) .none kV24 dc24 pm24 an24 cd24 ct24), sl24⟩)
    (hc24 : PySem.W.codeIn K cd24 "_law_joined" = true)
    (hk24 : PySem.W.keepIn K (.ref a24) = true)
    (ha25 : PySem.W.nsIn K mainGlobals "_law_cut" = some (some (.ref a25)))
    (hl25 : K.lookup a25 = some ⟨oc25, od25, .func (PySem.W.fnOf "_law_cut" "_law_cut" (defArgs s__law_cut) (defBody s__law_cut) (defScope s__law_cut) .none kV25 dc25 pm25 an25 cd25 ct25), sl25⟩)
    (hc25 : PySem.W.codeIn K cd25 "_law_cut" = true)
    (hk25 : PySem.W.keepIn K (.ref a25) = true)
    (ha26 : PySem.W.nsIn K mainGlobals "_law_share" = some (some (.ref a26)))
    (hl26 : K.lookup a26 = some ⟨oc26, od26, .func (PySem.W.fnOf "_law_share" "_law_share" (defArgs s__law_share) (defBody s__law_share) (defScope s__law_share) .none kV26 dc26 pm26 an26 cd26 ct26), sl26⟩)
    (hc26 : PySem.W.codeIn K cd26 "_law_share" = true)
    (hk26 : PySem.W.keepIn K (.ref a26) = true)
    (ha27 : PySem.W.nsIn K mainGlobals "_law_plain" = some (some (.ref a27)))
    (hl27 : K.lookup a27 = some ⟨oc27, od27, .func (PySem.W.fnOf "_law_plain" "_law_plain" (defArgs s__law_plain) (defBody s__law_plain) (defScope s__law_plain) .none kV27 dc27 pm27 an27 cd27 ct27), sl27⟩)
    (hc27 : PySem.W.codeIn K cd27 "_law_plain" = true)
    (hk27 : PySem.W.keepIn K (.ref a27) = true)
    (ha28 : PySem.W.nsIn K mainGlobals "_law_statement" = some (some (.ref a28)))
    (hl28 : K.lookup a28 = some ⟨oc28, od28, .func (PySem.W.fnOf "_law_statement" "_law_statement" (defArgs s__law_statement) (defBody s__law_statement) (defScope s__law_statement) .none kV28 dc28 pm28 an28 cd28 ct28), sl28⟩)
    (hc28 : PySem.W.codeIn K cd28 "_law_statement" = true)
    (hk28 : PySem.W.keepIn K (.ref a28) = true)
    (ha29 : PySem.W.nsIn K mainGlobals "_law_block" = some (some (.ref a29)))
    (hl29 : K.lookup a29 = some ⟨oc29, od29, .func (PySem.W.fnOf "_law_block" "_law_block" (defArgs s__law_block) (defBody s__law_block) (defScope s__law_block) .none kV29 dc29 pm29 an29 cd29 ct29), sl29⟩)
    (hc29 : PySem.W.codeIn K cd29 "_law_block" = true)
    (hk29 : PySem.W.keepIn K (.ref a29) = true)
    (ha30 : PySem.W.nsIn K mainGlobals "_law_out" = some (some (.ref a30)))
    (hl30 : K.lookup a30 = some ⟨oc30, od30, .func (PySem.W.fnOf "_law_out" "_law_out" (defArgs s__law_out) (defBody s__law_out) (defScope s__law_out) .none kV30 dc30 pm30 an30 cd30 ct30), sl30⟩)
    (hc30 : PySem.W.codeIn K cd30 "_law_out" = true)
    (hk30 : PySem.W.keepIn K (.ref a30) = true)
    (ha31 : PySem.W.nsIn K mainGlobals "_law_told" = some (some (.ref a31)))
    (hl31 : K.lookup a31 = some ⟨oc31, od31, .func (PySem.W.fnOf "_law_told" "_law_told" (defArgs s__law_told) (defBody s__law_told) (defScope s__law_told) .none kV31 dc31 pm31 an31 cd31 ct31), sl31⟩)
    (hc31 : PySem.W.codeIn K cd31 "_law_told" = true)
    (hk31 : PySem.W.keepIn K (.ref a31) = true)
    (ha32 : PySem.W.nsIn K mainGlobals "_law_yard" = some (some (.ref a32)))
    (hl32 : K.lookup a32 = some ⟨oc32, od32, .func (PySem.W.fnOf "_law_yard" "_law_yard" (defArgs s__law_yard) (defBody s__law_yard) (defScope s__law_yard) .none kV32 dc32 pm32 an32 cd32 ct32), sl32⟩)
    (hc32 : PySem.W.codeIn K cd32 "_law_yard" = true)
    (hk32 : PySem.W.keepIn K (.ref a32) = true)
    (ha33 : PySem.W.nsIn K mainGlobals "_law_on" = some (some (.ref a33)))
    (hl33 : K.lookup a33 = some ⟨oc33, od33, .func (PySem.W.fnOf "_law_on" "_law_on" (defArgs s__law_on) (defBody s__law_on) (defScope s__law_on) .none kV33 dc33 pm33 an33 cd33 ct33), sl33⟩)
    (hc33 : PySem.W.codeIn K cd33 "_law_on" = true)
    (hk33 : PySem.W.keepIn K (.ref a33) = true)
    (ha34 : PySem.W.nsIn K mainGlobals "_law_answered" = some (some (.ref a34)))
    (hl34 : K.lookup a34 = some ⟨oc34, od34, .func (PySem.W.fnOf "_law_answered" "_law_answered" (defArgs s__law_answered) (defBody s__law_answered) (defScope s__law_answered) .none kV34 dc34 pm34 an34 cd34 ct34), sl34⟩)
    (hc34 : PySem.W.codeIn K cd34 "_law_answered" = true)
    (hk34 : PySem.W.keepIn K (.ref a34) = true)
    (ha35 : PySem.W.nsIn K mainGlobals "_law_copy" = some (some (.ref a35)))
    (hl35 : K.lookup a35 = some ⟨oc35, od35, .func (PySem.W.fnOf "_law_copy" "_law_copy" (defArgs s__law_copy) (defBody s__law_copy) (defScope s__law_copy) .none kV35 dc35 pm35 an35 cd35 ct35), sl35⟩)
    (hc35 : PySem.W.codeIn K cd35 "_law_copy" = true)
    (hk35 : PySem.W.keepIn K (.ref a35) = true)
    (ha36 : PySem.W.nsIn K mainGlobals "_law_options" = some (some (.ref a36)))
    (hl36 : K.lookup a36 = some ⟨oc36, od36, .func (PySem.W.fnOf "_law_options" "_law_options" (defArgs s__law_options) (defBody s__law_options) (defScope s__law_options) .none kV36 dc36 pm36 an36 cd36 ct36), sl36⟩)
    (hc36 : PySem.W.codeIn K cd36 "_law_options" = true)
    (hk36 : PySem.W.keepIn K (.ref a36) = true)
    (ha37 : PySem.W.nsIn K mainGlobals "_law_by" = some (some (.ref a37)))
    (hl37 : K.lookup a37 = some ⟨oc37, od37, .func (PySem.W.fnOf "_law_by" "_law_by" (defArgs s__law_by) (defBody s__law_by) (defScope s__law_by) .none kV37 dc37 pm37 an37 cd37 ct37), sl37⟩)
    (hc37 : PySem.W.codeIn K cd37 "_law_by" = true)
    (hk37 : PySem.W.keepIn K (.ref a37) = true)
    (ha38 : PySem.W.nsIn K mainGlobals "_law_ways" = some (some (.ref a38)))
    (hl38 : K.lookup a38 = some ⟨oc38, od38, .func (PySem.W.fnOf "_law_ways" "_law_ways" (defArgs s__law_ways) (defBody s__law_ways) (defScope s__law_ways) .none kV38 dc38 pm38 an38 cd38 ct38), sl38⟩)
    (hc38 : PySem.W.codeIn K cd38 "_law_ways" = true)
    (hk38 : PySem.W.keepIn K (.ref a38) = true)
    (ha39 : PySem.W.nsIn K mainGlobals "_law_counts" = some (some (.ref a39)))
    (hl39 : K.lookup a39 = some ⟨oc39, od39, .func (PySem.W.fnOf "_law_counts" "_law_counts" (defArgs s__law_counts) (defBody s__law_counts) (defScope s__law_counts) .none kV39 dc39 pm39 an39 cd39 ct39), sl39⟩)
    (hc39 : PySem.W.codeIn K cd39 "_law_counts" = true)
    (hk39 : PySem.W.keepIn K (.ref a39) = true)
    (ha40 : PySem.W.nsIn K mainGlobals "_law_program" = some (some (.ref a40)))
    (hl40 : K.lookup a40 = some ⟨oc40, od40, .func (PySem.W.fnOf "_law_program" "_law_program" (defArgs s__law_program) (defBody s__law_program) (defScope s__law_program) .none kV40 dc40 pm40 an40 cd40 ct40), sl40⟩)
    (hc40 : PySem.W.codeIn K cd40 "_law_program" = true)
    (hk40 : PySem.W.keepIn K (.ref a40) = true)
    (ha41 : PySem.W.nsIn K mainGlobals "_law_no_program" = some (some (.ref a41)))
    (hl41 : K.lookup a41 = some ⟨oc41, od41, .func (PySem.W.fnOf "_law_no_program" "_law_no_program" (defArgs s__law_no_program) (defBody s__law_no_program) (defScope s__law_no_program) .none kV41 dc41 pm41 an41 cd41 ct41), sl41⟩)
    (hc41 : PySem.W.codeIn K cd41 "_law_no_program" = true)
    (hk41 : PySem.W.keepIn K (.ref a41) = true)
    (ha42 : PySem.W.nsIn K mainGlobals "law" = some (some (.ref a42)))
    (hl42 : K.lookup a42 = some ⟨oc42, od42, .func (PySem.W.fnOf "law" "law" (defArgs s_law) (defBody s_law) (defScope s_law) .none kV42 dc42 pm42 an42 cd42 ct42), sl42⟩)
    (hc42 : PySem.W.codeIn K cd42 "law" = true)
    (hk42 : PySem.W.keepIn K (.ref a42) = true)
    (hb_abs : PySem.W.nsIn K mainGlobals "abs" = some none)
    (hb_all : PySem.W.nsIn K mainGlobals "all" = some none)
    (hb_bool : PySem.W.nsIn K mainGlobals "bool" = some none)
    (hb_enumerate : PySem.W.nsIn K mainGlobals "enumerate" = some none)
    (hb_int : PySem.W.nsIn K mainGlobals "int" = some none)
    (hb_isinstance : PySem.W.nsIn K mainGlobals "isinstance" = some none)
    (hb_len : PySem.W.nsIn K mainGlobals "len" = some none)
    (hb_list : PySem.W.nsIn K mainGlobals "list" = some none)
    (hb_max : PySem.W.nsIn K mainGlobals "max" = some none)
    (hb_range : PySem.W.nsIn K mainGlobals "range" = some none)
    (hb_sorted : PySem.W.nsIn K mainGlobals "sorted" = some none)
    (hb_str : PySem.W.nsIn K mainGlobals "str" = some none)
    (hb_sum : PySem.W.nsIn K mainGlobals "sum" = some none)
    (hb_tuple : PySem.W.nsIn K mainGlobals "tuple" = some none)
    (hb_zip : PySem.W.nsIn K mainGlobals "zip" = some none)
    (hb_gcd : PySem.W.nsIn K mainGlobals "gcd" = some (some (.builtin "math.gcd")))
    (hk_FORMS : PySem.W.nsIn K mainGlobals "FORMS" = some (some (.ref kdFORMS)))
    (hkl_FORMS : K.lookup kdFORMS = some ⟨.type "dict", none, .dict ([⟨khFORMS_0, .str (Str.ofString "cut") ktFORMS_0, .str (Str.ofString "apsq") kuFORMS_0⟩, ⟨khFORMS_1, .str (Str.ofString "part") ktFORMS_1, .str (Str.ofString "apsq") kuFORMS_1⟩, ⟨khFORMS_2, .str (Str.ofString "like") ktFORMS_2, .str (Str.ofString "aprq") kuFORMS_2⟩, ⟨khFORMS_3, .str (Str.ofString "best") ktFORMS_3, .str (Str.ofString "amq") kuFORMS_3⟩, ⟨khFORMS_4, .str (Str.ofString "ask") ktFORMS_4, .str (Str.ofString "aprbb") kuFORMS_4⟩, ⟨khFORMS_5, .str (Str.ofString "over") ktFORMS_5, .str (Str.ofString "apsbb") kuFORMS_5⟩, ⟨khFORMS_6, .str (Str.ofString "there") ktFORMS_6, .str (Str.ofString "pbb") kuFORMS_6⟩, ⟨khFORMS_7, .str (Str.ofString "give") ktFORMS_7, .str (Str.ofString "ap") kuFORMS_7⟩, ⟨khFORMS_8, .str (Str.ofString "move") ktFORMS_8, .str (Str.ofString "pq") kuFORMS_8⟩, ⟨khFORMS_9, .str (Str.ofString "swap") ktFORMS_9, .str (Str.ofString "pq") kuFORMS_9⟩, ⟨khFORMS_10, .str (Str.ofString "rounds") ktFORMS_10, .str (Str.ofString "kb") kuFORMS_10⟩, ⟨khFORMS_11, .str (Str.ofString "do") ktFORMS_11, .str (Str.ofString "h") kuFORMS_11⟩] : List DictEntry).toArray knFORMS, #[]⟩)
    (hkt_FORMS : PySem.W.KeysLit w.params ([⟨khFORMS_0, .str (Str.ofString "cut") ktFORMS_0, .str (Str.ofString "apsq") kuFORMS_0⟩, ⟨khFORMS_1, .str (Str.ofString "part") ktFORMS_1, .str (Str.ofString "apsq") kuFORMS_1⟩, ⟨khFORMS_2, .str (Str.ofString "like") ktFORMS_2, .str (Str.ofString "aprq") kuFORMS_2⟩, ⟨khFORMS_3, .str (Str.ofString "best") ktFORMS_3, .str (Str.ofString "amq") kuFORMS_3⟩, ⟨khFORMS_4, .str (Str.ofString "ask") ktFORMS_4, .str (Str.ofString "aprbb") kuFORMS_4⟩, ⟨khFORMS_5, .str (Str.ofString "over") ktFORMS_5, .str (Str.ofString "apsbb") kuFORMS_5⟩, ⟨khFORMS_6, .str (Str.ofString "there") ktFORMS_6, .str (Str.ofString "pbb") kuFORMS_6⟩, ⟨khFORMS_7, .str (Str.ofString "give") ktFORMS_7, .str (Str.ofString "ap") kuFORMS_7⟩, ⟨khFORMS_8, .str (Str.ofString "move") ktFORMS_8, .str (Str.ofString "pq") kuFORMS_8⟩, ⟨khFORMS_9, .str (Str.ofString "swap") ktFORMS_9, .str (Str.ofString "pq") kuFORMS_9⟩, ⟨khFORMS_10, .str (Str.ofString "rounds") ktFORMS_10, .str (Str.ofString "kb") kuFORMS_10⟩, ⟨khFORMS_11, .str (Str.ofString "do") ktFORMS_11, .str (Str.ofString "h") kuFORMS_11⟩] : List DictEntry))
    (hkw_FORMS : (kdFORMS == sysModules) = false)
    (hk_MOST_SHARERS : PySem.W.nsIn K mainGlobals "MOST_SHARERS" = some (some (.int 4 t_MOST_SHARERS)))
    (hk_MOST_PIECES : PySem.W.nsIn K mainGlobals "MOST_PIECES" = some (some (.int 8 t_MOST_PIECES)))
    (hk_MOST_HELPS : PySem.W.nsIn K mainGlobals "MOST_HELPS" = some (some (.int 4 t_MOST_HELPS)))
    (hk_MOST_LONG : PySem.W.nsIn K mainGlobals "MOST_LONG" = some (some (.int 20 t_MOST_LONG)))
    (hk_MOST_DEEP : PySem.W.nsIn K mainGlobals "MOST_DEEP" = some (some (.int 5 t_MOST_DEEP)))
    (hk_MOST_TOLD : PySem.W.nsIn K mainGlobals "MOST_TOLD" = some (some (.int 150 t_MOST_TOLD)))
    (hk_MOST_MARKS : PySem.W.nsIn K mainGlobals "MOST_MARKS" = some (some (.int 12 t_MOST_MARKS)))
    (hk_MOST_SAID : PySem.W.nsIn K mainGlobals "MOST_SAID" = some (some (.int 16 t_MOST_SAID)))
    (hk_MOST_ROUNDS : PySem.W.nsIn K mainGlobals "MOST_ROUNDS" = some (some (.int 4 t_MOST_ROUNDS)))
    (hk_MARKS : PySem.W.nsIn K mainGlobals "MARKS" = some (some (.ref z_MARKS_0)))
    (hz_MARKS_0 : K.lookup z_MARKS_0 = some ⟨.type "tuple", zd_MARKS_0, .seq ([.str (Str.ofString "cut") zt_MARKS_1, .str (Str.ofString "part") zt_MARKS_2, .str (Str.ofString "like") zt_MARKS_3] : List Value).toArray zn_MARKS_0, zs_MARKS_0⟩)
    (hk_SAID : PySem.W.nsIn K mainGlobals "SAID" = some (some (.ref z_SAID_0)))
    (hz_SAID_0 : K.lookup z_SAID_0 = some ⟨.type "tuple", zd_SAID_0, .seq ([.str (Str.ofString "best") zt_SAID_1, .str (Str.ofString "ask") zt_SAID_2, .str (Str.ofString "over") zt_SAID_3] : List Value).toArray zn_SAID_0, zs_SAID_0⟩)
    : ∃ fd : FuncData, (∀ (s : Shared) (v : Value), BindsTo s fd ⟨[v], []⟩ [("script", v)]) ∧ ∀ base : Heap, K.In base → base.Ns mainGlobals mg → FnOk l.prog w K mg base (L2.CX l.prog w) 31 fa fd ["script"] (spLaw K) := by
  have T : Txt mg := ⟨PySem.W.mg_none_of X G hb_abs, PySem.W.mg_none_of X G hb_all, PySem.W.mg_none_of X G hb_bool, PySem.W.mg_none_of X G hb_enumerate, PySem.W.mg_none_of X G hb_int, PySem.W.mg_none_of X G hb_isinstance, PySem.W.mg_none_of X G hb_len, PySem.W.mg_none_of X G hb_list, PySem.W.mg_none_of X G hb_max, PySem.W.mg_none_of X G hb_range, PySem.W.mg_none_of X G hb_sorted, PySem.W.mg_none_of X G hb_str, PySem.W.mg_none_of X G hb_sum, PySem.W.mg_none_of X G hb_tuple, PySem.W.mg_none_of X G hb_zip, PySem.W.mg_of X G hb_gcd⟩
  have k_MOST_SHARERS : Con' K mg "MOST_SHARERS" (.int 4) := con_int X G hk_MOST_SHARERS
  have k_MOST_PIECES : Con' K mg "MOST_PIECES" (.int 8) := con_int X G hk_MOST_PIECES
  have k_MOST_HELPS : Con' K mg "MOST_HELPS" (.int 4) := con_int X G hk_MOST_HELPS
  have k_MOST_LONG : Con' K mg "MOST_LONG" (.int 20) := con_int X G hk_MOST_LONG
  have k_MOST_DEEP : Con' K mg "MOST_DEEP" (.int 5) := con_int X G hk_MOST_DEEP
  have k_MOST_TOLD : Con' K mg "MOST_TOLD" (.int 150) := con_int X G hk_MOST_TOLD
  have k_MOST_MARKS : Con' K mg "MOST_MARKS" (.int 12) := con_int X G hk_MOST_MARKS
  have k_MOST_SAID : Con' K mg "MOST_SAID" (.int 16) := con_int X G hk_MOST_SAID
  have k_MOST_ROUNDS : Con' K mg "MOST_ROUNDS" (.int 4) := con_int X G hk_MOST_ROUNDS
  have k_MARKS : Con' K mg "MARKS" (.tup [.str "cut", .str "part", .str "like"]) := con_tup X G hk_MARKS ⟨_, _, _, _, _, rfl, hz_MARKS_0, Nat.le_of_ble_eq_true rfl, ⟨_, _, rfl, ⟨_, rfl⟩, ⟨_, _, rfl, ⟨_, rfl⟩, ⟨_, _, rfl, ⟨_, rfl⟩, rfl⟩⟩⟩⟩
  have k_SAID : Con' K mg "SAID" (.tup [.str "best", .str "ask", .str "over"]) := con_tup X G hk_SAID ⟨_, _, _, _, _, rfl, hz_SAID_0, Nat.le_of_ble_eq_true rfl, ⟨_, _, rfl, ⟨_, rfl⟩, ⟨_, _, rfl, ⟨_, rfl⟩, ⟨_, _, rfl, ⟨_, rfl⟩, rfl⟩⟩⟩⟩
  have k_FORMS : KDc K w mg "FORMS" kd_FORMS := ⟨_, _, _, PySem.W.mg_of X G hk_FORMS, ⟨hkl_FORMS, by simpa using hkt_FORMS, hkw_FORMS⟩, ⟨_, _, rfl, ⟨_, rfl⟩, ⟨_, rfl⟩, ⟨_, _, rfl, ⟨_, rfl⟩, ⟨_, rfl⟩, ⟨_, _, rfl, ⟨_, rfl⟩, ⟨_, rfl⟩, ⟨_, _, rfl, ⟨_, rfl⟩, ⟨_, rfl⟩, ⟨_, _, rfl, ⟨_, rfl⟩, ⟨_, rfl⟩, ⟨_, _, rfl, ⟨_, rfl⟩, ⟨_, rfl⟩, ⟨_, _, rfl, ⟨_, rfl⟩, ⟨_, rfl⟩, ⟨_, _, rfl, ⟨_, rfl⟩, ⟨_, rfl⟩, ⟨_, _, rfl, ⟨_, rfl⟩, ⟨_, rfl⟩, ⟨_, _, rfl, ⟨_, rfl⟩, ⟨_, rfl⟩, ⟨_, _, rfl, ⟨_, rfl⟩, ⟨_, rfl⟩, ⟨_, _, rfl, ⟨_, rfl⟩, ⟨_, rfl⟩, rfl⟩⟩⟩⟩⟩⟩⟩⟩⟩⟩⟩⟩⟩
  have cf_Judge : CF K CJudge := cf_of ⟨hop_Judge, hoh_Judge, hoo_Judge, hos_Judge⟩ hoa_Judge hon_Judge hot_Judge hom_Judge hoint_Judge hobool_Judge hotuple_Judge holist_Judge hostr_Judge
  have K_Judge : KCl K mg "Judge" ["sharers", "pieces", "helps"] := ⟨CJudge, ho_Judge, PySem.W.mg_of X G ho_Judge, cf_Judge, fun f hf => by simp only [List.mem_cons, List.not_mem_nil, or_false] at hf; rcases hf with rfl | rfl | rfl <;> assumption⟩
  have M_Judge : MkC K mg "Judge" := ⟨CJudge, a13, ho_Judge, PySem.W.mg_of X G ho_Judge, cf_Judge, ⟨hok_Judge, ha13, hi13, hoq_Judge⟩, ha13⟩
  have cf_Sizes : CF K CSizes := cf_of ⟨hop_Sizes, hoh_Sizes, hoo_Sizes, hos_Sizes⟩ hoa_Sizes hon_Sizes hot_Sizes hom_Sizes hoint_Sizes hobool_Sizes hotuple_Sizes holist_Sizes hostr_Sizes
  have K_Sizes : KCl K mg "Sizes" ["helps"] := ⟨CSizes, ho_Sizes, PySem.W.mg_of X G ho_Sizes, cf_Sizes, fun f hf => by simp only [List.mem_cons, List.not_mem_nil, or_false] at hf; rcases hf with rfl <;> assumption⟩
  have M_Sizes : MkC K mg "Sizes" := ⟨CSizes, a12, ho_Sizes, PySem.W.mg_of X G ho_Sizes, cf_Sizes, ⟨hok_Sizes, ha12, hi12, hoq_Sizes⟩, ha12⟩
  have e := hfa.symm.trans (PySem.W.mg_of X G ha42)
  cases e
  refine ⟨PySem.W.fnOf "law" "law" (defArgs s_law) (defBody s_law) (defScope s_law) .none kV42 dc42 pm42 an42 cd42 ct42, fun s v => .of_eq rfl, fun base _ _ => ?_⟩
  have A_is_integer : At K mg "is_integer" s_is_integer := at_of X G ha0 hl0 hc0 hk0
  have A_is_between : At K mg "is_between" s_is_between := at_of X G ha1 hl1 hc1 hk1
  have A_is_tuple_of : At K mg "is_tuple_of" s_is_tuple_of := at_of X G ha2 hl2 hc2 hk2
  have A_is_fraction : At K mg "is_fraction" s_is_fraction := at_of X G ha3 hl3 hc3 hk3
  have A_is_share : At K mg "is_share" s_is_share := at_of X G ha4 hl4 hc4 hk4
  have A_blocks_in : At K mg "blocks_in" s_blocks_in := at_of X G ha5 hl5 hc5 hk5
  have A_Sizes_size : AtM K "Sizes" "size" "Sizes.size" s_Sizes_size := ⟨CSizes, a6, _, ho_Sizes, ⟨ha6, hi6, hk6⟩, fun_mk hl6 hc6 hk6⟩
  have A_Sizes_size_of : AtM K "Sizes" "size_of" "Sizes.size_of" s_Sizes_size_of := ⟨CSizes, a7, _, ho_Sizes, ⟨ha7, hi7, hk7⟩, fun_mk hl7 hc7 hk7⟩
  have A_Judge_are_pieces : AtM K "Judge" "are_pieces" "Judge.are_pieces" s_Judge_are_pieces := ⟨CJudge, a8, _, ho_Judge, ⟨ha8, hi8, hk8⟩, fun_mk hl8 hc8 hk8⟩
  have A_Judge_is_part : AtM K "Judge" "is_part" "Judge.is_part" s_Judge_is_part := ⟨CJudge, a9, _, ho_Judge, ⟨ha9, hi9, hk9⟩, fun_mk hl9 hc9 hk9⟩
  have A_Judge_is_block : AtM K "Judge" "is_block" "Judge.is_block" s_Judge_is_block := ⟨CJudge, a10, _, ho_Judge, ⟨ha10, hi10, hk10⟩, fun_mk hl10 hc10 hk10⟩
  have A_Judge_is_statement : AtM K "Judge" "is_statement" "Judge.is_statement" s_Judge_is_statement := ⟨CJudge, a11, _, ho_Judge, ⟨ha11, hi11, hk11⟩, fun_mk hl11 hc11 hk11⟩
  have A_Sizes___init__ : AtM K "Sizes" "__init__" "Sizes.__init__" s_Sizes___init__ := ⟨CSizes, a12, _, ho_Sizes, ⟨ha12, hi12, hk12⟩, fun_mk hl12 hc12 hk12⟩
  have A_Judge___init__ : AtM K "Judge" "__init__" "Judge.__init__" s_Judge___init__ := ⟨CJudge, a13, _, ho_Judge, ⟨ha13, hi13, hk13⟩, fun_mk hl13 hc13 hk13⟩
  have A_is_program : At K mg "is_program" s_is_program := at_of X G ha14 hl14 hc14 hk14
  have A__law_hand : At K mg "_law_hand" s__law_hand := at_of X G ha15 hl15 hc15 hk15
  have A__law_draw : At K mg "_law_draw" s__law_draw := at_of X G ha16 hl16 hc16 hk16
  have A__law_some : At K mg "_law_some" s__law_some := at_of X G ha17 hl17 hc17 hk17
  have A__law_mixed : At K mg "_law_mixed" s__law_mixed := at_of X G ha18 hl18 hc18 hk18
  have A__law_part : At K mg "_law_part" s__law_part := at_of X G ha19 hl19 hc19 hk19
  have A__law_plus : At K mg "_law_plus" s__law_plus := at_of X G ha20 hl20 hc20 hk20
  have A__law_times : At K mg "_law_times" s__law_times := at_of X G ha21 hl21 hc21 hk21
  have A__law_less : At K mg "_law_less" s__law_less := at_of X G ha22 hl22 hc22 hk22
  have A__law_ahead : At K mg "_law_ahead" s__law_ahead := at_of X G ha23 hl23 hc23 hk23
  have A__law_joined : At K mg "_law_joined" s__law_joined := at_of X G ha24 hl24 hc24 hk24
  have A__law_cut : At K mg "_law_cut" s__law_cut := at_of X G ha25 hl25 hc25 hk25
  have A__law_share : At K mg "_law_share" s__law_share := at_of X G ha26 hl26 hc26 hk26
  have A__law_plain : At K mg "_law_plain" s__law_plain := at_of X G ha27 hl27 hc27 hk27
  have A__law_statement : At K mg "_law_statement" s__law_statement := at_of X G ha28 hl28 hc28 hk28
  have A__law_block : At K mg "_law_block" s__law_block := at_of X G ha29 hl29 hc29 hk29
  have A__law_out : At K mg "_law_out" s__law_out := at_of X G ha30 hl30 hc30 hk30
  have A__law_told : At K mg "_law_told" s__law_told := at_of X G ha31 hl31 hc31 hk31
  have A__law_yard : At K mg "_law_yard" s__law_yard := at_of X G ha32 hl32 hc32 hk32
  have A__law_on : At K mg "_law_on" s__law_on := at_of X G ha33 hl33 hc33 hk33
  have A__law_answered : At K mg "_law_answered" s__law_answered := at_of X G ha34 hl34 hc34 hk34
  have A__law_copy : At K mg "_law_copy" s__law_copy := at_of X G ha35 hl35 hc35 hk35
  have A__law_options : At K mg "_law_options" s__law_options := at_of X G ha36 hl36 hc36 hk36
  have A__law_by : At K mg "_law_by" s__law_by := at_of X G ha37 hl37 hc37 hk37
  have A__law_ways : At K mg "_law_ways" s__law_ways := at_of X G ha38 hl38 hc38 hk38
  have A__law_counts : At K mg "_law_counts" s__law_counts := at_of X G ha39 hl39 hc39 hk39
  have A__law_program : At K mg "_law_program" s__law_program := at_of X G ha40 hl40 hc40 hk40
  have A__law_no_program : At K mg "_law_no_program" s__law_no_program := at_of X G ha41 hl41 hc41 hk41
  have c_is_integer := c_is_integer (P := l.prog) (w := w) (base := base) (xt := xtOf []) T A_is_integer 
  have c_is_between := c_is_between (P := l.prog) (w := w) (base := base) (xt := xtOf []) T A_is_between c_is_integer
  have c_is_tuple_of := c_is_tuple_of (P := l.prog) (w := w) (base := base) (xt := xtOf []) T A_is_tuple_of 
  have c_is_fraction := c_is_fraction (P := l.prog) (w := w) (base := base) (xt := xtOf []) T A_is_fraction c_is_tuple_of c_is_integer
  have c_is_share := c_is_share (P := l.prog) (w := w) (base := base) (xt := xtOf []) T A_is_share c_is_fraction
  have c_blocks_in := c_blocks_in (P := l.prog) (w := w) (base := base) (xt := xtOf []) T A_blocks_in k_FORMS
  have c_Sizes_size := c_Sizes_size (P := l.prog) (w := w) (base := base) (xt := xtOf []) T A_Sizes_size A_Sizes_size_of k_MARKS k_SAID c_blocks_in
  have c_Sizes_size_of := c_Sizes_size_of (P := l.prog) (w := w) (base := base) (xt := xtOf []) T A_Sizes_size A_Sizes_size_of k_MARKS k_SAID c_blocks_in
  have c_Judge_are_pieces := c_Judge_are_pieces (P := l.prog) (w := w) (base := base) (xt := xtOf []) T A_Judge_are_pieces c_is_between
  have c_Judge_is_part := c_Judge_is_part (P := l.prog) (w := w) (base := base) (xt := xtOf []) T A_Judge_is_part k_MOST_ROUNDS c_is_between c_is_share c_Judge_are_pieces
  have c_Judge_is_block := c_Judge_is_block (P := l.prog) (w := w) (base := base) (xt := xtOf []) T A_Judge_is_block A_Judge_is_statement k_MOST_LONG k_FORMS c_Judge_is_part
  have c_Judge_is_statement := c_Judge_is_statement (P := l.prog) (w := w) (base := base) (xt := xtOf []) T A_Judge_is_block A_Judge_is_statement k_MOST_LONG k_FORMS c_Judge_is_part
  have c_Sizes___init__ := c_Sizes___init__ (P := l.prog) (w := w) (base := base) (xt := xtOf []) T A_Sizes___init__ K_Sizes c_Sizes_size
  have c_Judge___init__ := c_Judge___init__ (P := l.prog) (w := w) (base := base) (xt := xtOf []) T A_Judge___init__ K_Judge
  have c_is_program := c_is_program (P := l.prog) (w := w) (base := base) (xt := xtOf []) T A_is_program k_MOST_SHARERS k_MOST_PIECES k_MOST_HELPS k_MOST_DEEP k_MOST_TOLD k_MOST_MARKS k_MOST_SAID M_Sizes M_Judge c_Sizes_size c_Judge_is_block c_is_tuple_of c_is_between c_Sizes___init__ c_Judge___init__
  have c__law_hand := c__law_hand (P := l.prog) (w := w) (base := base) (xt := xtOf []) T A__law_hand 
  have c__law_draw := c__law_draw (P := l.prog) (w := w) (base := base) (xt := xtOf []) T A__law_draw 
  have c__law_some := c__law_some (P := l.prog) (w := w) (base := base) (xt := xtOf []) T A__law_some c__law_draw
  have c__law_mixed := c__law_mixed (P := l.prog) (w := w) (base := base) (xt := xtOf []) T A__law_mixed c__law_draw
  have c__law_part := c__law_part (P := l.prog) (w := w) (base := base) (xt := xtOf []) T A__law_part 
  have c__law_plus := c__law_plus (P := l.prog) (w := w) (base := base) (xt := xtOf []) T A__law_plus c__law_part
  have c__law_times := c__law_times (P := l.prog) (w := w) (base := base) (xt := xtOf []) T A__law_times c__law_part
  have c__law_less := c__law_less (P := l.prog) (w := w) (base := base) (xt := xtOf []) T A__law_less 
  have c__law_ahead := c__law_ahead (P := l.prog) (w := w) (base := base) (xt := xtOf []) T A__law_ahead c__law_less
  have c__law_joined := c__law_joined (P := l.prog) (w := w) (base := base) (xt := xtOf []) T A__law_joined c__law_ahead
  have c__law_cut := c__law_cut (P := l.prog) (w := w) (base := base) (xt := xtOf []) T A__law_cut 
  have c__law_share := c__law_share (P := l.prog) (w := w) (base := base) (xt := xtOf []) T A__law_share c__law_some
  have c__law_plain := c__law_plain (P := l.prog) (w := w) (base := base) (xt := xtOf []) T A__law_plain c__law_mixed c__law_some c__law_draw c__law_share
  have c__law_statement := c__law_statement (P := l.prog) (w := w) (base := base) (xt := xtOf []) T A__law_statement A__law_block c__law_draw c__law_mixed c__law_plain c__law_share
  have c__law_block := c__law_block (P := l.prog) (w := w) (base := base) (xt := xtOf []) T A__law_statement A__law_block c__law_draw c__law_mixed c__law_plain c__law_share
  have c__law_out := c__law_out (P := l.prog) (w := w) (base := base) (xt := xtOf []) T A__law_out 
  have c__law_told := c__law_told (P := l.prog) (w := w) (base := base) (xt := xtOf []) T A__law_told c__law_out
  have c__law_yard := c__law_yard (P := l.prog) (w := w) (base := base) (xt := xtOf []) T A__law_yard c__law_told
  have c__law_on := c__law_on (P := l.prog) (w := w) (base := base) (xt := xtOf []) T A__law_on c__law_joined
  have c__law_answered := c__law_answered (P := l.prog) (w := w) (base := base) (xt := xtOf []) T A__law_answered c__law_cut c__law_joined
  have c__law_copy := c__law_copy (P := l.prog) (w := w) (base := base) (xt := xtOf []) T A__law_copy 
  have c__law_options := c__law_options (P := l.prog) (w := w) (base := base) (xt := xtOf []) T A__law_options 
  have c__law_by := c__law_by (P := l.prog) (w := w) (base := base) (xt := xtOf []) T A__law_by c__law_times c__law_plus
  have c__law_ways := c__law_ways (P := l.prog) (w := w) (base := base) (xt := xtOf []) T A__law_ways c__law_on c__law_yard c__law_options c__law_copy c__law_answered c__law_by
  have c__law_counts := c__law_counts (P := l.prog) (w := w) (base := base) (xt := xtOf []) T A__law_counts 
  have c__law_program := c__law_program (P := l.prog) (w := w) (base := base) (xt := xtOf []) T A__law_program c__law_counts c__law_draw c__law_block c__law_share c__law_told c__law_ways c__law_statement
  have c__law_no_program := c__law_no_program (P := l.prog) (w := w) (base := base) (xt := xtOf []) T A__law_no_program c__law_some
  exact law_of (fn_ok (fun_mk (st := s_law) hl42 hc42 hk42) sc_law (d_law (xt := xtOf []) T c__law_hand c__law_program c_is_program c__law_no_program _)) law
end Lw

open PySem PySem.W PyProof.Rows in
set_option maxRecDepth 100000 in
set_option maxHeartbeats 0 in
theorem PySem.Challenge.cw_sharespromised_k06_programs_judged_holds : PySem.Challenge.rw_sharespromised_k06_programs_judged.Holds := by
  w_on; o_law; k_head; (case hw => w_witness2)
  k_fill
  refine Md.law_end (l := PySem.Challenge.rw_sharespromised_k06_programs_judged) (k := 31) rfl rfl ⟨rfl, by decide, by decide⟩ (fun w h Y => PySem.W.kIn_of Y) ?F
  case F =>
    intro w mg fa h KX G hmg
    refine' Lw.all_mk KX G hmg Lw.law_true ?ha0 ?hl0 ?hc0 ?hk0 ?ha1 ?hl1 ?hc1 ?hk1 ?ha2 ?hl2 ?hc2 ?hk2 ?ha3 ?hl3 ?hc3 ?hk3 ?ha4 ?hl4 ?hc4 ?hk4 ?ha5 ?hl5 ?hc5 ?hk5 ?ho_Sizes ?hop_Sizes ?hoh_Sizes ?hoo_Sizes ?hos_Sizes ?hoa_Sizes ?hon_Sizes ?hot_Sizes ?hom_Sizes ?hoint_Sizes ?hobool_Sizes ?hotuple_Sizes ?holist_Sizes ?hostr_Sizes ?hof_Sizes_helps ?hok_Sizes ?hoq_Sizes ?ha6 ?hi6 ?hl6 ?hc6 ?hk6 ?ha7 ?hi7 ?hl7 ?hc7 ?hk7 ?ho_Judge ?hop_Judge ?hoh_Judge ?hoo_Judge ?hos_Judge ?hoa_Judge ?hon_Judge ?hot_Judge ?hom_Judge ?hoint_Judge ?hobool_Judge ?hotuple_Judge ?holist_Judge ?hostr_Judge ?hof_Judge_sharers ?hof_Judge_pieces ?hof_Judge_helps ?hok_Judge ?hoq_Judge ?ha8 ?hi8 ?hl8 ?hc8 ?hk8 ?ha9 ?hi9 ?hl9 ?hc9 ?hk9 ?ha10 ?hi10 ?hl10 ?hc10 ?hk10 ?ha11 ?hi11 ?hl11 ?hc11 ?hk11 ?ha12 ?hi12 ?hl12 ?hc12 ?hk12 ?ha13 ?hi13 ?hl13 ?hc13 ?hk13 ?ha14 ?hl14 ?hc14 ?hk14 ?ha15 ?hl15 ?hc15 ?hk15 ?ha16 ?hl16 ?hc16 ?hk16 ?ha17 ?hl17 ?hc17 ?hk17 ?ha18 ?hl18 ?hc18 ?hk18 ?ha19 ?hl19 ?hc19 ?hk19 ?ha20 ?hl20 ?hc20 ?hk20 ?ha21 ?hl21 ?hc21 ?hk21 ?ha22 ?hl22 ?hc22 ?hk22 ?ha23 ?hl23 ?hc23 ?hk23 ?ha24 ?hl24 ?hc24 ?hk24 ?ha25 ?hl25 ?hc25 ?hk25 ?ha26 ?hl26 ?hc26 ?hk26 ?ha27 ?hl27 ?hc27 ?hk27 ?ha28 ?hl28 ?hc28 ?hk28 ?ha29 ?hl29 ?hc29 ?hk29 ?ha30 ?hl30 ?hc30 ?hk30 ?ha31 ?hl31 ?hc31 ?hk31 ?ha32 ?hl32 ?hc32 ?hk32 ?ha33 ?hl33 ?hc33 ?hk33 ?ha34 ?hl34 ?hc34 ?hk34 ?ha35 ?hl35 ?hc35 ?hk35 ?ha36 ?hl36 ?hc36 ?hk36 ?ha37 ?hl37 ?hc37 ?hk37 ?ha38 ?hl38 ?hc38 ?hk38 ?ha39 ?hl39 ?hc39 ?hk39 ?ha40 ?hl40 ?hc40 ?hk40 ?ha41 ?hl41 ?hc41 ?hk41 ?ha42 ?hl42 ?hc42 ?hk42 ?hb_abs ?hb_all ?hb_bool ?hb_enumerate ?hb_int ?hb_isinstance ?hb_len ?hb_list ?hb_max ?hb_range ?hb_sorted ?hb_str ?hb_sum ?hb_tuple ?hb_zip ?hb_gcd ?hk_FORMS ?hkl_FORMS ?hkt_FORMS ?hkw_FORMS ?hk_MOST_SHARERS ?hk_MOST_PIECES ?hk_MOST_HELPS ?hk_MOST_LONG ?hk_MOST_DEEP ?hk_MOST_TOLD ?hk_MOST_MARKS ?hk_MOST_SAID ?hk_MOST_ROUNDS ?hk_MARKS ?hz_MARKS_0 ?hk_SAID ?hz_SAID_0
    (case ha0 => k_is)
    (case hl0 => k_is)
    (case hc0 => k_is)
    (case hk0 => k_is)
    (case ha1 => k_is)
    (case hl1 => k_is)
    (case hc1 => k_is)
    (case hk1 => k_is)
    (case ha2 => k_is)
    (case hl2 => k_is)
    (case hc2 => k_is)
    (case hk2 => k_is)
    (case ha3 => k_is)
    (case hl3 => k_is)
    (case hc3 => k_is)
    (case hk3 => k_is)
    (case ha4 => k_is)
    (case hl4 => k_is)
    (case hc4 => k_is)
    (case hk4 => k_is)
    (case ha5 => k_is)
    (case hl5 => k_is)
    (case hc5 => k_is)
    (case hk5 => k_is)
    (case ho_Sizes => k_is)
    (case hop_Sizes => k_is)
    (case hoh_Sizes => k_is)
    (case hoo_Sizes => k_is)
    (case hos_Sizes => k_is)
    (case hoa_Sizes => k_is)
    (case hon_Sizes => k_is)
    (case hot_Sizes => k_is)
    (case hom_Sizes => k_is)
    (case hoint_Sizes => k_is)
    (case hobool_Sizes => k_is)
    (case hotuple_Sizes => k_is)
    (case holist_Sizes => k_is)
    (case hostr_Sizes => k_is)
    (case hof_Sizes_helps => k_is)
    (case hok_Sizes => k_is)
    (case hoq_Sizes => k_is)
    (case ha6 => k_is)
    (case hi6 => k_is)
    (case hl6 => k_is)
    (case hc6 => k_is)
    (case hk6 => k_is)
    (case ha7 => k_is)
    (case hi7 => k_is)
    (case hl7 => k_is)
    (case hc7 => k_is)
    (case hk7 => k_is)
    (case ho_Judge => k_is)
    (case hop_Judge => k_is)
    (case hoh_Judge => k_is)
    (case hoo_Judge => k_is)
    (case hos_Judge => k_is)
    (case hoa_Judge => k_is)
    (case hon_Judge => k_is)
    (case hot_Judge => k_is)
    (case hom_Judge => k_is)
    (case hoint_Judge => k_is)
    (case hobool_Judge => k_is)
    (case hotuple_Judge => k_is)
    (case holist_Judge => k_is)
    (case hostr_Judge => k_is)
    (case hof_Judge_sharers => k_is)
    (case hof_Judge_pieces => k_is)
    (case hof_Judge_helps => k_is)
    (case hok_Judge => k_is)
    (case hoq_Judge => k_is)
    (case ha8 => k_is)
    (case hi8 => k_is)
    (case hl8 => k_is)
    (case hc8 => k_is)
    (case hk8 => k_is)
    (case ha9 => k_is)
    (case hi9 => k_is)
    (case hl9 => k_is)
    (case hc9 => k_is)
    (case hk9 => k_is)
    (case ha10 => k_is)
    (case hi10 => k_is)
    (case hl10 => k_is)
    (case hc10 => k_is)
    (case hk10 => k_is)
    (case ha11 => k_is)
    (case hi11 => k_is)
    (case hl11 => k_is)
    (case hc11 => k_is)
    (case hk11 => k_is)
    (case ha12 => k_is)
    (case hi12 => k_is)
    (case hl12 => k_is)
    (case hc12 => k_is)
    (case hk12 => k_is)
    (case ha13 => k_is)
    (case hi13 => k_is)
    (case hl13 => k_is)
    (case hc13 => k_is)
    (case hk13 => k_is)
    (case ha14 => k_is)
    (case hl14 => k_is)
    (case hc14 => k_is)
    (case hk14 => k_is)
    (case ha15 => k_is)
    (case hl15 => k_is)
    (case hc15 => k_is)
    (case hk15 => k_is)
    (case ha16 => k_is)
    (case hl16 => k_is)
    (case hc16 => k_is)
    (case hk16 => k_is)
    (case ha17 => k_is)
    (case hl17 => k_is)
    (case hc17 => k_is)
    (case hk17 => k_is)
    (case ha18 => k_is)
    (case hl18 => k_is)
    (case hc18 => k_is)
    (case hk18 => k_is)
    (case ha19 => k_is)
    (case hl19 => k_is)
    (case hc19 => k_is)
    (case hk19 => k_is)
    (case ha20 => k_is)
    (case hl20 => k_is)
    (case hc20 => k_is)
    (case hk20 => k_is)
    (case ha21 => k_is)
    (case hl21 => k_is)
    (case hc21 => k_is)
    (case hk21 => k_is)
    (case ha22 => k_is)
    (case hl22 => k_is)
    (case hc22 => k_is)
    (case hk22 => k_is)
    (case ha23 => k_is)
    (case hl23 => k_is)
    (case hc23 => k_is)
    (case hk23 => k_is)
    (case ha24 => k_is)
    (case hl24 => k_is)
    (case hc24 => k_is)
    (case hk24 => k_is)
    (case ha25 => k_is)
    (case hl25 => k_is)
    (case hc25 => k_is)
    (case hk25 => k_is)
    (case ha26 => k_is)
    (case hl26 => k_is)
    (case hc26 => k_is)
    (case hk26 => k_is)
    (case ha27 => k_is)
    (case hl27 => k_is)
    (case hc27 => k_is)
    (case hk27 => k_is)
    (case ha28 => k_is)
    (case hl28 => k_is)
    (case hc28 => k_is)
    (case hk28 => k_is)
    (case ha29 => k_is)
    (case hl29 => k_is)
    (case hc29 => k_is)
    (case hk29 => k_is)
    (case ha30 => k_is)
    (case hl30 => k_is)
    (case hc30 => k_is)
    (case hk30 => k_is)
    (case ha31 => k_is)
    (case hl31 => k_is)
    (case hc31 => k_is)
    (case hk31 => k_is)
    (case ha32 => k_is)
    (case hl32 => k_is)
    (case hc32 => k_is)
    (case hk32 => k_is)
    (case ha33 => k_is)
    (case hl33 => k_is)
    (case hc33 => k_is)
    (case hk33 => k_is)
    (case ha34 => k_is)
    (case hl34 => k_is)
    (case hc34 => k_is)
    (case hk34 => k_is)
    (case ha35 => k_is)
    (case hl35 => k_is)
    (case hc35 => k_is)
    (case hk35 => k_is)
    (case ha36 => k_is)
    (case hl36 => k_is)
    (case hc36 => k_is)
    (case hk36 => k_is)
    (case ha37 => k_is)
    (case hl37 => k_is)
    (case hc37 => k_is)
    (case hk37 => k_is)
    (case ha38 => k_is)
    (case hl38 => k_is)
    (case hc38 => k_is)
    (case hk38 => k_is)
    (case ha39 => k_is)
    (case hl39 => k_is)
    (case hc39 => k_is)
    (case hk39 => k_is)
    (case ha40 => k_is)
    (case hl40 => k_is)
    (case hc40 => k_is)
    (case hk40 => k_is)
    (case ha41 => k_is)
    (case hl41 => k_is)
    (case hc41 => k_is)
    (case hk41 => k_is)
    (case ha42 => k_is)
    (case hl42 => k_is)
    (case hc42 => k_is)
    (case hk42 => k_is)
    (case hb_abs => k_is)
    (case hb_all => k_is)
    (case hb_bool => k_is)
    (case hb_enumerate => k_is)
    (case hb_int => k_is)
    (case hb_isinstance => k_is)
    (case hb_len => k_is)
    (case hb_list => k_is)
    (case hb_max => k_is)
    (case hb_range => k_is)
    (case hb_sorted => k_is)
    (case hb_str => k_is)
    (case hb_sum => k_is)
    (case hb_tuple => k_is)
    (case hb_zip => k_is)
    (case hb_gcd => k_is)
    (case hk_FORMS => k_is)
    (case hkl_FORMS => k_is)
    (case hkt_FORMS => exact ⟨⟨_, _, rfl, rfl⟩, ⟨_, _, rfl, rfl⟩, ⟨_, _, rfl, rfl⟩, ⟨_, _, rfl, rfl⟩, ⟨_, _, rfl, rfl⟩, ⟨_, _, rfl, rfl⟩, ⟨_, _, rfl, rfl⟩, ⟨_, _, rfl, rfl⟩, ⟨_, _, rfl, rfl⟩, ⟨_, _, rfl, rfl⟩, ⟨_, _, rfl, rfl⟩, ⟨_, _, rfl, rfl⟩, trivial⟩)
    (case hkw_FORMS => decide)
    (case hk_MOST_SHARERS => k_is)
    (case hk_MOST_PIECES => k_is)
    (case hk_MOST_HELPS => k_is)
    (case hk_MOST_LONG => k_is)
    (case hk_MOST_DEEP => k_is)
    (case hk_MOST_TOLD => k_is)
    (case hk_MOST_MARKS => k_is)
    (case hk_MOST_SAID => k_is)
    (case hk_MOST_ROUNDS => k_is)
    (case hk_MARKS => k_is)
    (case hz_MARKS_0 => k_is)
    (case hk_SAID => k_is)
    (case hz_SAID_0 => k_is)
#print axioms PySem.Challenge.cw_sharespromised_k06_programs_judged_holds
