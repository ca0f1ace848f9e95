import PyProof.Rows.All
import Wide.All
import OpenK.AllK
import Wide.FinOn
import PyProof.EqAt
import PyProof.EqKinds
import PyProof.TupleCall
import HandS.ForMost
import HandS.ForExc
import HandS.Wide
import HandS.Lambda
import HandS.IsInst
import HandS.TupAny
import HandS.Walk
import HandS.Zip
import HandS.Conv
import HandS.ExcSuper
import HandS.Style
import HandS.Exc
import HandS.ExcField
import HandS.ExcIs
import KE.KTryMore
import KE.KExcIs
import HandS.WideBits
import HandS.WordsExc
import HandS.Dict
import HandS.EndTab
import KE.BitLaws
import PySem.Challenge.RW_toldinbounds_k33_choices_that_mislead
set_option Elab.async false
set_option linter.all false
set_option maxRecDepth 100000
set_option maxHeartbeats 4000000
/-! T0: the tree layer's judgements: Python data as trees, the heap hidden. -/
namespace TR
open PySem PySem.Spec PyProof.Rows L2

abbrev D := PyData
/-- what a name holds: data (frozen), a raw value, a list of its own (mutable, nobody else has it) -/
inductive En where
  | dat (d : D) | raw (v : V) | own (ds : List D)
abbrev Rho := List (Option En)
/-- what functions share and change: the deck (its dict, its list), the tables of code objects (with the names that their code objects bear) -/
structure Rs where
  deck : Option (Addr × Addr)
  tabs : List (Addr × Str)
def Rs.dk (r : Rs) : List Addr := (match r.deck with | some (a, l) => [a, l] | none => []) ++ r.tabs.map (·.1)
def DeckOk (a l : Addr) (M : Hp) : Prop := a ≠ l ∧ ∃ (m n : Int) (ns : List Int),
  M a = some (.dK [(.inr "left", .ref l), (.inr "mixed", .int m), (.inr "draws", .int n)]) ∧ M l = some (.lst (ns.map V.int)) ∧ ns.length ≤ 63
structure Rs.DW (r : Rs) (M : Hp) : Prop where
  deck : ∀ a l, r.deck = some (a, l) → DeckOk a l M
  tabs : LamX.Tabs r.tabs M
theorem DeckOk.mono {a l : Addr} {M M' : Hp} (x : DeckOk a l M) (e : ∀ b o, M b = some o → M' b = some o) : DeckOk a l M' := by
  obtain ⟨ne, m, n, ns, h1, h2, h3⟩ := x
  exact ⟨ne, m, n, ns, e _ _ h1, e _ _ h2, h3⟩
theorem Rs.DW.mono {r : Rs} {M M' : Hp} (x : r.DW M) (e : ∀ b o, M b = some o → M' b = some o) : r.DW M' :=
  ⟨fun a l h => (x.deck a l h).mono e, x.tabs.ext e⟩
/-- a list beside is changed -/
theorem Rs.DW.chg {r : Rs} {M : Hp} {p : Addr} {o : HO} {xs : List V} (x : r.DW M) (hp : M p = some (.lst xs)) (hd : p ∉ r.dk) : r.DW (upd M p o) := by
  refine ⟨fun a l h => ?_, fun q hq => ?_⟩
  · have hin : a ∈ r.dk ∧ l ∈ r.dk := by unfold Rs.dk; rw [h]; simp
    obtain ⟨ne, m, n, ns, h1, h2, h3⟩ := x.deck a l h
    exact ⟨ne, m, n, ns, by rw [upd_ne (fun z : a = p => hd (z ▸ hin.1))]; exact h1, by rw [upd_ne (fun z : l = p => hd (z ▸ hin.2))]; exact h2, h3⟩
  · obtain ⟨ps, h1, h2, h3⟩ := x.tabs q hq
    refine ⟨ps, by rw [upd_ne (fun z => by rw [z, hp] at h1; cases h1)]; exact h1, h2, fun pos cv hc => ?_⟩
    obtain ⟨c, e1, e2⟩ := h3 pos cv hc
    refine ⟨c, e1, ?_⟩
    rw [upd_ne (fun z => by rw [z, hp] at e2; unfold LamX.CodeO at e2; cases e2)]
    exact e2

/-- no object there but perhaps a table of code objects -/
def NoT (H : Hp) (b : Addr) : Prop := ∀ u, H b = some u → ∃ ps, u = .tbl ps
theorem NoT.of {H : Hp} {b : Addr} (h : H b = none) : NoT H b := fun u e => by rw [h] at e; cases e
theorem NoT.ne {H : Hp} {b c : Addr} {u : HO} (h : NoT H b) (e : H c = some u) (n : ∀ ps, u ≠ .tbl ps) : c ≠ b := fun z => by
  subst z
  obtain ⟨ps, q⟩ := h _ e
  exact n ps q
theorem NoT.lst {H : Hp} {b : Addr} {xs : List V} (h : NoT H b) (e : H b = some (.lst xs)) : False := by
  obtain ⟨ps, q⟩ := h _ e
  cases q
/-- from (F0, H0) to (F, H): frozen parts grow by new objects, all but the shared ones stay -/
structure Stp (r : Rs) (F0 H0 F H : Hp) : Prop where
  ex : ∀ b o, F b = some o → H b = some o
  old : ∀ b o, F0 b = some o → F b = some o
  keep : ∀ b o, H0 b = some o → b ∉ r.dk → (∀ ps, o ≠ .tbl ps) → H b = some o
  new : ∀ b o, F b = some o → F0 b = some o ∨ NoT H0 b
  fdk : ∀ b ∈ r.dk, F b = none
  dal : ∀ b ∈ r.dk, H b ≠ none
  fnt : ∀ b o, F b = some o → ∀ ps, o ≠ .tbl ps
  dw : r.DW H
theorem Stp.trans {r : Rs} {F0 H0 F1 H1 F2 H2 : Hp} (a : Stp r F0 H0 F1 H1) (b : Stp r F1 H1 F2 H2) : Stp r F0 H0 F2 H2 where
  ex := b.ex
  old := fun c o h => b.old c o (a.old c o h)
  keep := fun c o h n t => b.keep c o (a.keep c o h n t) n t
  new := fun c o h => by
    rcases b.new c o h with z | z
    · exact a.new c o z
    · refine .inr fun u q => ?_
      by_cases hc : c ∈ r.dk
      · rw [b.fdk c hc] at h; cases h
      · by_cases ht : ∃ ps, u = .tbl ps
        · exact ht
        · exact z u (a.keep c u q hc fun ps e => ht ⟨ps, e⟩)
  fdk := b.fdk
  dal := b.dal
  fnt := b.fnt
  dw := b.dw
theorem Stp.refl {r : Rs} {F0 H0 F H : Hp} (a : Stp r F0 H0 F H) : Stp r F H F H :=
  ⟨a.ex, fun _ _ h => h, fun _ _ h _ _ => h, fun _ _ h => .inl h, a.fdk, a.dal, a.fnt, a.dw⟩
theorem Stp.keepL {r : Rs} {F0 H0 F H : Hp} (a : Stp r F0 H0 F H) {b : Addr} {xs : List V} (h : H0 b = some (.lst xs)) (n : b ∉ r.dk) : H b = some (.lst xs) := a.keep _ _ h n fun _ z => by cases z

/-! ### data stay -/
theorem rd_mono {F F' : Hp} (e : ∀ b o, F b = some o → F' b = some o) {a : Addr} {u : HO} (h : Rd F a u) : Rd F' a u := by
  rcases h with h | ⟨o, h⟩
  · exact .inl (e _ _ h)
  · exact .inr ⟨o, e _ _ h⟩
theorem sqL_mono {K : PySem.W.Frag} {F F' : Hp} (e : ∀ b o, F b = some o → F' b = some o) {a : Addr} {xs : List V} (h : SqL K F a xs) : SqL K F' a xs := by
  rcases h with h | h
  · exact .inl (rd_mono e h)
  · exact .inr h
theorem sqT_mono {K : PySem.W.Frag} {F F' : Hp} (e : ∀ b o, F b = some o → F' b = some o) {a : Addr} {xs : List V} (h : SqT K F a xs) : SqT K F' a xs := by
  rcases h with h | h
  · exact .inl (rd_mono e h)
  · exact .inr h
mutual
theorem dp_mono {K : PySem.W.Frag} {F F' : Hp} (e : ∀ b o, F b = some o → F' b = some o) : ∀ (d : D) (v : V), Dp K F v d → Dp K F' v d
  | .none, _, h => by cases h; exact .non
  | .bool b, _, h => by cases h; exact .bl b
  | .int i, _, h => by cases h; exact .int i
  | .str s, _, h => by cases h; exact .str s
  | .list ds, _, h => by
    cases h with
    | lst hs ha => exact .lst (sqL_mono e hs) (dpAll_mono e ds _ ha)
  | .tuple ds, _, h => by
    cases h with
    | tup hs ha => exact .tup (sqT_mono e hs) (dpAll_mono e ds _ ha)
  | .dict _, _, h => by cases h
theorem dpAll_mono {K : PySem.W.Frag} {F F' : Hp} (e : ∀ b o, F b = some o → F' b = some o) : ∀ (ds : List D) (vs : List V), DpAll K F vs ds → DpAll K F' vs ds
  | [], _, h => by cases h; exact .nil
  | d :: ds, _, h => by
    cases h with
    | cons h1 h2 => exact .cons (dp_mono e d _ h1) (dpAll_mono e ds _ h2)
end
theorem da_len {K : PySem.W.Frag} {F : Hp} : ∀ {vs : List V} {ds : List D}, DpAll K F vs ds → vs.length = ds.length
  | _, _, .nil => rfl
  | _, _, .cons _ t => by simp [da_len t]
theorem da_append {K : PySem.W.Frag} {F : Hp} : ∀ {vs ws : List V} {ds es : List D}, DpAll K F vs ds → DpAll K F ws es → DpAll K F (vs ++ ws) (ds ++ es)
  | _, _, _, _, .nil, h => h
  | _, _, _, _, .cons a t, h => .cons a (da_append t h)
theorem da_get {K : PySem.W.Frag} {F : Hp} : ∀ {vs : List V} {ds : List D} {i : Nat} {d : D}, DpAll K F vs ds → ds[i]? = some d → ∃ v, vs[i]? = some v ∧ Dp K F v d
  | _, _, _, _, .nil, e => by simp at e
  | _, _, 0, _, .cons a _, e => by simp at e; subst e; exact ⟨_, rfl, a⟩
  | _, _, i + 1, d, .cons _ t, e => by
    obtain ⟨v, h1, h2⟩ := da_get (i := i) (d := d) t (by simpa using e)
    exact ⟨v, by simpa using h1, h2⟩
theorem da_get' {K : PySem.W.Frag} {F : Hp} : ∀ {vs : List V} {ds : List D} {i : Nat} {v : V}, DpAll K F vs ds → vs[i]? = some v → ∃ d, ds[i]? = some d ∧ Dp K F v d
  | _, _, _, _, .nil, e => by simp at e
  | _, _, 0, _, .cons a _, e => by simp at e; subst e; exact ⟨_, rfl, a⟩
  | _, _, i + 1, d, .cons _ t, e => by
    obtain ⟨v, h1, h2⟩ := da_get' (i := i) (v := d) t (by simpa using e)
    exact ⟨v, by simpa using h1, h2⟩
theorem da_take {K : PySem.W.Frag} {F : Hp} : ∀ {vs : List V} {ds : List D} (n : Nat), DpAll K F vs ds → DpAll K F (vs.take n) (ds.take n)
  | _, _, 0, _ => .nil
  | _, _, _ + 1, .nil => .nil
  | _, _, n + 1, .cons a t => .cons a (da_take n t)
theorem da_drop {K : PySem.W.Frag} {F : Hp} : ∀ {vs : List V} {ds : List D} (n : Nat), DpAll K F vs ds → DpAll K F (vs.drop n) (ds.drop n)
  | _, _, 0, h => h
  | _, _, _ + 1, .nil => .nil
  | _, _, n + 1, .cons _ t => da_drop n t
theorem da_set {K : PySem.W.Frag} {F : Hp} {v : V} {d : D} (r : Dp K F v d) : ∀ {vs : List V} {ds : List D} (i : Nat), DpAll K F vs ds → DpAll K F (vs.set i v) (ds.set i d)
  | _, _, _, .nil => .nil
  | _, _, 0, .cons _ t => .cons r t
  | _, _, i + 1, .cons q t => .cons q (da_set r i t)
theorem da_ints {K : PySem.W.Frag} {F : Hp} : ∀ {vs : List V} {ns : List Int}, DpAll K F vs (ns.map PyData.int) → vs = ns.map V.int
  | _, [], h => by cases h; rfl
  | _, n :: ns, h => by
    cases h with
    | cons a t => cases a; rw [da_ints t]; rfl
theorem da_bools {K : PySem.W.Frag} {F : Hp} : ∀ {vs : List V} {ns : List Bool}, DpAll K F vs (ns.map PyData.bool) → vs = ns.map V.bl
  | _, [], h => by cases h; rfl
  | _, n :: ns, h => by
    cases h with
    | cons a t => cases a; rw [da_bools t]; rfl
theorem dpAll_ints {K : PySem.W.Frag} {F : Hp} : ∀ (ns : List Int), DpAll K F (ns.map V.int) (ns.map PyData.int)
  | [] => .nil
  | n :: ns => .cons (.int n) (dpAll_ints ns)
/-- a text, a number .. as a value -/
theorem int_inv {K : PySem.W.Frag} {F : Hp} {v : V} {i : Int} (h : Dp K F v (.int i)) : v = .int i := by cases h; rfl
theorem bool_inv {K : PySem.W.Frag} {F : Hp} {v : V} {i : Bool} (h : Dp K F v (.bool i)) : v = .bl i := by cases h; rfl
theorem str_inv {K : PySem.W.Frag} {F : Hp} {v : V} {i : Str} (h : Dp K F v (.str i)) : v = .str i := by cases h; rfl
theorem none_inv {K : PySem.W.Frag} {F : Hp} {v : V} (h : Dp K F v .none) : v = .non := by cases h; rfl
theorem list_inv {K : PySem.W.Frag} {F : Hp} {v : V} {ds : List D} (h : Dp K F v (.list ds)) : ∃ a xs, v = .ref a ∧ SqL K F a xs ∧ DpAll K F xs ds := by
  cases h with
  | lst h1 h2 => exact ⟨_, _, rfl, h1, h2⟩
theorem tuple_inv {K : PySem.W.Frag} {F : Hp} {v : V} {ds : List D} (h : Dp K F v (.tuple ds)) : ∃ a xs, v = .ref a ∧ SqT K F a xs ∧ DpAll K F xs ds := by
  cases h with
  | tup h1 h2 => exact ⟨_, _, rfl, h1, h2⟩

/-! ### the state of a body -/
structure Wd where
  rs : Rs
  K : PySem.W.Frag
  F0 : Hp
  H0 : Hp
/-- what the slot's value is -/
def EnR (W : Wd) (F H : Hp) (v : V) : En → Prop
  | .dat d => Dp W.K F v d
  | .raw u => v = u
  | .own ds => ∃ a xs, v = .ref a ∧ H a = some (.lst xs) ∧ F a = none ∧ NoT W.H0 a ∧ a ∉ W.rs.dk ∧ DpAll W.K F xs ds
structure Good (W : Wd) (F H : Hp) (σ : L2.St) (ρ : Rho) : Prop where
  st : Stp W.rs W.F0 W.H0 F H
  len : σ.length = ρ.length
  env : ∀ (i : Nat) (e : En), ρ[i]? = some (some e) → ∃ v, σ[i]? = some (some v) ∧ EnR W F H v e
  dist : ∀ (i j : Nat) (ds es : List D) (v : V), i ≠ j → ρ[i]? = some (some (.own ds)) → ρ[j]? = some (some (.own es)) → σ[i]? = some (some v) → σ[j]? ≠ some (some v)

theorem EnR.step {W : Wd} {F H F' H' : Hp} {v : V} {e : En} (s : Stp W.rs F H F' H') (x : EnR W F H v e) : EnR W F' H' v e := by
  cases e with
  | dat d => exact dp_mono s.old d v x
  | raw u => exact x
  | own ds =>
    obtain ⟨a, xs, rfl, h1, h2, h3, h4, h5⟩ := x
    refine ⟨a, xs, rfl, s.keepL h1 h4, ?_, h3, h4, dpAll_mono s.old ds xs h5⟩
    cases q : F' a with
    | none => rfl
    | some o =>
      rcases s.new a o q with z | z
      · rw [h2] at z; cases z
      · exact (z.lst h1).elim
theorem Good.step {W : Wd} {F H F' H' : Hp} {σ : L2.St} {ρ : Rho} (g : Good W F H σ ρ) (s : Stp W.rs F H F' H') : Good W F' H' σ ρ :=
  ⟨g.st.trans s, g.len, fun i e h => by
    obtain ⟨v, h1, h2⟩ := g.env i e h
    exact ⟨v, h1, h2.step s⟩, g.dist⟩
theorem Good.self {W : Wd} {F H : Hp} {σ : L2.St} {ρ : Rho} (g : Good W F H σ ρ) : Stp W.rs F H F H := g.st.refl
/-- a new frozen object -/
theorem Stp.new1 {r : Rs} {F H : Hp} {p : Addr} {o : HO} (s : Stp r F H F H) (hp : H p = none) (ho : ∀ ps, o ≠ .tbl ps := by intro _ z; cases z) : Stp r F H (upd F p o) (upd H p o) where
  ex := fun b u e => by
    by_cases hb : b = p
    · subst hb; rw [upd_same] at e ⊢; exact e
    · rw [upd_ne hb] at e ⊢; exact s.ex b u e
  old := fun b u e => by
    rw [upd_ne (fun z => ?_)]
    · exact e
    · subst z
      have := s.ex _ _ e
      rw [hp] at this; cases this
  keep := fun b u e _ _ => by
    rw [upd_ne (ne_of_none e hp)]; exact e
  new := fun b u e => by
    by_cases hb : b = p
    · subst hb; exact .inr (.of hp)
    · rw [upd_ne hb] at e; exact .inl e
  fdk := fun b hb => by
    have : b ≠ p := fun z => s.dal b hb (by rw [z]; exact hp)
    rw [upd_ne this]; exact s.fdk b hb
  dal := fun b hb => by
    have : b ≠ p := fun z => s.dal b hb (by rw [z]; exact hp)
    rw [upd_ne this]; exact s.dal b hb
  fnt := fun b u e => by
    by_cases hb : b = p
    · subst hb; rw [upd_same] at e; cases e; exact ho
    · rw [upd_ne hb] at e; exact s.fnt b u e
  dw := s.dw.mono fun b u e => by rw [upd_ne (ne_of_none e hp)]; exact e
/-- a new object that is not frozen -/
theorem Stp.newO {r : Rs} {F H : Hp} {p : Addr} {o : HO} (s : Stp r F H F H) (hp : H p = none) (ho : ∀ ps, o ≠ .tbl ps := by intro _ z; cases z) : Stp r F H F (upd H p o) where
  ex := fun b u e => by
    have := s.ex b u e
    rw [upd_ne (ne_of_none this hp)]; exact this
  old := fun b u e => e
  keep := fun b u e _ _ => by
    rw [upd_ne (ne_of_none e hp)]; exact e
  new := fun b u e => .inl e
  fdk := s.fdk
  dal := fun b hb => by
    have : b ≠ p := fun z => s.dal b hb (by rw [z]; exact hp)
    rw [upd_ne this]; exact s.dal b hb
  fnt := s.fnt
  dw := s.dw.mono fun b u e => by rw [upd_ne (ne_of_none e hp)]; exact e
/-- an own object is frozen -/
theorem Stp.freeze {r : Rs} {F0 H0 F H : Hp} {p : Addr} {o : HO} (s : Stp r F0 H0 F H) (hp : H p = some o) (hF : F p = none) (h0 : NoT H0 p) (hd : p ∉ r.dk) (ho : ∀ ps, o ≠ .tbl ps := by intro _ z; cases z) : Stp r F0 H0 (upd F p o) H where
  ex := fun b u e => by
    by_cases hb : b = p
    · subst hb; rw [upd_same] at e; rw [hp]; exact e
    · rw [upd_ne hb] at e; exact s.ex b u e
  old := fun b u e => by
    have h := s.old b u e
    rw [upd_ne (ne_of_none h hF)]; exact h
  keep := s.keep
  new := fun b u e => by
    by_cases hb : b = p
    · subst hb; exact .inr h0
    · rw [upd_ne hb] at e; exact s.new b u e
  fdk := fun b hb => by
    have : b ≠ p := fun z => hd (z ▸ hb)
    rw [upd_ne this]; exact s.fdk b hb
  dal := s.dal
  fnt := fun b u e => by
    by_cases hb : b = p
    · subst hb; rw [upd_same] at e; cases e; exact ho
    · rw [upd_ne hb] at e; exact s.fnt b u e
  dw := s.dw
/-- an own list is changed -/
theorem Stp.change {r : Rs} {F0 H0 F H : Hp} {p : Addr} {xs ys : List V} (s : Stp r F0 H0 F H) (hH : H p = some (.lst xs)) (hF : F p = none) (h0 : NoT H0 p) (hd : p ∉ r.dk) : Stp r F0 H0 F (upd H p (.lst ys)) where
  ex := fun b u e => by rw [upd_ne (ne_of_none e hF)]; exact s.ex b u e
  old := s.old
  keep := fun b u e n t => by rw [upd_ne (h0.ne e t)]; exact s.keep b u e n t
  new := s.new
  fdk := s.fdk
  dal := fun b hb => by
    have : b ≠ p := fun z => hd (z ▸ hb)
    rw [upd_ne this]; exact s.dal b hb
  fnt := s.fnt
  dw := s.dw.chg hH hd

/-! ### the judgements -/
def tD (W : Wd) (ρ : Rho) (Φ : D → Prop) : TE := fun σ H Q => ∃ F, Good W F H σ ρ ∧ ∀ F' H' v d, Stp W.rs F H F' H' → Dp W.K F' v d → Φ d → Q v H'
/-- a new list, still its own -/
def tN (W : Wd) (ρ : Rho) (Φ : List D → Prop) : TE := fun σ H Q => ∃ F, Good W F H σ ρ ∧ ∀ F' H' p xs ds, Stp W.rs F H F' H' → H' p = some (.lst xs) → F' p = none → (NoT H p ∧ p ∉ W.rs.dk) → DpAll W.K F' xs ds → Φ ds → Q (.ref p) H'
def tT (W : Wd) (ρ : Rho) (Φ : Bool → Prop) : TT := fun σ H Q => ∃ F, Good W F H σ ρ ∧ ∀ F' H' b, Stp W.rs F H F' H' → Φ b → Q b H'
/-- an argument: data, or a raw value -/
def EnC (K : PySem.W.Frag) (F : Hp) (v : V) : En → Prop
  | .dat d => Dp K F v d
  | .raw u => v = u
  | .own _ => False
inductive EnsR (K : PySem.W.Frag) (F : Hp) : List V → List En → Prop
  | nil : EnsR K F [] []
  | cons {v : V} {vs : List V} {e : En} {es : List En} : EnC K F v e → EnsR K F vs es → EnsR K F (v :: vs) (e :: es)
theorem EnC.mono {K : PySem.W.Frag} {F F' : Hp} {v : V} {e : En} (o : ∀ b o, F b = some o → F' b = some o) (x : EnC K F v e) : EnC K F' v e := by
  cases e with
  | dat d => exact dp_mono o d v x
  | raw u => exact x
  | own _ => exact x
theorem EnsR.mono {K : PySem.W.Frag} {F F' : Hp} (o : ∀ b o, F b = some o → F' b = some o) : ∀ {vs : List V} {es : List En}, EnsR K F vs es → EnsR K F' vs es
  | _, _, .nil => .nil
  | _, _, .cons a t => .cons (a.mono o) (EnsR.mono o t)
theorem EnsR.len {K : PySem.W.Frag} {F : Hp} : ∀ {vs : List V} {es : List En}, EnsR K F vs es → vs.length = es.length
  | _, _, .nil => rfl
  | _, _, .cons _ t => by simp [EnsR.len t]
def tAs (W : Wd) (ρ : Rho) (Φ : List En → Prop) : TA := fun σ H Q => ∃ F, Good W F H σ ρ ∧ ∀ F' H' vs ens, Stp W.rs F H F' H' → EnsR W.K F' vs ens → Φ ens → Q vs H'
structure Post where
  nx : Rho → Prop
  rt : D → Prop
  bk : Rho → Prop := fun _ => False
  ct : Rho → Prop := fun _ => False
abbrev Sub (F F' : Hp) : Prop := ∀ b o, F b = some o → F' b = some o
def tSt (W : Wd) (ρ : Rho) (Ψ : Post) : TS := fun E σ H => ∃ F, Good W F H σ ρ ∧
  (∀ F' H' σ' ρ', Good W F' H' σ' ρ' → Sub F F' → Ψ.nx ρ' → E.nx σ' H') ∧ (∀ F' H' v d, Stp W.rs W.F0 W.H0 F' H' → Dp W.K F' v d → Ψ.rt d → E.rt v H') ∧
  (∀ F' H' σ' ρ', Good W F' H' σ' ρ' → Sub F F' → Ψ.bk ρ' → E.bk σ' H') ∧ (∀ F' H' σ' ρ', Good W F' H' σ' ρ' → Sub F F' → Ψ.ct ρ' → E.ct σ' H')

/-- an expression in a tree environment: Φ of whatever it may give -/
def PEd (X : Cx) (W : Wd) (e : Expr) (ρ : Rho) (Φ : D → Prop) : Prop := PE X e (tD W ρ Φ)
def PEn (X : Cx) (W : Wd) (e : Expr) (ρ : Rho) (Φ : List D → Prop) : Prop := PE X e (tN W ρ Φ)
def PTd (X : Cx) (W : Wd) (e : Expr) (ρ : Rho) (Φ : Bool → Prop) : Prop := PT X e (tT W ρ Φ)
def PWd (X : Cx) (W : Wd) (e : Expr) (ρ : Rho) (Φ : Bool → Prop) : Prop := PW X e (tT W ρ Φ)
def PAd (X : Cx) (W : Wd) (es : List Expr) (ρ : Rho) (Φ : List En → Prop) : Prop := PA X es (tAs W ρ Φ)
def PSd (X : Cx) (W : Wd) (st : Stmt) (ρ : Rho) (Ψ : Post) : Prop := PS X st (tSt W ρ Ψ)
def PSsd (X : Cx) (W : Wd) (st : List Stmt) (ρ : Rho) (Ψ : Post) : Prop := PSs X st (tSt W ρ Ψ)

/-! ### weakening of readings -/
theorem PE.weak {X : Cx} {e : Expr} {t t' : TE} (h : PE X e t) (i : ∀ σ H Q, t' σ H Q → t σ H Q) : PE X e t' := ⟨fun pins s σ H Q I hq => h.run pins s σ H Q I (i _ _ _ hq)⟩
theorem PT.weak {X : Cx} {e : Expr} {t t' : TT} (h : PT X e t) (i : ∀ σ H Q, t' σ H Q → t σ H Q) : PT X e t' := ⟨fun pins s σ H Q I hq => h.run pins s σ H Q I (i _ _ _ hq)⟩
theorem PW.weak {X : Cx} {e : Expr} {t t' : TT} (h : PW X e t) (i : ∀ σ H Q, t' σ H Q → t σ H Q) : PW X e t' := ⟨fun wh pins s σ H Q I hq => h.run wh pins s σ H Q I (i _ _ _ hq)⟩
theorem PA.weak {X : Cx} {es : List Expr} {t t' : TA} (h : PA X es t) (i : ∀ σ H Q, t' σ H Q → t σ H Q) : PA X es t' := ⟨fun pos pins s σ H Q I hq => h.run pos pins s σ H Q I (i _ _ _ hq)⟩
theorem PS.weak {X : Cx} {e : Stmt} {t t' : TS} (h : PS X e t) (i : ∀ D σ H, t' D σ H → t D σ H) : PS X e t' := ⟨fun pins s σ H Q I hq => h.run pins s σ H Q I (i _ _ _ hq)⟩
theorem PSs.weak {X : Cx} {e : List Stmt} {t t' : TS} (h : PSs X e t) (i : ∀ D σ H, t' D σ H → t D σ H) : PSs X e t' := ⟨fun pins s σ H Q I hq => h.run pins s σ H Q I (i _ _ _ hq)⟩
/-- the reading that takes whatever is shown of e -/
def uE (X : Cx) (e : Expr) : TE := fun σ H Q => ∃ t : TE, PE X e t ∧ t σ H Q
theorem PE.univ (X : Cx) (e : Expr) : PE X e (uE X e) := ⟨fun pins s σ H Q I ⟨_, h, q⟩ => h.run pins s σ H Q I q⟩
def uT (X : Cx) (e : Expr) : TT := fun σ H Q => ∃ t : TT, PT X e t ∧ t σ H Q
theorem PT.univ (X : Cx) (e : Expr) : PT X e (uT X e) := ⟨fun pins s σ H Q I ⟨_, h, q⟩ => h.run pins s σ H Q I q⟩
def uW (X : Cx) (e : Expr) : TT := fun σ H Q => ∃ t : TT, PW X e t ∧ t σ H Q
theorem PW.univ (X : Cx) (e : Expr) : PW X e (uW X e) := ⟨fun wh pins s σ H Q I ⟨_, h, q⟩ => h.run wh pins s σ H Q I q⟩
def uA (X : Cx) (es : List Expr) : TA := fun σ H Q => ∃ t : TA, PA X es t ∧ t σ H Q
theorem PA.univ (X : Cx) (es : List Expr) : PA X es (uA X es) := ⟨fun pos pins s σ H Q I ⟨_, h, q⟩ => h.run pos pins s σ H Q I q⟩
def uS (X : Cx) (st : Stmt) : TS := fun D σ H => ∃ t : TS, PS X st t ∧ t D σ H
theorem PS.univ (X : Cx) (st : Stmt) : PS X st (uS X st) := ⟨fun pins s σ H Q I ⟨_, h, q⟩ => h.run pins s σ H Q I q⟩
def uSs (X : Cx) (st : List Stmt) : TS := fun D σ H => ∃ t : TS, PSs X st t ∧ t D σ H
theorem PSs.univ (X : Cx) (st : List Stmt) : PSs X st (uSs X st) := ⟨fun pins s σ H Q I ⟨_, h, q⟩ => h.run pins s σ H Q I q⟩

section
variable {X : Cx} {W : Wd} {ρ : Rho} {Φ Φ' : D → Prop} {e a b : Expr} {es : List Expr} {pos : Pos}
theorem PEd.mono (h : PEd X W e ρ Φ) (i : ∀ d, Φ d → Φ' d) : PEd X W e ρ Φ' := PE.weak h fun σ H Q ⟨F, g, q⟩ => ⟨F, g, fun F' H' v d s r p => q F' H' v d s r (i d p)⟩
theorem PTd.mono {Φ Φ' : Bool → Prop} (h : PTd X W e ρ Φ) (i : ∀ d, Φ d → Φ' d) : PTd X W e ρ Φ' := PT.weak h fun σ H Q ⟨F, g, q⟩ => ⟨F, g, fun F' H' d s p => q F' H' d s (i d p)⟩
/-- the use of a shown expression in a state -/
theorem PEd.use (h : PEd X W e ρ Φ) {F H : Hp} {σ : L2.St} (g : Good W F H σ ρ) {Q : VK} (q : ∀ F' H' v d, Stp W.rs F H F' H' → Good W F' H' σ ρ → Dp W.K F' v d → Φ d → Q v H') : uE X e σ H Q :=
  ⟨_, h, F, g, fun F' H' v d s r p => q F' H' v d s (g.step s) r p⟩
theorem PEn.use {Φ : List D → Prop} (h : PEn X W e ρ Φ) {F H : Hp} {σ : L2.St} (g : Good W F H σ ρ) {Q : VK} (q : ∀ F' H' p xs ds, Stp W.rs F H F' H' → Good W F' H' σ ρ → H' p = some (.lst xs) → F' p = none → (NoT H p ∧ p ∉ W.rs.dk) → DpAll W.K F' xs ds → Φ ds → Q (.ref p) H') : uE X e σ H Q :=
  ⟨_, h, F, g, fun F' H' p xs ds s h1 h2 h3 r f => q F' H' p xs ds s (g.step s) h1 h2 h3 r f⟩
theorem PTd.use {Φ : Bool → Prop} (h : PTd X W e ρ Φ) {F H : Hp} {σ : L2.St} (g : Good W F H σ ρ) {Q : Bool → Hp → Prop} (q : ∀ F' H' b, Stp W.rs F H F' H' → Good W F' H' σ ρ → Φ b → Q b H') : uT X e σ H Q :=
  ⟨_, h, F, g, fun F' H' b s p => q F' H' b s (g.step s) p⟩
theorem PWd.use {Φ : Bool → Prop} (h : PWd X W e ρ Φ) {F H : Hp} {σ : L2.St} (g : Good W F H σ ρ) {Q : Bool → Hp → Prop} (q : ∀ F' H' b, Stp W.rs F H F' H' → Good W F' H' σ ρ → Φ b → Q b H') : uW X e σ H Q :=
  ⟨_, h, F, g, fun F' H' b s p => q F' H' b s (g.step s) p⟩
theorem PAd.use {Φ : List En → Prop} (h : PAd X W es ρ Φ) {F H : Hp} {σ : L2.St} (g : Good W F H σ ρ) {Q : List V → Hp → Prop} (q : ∀ F' H' vs ens, Stp W.rs F H F' H' → Good W F' H' σ ρ → EnsR W.K F' vs ens → Φ ens → Q vs H') : uA X es σ H Q :=
  ⟨_, h, F, g, fun F' H' vs ens s r p => q F' H' vs ens s (g.step s) r p⟩
/-- how a rule is made: from what the parts' universal readings ask -/
theorem PEd.of {t : TE} (h : PE X e t) (i : ∀ σ H Q F, Good W F H σ ρ → (∀ F' H' v d, Stp W.rs F H F' H' → Dp W.K F' v d → Φ d → Q v H') → t σ H Q) : PEd X W e ρ Φ :=
  PE.weak h fun σ H Q ⟨F, g, q⟩ => i σ H Q F g q
theorem PEn.of {Φ : List D → Prop} {t : TE} (h : PE X e t) (i : ∀ σ H Q F, Good W F H σ ρ → (∀ F' H' p xs ds, Stp W.rs F H F' H' → H' p = some (.lst xs) → F' p = none → (NoT H p ∧ p ∉ W.rs.dk) → DpAll W.K F' xs ds → Φ ds → Q (.ref p) H') → t σ H Q) : PEn X W e ρ Φ :=
  PE.weak h fun σ H Q ⟨F, g, q⟩ => i σ H Q F g q
theorem PTd.of {Φ : Bool → Prop} {t : TT} (h : PT X e t) (i : ∀ σ H Q F, Good W F H σ ρ → (∀ F' H' b, Stp W.rs F H F' H' → Φ b → Q b H') → t σ H Q) : PTd X W e ρ Φ :=
  PT.weak h fun σ H Q ⟨F, g, q⟩ => i σ H Q F g q
theorem PWd.of {Φ : Bool → Prop} {t : TT} (h : PW X e t) (i : ∀ σ H Q F, Good W F H σ ρ → (∀ F' H' b, Stp W.rs F H F' H' → Φ b → Q b H') → t σ H Q) : PWd X W e ρ Φ :=
  PW.weak h fun σ H Q ⟨F, g, q⟩ => i σ H Q F g q
theorem PAd.of {Φ : List En → Prop} {t : TA} (h : PA X es t) (i : ∀ σ H Q F, Good W F H σ ρ → (∀ F' H' vs ens, Stp W.rs F H F' H' → EnsR W.K F' vs ens → Φ ens → Q vs H') → t σ H Q) : PAd X W es ρ Φ :=
  PA.weak h fun σ H Q ⟨F, g, q⟩ => i σ H Q F g q
end
end TR

set_option maxRecDepth 100000
set_option maxHeartbeats 4000000
/-! T1: expressions. -/
namespace TR
open PySem PySem.Spec PyProof.Rows L2

/-! ### what a datum is -/
abbrev asI (d : D) (k : Int → Prop) : Prop := match d with | .int i => k i | _ => False
abbrev asB (d : D) (k : Bool → Prop) : Prop := match d with | .bool b => k b | _ => False
abbrev asL (d : D) (k : List D → Prop) : Prop := match d with | .list ds => k ds | _ => False
abbrev asT (d : D) (k : List D → Prop) : Prop := match d with | .tuple ds => k ds | _ => False
/-- the items of a list or a tuple -/
abbrev asQ (d : D) (k : List D → Prop) : Prop := match d with | .list ds => k ds | .tuple ds => k ds | _ => False
theorem asI_elim {d : D} {k : Int → Prop} (h : asI d k) : ∃ i, d = .int i ∧ k i := by
  cases d <;> first | exact h.elim | exact ⟨_, rfl, h⟩
theorem asB_elim {d : D} {k : Bool → Prop} (h : asB d k) : ∃ i, d = .bool i ∧ k i := by
  cases d <;> first | exact h.elim | exact ⟨_, rfl, h⟩
theorem asL_elim {d : D} {k : List D → Prop} (h : asL d k) : ∃ i, d = .list i ∧ k i := by
  cases d <;> first | exact h.elim | exact ⟨_, rfl, h⟩
theorem asT_elim {d : D} {k : List D → Prop} (h : asT d k) : ∃ i, d = .tuple i ∧ k i := by
  cases d <;> first | exact h.elim | exact ⟨_, rfl, h⟩
theorem asQ_elim {d : D} {k : List D → Prop} (h : asQ d k) : ∃ i, (d = .list i ∨ d = .tuple i) ∧ k i := by
  cases d <;> first | exact h.elim | exact ⟨_, .inl rfl, h⟩ | exact ⟨_, .inr rfl, h⟩
/-- arguments that are all data -/
def asDs : List En → (List D → Prop) → Prop
  | [], k => k []
  | .dat d :: r, k => asDs r fun ds => k (d :: ds)
  | _ :: _, _ => False
theorem asDs_elim : ∀ {ens : List En} {k : List D → Prop}, asDs ens k → ∃ ds, ens = ds.map En.dat ∧ k ds
  | [], k, h => ⟨[], rfl, h⟩
  | .dat d :: r, k, h => by
    obtain ⟨ds, e, q⟩ := asDs_elim (ens := r) h
    exact ⟨d :: ds, by rw [e]; rfl, q⟩
  | .raw _ :: _, _, h => h.elim
  | .own _ :: _, _, h => h.elim
theorem ensR_dat {K : PySem.W.Frag} {F : Hp} : ∀ {ds : List D} {vs : List V}, EnsR K F vs (ds.map En.dat) → DpAll K F vs ds
  | [], _, h => by cases h; exact .nil
  | d :: ds, _, h => by
    cases h with
    | cons a t => exact .cons a (ensR_dat t)

section
variable {X : Cx} {W : Wd} {ρ : Rho} {Φ : D → Prop} {e a b c : Expr} {es : List Expr} {pos p1 p2 : Pos}

/-! ### names, constants -/
theorem pd_name (i : Nat) {d : D} {x : Str} (h : ρ[i]? = some (some (.dat d))) (hN : X.N[i]? = some x) (q : Φ d) (hv : Vis X.env.scope x := by first | exact Or.inl rfl | exact Or.inr (Or.inl rfl) | exact Or.inr (Or.inr rfl))
    (hd : (x == ("__debug__" : Str)) = false := by decide) (hcd : (x == ("__classdict__" : Str)) = false := by decide) : PEd X W (.Name x pos) ρ Φ := by
  refine PEd.of (pe_var hN hv hd hcd) fun σ H Q F g k => ?_
  obtain ⟨v, h1, h2⟩ := g.env i _ h
  exact ⟨v, h1, k F H v d g.self h2 q⟩
theorem pd_int {i : Int} {j : Nat} (q : Φ (.int i)) : PEd X W (.Constant (.int i) j pos) ρ Φ := PEd.of pe_int fun σ H Q F g k => k F H _ _ g.self (.int i) q
theorem pd_bool {i : Bool} {j : Nat} (q : Φ (.bool i)) : PEd X W (.Constant (.bool i) j pos) ρ Φ := PEd.of pe_bl fun σ H Q F g k => k F H _ _ g.self (.bl i) q
theorem pd_none {j : Nat} (q : Φ .none) : PEd X W (.Constant .none j pos) ρ Φ := PEd.of pe_non fun σ H Q F g k => k F H _ _ g.self .non q
theorem pd_str {s : Str} {j : Nat} (q : Φ (.str s)) : PEd X W (.Constant (.str s) j pos) ρ Φ := PEd.of pe_str fun σ H Q F g k => k F H _ _ g.self (.str s) q
/-- a whole number of the module -/
theorem pd_glob {x : Str} {i : Int} (hg : Gl X x) (hm : ∃ t, X.mg x = some (.int i t)) (q : Φ (.int i)) (hd : (x == ("__debug__" : Str)) = false := by decide) : PEd X W (.Name x pos) ρ Φ := by
  obtain ⟨t, hm⟩ := hm
  exact PEd.of (pe_glob (v := .int i) hg hm ⟨t, rfl⟩ hd) fun σ H Q F g k => k F H _ _ g.self (.int i) q

/-! ### operators -/
/-- what an operator's rule by values is worth on data -/
def RdD (W : Wd) (r : R2) (sem : D → D → (D → Prop) → Prop) : Prop := ∀ (F H : Hp) (dx dy : D) (x y : V) (Φ : D → Prop) (Q : VK), Stp W.rs F H F H → Dp W.K F x dx → Dp W.K F y dy → sem dx dy Φ →
  (∀ F' H' v d, Stp W.rs F H F' H' → Dp W.K F' v d → Φ d → Q v H') → r x y H Q
theorem pd_bin {op : Operator} {r : R2} {sem : D → D → (D → Prop) → Prop} (ho : OpR X (binaryOp op) r) (hr : RdD W r sem) (h : PEd X W a ρ fun x => PEd X W b ρ fun y => sem x y Φ) : PEd X W (.BinOp a op b pos) ρ Φ := by
  refine PEd.of (pe_op ho (PE.univ X a) (PE.univ X b)) fun σ H Q F g k => ?_
  refine h.use g fun F1 H1 x dx s1 g1 rx h2 => ?_
  refine PEd.use h2 g1 fun F2 H2 y dy s2 g2 ry h3 => ?_
  exact hr F2 H2 dx dy x y Φ Q g2.self (dp_mono s2.old _ _ rx) ry h3 fun F3 H3 v d s3 rv p => k F3 H3 v d ((s1.trans s2).trans s3) rv p
def semI (C : Int → Int → Prop) (f : Int → Int → D) : D → D → (D → Prop) → Prop := fun x y Φ => asI x fun i => asI y fun j => C i j ∧ Φ (f i j)
def semI0 (f : Int → Int → D) : D → D → (D → Prop) → Prop := fun x y Φ => asI x fun i => asI y fun j => Φ (f i j)
theorem rdI {C : Int → Int → Prop} {f : Int → Int → D} {fv : Int → Int → V} (hf : ∀ (F : Hp) i j, Dp W.K F (fv i j) (f i j)) : RdD W (rI C fv) (semI C f) := fun F H dx dy x y Φ Q s rx ry h k => by
  obtain ⟨i, rfl, h1⟩ := asI_elim h
  obtain ⟨j, rfl, hc, h⟩ := asI_elim h1
  exact ⟨i, j, (int_inv rx), (int_inv ry), hc, k F H _ _ s (hf F i j) h⟩
theorem rdI0 {f : Int → Int → D} {fv : Int → Int → V} (hf : ∀ (F : Hp) i j, Dp W.K F (fv i j) (f i j)) : RdD W (rI0 fv) (semI0 f) := fun F H dx dy x y Φ Q s rx ry h k => by
  obtain ⟨i, rfl, h1⟩ := asI_elim h
  obtain ⟨j, rfl, h⟩ := asI_elim h1
  exact ⟨i, j, (int_inv rx), (int_inv ry), k F H _ _ s (hf F i j) h⟩
theorem pd_add (h : PEd X W a ρ fun x => asI x fun i => PEd X W b ρ fun y => asI y fun j => Φ (.int (i + j))) : PEd X W (.BinOp a .Add b pos) ρ Φ :=
  pd_bin op_add (rdI0 (f := fun i j => .int (i + j)) fun F i j => .int _) (h.mono fun x hx => by
    obtain ⟨i, rfl, hx⟩ := asI_elim hx
    exact hx)
theorem pd_sub (h : PEd X W a ρ fun x => asI x fun i => PEd X W b ρ fun y => asI y fun j => Φ (.int (i - j))) : PEd X W (.BinOp a .Sub b pos) ρ Φ :=
  pd_bin op_sub (rdI0 (f := fun i j => .int (i - j)) fun F i j => .int _) (h.mono fun x hx => by
    obtain ⟨i, rfl, hx⟩ := asI_elim hx
    exact hx)
theorem pd_mul (h : PEd X W a ρ fun x => asI x fun i => PEd X W b ρ fun y => asI y fun j => CMul i j ∧ Φ (.int (i * j))) : PEd X W (.BinOp a .Mult b pos) ρ Φ :=
  pd_bin op_mul (rdI (f := fun i j => .int (i * j)) fun F i j => .int _) (h.mono fun x hx => by
    obtain ⟨i, rfl, hx⟩ := asI_elim hx
    exact hx)
theorem pd_mulW (h : PEd X W a ρ fun x => asI x fun i => PEd X W b ρ fun y => asI y fun j => CMulW i j ∧ Φ (.int (i * j))) : PEd X W (.BinOp a .Mult b pos) ρ Φ :=
  pd_bin op_mulW (rdI (f := fun i j => .int (i * j)) fun F i j => .int _) (h.mono fun x hx => by
    obtain ⟨i, rfl, hx⟩ := asI_elim hx
    exact hx)
theorem pd_div (h : PEd X W a ρ fun x => asI x fun i => PEd X W b ρ fun y => asI y fun j => CDivW i j ∧ Φ (.int (i / j))) : PEd X W (.BinOp a .FloorDiv b pos) ρ Φ :=
  pd_bin op_fdivW (rdI (f := fun i j => .int (i / j)) fun F i j => .int _) (h.mono fun x hx => by
    obtain ⟨i, rfl, hx⟩ := asI_elim hx
    exact hx)
theorem pd_mod (h : PEd X W a ρ fun x => asI x fun i => PEd X W b ρ fun y => asI y fun j => 0 < j ∧ Φ (.int (i % j))) : PEd X W (.BinOp a .Mod b pos) ρ Φ :=
  pd_bin op_mod (rdI (C := fun _ j => 0 < j) (f := fun i j => .int (i % j)) fun F i j => .int _) (h.mono fun x hx => by
    obtain ⟨i, rfl, hx⟩ := asI_elim hx
    exact hx)
theorem pd_pow (h : PEd X W a ρ fun x => asI x fun i => PEd X W b ρ fun y => asI y fun j => CPow i j ∧ Φ (.int (i ^ j.toNat))) : PEd X W (.BinOp a .Pow b pos) ρ Φ :=
  pd_bin op_pow (rdI (f := fun i j => .int (i ^ j.toNat)) fun F i j => .int _) (h.mono fun x hx => by
    obtain ⟨i, rfl, hx⟩ := asI_elim hx
    exact hx)
theorem pd_shl (h : PEd X W a ρ fun x => asI x fun i => PEd X W b ρ fun y => asI y fun j => CPow i j ∧ Φ (.int (i * 2 ^ j.toNat))) : PEd X W (.BinOp a .LShift b pos) ρ Φ :=
  pd_bin op_shl (rdI (f := fun i j => .int (i * 2 ^ j.toNat)) fun F i j => .int _) (h.mono fun x hx => by
    obtain ⟨i, rfl, hx⟩ := asI_elim hx
    exact hx)
theorem pd_shr (h : PEd X W a ρ fun x => asI x fun i => PEd X W b ρ fun y => asI y fun j => 0 ≤ j ∧ Φ (.int (i / 2 ^ j.toNat))) : PEd X W (.BinOp a .RShift b pos) ρ Φ :=
  pd_bin op_shr (rdI (C := fun _ j => 0 ≤ j) (f := fun i j => .int (i / 2 ^ j.toNat)) fun F i j => .int _) (h.mono fun x hx => by
    obtain ⟨i, rfl, hx⟩ := asI_elim hx
    exact hx)
theorem pd_band (h : PEd X W a ρ fun x => asI x fun i => PEd X W b ρ fun y => asI y fun j => Φ (.int (Builtin.bitAnd i j))) : PEd X W (.BinOp a .BitAnd b pos) ρ Φ :=
  pd_bin op_and (rdI0 (f := fun i j => .int (Builtin.bitAnd i j)) fun F i j => .int _) (h.mono fun x hx => by
    obtain ⟨i, rfl, hx⟩ := asI_elim hx
    exact hx)
theorem pd_neg (h : PEd X W a ρ fun x => asI x fun i => Φ (.int (-i))) : PEd X W (.UnaryOp .USub a pos) ρ Φ := by
  refine PEd.of (pe_un un_neg (PE.univ X a)) fun σ H Q F g k => ?_
  refine h.use g fun F1 H1 x dx s1 g1 rx h2 => ?_
  obtain ⟨i, rfl, h2⟩ := asI_elim h2
  exact ⟨i, (int_inv rx), k F1 H1 _ _ s1 (.int _) h2⟩

/-! ### comparisons -/
/-- what a comparison is worth on data -/
def RcB (W : Wd) (r : R2) (sem : D → D → (Bool → Prop) → Prop) : Prop := ∀ (F H : Hp) (dx dy : D) (x y : V) (Φ : Bool → Prop) (Q : VK), Stp W.rs F H F H → Dp W.K F x dx → Dp W.K F y dy → sem dx dy Φ →
  (∀ b, Φ b → Q (.bl b) H) → r x y H Q
theorem pd_cmp {op : CmpOp} {r : R2} {sem : D → D → (Bool → Prop) → Prop} (ho : OpR X (compareOp op) r) (hr : RcB W r sem) (hm : behindInMarks op b = false) (h : PEd X W a ρ fun x => PEd X W b ρ fun y => sem x y fun k => Φ (.bool k)) :
    PEd X W (.Compare a [op] [b] pos) ρ Φ := by
  refine PEd.of (pe_cmpR ho (PE.univ X a) (PE.univ X b) hm) fun σ H Q F g k => ?_
  refine h.use g fun F1 H1 x dx s1 g1 rx h2 => ?_
  refine PEd.use h2 g1 fun F2 H2 y dy s2 g2 ry h3 => ?_
  exact hr F2 H2 dx dy x y _ Q g2.self (dp_mono s2.old _ _ rx) ry h3 fun b p => k F2 H2 _ _ (s1.trans s2) (.bl b) p
theorem pt_cmp {op : CmpOp} {r : R2} {sem : D → D → (Bool → Prop) → Prop} {Φ : Bool → Prop} (ho : OpR X (compareOp op) r) (hr : RcB W r sem) (hm : behindInMarks op b = false) (h : PEd X W a ρ fun x => PEd X W b ρ fun y => sem x y Φ) :
    PTd X W (.Compare a [op] [b] pos) ρ Φ := by
  refine PTd.of (pt_cmpR ho (PE.univ X a) (PE.univ X b) hm) fun σ H Q F g k => ?_
  refine h.use g fun F1 H1 x dx s1 g1 rx h2 => ?_
  refine PEd.use h2 g1 fun F2 H2 y dy s2 g2 ry h3 => ?_
  exact hr F2 H2 dx dy x y _ _ g2.self (dp_mono s2.old _ _ rx) ry h3 fun b p => ⟨b, rfl, k F2 H2 b (s1.trans s2) p⟩
abbrev cI (f : Int → Int → Bool) : D → D → (Bool → Prop) → Prop := fun x y Φ => asI x fun i => asI y fun j => Φ (f i j)
theorem rcI {f : Int → Int → Bool} : RcB W (rI0 fun i j => .bl (f i j)) (cI f) := fun F H dx dy x y Φ Q s rx ry h k => by
  obtain ⟨i, rfl, h1⟩ := asI_elim h
  obtain ⟨j, rfl, h⟩ := asI_elim h1
  exact ⟨i, j, (int_inv rx), (int_inv ry), k _ h⟩
abbrev cEq : D → D → (Bool → Prop) → Prop := fun x y Φ => (SeqAt.shaped x = true ∧ SeqAt.shaped y = true) ∧ Φ (PyData.eqv x y)
abbrev cNe : D → D → (Bool → Prop) → Prop := fun x y Φ => (SeqAt.shaped x = true ∧ SeqAt.shaped y = true) ∧ Φ (!PyData.eqv x y)
theorem rcEq : RcB W (rEqD W.K) cEq := fun F H dx dy x y Φ Q s rx ry h k => ⟨dx, dy, dp_mono s.ex _ _ rx, dp_mono s.ex _ _ ry, h.1.1, h.1.2, k _ h.2⟩
theorem rcNe : RcB W (rNeD W.K) cNe := fun F H dx dy x y Φ Q s rx ry h k => ⟨dx, dy, dp_mono s.ex _ _ rx, dp_mono s.ex _ _ ry, h.1.1, h.1.2, k _ h.2⟩
def isNone : D → Bool | .none => true | _ => false
abbrev cIsN : D → D → (Bool → Prop) → Prop := fun x y Φ => y = .none ∧ Φ (isNone x)
abbrev cNotN : D → D → (Bool → Prop) → Prop := fun x y Φ => y = .none ∧ Φ (!isNone x)
theorem isNone_v {K : PySem.W.Frag} {F : Hp} {v : V} {d : D} (h : Dp K F v d) : decide (v = .non) = isNone d := by cases h <;> rfl
theorem rcIsN : RcB W (fun x y H Q => y = .non ∧ Q (.bl (decide (x = .non))) H) cIsN := fun F H dx dy x y Φ Q s rx ry h k => by
  obtain ⟨rfl, h⟩ := h
  exact ⟨(none_inv ry), by rw [isNone_v rx]; exact k _ h⟩
theorem rcNotN : RcB W (fun x y H Q => y = .non ∧ Q (.bl (!decide (x = .non))) H) cNotN := fun F H dx dy x y Φ Q s rx ry h k => by
  obtain ⟨rfl, h⟩ := h
  exact ⟨(none_inv ry), by rw [isNone_v rx]; exact k _ h⟩

theorem pd_lt (h : PEd X W a ρ fun x => PEd X W b ρ fun y => cI (fun i j => decide (i < j)) x y fun k => Φ (.bool k)) : PEd X W (.Compare a [.Lt] [b] pos) ρ Φ := pd_cmp op_lt rcI (nomark _) h
theorem pd_le (h : PEd X W a ρ fun x => PEd X W b ρ fun y => cI (fun i j => decide (i ≤ j)) x y fun k => Φ (.bool k)) : PEd X W (.Compare a [.LtE] [b] pos) ρ Φ := pd_cmp op_le rcI (nomark _) h
theorem pd_gt (h : PEd X W a ρ fun x => PEd X W b ρ fun y => cI (fun i j => decide (j < i)) x y fun k => Φ (.bool k)) : PEd X W (.Compare a [.Gt] [b] pos) ρ Φ := pd_cmp op_gt rcI (nomark _) h
theorem pd_ge (h : PEd X W a ρ fun x => PEd X W b ρ fun y => cI (fun i j => decide (j ≤ i)) x y fun k => Φ (.bool k)) : PEd X W (.Compare a [.GtE] [b] pos) ρ Φ := pd_cmp op_ge rcI (nomark _) h
theorem pd_eq (hK : X.K = W.K) (hu : X.A.units + 64 < cLine) (h : PEd X W a ρ fun x => PEd X W b ρ fun y => cEq x y fun k => Φ (.bool k)) : PEd X W (.Compare a [.Eq] [b] pos) ρ Φ := pd_cmp (op_eqD hu) (by rw [hK]; exact rcEq) (nomark _) h
theorem pd_ne (hK : X.K = W.K) (hu : X.A.units + 64 < cLine) (h : PEd X W a ρ fun x => PEd X W b ρ fun y => cNe x y fun k => Φ (.bool k)) : PEd X W (.Compare a [.NotEq] [b] pos) ρ Φ := pd_cmp (op_neD hu) (by rw [hK]; exact rcNe) (nomark _) h
theorem pd_isN (h : PEd X W a ρ fun x => PEd X W b ρ fun y => cIsN x y fun k => Φ (.bool k)) : PEd X W (.Compare a [.Is] [b] pos) ρ Φ := pd_cmp op_isN rcIsN (nomark _) h
theorem pd_notN (h : PEd X W a ρ fun x => PEd X W b ρ fun y => cNotN x y fun k => Φ (.bool k)) : PEd X W (.Compare a [.IsNot] [b] pos) ρ Φ := pd_cmp op_notN rcNotN (nomark _) h
section
variable {Φ : Bool → Prop}
theorem pt_lt (h : PEd X W a ρ fun x => PEd X W b ρ fun y => cI (fun i j => decide (i < j)) x y Φ) : PTd X W (.Compare a [.Lt] [b] pos) ρ Φ := pt_cmp op_lt rcI (nomark _) h
theorem pt_le (h : PEd X W a ρ fun x => PEd X W b ρ fun y => cI (fun i j => decide (i ≤ j)) x y Φ) : PTd X W (.Compare a [.LtE] [b] pos) ρ Φ := pt_cmp op_le rcI (nomark _) h
theorem pt_gt (h : PEd X W a ρ fun x => PEd X W b ρ fun y => cI (fun i j => decide (j < i)) x y Φ) : PTd X W (.Compare a [.Gt] [b] pos) ρ Φ := pt_cmp op_gt rcI (nomark _) h
theorem pt_ge (h : PEd X W a ρ fun x => PEd X W b ρ fun y => cI (fun i j => decide (j ≤ i)) x y Φ) : PTd X W (.Compare a [.GtE] [b] pos) ρ Φ := pt_cmp op_ge rcI (nomark _) h
theorem pt_eq (hK : X.K = W.K) (hu : X.A.units + 64 < cLine) (h : PEd X W a ρ fun x => PEd X W b ρ fun y => cEq x y Φ) : PTd X W (.Compare a [.Eq] [b] pos) ρ Φ := pt_cmp (op_eqD hu) (by rw [hK]; exact rcEq) (nomark _) h
theorem pt_ne (hK : X.K = W.K) (hu : X.A.units + 64 < cLine) (h : PEd X W a ρ fun x => PEd X W b ρ fun y => cNe x y Φ) : PTd X W (.Compare a [.NotEq] [b] pos) ρ Φ := pt_cmp (op_neD hu) (by rw [hK]; exact rcNe) (nomark _) h
theorem pt_isN (h : PEd X W a ρ fun x => PEd X W b ρ fun y => cIsN x y Φ) : PTd X W (.Compare a [.Is] [b] pos) ρ Φ := pt_cmp op_isN rcIsN (nomark _) h
theorem pt_notN (h : PEd X W a ρ fun x => PEd X W b ρ fun y => cNotN x y Φ) : PTd X W (.Compare a [.IsNot] [b] pos) ρ Φ := pt_cmp op_notN rcNotN (nomark _) h
end
/-- a < b <= c and its like -/
theorem pd_chain {op op' : CmpOp} {r r' : R2} {s1 s2 : D → D → (Bool → Prop) → Prop} (ho : OpR X (compareOp op) r) (ho' : OpR X (compareOp op') r') (hr : RcB W r s1) (hr' : RcB W r' s2) (hm : lastMarks [op, op'] [b, c] = false)
    (h : PEd X W a ρ fun x => PEd X W b ρ fun y => s1 x y fun k => (k = true → PEd X W c ρ fun z => s2 y z fun k' => Φ (.bool k')) ∧ (k = false → Φ (.bool false))) : PEd X W (.Compare a [op, op'] [b, c] pos) ρ Φ := by
  refine PEd.of (pe_chain ho ho' (PE.univ X a) (PE.univ X b) (PE.univ X c) hm) fun σ H Q F g k => ?_
  refine h.use g fun F1 H1 x dx t1 g1 rx h2 => ?_
  refine PEd.use h2 g1 fun F2 H2 y dy t2 g2 ry h3 => ?_
  refine hr F2 H2 dx dy x y _ _ g2.self (dp_mono t2.old _ _ rx) ry h3 fun kb p => ⟨kb, rfl, ?_⟩
  cases kb with
  | false => exact k F2 H2 _ _ (t1.trans t2) (.bl false) (p.2 rfl)
  | true =>
    refine PEd.use (p.1 rfl) g2 fun F3 H3 z dz t3 g3 rz h4 => ?_
    exact hr' F3 H3 dy dz y z _ Q g3.self (dp_mono t3.old _ _ ry) rz h4 fun b p => k F3 H3 _ _ ((t1.trans t2).trans t3) (.bl b) p
theorem pt_chain {op op' : CmpOp} {r r' : R2} {s1 s2 : D → D → (Bool → Prop) → Prop} {Φ : Bool → Prop} (ho : OpR X (compareOp op) r) (ho' : OpR X (compareOp op') r') (hr : RcB W r s1) (hr' : RcB W r' s2) (hm : lastMarks [op, op'] [b, c] = false)
    (h : PEd X W a ρ fun x => PEd X W b ρ fun y => s1 x y fun k => (k = true → PEd X W c ρ fun z => s2 y z Φ) ∧ (k = false → Φ false)) : PTd X W (.Compare a [op, op'] [b, c] pos) ρ Φ := by
  refine PTd.of (L2.pt_chain ho ho' (PE.univ X a) (PE.univ X b) (PE.univ X c) hm) fun σ H Q F g k => ?_
  refine h.use g fun F1 H1 x dx t1 g1 rx h2 => ?_
  refine PEd.use h2 g1 fun F2 H2 y dy t2 g2 ry h3 => ?_
  refine hr F2 H2 dx dy x y _ _ g2.self (dp_mono t2.old _ _ rx) ry h3 fun kb p => ⟨kb, rfl, ?_⟩
  cases kb with
  | false => exact ⟨false, rfl, k F2 H2 _ (t1.trans t2) (p.2 rfl)⟩
  | true =>
    refine PEd.use (p.1 rfl) g2 fun F3 H3 z dz t3 g3 rz h4 => ?_
    exact hr' F3 H3 dy dz y z _ _ g3.self (dp_mono t3.old _ _ ry) rz h4 fun b p => ⟨b, rfl, k F3 H3 b ((t1.trans t2).trans t3) p⟩

/-! ### tests -/
section
variable {Φ : Bool → Prop} {rest : List Expr}
/-- a value that is a truth, as a test -/
theorem pt_val (h : PEd X W e ρ fun d => asB d Φ) (he : ∀ whole, isTrue e X.env whole = (do let v ← whole; standAt e.pos; holding [v] (truthy v)) := by intro _; rfl) : PTd X W e ρ Φ := by
  refine PTd.of (L2.pt_val (PE.univ X e) he) fun σ H Q F g k => ?_
  refine h.use g fun F1 H1 x dx s1 g1 rx h2 => ?_
  obtain ⟨i, rfl, h2⟩ := asB_elim h2
  exact ⟨i, (bool_inv rx), k F1 H1 i s1 h2⟩
theorem pt_pw (h : PWd X W e ρ Φ) : PTd X W e ρ Φ := PW.pt h
theorem pw_and1 (h : PTd X W a ρ Φ) : PWd X W (.BoolOp .And [a] pos) ρ Φ := L2.pw_and1 h
theorem pw_or1 (h : PTd X W a ρ Φ) : PWd X W (.BoolOp .Or [a] pos) ρ Φ := L2.pw_or1 h
theorem pw_and (h : PTd X W a ρ fun k => (k = true → PWd X W (.BoolOp .And (b :: rest) pos) ρ Φ) ∧ (k = false → Φ false)) : PWd X W (.BoolOp .And (a :: b :: rest) pos) ρ Φ := by
  refine PWd.of (L2.pw_and (PT.univ X a) (PW.univ X _)) fun σ H Q F g k => ?_
  refine h.use g fun F1 H1 kb s1 g1 p => ?_
  cases kb with
  | false => exact k F1 H1 false s1 (p.2 rfl)
  | true => exact PWd.use (p.1 rfl) g1 fun F2 H2 kb s2 g2 p => k F2 H2 kb (s1.trans s2) p
theorem pw_or (h : PTd X W a ρ fun k => (k = true → Φ true) ∧ (k = false → PWd X W (.BoolOp .Or (b :: rest) pos) ρ Φ)) : PWd X W (.BoolOp .Or (a :: b :: rest) pos) ρ Φ := by
  refine PWd.of (L2.pw_or (PT.univ X a) (PW.univ X _)) fun σ H Q F g k => ?_
  refine h.use g fun F1 H1 kb s1 g1 p => ?_
  cases kb with
  | true => exact k F1 H1 true s1 (p.1 rfl)
  | false => exact PWd.use (p.2 rfl) g1 fun F2 H2 kb s2 g2 p => k F2 H2 kb (s1.trans s2) p
theorem pt_not (h : PTd X W a ρ fun k => Φ (!k)) : PTd X W (.UnaryOp .Not a pos) ρ Φ := by
  refine PTd.of (L2.pt_not (PT.univ X a)) fun σ H Q F g k => ?_
  exact h.use g fun F1 H1 kb s1 g1 p => k F1 H1 (!kb) s1 p
end
/-! ### and, or, not of truths as values -/
theorem pd_one {op : BoolOp} (h : PEd X W a ρ Φ) : PEd X W (.BoolOp op [a] pos) ρ Φ := pe_one h
theorem pd_and {rest : List Expr} (h : PEd X W a ρ fun x => asB x fun k => (k = true → PEd X W (.BoolOp .And (b :: rest) pos) ρ Φ) ∧ (k = false → Φ (.bool false))) : PEd X W (.BoolOp .And (a :: b :: rest) pos) ρ Φ := by
  refine PEd.of (pe_and (PE.univ X a) (PE.univ X _)) fun σ H Q F g k => ?_
  refine h.use g fun F1 H1 x dx s1 g1 rx p => ?_
  obtain ⟨kb, rfl, p⟩ := asB_elim p
  refine ⟨kb, (bool_inv rx), ?_⟩
  cases kb with
  | false => exact k F1 H1 _ _ s1 (.bl false) (p.2 rfl)
  | true => exact PEd.use (p.1 rfl) g1 fun F2 H2 v d s2 g2 r p => k F2 H2 v d (s1.trans s2) r p
theorem pd_or {rest : List Expr} (h : PEd X W a ρ fun x => asB x fun k => (k = true → Φ (.bool true)) ∧ (k = false → PEd X W (.BoolOp .Or (b :: rest) pos) ρ Φ)) : PEd X W (.BoolOp .Or (a :: b :: rest) pos) ρ Φ := by
  refine PEd.of (pe_or (PE.univ X a) (PE.univ X _)) fun σ H Q F g k => ?_
  refine h.use g fun F1 H1 x dx s1 g1 rx p => ?_
  obtain ⟨kb, rfl, p⟩ := asB_elim p
  refine ⟨kb, (bool_inv rx), ?_⟩
  cases kb with
  | true => exact k F1 H1 _ _ s1 (.bl true) (p.1 rfl)
  | false => exact PEd.use (p.2 rfl) g1 fun F2 H2 v d s2 g2 r p => k F2 H2 v d (s1.trans s2) r p
theorem pd_not (h : PEd X W a ρ fun x => asB x fun k => Φ (.bool (!k))) : PEd X W (.UnaryOp .Not a pos) ρ Φ := by
  refine PEd.of (pe_not (PE.univ X a)) fun σ H Q F g k => ?_
  refine h.use g fun F1 H1 x dx s1 g1 rx p => ?_
  obtain ⟨kb, rfl, p⟩ := asB_elim p
  exact ⟨kb, (bool_inv rx), k F1 H1 _ _ s1 (.bl _) p⟩
theorem pd_if (h : PTd X W c ρ fun k => (k = true → PEd X W a ρ Φ) ∧ (k = false → PEd X W b ρ Φ)) : PEd X W (.IfExp c a b pos) ρ Φ := by
  refine PEd.of (pe_ifExp (PT.univ X c) (PE.univ X a) (PE.univ X b)) fun σ H Q F g k => ?_
  refine h.use g fun F1 H1 kb s1 g1 p => ?_
  cases kb with
  | true => exact PEd.use (p.1 rfl) g1 fun F2 H2 v d s2 g2 r p => k F2 H2 v d (s1.trans s2) r p
  | false => exact PEd.use (p.2 rfl) g1 fun F2 H2 v d s2 g2 r p => k F2 H2 v d (s1.trans s2) r p

/-! ### arguments -/
section
variable {Φ : List En → Prop}
theorem pa_nil (q : Φ []) : PAd X W [] ρ Φ := PAd.of L2.pa_nil fun σ H Q F g k => k F H [] [] g.self .nil q
theorem pa_cons (h : PEd X W e ρ fun d => PAd X W es ρ fun ens => Φ (.dat d :: ens)) (hs : starEach (e :: es) X.env = (false, eval e X.env) :: starEach es X.env := by rfl) : PAd X W (e :: es) ρ Φ := by
  refine PAd.of (L2.pa_cons (PE.univ X e) (PA.univ X es) hs) fun σ H Q F g k => ?_
  refine h.use g fun F1 H1 x dx s1 g1 rx p => ?_
  exact PAd.use p g1 fun F2 H2 vs ens s2 g2 r p => k F2 H2 _ _ (s1.trans s2) (.cons (e := .dat dx) (dp_mono s2.old _ _ rx) r) p
/-- a raw name as an argument -/
theorem pa_raw (i : Nat) {v : V} {x : Str} {pos : Pos} (h : ρ[i]? = some (some (.raw v))) (hN : X.N[i]? = some x) (q : PAd X W es ρ fun ens => Φ (.raw v :: ens))
    (hv : Vis X.env.scope x := by first | exact Or.inl rfl | exact Or.inr (Or.inl rfl) | exact Or.inr (Or.inr rfl))
    (hd : (x == ("__debug__" : Str)) = false := by decide) (hcd : (x == ("__classdict__" : Str)) = false := by decide) (hs : starEach (.Name x pos :: es) X.env = (false, eval (.Name x pos) X.env) :: starEach es X.env := by rfl) : PAd X W (.Name x pos :: es) ρ Φ := by
  refine PAd.of (L2.pa_cons (pe_var hN hv hd hcd) (PA.univ X es) hs) fun σ H Q F g k => ?_
  obtain ⟨u, h1, h2⟩ := g.env i _ h
  cases h2
  refine ⟨v, h1, ?_⟩
  exact PAd.use q g fun F2 H2 vs ens s2 g2 r p => k F2 H2 _ _ s2 (.cons (e := .raw v) (show v = v from rfl) r) p
end

/-! ### displays -/
theorem len_lim {n : Nat} (h : n ≤ 100000) : n ≤ sizeLine := by rw [sizeLine_eq]; omega
theorem pd_tuple {x1} (h : PAd X W es ρ fun ens => asDs ens fun ds => ds.length ≤ 100000 ∧ Φ (.tuple ds)) : PEd X W (.Tuple es x1 pos) ρ Φ := by
  refine PEd.of (pe_tup (PA.univ X es)) fun σ H Q F g k => ?_
  refine h.use g fun F1 H1 vs ens s1 g1 r p => ?_
  obtain ⟨ds, rfl, hl, p⟩ := asDs_elim p
  have r := ensR_dat r
  refine ⟨by rw [da_len r]; exact len_lim hl, fun q hq => ?_⟩
  have s2 := g1.self.new1 (o := .tup vs) hq
  exact k _ _ _ _ (s1.trans s2) (.tup (.inl (.inl upd_same)) (dpAll_mono s2.old _ _ r)) p
theorem pn_list {Φ : List D → Prop} (h : PAd X W es ρ fun ens => asDs ens fun ds => ds.length ≤ 100000 ∧ Φ ds) : PEn X W (.List es pos) ρ Φ := by
  refine PEn.of (pe_lst (PA.univ X es)) fun σ H Q F g k => ?_
  refine h.use g fun F1 H1 vs ens s1 g1 r p => ?_
  obtain ⟨ds, rfl, hl, p⟩ := asDs_elim p
  have r := ensR_dat r
  refine ⟨by rw [da_len r]; exact len_lim hl, fun q hq => ?_⟩
  have s2 := g1.self.newO (o := .lst vs) hq
  have hF1 : F1 q = none := by
    cases z : F1 q with
    | none => rfl
    | some o => rw [g1.st.ex _ _ z] at hq; cases hq
  have hd : q ∉ W.rs.dk := fun z => g1.st.dal q z hq
  have hH : NoT H q := fun o z => by
    by_cases ht : ∃ ps, o = .tbl ps
    · exact ht
    · rw [s1.keep _ _ z hd fun ps e => ht ⟨ps, e⟩] at hq; cases hq
  exact k _ _ q vs ds (s1.trans s2) upd_same hF1 ⟨hH, hd⟩ r p
/-- a new list that nobody changes -/
theorem pd_ofN (h : PEn X W e ρ fun ds => Φ (.list ds)) : PEd X W e ρ Φ := by
  refine PE.weak h fun σ H Q ⟨F, g, k⟩ => ⟨F, g, fun F' H' p xs ds s h1 h2 h3 r f => ?_⟩
  have g' := g.step s
  have s2 := Stp.freeze s h1 h2 h3.1 h3.2
  refine k _ _ _ _ s2 (.lst (.inl (.inl upd_same)) (dpAll_mono (fun b o e => ?_) _ _ r)) f
  rw [upd_ne (ne_of_none e h2)]
  exact e
end
end TR

set_option maxRecDepth 100000
set_option maxHeartbeats 4000000
/-! T2: calls, subscripts, new lists, targets, iteration, comprehensions. -/
namespace TR
open PySem PySem.Spec PyProof.Rows L2

/-! ### a def's promise -/
/-- how a call ends: a value, or an error of the package with its thing -/
inductive Out where
  | val (d : D) | err (C : Addr) (d : D)
abbrev Pf := List En → (Out → Prop) → Prop
def spD (K : PySem.W.Frag) (rs : Rs) (P : Pf) : Sp := fun vs H Q E => ∃ F ens Φ, Stp rs F H F H ∧ EnsR K F vs ens ∧ P ens Φ ∧
  (∀ F' H' v d, Stp rs F H F' H' → Dp K F' v d → Φ (.val d) → Q v H') ∧
  (∀ F' H' C d0 v d, Stp rs F H F' H' → H' d0 = some (.xd [("thing", v)]) → Dp K F' v d → Φ (.err C d) → E (.ref C) (some d0) H')
/-- an error in the air, as a wish -/
def wX (W : Wd) (ΦX : Addr → D → Prop) : WX := fun cls d _ H => ∃ C d0 F v dd, cls = .ref C ∧ d = some d0 ∧ H d0 = some (.xd [("thing", v)]) ∧ Stp W.rs W.F0 W.H0 F H ∧ Dp W.K F v dd ∧ ΦX C dd
def TkD (X : Cx) (W : Wd) (ΦX : Addr → D → Prop) : Prop := Takes X (wX W ΦX)
abbrev noX : Addr → D → Prop := fun _ _ => False
theorem tkNo {X : Cx} {W : Wd} : TkD X W noX := Takes.imp takes0 fun _ _ _ _ ⟨_, _, _, _, _, _, _, _, _, _, z⟩ => z
/-- a def of the text, with its promise -/
structure Fd (P : Program) (w : World) (K : PySem.W.Frag) (mg : Str → Option Value) (base : Heap) (rs : Rs) (k : Nat) (x : Str) (st : Stmt) (ps : List Str) (Pr : Pf) : Prop where
  ex : ∃ f fd, mg x = some (.ref f) ∧ Fun K x x st f fd ∧ (∀ us : List Value, us.length = ps.length → bindArgs fd ⟨us, []⟩ = pure (ps.zip us)) ∧ FnOk P w K mg base (L2.CX P w) k f fd ps (spD K rs Pr)
abbrev outK (Φ : D → Prop) (ΦX : Addr → D → Prop) : Out → Prop
  | .val d => Φ d
  | .err C d => ΦX C d
section
variable {X : Cx} {W : Wd} {ρ : Rho} {Φ : D → Prop} {ΦX : Addr → D → Prop} {e a b c : Expr} {es : List Expr} {pos p1 p2 p : Pos} {x : Str}

theorem spD_call {Pr : Pf} {F H : Hp} {σ : L2.St} {vs : List V} {ens : List En} {Q : VK} (g : Good W F H σ ρ) (r : EnsR W.K F vs ens) (h : Pr ens (outK Φ ΦX)) (k : ∀ F' H' v d, Stp W.rs F H F' H' → Dp W.K F' v d → Φ d → Q v H') :
    spD W.K W.rs Pr vs H Q (fun cls d H => wX W ΦX cls d [] H) :=
  ⟨F, ens, _, g.self, r, h, k, fun F' H' C d0 v d s h1 h2 h3 => ⟨C, d0, F', v, d, rfl, rfl, h1, g.st.trans s, h2, h3⟩⟩
theorem pd_call {k : Nat} {st : Stmt} {ps : List Str} {Pr : Pf} (Fn : Fd X.prog X.w X.K X.mg X.base W.rs k x st ps Pr) (hK : X.K = W.K) (hr : Room k X.A) (hg : Gl X x) (tk : TkD X W ΦX)
    (h : PAd X W (e :: es) ρ fun ens => Pr ens (outK Φ ΦX)) (hdb : (x == ("__debug__" : Str)) = false := by decide) (he : starEach (e :: es) X.env = (false, eval e X.env) :: starEach es X.env := by rfl) (hpl : (backTo pos (starEach es X.env)).any (·.1) = false := by rfl) :
    PEd X W (.Call (.Name x p) (e :: es) [] pos) ρ Φ := by
  obtain ⟨f, fd, hm, hf, hb, F⟩ := Fn.ex
  have hk := hf.kp
  refine PEd.of (pe_call (E := fun cls d H => wX W ΦX cls d [] H) F hr hg hm hk (.all hb) .nil (passes_call tk fun _ _ _ _ h => h) (PA.univ X _) hdb he hpl) fun σ H Q F g k => ?_
  refine h.use g fun F1 H1 vs ens s1 g1 r p => ?_
  rw [List.append_nil, hK]
  exact spD_call g1 r p fun F' H' v d s => k F' H' v d (s1.trans s)
theorem pd_call0 {k : Nat} {st : Stmt} {ps : List Str} {Pr : Pf} (Fn : Fd X.prog X.w X.K X.mg X.base W.rs k x st ps Pr) (hK : X.K = W.K) (hr : Room k X.A) (hg : Gl X x) (tk : TkD X W ΦX)
    (h : Pr [] (outK Φ ΦX)) (hdb : (x == ("__debug__" : Str)) = false := by decide) : PEd X W (.Call (.Name x p) [] [] pos) ρ Φ := by
  obtain ⟨f, fd, hm, hf, hb, F⟩ := Fn.ex
  have hk := hf.kp
  refine PEd.of (pe_call0 (E := fun cls d H => wX W ΦX cls d [] H) F hr hg hm hk (.all hb) .nil (passes_call tk fun _ _ _ _ h => h) hdb) fun σ H Q F g k => ?_
  show spD X.K W.rs Pr ([] ++ []) H Q (fun cls d H => wX W ΦX cls d [] H)
  rw [hK, List.append_nil]
  exact spD_call g .nil h fun F' H' v d s => k F' H' v d s

/-- f(a = .., b = ..), all by name -/
theorem pe_callK0 {CX : CXT} {k : Nat} {f : Addr} {fd : FuncData} {ps ks : List Str} {sp : Sp} {E : XK} {kws : List Keyword} {tk : TA} {g : List Value → List Value → List Value} {gV : List V → List V → List V} (F : FnOk X.prog X.w X.K X.mg X.base CX k f fd ps sp) (hr : Room k X.A) (hg : Gl X x) (hm : X.mg x = some (.ref f)) (hk : PySem.W.keepIn X.K (.ref f) = true) (hb : KBinds X.K fd ps ks g gV) (hx : Passes CX X E)
    (hkw : PK X kws tk) (hall : (backToKw pos (keywordEach kws X.env)).all (·.1.isSome) = true) (hks : (backToKw pos (keywordEach kws X.env)).filterMap (·.1) = ks)
    (hdb : (x == ("__debug__" : Str)) = false) (hpl : ((backTo pos (starEach [] X.env)).any (·.1) || (backToKw pos (keywordEach kws X.env)).any (·.1.isNone)) = false) :
    PE X (.Call (.Name x p) [] kws pos) (tCallK sp gV E tNil tk) := by
  refine ⟨fun pins s σ H Q I h => ?_⟩
  refine wpAny_Call_Name_kw (ld_glob I hg hm ?_ hdb)
  refine PySem.W.callWith_KW0 (h₀ := X.base) I.ok.mod.kin hk hall ?_ hpl
  refine thn (hkw.run pos pins s σ H _ I h) fun ws s2 ⟨zs, H2, I2, rz, q2⟩ => ⟨I2.kIn, ?_⟩
  rw [hks]
  exact run_fnk (us := []) (vs := []) F hr hb hx I2 .nil rz q2
/-- the values of the keywords, from the left, as arguments -/
structure PKd (X : Cx) (W : Wd) (kws : List Keyword) (es : List Expr) : Prop where
  run : ∀ {ρ : Rho} {Φ : List En → Prop}, PAd X W es ρ Φ → PK X kws (tAs W ρ Φ)
theorem PK.weak {X : Cx} {kws : List Keyword} {t t' : TA} (h : PK X kws t) (i : ∀ σ H Q, t' σ H Q → t σ H Q) : PK X kws t' := ⟨fun pos pins s σ H Q I hq => h.run pos pins s σ H Q I (i _ _ _ hq)⟩
def PKs (X : Cx) (W : Wd) (kws : List Keyword) (ρ : Rho) (Φ : List En → Prop) : Prop := PK X kws (tAs W ρ Φ)
def uK (X : Cx) (kws : List Keyword) : TA := fun σ H Q => ∃ t : TA, PK X kws t ∧ t σ H Q
theorem PK.univ (X : Cx) (kws : List Keyword) : PK X kws (uK X kws) := ⟨fun pos pins s σ H Q I ⟨_, h, q⟩ => h.run pos pins s σ H Q I q⟩
theorem pk_nilD {Φ : List En → Prop} (q : Φ []) : PKs X W [] ρ Φ := PK.weak L2.pk_nil fun σ H Q ⟨F, g, k⟩ => k F H [] [] g.self .nil q
theorem pk_consD {Φ : List En → Prop} {nm : Option Str} {kpos : Pos} {kws : List Keyword} (h : PEd X W e ρ fun d => PKs X W kws ρ fun ens => Φ (.dat d :: ens)) : PKs X W (⟨nm, e, kpos⟩ :: kws) ρ Φ := by
  refine PK.weak (L2.pk_cons (PE.univ X e) (PK.univ X kws)) fun σ H Q ⟨F, g, k⟩ => ?_
  refine h.use g fun F1 H1 x dx s1 g1 rx p => ?_
  refine ⟨_, p, F1, g1, fun F2 H2 vs ens s2 r q => k F2 H2 _ _ (s1.trans s2) (.cons (e := .dat dx) (dp_mono s2.old _ _ rx) r) q⟩
/-- the keywords' values in the parameters' order: perm says which of them stands at each place -/
def permL {α : Type} (perm : List Nat) (ws : List α) : List α := perm.filterMap fun i => ws[i]?
theorem perm_vals : ∀ {perm : List Nat} {vs : List V} {us : List Value}, Vals vs us → Vals (permL perm vs) (permL perm us)
  | [], _, _, _ => .nil
  | i :: perm, vs, us, r => by
    unfold permL
    cases h : vs[i]? with
    | none =>
      have h2 := r.none_of h
      simp only [List.filterMap_cons, h, h2]
      exact perm_vals r
    | some v =>
      obtain ⟨u, h2, rv⟩ := r.get h
      simp only [List.filterMap_cons, h, h2]
      exact .cons rv (perm_vals r)
theorem perm_ens {K : PySem.W.Frag} {F : Hp} : ∀ {perm : List Nat} {vs : List V} {es : List En}, EnsR K F vs es → EnsR K F (permL perm vs) (permL perm es)
  | [], _, _, _ => .nil
  | i :: perm, vs, es, r => by
    have key : ∀ {vs : List V} {es : List En} (i : Nat), EnsR K F vs es → (vs[i]? = none ∧ es[i]? = none) ∨ ∃ v e, vs[i]? = some v ∧ es[i]? = some e ∧ EnC K F v e := by
      intro vs es i r
      induction r generalizing i with
      | nil => exact .inl ⟨rfl, rfl⟩
      | cons a t ih =>
        cases i with
        | zero => exact .inr ⟨_, _, rfl, rfl, a⟩
        | succ i => simpa using ih i
    unfold permL
    rcases key i r with ⟨h1, h2⟩ | ⟨v, e, h1, h2, a⟩
    · simp only [List.filterMap_cons, h1, h2]
      exact perm_ens r
    · simp only [List.filterMap_cons, h1, h2]
      exact .cons a (perm_ens r)
theorem pd_callK {k : Nat} {st : Stmt} {ps : List Str} {Pr : Pf} {kws : List Keyword} (perm : List Nat) (ks : List Str) (Fn : Fd X.prog X.w X.K X.mg X.base W.rs k x st ps Pr) (hK : X.K = W.K) (hr : Room k X.A) (hg : Gl X x) (tk : TkD X W ΦX)
    (hkb : ∀ (kV doc pm : Value) (an : Option Addr) (cdv ct : Value) (ws : List Value), ws.length = ks.length → bindArgs (PySem.W.fnOf x x (defArgs st) (defBody st) (defScope st) .none kV doc pm an cdv ct) ⟨[], ks.zip ws⟩ = pure (ps.zip (permL perm ws)))
    (h : PKs X W kws ρ fun ens => ens.length = ks.length ∧ Pr (permL perm ens) (outK Φ ΦX)) (hall : (backToKw pos (keywordEach kws X.env)).all (·.1.isSome) = true := by rfl) (hks : (backToKw pos (keywordEach kws X.env)).filterMap (·.1) = ks := by rfl)
    (hdb : (x == ("__debug__" : Str)) = false := by decide) (hpl : ((backTo pos (starEach [] X.env)).any (·.1) || (backToKw pos (keywordEach kws X.env)).any (·.1.isNone)) = false := by rfl) (hkn : kws.length = ks.length := by rfl) :
    PEd X W (.Call (.Name x p) [] kws pos) ρ Φ := by
  obtain ⟨f, fd, hm, hf, hb, F⟩ := Fn.ex
  have hk := hf.kp
  obtain ⟨oc, od, kV, doc, pm, an, cdv, ct, osl, rfl, lk, hcd⟩ := hf.ex
  refine ⟨fun pins s σ H Q I hq => ?_⟩
  obtain ⟨F0, g, kk⟩ := hq
  refine wpAny_Call_Name_kw (ld_glob I hg hm ?_ hdb)
  refine PySem.W.callWith_KW0 (h₀ := X.base) I.ok.mod.kin hk hall ?_ hpl
  refine thn ((h : PK X kws _).run pos pins s σ H (fun vs H' => ∃ F' ens, Stp W.rs F0 H F' H' ∧ EnsR W.K F' vs ens ∧ ens.length = ks.length ∧ Pr (permL perm ens) (outK Φ ΦX)) I ⟨F0, g, fun F' H' vs ens s r q => ⟨F', ens, s, r, q.1, q.2⟩⟩) fun ws s2 ⟨zs, H2, I2, rz, F', ens, s1, r, hl, hP⟩ => ⟨I2.kIn, ?_⟩
  rw [hks]
  have g1 := g.step s1
  have e1 : zs.length = ks.length := r.len.trans hl
  have hws : ws.length = ks.length := rz.length.symm.trans e1
  have hsp : spD W.K W.rs Pr (permL perm zs) H2 Q (fun cls d H => wX W ΦX cls d [] H) := spD_call g1 (perm_ens r) hP fun F' H' v d s => kk F' H' v d (s1.trans s)
  rw [← hK] at hsp
  have hlp := F.len _ _ _ _ hsp
  refine wpAny_call (codeAny_mono (F.run X.A X.stack s2 H2 ⟨[], ks.zip ws⟩ (permL perm ws) (permL perm zs) Q (fun cls d H => wX W ΦX cls d [] H) hr I2.env0 (.of_eq (hkb kV doc pm an cdv ct ws hws)) (perm_vals rz) hsp) fun r s' hq => ?_)
  cases r with
  | error e => exact passes_call tk (fun _ _ _ _ h => h) pins σ H2 s2 e s' I2 hq
  | ok fl =>
    cases fl with
    | ret u => exact I2.after hq
    | next => exact False.elim hq
    | brk => exact False.elim hq
    | cont => exact False.elim hq

/-! ### built-ins -/
def RcD (W : Wd) (r : List V → Hp → VK → Prop) (sem : List D → (D → Prop) → Prop) : Prop := ∀ (F H : Hp) (ds : List D) (vs : List V) (Φ : D → Prop) (Q : VK), Stp W.rs F H F H → DpAll W.K F vs ds → sem ds Φ →
  (∀ F' H' v d, Stp W.rs F H F' H' → Dp W.K F' v d → Φ d → Q v H') → r vs H Q
theorem pd_callB {id : String} {r : List V → Hp → VK → Prop} {sem : List D → (D → Prop) → Prop} (hc : CallR X (.builtin id) r) (hr : RcD W r sem) (hg : Gl X x) (hm : X.mg x = none) (hv : bootBuiltins x = some (.builtin id))
    (h : PAd X W (e :: es) ρ fun ens => asDs ens fun ds => sem ds Φ) (hn : x ≠ "__name__" := by decide) (hdb : (x == ("__debug__" : Str)) = false := by decide)
    (he : starEach (e :: es) X.env = (false, eval e X.env) :: starEach es X.env := by rfl) (hpl : (backTo pos (starEach es X.env)).any (·.1) = false := by rfl) : PEd X W (.Call (.Name x p) (e :: es) [] pos) ρ Φ := by
  refine PEd.of (pe_callB hc hg hm hv (PA.univ X _) hn hdb he hpl) fun σ H Q F g k => ?_
  refine h.use g fun F1 H1 vs ens s1 g1 r p => ?_
  replace p := asDs_elim p
  obtain ⟨ds, rfl, p⟩ := p
  exact hr F1 H1 ds vs Φ Q g1.self (ensR_dat r) p fun F' H' v d s => k F' H' v d (s1.trans s)
theorem pd_callTy {T : String} {r : List V → Hp → VK → Prop} {sem : List D → (D → Prop) → Prop} (hc : CallR X (.type T) r) (hr : RcD W r sem) (hg : Gl X x) (hm : X.mg x = none) (hv : bootBuiltins x = some (.type T))
    (h : PAd X W (e :: es) ρ fun ens => asDs ens fun ds => sem ds Φ) (hn : x ≠ "__name__" := by decide) (hdb : (x == ("__debug__" : Str)) = false := by decide)
    (he : starEach (e :: es) X.env = (false, eval e X.env) :: starEach es X.env := by rfl) (hpl : (backTo pos (starEach es X.env)).any (·.1) = false := by rfl) : PEd X W (.Call (.Name x p) (e :: es) [] pos) ρ Φ := by
  refine PEd.of (pe_callTy hc hg hm hv (PA.univ X _) hn hdb he hpl) fun σ H Q F g k => ?_
  refine h.use g fun F1 H1 vs ens s1 g1 r p => ?_
  replace p := asDs_elim p
  obtain ⟨ds, rfl, p⟩ := p
  exact hr F1 H1 ds vs Φ Q g1.self (ensR_dat r) p fun F' H' v d s => k F' H' v d (s1.trans s)
abbrev as1 (ds : List D) (k : D → Prop) : Prop := match ds with | [d] => k d | _ => False
abbrev as2 (ds : List D) (k : D → D → Prop) : Prop := match ds with | [d, e] => k d e | _ => False
theorem as1_elim {ds : List D} {k : D → Prop} (h : as1 ds k) : ∃ d, ds = [d] ∧ k d := by
  match ds, h with
  | [d], h => exact ⟨d, rfl, h⟩
theorem as2_elim {ds : List D} {k : D → D → Prop} (h : as2 ds k) : ∃ d e, ds = [d, e] ∧ k d e := by
  match ds, h with
  | [d, e], h => exact ⟨d, e, rfl, h⟩
theorem da1 {K : PySem.W.Frag} {F : Hp} {vs : List V} {d : D} (h : DpAll K F vs [d]) : ∃ v, vs = [v] ∧ Dp K F v d := by
  cases h with
  | cons a t => cases t; exact ⟨_, rfl, a⟩
theorem da2 {K : PySem.W.Frag} {F : Hp} {vs : List V} {d e : D} (h : DpAll K F vs [d, e]) : ∃ v w, vs = [v, w] ∧ Dp K F v d ∧ Dp K F w e := by
  cases h with
  | cons a t =>
    cases t with
    | cons b t => cases t; exact ⟨_, _, rfl, a, b⟩
/-- len of a list, a tuple -/
theorem rcLen : RcD W (fun xs H Q => ∃ p ys, xs = [.ref p] ∧ (SqL W.K H p ys ∨ SqT W.K H p ys) ∧ Q (.int ys.length) H) (fun ds Φ => as1 ds fun d => asQ d fun xs => Φ (.int (xs.length : Int))) := fun F H ds vs Φ Q s r h k => by
  replace h := as1_elim h
  obtain ⟨d, rfl, h⟩ := h
  replace r := da1 r
  obtain ⟨v, rfl, r⟩ := r
  replace h := asQ_elim h
  obtain ⟨xs, e, h⟩ := h
  rcases e with rfl | rfl
  · obtain ⟨a, ys, rfl, h1, h2⟩ := list_inv r
    refine ⟨a, ys, rfl, .inl (sqL_mono s.ex h1), ?_⟩
    rw [da_len h2]
    exact k F H _ _ s (.int _) h
  · obtain ⟨a, ys, rfl, h1, h2⟩ := tuple_inv r
    refine ⟨a, ys, rfl, .inr (sqT_mono s.ex h1), ?_⟩
    rw [da_len h2]
    exact k F H _ _ s (.int _) h
theorem pd_len (hK : X.K = W.K) (hm : X.mg "len" = none) (h : PAd X W [e] ρ fun ens => asDs ens fun ds => as1 ds fun d => asQ d fun xs => Φ (.int (xs.length : Int))) (hg : Gl X "len" := by rfl)
    (he : starEach [e] X.env = (false, eval e X.env) :: starEach [] X.env := by rfl) : PEd X W (.Call (.Name "len" p) [e] [] pos) ρ Φ :=
  pd_callB call_len_seq (by rw [hK]; exact rcLen) hg hm PySem.boot_len h (by decide) (by decide) he
theorem rcSum : RcD W (rSum W.K) (fun ds Φ => ∃ ns : List Int, ds = [.list (ns.map .int)] ∧ Φ (.int ns.sum)) := fun F H ds vs Φ Q s r h k => by
  obtain ⟨ns, rfl, h⟩ := h
  replace r := da1 r
  obtain ⟨v, rfl, r⟩ := r
  obtain ⟨a, ys, rfl, h1, h2⟩ := list_inv r
  obtain rfl := da_ints h2
  exact ⟨a, ns, rfl, sqL_mono s.ex h1, k F H _ _ s (.int _) h⟩
theorem pd_sum (hK : X.K = W.K) (hc : X.calm = true) (hm : X.mg "sum" = none) (h : PAd X W [e] ρ fun ens => asDs ens fun ds => ∃ ns : List Int, ds = [.list (ns.map .int)] ∧ Φ (.int ns.sum)) (hg : Gl X "sum" := by rfl)
    (he : starEach [e] X.env = (false, eval e X.env) :: starEach [] X.env := by rfl) : PEd X W (.Call (.Name "sum" p) [e] [] pos) ρ Φ :=
  pd_callB (cr_sum hc) (by rw [hK]; exact rcSum) hg hm (by decide +kernel) h (by decide) (by decide) he
theorem rcMax : RcD W (rMax W.K) (fun ds Φ => ∃ ns : List Int, ds = [.list (ns.map .int)] ∧ 0 < ns.length ∧ ∀ m, m ∈ ns → (∀ y, y ∈ ns → y ≤ m) → Φ (.int m)) := fun F H ds vs Φ Q s r h k => by
  obtain ⟨ns, rfl, hl, h⟩ := h
  replace r := da1 r
  obtain ⟨v, rfl, r⟩ := r
  obtain ⟨a, ys, rfl, h1, h2⟩ := list_inv r
  obtain rfl := da_ints h2
  exact ⟨a, ns, rfl, sqL_mono s.ex h1, hl, fun m h3 h4 => k F H _ _ s (.int _) (h m h3 h4)⟩
theorem rcMin : RcD W (rMin W.K) (fun ds Φ => ∃ ns : List Int, ds = [.list (ns.map .int)] ∧ 0 < ns.length ∧ ∀ m, m ∈ ns → (∀ y, y ∈ ns → m ≤ y) → Φ (.int m)) := fun F H ds vs Φ Q s r h k => by
  obtain ⟨ns, rfl, hl, h⟩ := h
  replace r := da1 r
  obtain ⟨v, rfl, r⟩ := r
  obtain ⟨a, ys, rfl, h1, h2⟩ := list_inv r
  obtain rfl := da_ints h2
  exact ⟨a, ns, rfl, sqL_mono s.ex h1, hl, fun m h3 h4 => k F H _ _ s (.int _) (h m h3 h4)⟩
theorem pd_maxL (hK : X.K = W.K) (hc : X.calm = true) (hm : X.mg "max" = none) (h : PAd X W [e] ρ fun ens => asDs ens fun ds => ∃ ns : List Int, ds = [.list (ns.map .int)] ∧ 0 < ns.length ∧ ∀ m, m ∈ ns → (∀ y, y ∈ ns → y ≤ m) → Φ (.int m)) (hg : Gl X "max" := by rfl)
    (he : starEach [e] X.env = (false, eval e X.env) :: starEach [] X.env := by rfl) : PEd X W (.Call (.Name "max" p) [e] [] pos) ρ Φ :=
  pd_callB (cr_max hc) (by rw [hK]; exact rcMax) hg hm (by decide +kernel) h (by decide) (by decide) he
theorem pd_minL (hK : X.K = W.K) (hc : X.calm = true) (hm : X.mg "min" = none) (h : PAd X W [e] ρ fun ens => asDs ens fun ds => ∃ ns : List Int, ds = [.list (ns.map .int)] ∧ 0 < ns.length ∧ ∀ m, m ∈ ns → (∀ y, y ∈ ns → m ≤ y) → Φ (.int m)) (hg : Gl X "min" := by rfl)
    (he : starEach [e] X.env = (false, eval e X.env) :: starEach [] X.env := by rfl) : PEd X W (.Call (.Name "min" p) [e] [] pos) ρ Φ :=
  pd_callB (cr_min hc) (by rw [hK]; exact rcMin) hg hm (by decide +kernel) h (by decide) (by decide) he
theorem rcAll : RcD W (rAll W.K) (fun ds Φ => ∃ bs : List Bool, ds = [.list (bs.map .bool)] ∧ Φ (.bool (bs.all id))) := fun F H ds vs Φ Q s r h k => by
  obtain ⟨ns, rfl, h⟩ := h
  replace r := da1 r
  obtain ⟨v, rfl, r⟩ := r
  obtain ⟨a, ys, rfl, h1, h2⟩ := list_inv r
  obtain rfl := da_bools h2
  exact ⟨a, ns, rfl, sqL_mono s.ex h1, k F H _ _ s (.bl _) h⟩
theorem pd_all (hK : X.K = W.K) (hc : X.calm = true) (hm : X.mg "all" = none) (h : PAd X W [e] ρ fun ens => asDs ens fun ds => ∃ bs : List Bool, ds = [.list (bs.map .bool)] ∧ Φ (.bool (bs.all id))) (hg : Gl X "all" := by rfl)
    (he : starEach [e] X.env = (false, eval e X.env) :: starEach [] X.env := by rfl) : PEd X W (.Call (.Name "all" p) [e] [] pos) ρ Φ :=
  pd_callB (cr_all hc) (by rw [hK]; exact rcAll) hg hm (by decide +kernel) h (by decide) (by decide) he
theorem pd_abs (hm : X.mg "abs" = none) (h : PAd X W [e] ρ fun ens => asDs ens fun ds => as1 ds fun d => asI d fun i => Φ (.int (if i < 0 then -i else i))) (hg : Gl X "abs" := by rfl)
    (he : starEach [e] X.env = (false, eval e X.env) :: starEach [] X.env := by rfl) : PEd X W (.Call (.Name "abs" p) [e] [] pos) ρ Φ :=
  pd_callB (sem := fun ds Φ => as1 ds fun d => asI d fun i => Φ (.int (if i < 0 then -i else i))) call_abs (fun F H ds vs Φ Q s r h k => by
    replace h := as1_elim h
    obtain ⟨d, rfl, h⟩ := h
    replace r := da1 r
    obtain ⟨v, rfl, r⟩ := r
    replace h := asI_elim h
    obtain ⟨i, rfl, h⟩ := h
    exact ⟨i, by rw [int_inv r], k F H _ _ s (.int _) h⟩) hg hm boot_abs h (by decide) (by decide) he
theorem pd_max2 (hc : X.calm = true) (hm : X.mg "max" = none) (h : PAd X W [a, b] ρ fun ens => asDs ens fun ds => as2 ds fun d e => asI d fun i => asI e fun j => Φ (.int (if j > i then j else i))) (hg : Gl X "max" := by rfl)
    (he : starEach [a, b] X.env = (false, eval a X.env) :: starEach [b] X.env := by rfl) (hpl : (backTo pos (starEach [b] X.env)).any (·.1) = false := by rfl) : PEd X W (.Call (.Name "max" p) [a, b] [] pos) ρ Φ :=
  pd_callB (sem := fun ds Φ => as2 ds fun d e => asI d fun i => asI e fun j => Φ (.int (if j > i then j else i))) (call_max2 hc) (fun F H ds vs Φ Q s r h k => by
    replace h := as2_elim h
    obtain ⟨d, e, rfl, h⟩ := h
    obtain ⟨v, w, rfl, r1, r2⟩ := da2 r
    obtain ⟨i, rfl, h1⟩ := asI_elim h
    obtain ⟨j, rfl, h⟩ := asI_elim h1
    exact ⟨i, j, by rw [int_inv r1, int_inv r2], k F H _ _ s (.int _) h⟩) hg hm (by decide +kernel) h (by decide) (by decide) he hpl
theorem pd_min2 (hc : X.calm = true) (hm : X.mg "min" = none) (h : PAd X W [a, b] ρ fun ens => asDs ens fun ds => as2 ds fun d e => asI d fun i => asI e fun j => Φ (.int (if j < i then j else i))) (hg : Gl X "min" := by rfl)
    (he : starEach [a, b] X.env = (false, eval a X.env) :: starEach [b] X.env := by rfl) (hpl : (backTo pos (starEach [b] X.env)).any (·.1) = false := by rfl) : PEd X W (.Call (.Name "min" p) [a, b] [] pos) ρ Φ :=
  pd_callB (sem := fun ds Φ => as2 ds fun d e => asI d fun i => asI e fun j => Φ (.int (if j < i then j else i))) (call_min2 hc) (fun F H ds vs Φ Q s r h k => by
    replace h := as2_elim h
    obtain ⟨d, e, rfl, h⟩ := h
    obtain ⟨v, w, rfl, r1, r2⟩ := da2 r
    obtain ⟨i, rfl, h1⟩ := asI_elim h
    obtain ⟨j, rfl, h⟩ := asI_elim h1
    exact ⟨i, j, by rw [int_inv r1, int_inv r2], k F H _ _ s (.int _) h⟩) hg hm (by decide +kernel) h (by decide) (by decide) he hpl
/-- int of a number or of a truth -/
abbrev asIB (d : D) (k : Int → Prop) : Prop := match d with | .int i => k i | .bool b => k (if b then 1 else 0) | _ => False
theorem pd_intOf (hm : X.mg "int" = none) (h : PAd X W [e] ρ fun ens => asDs ens fun ds => as1 ds fun d => asIB d fun i => Φ (.int i)) (hg : Gl X "int" := by rfl)
    (he : starEach [e] X.env = (false, eval e X.env) :: starEach [] X.env := by rfl) : PEd X W (.Call (.Name "int" p) [e] [] pos) ρ Φ :=
  pd_callTy (sem := fun ds Φ => as1 ds fun d => asIB d fun i => Φ (.int i)) call_int1 (fun F H ds vs Φ Q s r h k => by
    replace h := as1_elim h
    obtain ⟨d, rfl, h⟩ := h
    replace r := da1 r
    obtain ⟨v, rfl, r⟩ := r
    cases d <;> first | exact h.elim | skip
    · exact .inr ⟨_, by rw [bool_inv r], k F H _ _ s (.int _) h⟩
    · exact .inl ⟨_, by rw [int_inv r], k F H _ _ s (.int _) h⟩) hg hm boot_int h (by decide) (by decide) he
/-- tuple(list or tuple) -/
theorem pd_tupleOf (hK : X.K = W.K) (hm : X.mg "tuple" = none) (h : PAd X W [e] ρ fun ens => asDs ens fun ds => as1 ds fun d => asQ d fun xs => Φ (.tuple xs)) (hg : Gl X "tuple" := by rfl)
    (he : starEach [e] X.env = (false, eval e X.env) :: starEach [] X.env := by rfl) : PEd X W (.Call (.Name "tuple" p) [e] [] pos) ρ Φ :=
  pd_callTy (sem := fun ds Φ => as1 ds fun d => asQ d fun xs => Φ (.tuple xs)) call_tuple_of (fun F H ds vs Φ Q s r h k => by
    replace h := as1_elim h
    obtain ⟨d, rfl, h⟩ := h
    replace r := da1 r
    obtain ⟨v, rfl, r⟩ := r
    replace h := asQ_elim h
    obtain ⟨xs, e, h⟩ := h
    rcases e with rfl | rfl
    · obtain ⟨a, ys, rfl, h1, h2⟩ := list_inv r
      refine ⟨a, ys, rfl, .inl ⟨by rw [hK]; exact sqL_mono s.ex h1, fun l hl => ?_⟩⟩
      have s2 := s.new1 (o := .tup ys) hl
      exact k _ _ _ _ s2 (.tup (.inl (.inl upd_same)) (dpAll_mono s2.old _ _ h2)) h
    · obtain ⟨a, ys, rfl, h1, h2⟩ := tuple_inv r
      refine ⟨a, ys, rfl, .inr ⟨by rw [hK]; exact sqT_mono s.ex h1, ?_⟩⟩
      exact k F H _ _ s (.tup h1 h2) h) hg hm boot_tuple h (by decide) (by decide) he
/-- list(list or tuple): a new list -/
theorem fresh_back {r : Rs} {F0 H0 F H : Hp} {q : Addr} (s0 : Stp r F0 H0 F0 H0) (s : Stp r F0 H0 F H) (hq : H q = none) : F q = none ∧ NoT H0 q ∧ q ∉ r.dk := by
  refine ⟨?_, ?_, fun hd => s.dal q hd hq⟩
  · cases z : F q with
    | none => rfl
    | some o => rw [s.ex _ _ z] at hq; cases hq
  · intro o z
    by_cases ht : ∃ ps, o = .tbl ps
    · exact ht
    · rw [s.keep _ _ z (fun hd => s.dal q hd hq) fun ps e => ht ⟨ps, e⟩] at hq; cases hq
theorem pn_listOf {Φ : List D → Prop} (hK : X.K = W.K) (hm : X.mg "list" = none) (h : PAd X W [e] ρ fun ens => asDs ens fun ds => as1 ds fun d => asQ d Φ) (hg : Gl X "list" := by rfl)
    (he : starEach [e] X.env = (false, eval e X.env) :: starEach [] X.env := by rfl) : PEn X W (.Call (.Name "list" p) [e] [] pos) ρ Φ := by
  refine PEn.of (pe_callTy call_list_of hg hm boot_list (PA.univ X _) (by decide) (by decide) he) fun σ H Q F g k => ?_
  refine h.use g fun F1 H1 vs ens s1 g1 r p => ?_
  replace p := asDs_elim p
  obtain ⟨ds, rfl, p⟩ := p
  replace p := as1_elim p
  obtain ⟨d, rfl, p⟩ := p
  replace r := da1 (ensR_dat r)
  obtain ⟨v, rfl, r⟩ := r
  replace p := asQ_elim p
  obtain ⟨xs, e, p⟩ := p
  rcases e with rfl | rfl
  · obtain ⟨a, ys, rfl, h1, h2⟩ := list_inv r
    refine ⟨a, ys, rfl, .inl (by rw [hK]; exact sqL_mono g1.st.ex h1), fun l hl => ?_⟩
    obtain ⟨n1, n2, n3⟩ := fresh_back g.self s1 hl
    exact k _ _ l ys xs (s1.trans (g1.self.newO hl)) upd_same n1 ⟨n2, n3⟩ h2 p
  · obtain ⟨a, ys, rfl, h1, h2⟩ := tuple_inv r
    refine ⟨a, ys, rfl, .inr (by rw [hK]; exact sqT_mono g1.st.ex h1), fun l hl => ?_⟩
    obtain ⟨n1, n2, n3⟩ := fresh_back g.self s1 hl
    exact k _ _ l ys xs (s1.trans (g1.self.newO hl)) upd_same n1 ⟨n2, n3⟩ h2 p

/-! ### isinstance -/
def tyN : D → String
  | .none => "NoneType" | .bool _ => "bool" | .int _ => "int" | .str _ => "str" | .list _ => "list" | .tuple _ => "tuple" | .dict _ => "dict"
theorem tyX_of {K : PySem.W.Frag} {F H : Hp} {v : V} {d : D} (s : ∀ b o, F b = some o → H b = some o) (r : Dp K F v d) : TyX K H v (.type (tyN d)) := by
  cases r with
  | non => exact .base .non
  | bl b => exact .base (.bl b)
  | int i => exact .base (.int i)
  | str x => exact .base (.str x)
  | lst h1 _ =>
    rcases sqL_mono s h1 with (h | ⟨o, h⟩) | ⟨o, _, _, h, hc, _⟩
    · exact .base (.lst h)
    · exact .base (.frz h)
    · exact .kList h hc
  | tup h1 _ =>
    rcases sqT_mono s h1 with (h | ⟨o, h⟩) | ⟨o, _, _, h, hc, _⟩
    · exact .base (.tup h)
    · exact .fTuple h
    · exact .kTuple h hc
/-- is a datum of that type -/
def isT (T : String) : D → Bool
  | .none => T == "NoneType" | .bool _ => T == "bool" || T == "int" | .int _ => T == "int" | .str _ => T == "str" | .list _ => T == "list" | .tuple _ => T == "tuple" | .dict _ => T == "dict"
def kitOk (T : String) : Bool := ["NoneType", "bool", "int", "str", "list", "tuple", "dict"].all fun a => kitB a T == some (T == a || (T == "int" && a == "bool"))
theorem kit_isT {T : String} (h : kitOk T = true) (d : D) : kitB (tyN d) T = some (isT T d) := by
  unfold kitOk at h
  simp only [List.all_cons, List.all_nil, Bool.and_true, Bool.and_eq_true, beq_iff_eq] at h
  obtain ⟨h1, h2, h3, h4, h5, h6, h7⟩ := h
  cases d <;> simp only [tyN, isT]
  · rw [h1]; simp
  · rw [h2]; simp
  · rw [h3]; simp
  · rw [h4]; simp
  · rw [h5]; simp
  · rw [h6]; simp
  · rw [h7]; simp
theorem pd_isi {T : Str} {T' : String} (hm : X.mg "isinstance" = none) (hT : X.mg T = none) (hb : bootBuiltins T = some (.type T')) (hk : kitOk T' = true) (hgT : Gl X T) (h : PEd X W e ρ fun d => Φ (.bool (isT T' d))) (hK : X.K = W.K) (hg : Gl X "isinstance" := by rfl)
    (hn : T ≠ "__name__" := by decide) (hd : (T == ("__debug__" : Str)) = false := by decide)
    (he : starEach [e, .Name T p2] X.env = (false, eval e X.env) :: starEach [.Name T p2] X.env := by rfl) (he2 : starEach [.Name T p2] X.env = (false, eval (.Name T p2) X.env) :: starEach [] X.env := by rfl) (hpl : (backTo pos (starEach [.Name T p2] X.env)).any (·.1) = false := by rfl) :
    PEd X W (.Call (.Name "isinstance" p) [e, .Name T p2] [] pos) ρ Φ := by
  refine PEd.of (pe_callB call_isi hg hm boot_isinstance (L2.pa_cons (PE.univ X e) (L2.pa_cons (pe_bltn (v := .ty T') hgT hT hb rfl hn hd) L2.pa_nil he2) he) (by decide) (by decide) he hpl) fun σ H Q F g k => ?_
  refine h.use g fun F1 H1 v d s1 g1 r p => ?_
  exact ⟨v, .ty T', .type (tyN d), .type T', isT T' d, rfl, .ty T', tyX_of (fun b o e => g1.st.ex b o e) (by rw [hK]; exact r), kit_ty (kit_isT hk d), k F1 H1 _ _ s1 (.bl _) p⟩
/-- isinstance(e, (A, B)) -/
theorem pd_isi2 {T U : Str} {T' U' : String} {j : Nat} {p3 p4 : Pos} (hm : X.mg "isinstance" = none) (hT : X.mg T = none) (hU : X.mg U = none) (hb : bootBuiltins T = some (.type T')) (hbU : bootBuiltins U = some (.type U')) (hk : kitOk T' = true) (hkU : kitOk U' = true) (hgT : Gl X T) (hgU : Gl X U)
    (h : PEd X W e ρ fun d => Φ (.bool (isT T' d || isT U' d))) (hK : X.K = W.K) (hg : Gl X "isinstance" := by rfl)
    (hn : T ≠ "__name__" := by decide) (hd : (T == ("__debug__" : Str)) = false := by decide) (hnU : U ≠ "__name__" := by decide) (hdU : (U == ("__debug__" : Str)) = false := by decide)
    (he : starEach [e, .Tuple [.Name T p2, .Name U p3] j p4] X.env = (false, eval e X.env) :: starEach [.Tuple [.Name T p2, .Name U p3] j p4] X.env := by rfl)
    (he2 : starEach [.Tuple [.Name T p2, .Name U p3] j p4] X.env = (false, eval (.Tuple [.Name T p2, .Name U p3] j p4) X.env) :: starEach [] X.env := by rfl) (hpl : (backTo pos (starEach [.Tuple [.Name T p2, .Name U p3] j p4] X.env)).any (·.1) = false := by rfl)
    (he3 : starEach [.Name T p2, .Name U p3] X.env = (false, eval (.Name T p2) X.env) :: starEach [.Name U p3] X.env := by rfl) (he4 : starEach [.Name U p3] X.env = (false, eval (.Name U p3) X.env) :: starEach [] X.env := by rfl) :
    PEd X W (.Call (.Name "isinstance" p) [e, .Tuple [.Name T p2, .Name U p3] j p4] [] pos) ρ Φ := by
  refine PEd.of (pe_callB call_isiT hg hm boot_isinstance (L2.pa_cons (PE.univ X e) (L2.pa_cons (pe_tup (L2.pa_cons (pe_bltn (v := .ty T') hgT hT hb rfl hn hd) (L2.pa_cons (pe_bltn (v := .ty U') hgU hU hbU rfl hnU hdU) L2.pa_nil he4) he3)) L2.pa_nil he2) he) (by decide) (by decide) he hpl) fun σ H Q F g k => ?_
  refine h.use g fun F1 H1 v d s1 g1 r p => ?_
  refine ⟨by show 2 ≤ sizeLine; decide, fun q hq => ?_⟩
  have s2 := g1.self.newO (o := .tup [.ty T', .ty U']) hq
  refine ⟨v, q, [.ty T', .ty U'], .type (tyN d), [.type T', .type U'], isT T' d || isT U' d, rfl, upd_same, .cons (.ty T') (.cons (.ty U') .nil), tyX_of (F := F1) (fun b o e => s2.ex b o e) (by rw [hK]; exact r), ?_, k _ _ _ _ (s1.trans s2) (.bl _) p⟩
  refine kitAny_cons (kit_ty (kit_isT hk d)) (fun h0 => ?_) (fun h1 => by rw [h1] <;> rfl)
  refine kitAny_cons (kit_ty (kit_isT hkU d)) (fun h2 => ?_) (fun h1 => by rw [h0, h1] <;> rfl)
  rw [h0, h2]
  rfl

/-! ### subscripts -/
theorem pd_ix (hK : X.K = W.K) (h : PEd X W a ρ fun x => PEd X W b ρ fun y => asQ x fun ds => asI y fun i => ∃ d, atI ds i = some d ∧ Φ d) (hs : PlainIx b := by exact fun _ _ => rfl) : PEd X W (.Subscript a b pos) ρ Φ := by
  refine PEd.of (pe_ix ix_seq (PE.univ X a) (PE.univ X b) hs) fun σ H Q F g k => ?_
  refine h.use g fun F1 H1 x dx s1 g1 rx h2 => ?_
  refine PEd.use h2 g1 fun F2 H2 y dy s2 g2 ry h3 => ?_
  replace h3 := asQ_elim h3
  obtain ⟨ds, e, h3⟩ := h3
  replace h3 := asI_elim h3
  obtain ⟨i, rfl, d, hi, h3⟩ := h3
  have key : ∀ xs : List V, DpAll W.K F1 xs ds → ∃ v, atI xs i = some v ∧ Dp W.K F1 v d := fun xs ha => by
    unfold atI at hi ⊢
    rw [da_len ha]
    cases hj : ixN ds.length i with
    | none => rw [hj] at hi; simp at hi
    | some j =>
      rw [hj] at hi
      exact da_get ha (by simpa using hi)
  rcases e with rfl | rfl
  · obtain ⟨p, xs, rfl, q1, q2⟩ := list_inv rx
    obtain ⟨v, e1, e2⟩ := key xs q2
    exact .inl ⟨p, xs, i, v, rfl, int_inv ry, by rw [hK]; exact sqL_mono (fun b o e => g2.st.ex b o (s2.old b o e)) q1, e1, k F2 H2 v d (s1.trans s2) (dp_mono s2.old _ _ e2) h3⟩
  · obtain ⟨p, xs, rfl, q1, q2⟩ := tuple_inv rx
    obtain ⟨v, e1, e2⟩ := key xs q2
    exact .inr (.inl ⟨p, xs, i, v, rfl, int_inv ry, by rw [hK]; exact sqT_mono (fun b o e => g2.st.ex b o (s2.old b o e)) q1, e1, k F2 H2 v d (s1.trans s2) (dp_mono s2.old _ _ e2) h3⟩)

/-! ### new lists by operators -/
theorem pn_cat {Φ : List D → Prop} (h : PEn X W a ρ fun xs => PEn X W b ρ fun ys => xs.length + ys.length ≤ 100000 ∧ Φ (xs ++ ys)) : PEn X W (.BinOp a .Add b pos) ρ Φ := by
  refine PEn.of (pe_op op_cat (PE.univ X a) (PE.univ X b)) fun σ H Q F g k => ?_
  refine h.use g fun F1 H1 p xs ds s1 g1 h1 n1 n1' r1 h2 => ?_
  refine PEn.use h2 g1 fun F2 H2 q ys es s2 g2 h3 n2 n2' r2 h4 => ?_
  obtain ⟨hl, h4⟩ := h4
  have hpd : p ∉ W.rs.dk := n1'.2
  refine ⟨p, q, xs, ys, rfl, rfl, s2.keepL h1 hpd, h3, by rw [da_len r1, da_len r2]; exact len_lim hl, fun u hu => ?_⟩
  obtain ⟨m1, m2, m3⟩ := fresh_back g.self (s1.trans s2) hu
  exact k _ _ u _ _ ((s1.trans s2).trans (g2.self.newO hu)) upd_same m1 ⟨m2, m3⟩ (da_append (dpAll_mono s2.old _ _ r1) r2) h4
theorem da_rep {K : PySem.W.Frag} {F : Hp} {vs : List V} {ds : List D} (h : DpAll K F vs ds) : ∀ n : Nat, DpAll K F (List.replicate n vs).flatten (List.replicate n ds).flatten
  | 0 => .nil
  | n + 1 => by rw [List.replicate_succ, List.replicate_succ, List.flatten_cons, List.flatten_cons]; exact da_append h (da_rep h n)
theorem pn_rep {Φ : List D → Prop} (h : PEn X W a ρ fun xs => PEd X W b ρ fun y => asI y fun k => (-(2 ^ 63) ≤ k ∧ k < 2 ^ 63 ∧ xs.length * k.toNat ≤ 100000) ∧ Φ (List.replicate k.toNat xs).flatten) : PEn X W (.BinOp a .Mult b pos) ρ Φ := by
  refine PEn.of (pe_op op_rep (PE.univ X a) (PE.univ X b)) fun σ H Q F g k => ?_
  refine h.use g fun F1 H1 p xs ds s1 g1 h1 n1 n1' r1 h2 => ?_
  refine PEd.use h2 g1 fun F2 H2 y dy s2 g2 ry h3 => ?_
  obtain ⟨i, rfl, ⟨l1, l2, l3⟩, h4⟩ := asI_elim h3
  have hpd : p ∉ W.rs.dk := n1'.2
  refine ⟨p, i, xs, rfl, int_inv ry, s2.keepL h1 hpd, l1, l2, by rw [da_len r1]; exact len_lim l3, fun u hu => ?_⟩
  obtain ⟨m1, m2, m3⟩ := fresh_back g.self (s1.trans s2) hu
  exact k _ _ u _ _ ((s1.trans s2).trans (g2.self.newO hu)) upd_same m1 ⟨m2, m3⟩ (da_rep (dpAll_mono s2.old _ _ r1) _) h4
/-- tuple + tuple -/
theorem pd_catT (hK : X.K = W.K) (h : PEd X W a ρ fun x => PEd X W b ρ fun y => asT x fun xs => asT y fun ys => xs.length + ys.length ≤ 100000 ∧ Φ (.tuple (xs ++ ys))) : PEd X W (.BinOp a .Add b pos) ρ Φ := by
  refine pd_bin (r := rCatA W.K) (sem := fun x y Φ => asT x fun xs => asT y fun ys => xs.length + ys.length ≤ 100000 ∧ Φ (.tuple (xs ++ ys))) (by rw [← hK]; exact op_catA) (fun F H dx dy x y Φ Q s rx ry h k => ?_) h
  obtain ⟨xs, rfl, h1⟩ := asT_elim h
  obtain ⟨ys, rfl, hl, h⟩ := asT_elim h1
  obtain ⟨p, us, rfl, q1, q2⟩ := tuple_inv rx
  obtain ⟨q, ws, rfl, q3, q4⟩ := tuple_inv ry
  refine ⟨p, q, us, ws, rfl, rfl, sqT_mono s.ex q1, sqT_mono s.ex q3, by rw [da_len q2, da_len q4]; exact len_lim hl, fun z => ?_, fun z1 z2 => ?_, fun z1 z2 u hu => ?_⟩
  · subst z
    cases q2
    exact k F H _ _ s (.tup q3 q4) h
  · subst z2
    cases q4
    refine k F H _ _ s (.tup q1 q2) ?_
    rw [List.append_nil] at h
    exact h
  · have s2 := s.new1 (o := .tup (us ++ ws)) hu
    exact k _ _ _ _ s2 (.tup (.inl (.inl upd_same)) (da_append (dpAll_mono s2.old _ _ q2) (dpAll_mono s2.old _ _ q4))) h
end
end TR

set_option maxRecDepth 100000
set_option maxHeartbeats 4000000
/-! T3: targets, iteration, comprehensions, statements. -/
namespace TR
open PySem PySem.Spec PyProof.Rows L2

/-! ### targets -/
inductive Tgt where
  | nm (i : Nat) | tp (ts : List Tgt)
mutual
def gOf (K : PySem.W.Frag) : Tgt → TG
  | .nm i => gName i
  | .tp ts => gTup K ts.length (gsOf K ts)
def gsOf (K : PySem.W.Frag) : List Tgt → TGs
  | [] => gNil
  | t :: ts => gCons (gOf K t) (gsOf K ts)
end
mutual
def bindT : Tgt → D → Rho → Option Rho
  | .nm i, d, ρ => some (ρ.set i (some (.dat d)))
  | .tp ts, d, ρ => match d with
    | .tuple ds => bindTs ts ds ρ
    | _ => none
def bindTs : List Tgt → List D → Rho → Option Rho
  | [], ds, ρ => match ds with
    | [] => some ρ
    | _ => none
  | t :: ts, ds, ρ => match ds with
    | [] => none
    | d :: ds => match bindT t d ρ with
      | some ρ' => bindTs ts ds ρ'
      | none => none
end
mutual
def tix : Tgt → List Nat
  | .nm i => [i]
  | .tp ts => tixs ts
def tixs : List Tgt → List Nat
  | [] => []
  | t :: ts => tix t ++ tixs ts
end
section
variable {W : Wd} {F H : Hp} {σ : L2.St} {ρ : Rho}
theorem Good.set (g : Good W F H σ ρ) (i : Nat) {v : V} {d : D} (r : Dp W.K F v d) : Good W F H (σ.set i (some v)) (ρ.set i (some (.dat d))) where
  st := g.st
  len := by simp [g.len]
  env := fun j e h => by
    by_cases hj : i = j
    · subst hj
      by_cases hl : i < ρ.length
      · rw [List.getElem?_set_self hl] at h
        cases h
        exact ⟨v, by rw [List.getElem?_set_self (by rw [g.len]; exact hl)], r⟩
      · rw [List.getElem?_eq_none (by simpa using hl)] at h; cases h
    · rw [List.getElem?_set_ne hj] at h ⊢
      exact g.env j e h
  dist := fun j k ds es u hjk h1 h2 h3 => by
    have n1 : i ≠ j := fun z => by
      subst z
      by_cases hl : i < ρ.length
      · rw [List.getElem?_set_self hl] at h1; cases h1
      · rw [List.getElem?_eq_none (by simpa using hl)] at h1; cases h1
    have n2 : i ≠ k := fun z => by
      subst z
      by_cases hl : i < ρ.length
      · rw [List.getElem?_set_self hl] at h2; cases h2
      · rw [List.getElem?_eq_none (by simpa using hl)] at h2; cases h2
    rw [List.getElem?_set_ne n1] at h1 h3
    rw [List.getElem?_set_ne n2] at h2 ⊢
    exact g.dist j k ds es u hjk h1 h2 h3
/-- a new list of one's own -/
theorem Good.setOwn {F' H' : Hp} (g : Good W F' H' σ ρ) (i : Nat) {p : Addr} {xs : List V} {ds : List D} (h1 : H' p = some (.lst xs)) (h2 : F' p = none) (h3 : NoT W.H0 p) (h4 : p ∉ W.rs.dk) (r : DpAll W.K F' xs ds)
    (hn : ∀ (j : Nat) (es : List D), ρ[j]? = some (some (.own es)) → σ[j]? ≠ some (some (.ref p))) : Good W F' H' (σ.set i (some (.ref p))) (ρ.set i (some (.own ds))) where
  st := g.st
  len := by simp [g.len]
  env := fun j e h => by
    by_cases hj : i = j
    · subst hj
      by_cases hl : i < ρ.length
      · rw [List.getElem?_set_self hl] at h
        cases h
        exact ⟨.ref p, by rw [List.getElem?_set_self (by rw [g.len]; exact hl)], p, xs, rfl, h1, h2, h3, h4, r⟩
      · rw [List.getElem?_eq_none (by simpa using hl)] at h; cases h
    · rw [List.getElem?_set_ne hj] at h ⊢
      exact g.env j e h
  dist := fun j k es fs u hjk e1 e2 e3 e4 => by
    by_cases hj : i = j
    · subst hj
      rw [List.getElem?_set_ne hjk] at e2 e4
      have hl : i < σ.length := by
        by_cases hl : i < σ.length
        · exact hl
        · rw [List.getElem?_eq_none (by simpa using hl)] at e3; cases e3
      rw [List.getElem?_set_self hl] at e3
      cases e3
      exact hn k fs e2 e4
    · by_cases hk : i = k
      · subst hk
        rw [List.getElem?_set_ne hj] at e1 e3
        have hl : i < σ.length := by
          by_cases hl : i < σ.length
          · exact hl
          · rw [List.getElem?_eq_none (by simpa using hl)] at e4; cases e4
        rw [List.getElem?_set_self hl] at e4
        cases e4
        exact hn j es e1 e3
      · rw [List.getElem?_set_ne hj] at e1 e3
        rw [List.getElem?_set_ne hk] at e2 e4
        exact g.dist j k es fs u hjk e1 e2 e3 e4
theorem Good.forget (g : Good W F H σ ρ) (i : Nat) : Good W F H (σ.set i none) (ρ.set i none) where
  st := g.st
  len := by simp [g.len]
  env := fun j e h => by
    by_cases hj : i = j
    · subst hj
      by_cases hl : i < ρ.length
      · rw [List.getElem?_set_self hl] at h; cases h
      · rw [List.getElem?_eq_none (by simpa using hl)] at h; cases h
    · rw [List.getElem?_set_ne hj] at h ⊢
      exact g.env j e h
  dist := fun j k ds es u hjk h1 h2 h3 => by
    have n1 : i ≠ j := fun z => by
      subst z
      by_cases hl : i < ρ.length
      · rw [List.getElem?_set_self hl] at h1; cases h1
      · rw [List.getElem?_eq_none (by simpa using hl)] at h1; cases h1
    have n2 : i ≠ k := fun z => by
      subst z
      by_cases hl : i < ρ.length
      · rw [List.getElem?_set_self hl] at h2; cases h2
      · rw [List.getElem?_eq_none (by simpa using hl)] at h2; cases h2
    rw [List.getElem?_set_ne n1] at h1 h3
    rw [List.getElem?_set_ne n2] at h2 ⊢
    exact g.dist j k ds es u hjk h1 h2 h3
def wipeR (ρ : Rho) : List Nat → Rho
  | [] => ρ
  | v :: vs => (wipeR ρ vs).set v none
theorem Good.wiped (g : Good W F H σ ρ) : ∀ vs : List Nat, Good W F H (wipe σ vs) (wipeR ρ vs)
  | [] => g
  | v :: vs => (Good.wiped g vs).forget v
theorem wipe_get {σ : L2.St} : ∀ {vs : List Nat} {i : Nat}, i < σ.length → (wipe σ vs)[i]? = if i ∈ vs then some none else σ[i]?
  | [], i, _ => by simp [wipe]
  | v :: vs, i, hi => by
    unfold wipe
    have hw := wipe_length σ vs
    by_cases h : v = i
    · subst h
      rw [List.getElem?_set_self (by rw [hw]; exact hi), if_pos (by simp)]
    · rw [List.getElem?_set_ne h, wipe_get hi]
      have : (i ∈ v :: vs) ↔ i ∈ vs := by simp [Ne.symm h]
      simp [this]
theorem wipe_ext {σ τ : L2.St} {vs : List Nat} (hl : σ.length = τ.length) (h : ∀ i, i ∉ vs → σ[i]? = τ[i]?) : wipe σ vs = wipe τ vs := by
  apply List.ext_getElem?
  intro i
  by_cases hi : i < σ.length
  · rw [wipe_get hi, wipe_get (by rw [← hl]; exact hi)]
    by_cases hm : i ∈ vs
    · rw [if_pos hm, if_pos hm]
    · rw [if_neg hm, if_neg hm]; exact h i hm
  · rw [List.getElem?_eq_none (by rw [wipe_length]; omega), List.getElem?_eq_none (by rw [wipe_length]; omega)]
mutual
theorem gOf_ok : ∀ (t : Tgt) {F H : Hp} {σ : L2.St} {ρ ρ' : Rho} {v : V} {d : D} {Q : L2.St → Hp → Prop}, Good W F H σ ρ → Dp W.K F v d → bindT t d ρ = some ρ' →
    (∀ σ', Good W F H σ' ρ' → σ'.length = σ.length → (∀ i, i ∉ tix t → σ'[i]? = σ[i]?) → Q σ' H) → gOf W.K t v σ H Q
  | .nm i, F, H, σ, ρ, ρ', v, d, Q, g, r, b, k => by
    simp only [bindT] at b
    cases b
    simp only [gOf]
    refine k _ (g.set i r) (by simp) fun j hj => ?_
    simp only [tix, List.mem_singleton] at hj
    exact List.getElem?_set_ne (Ne.symm hj)
  | .tp ts, F, H, σ, ρ, ρ', v, d, Q, g, r, b, k => by
    simp only [bindT] at b
    cases d with
    | tuple ds =>
      obtain ⟨a, xs, rfl, h1, h2⟩ := tuple_inv r
      simp only [gOf]
      have key := gsOf_ok ts g h2 b k
      refine ⟨a, xs, rfl, sqT_mono g.st.ex h1, ?_, key.2⟩
      rw [da_len h2]; exact key.1
    | _ => cases b
theorem gsOf_ok : ∀ (ts : List Tgt) {F H : Hp} {σ : L2.St} {ρ ρ' : Rho} {vs : List V} {ds : List D} {Q : L2.St → Hp → Prop}, Good W F H σ ρ → DpAll W.K F vs ds → bindTs ts ds ρ = some ρ' →
    (∀ σ', Good W F H σ' ρ' → σ'.length = σ.length → (∀ i, i ∉ tixs ts → σ'[i]? = σ[i]?) → Q σ' H) → ds.length = ts.length ∧ gsOf W.K ts vs σ H Q
  | [], F, H, σ, ρ, ρ', vs, ds, Q, g, r, b, k => by
    cases r with
    | nil =>
      simp only [bindTs] at b
      cases b
      simp only [gsOf]
      exact ⟨rfl, rfl, k _ g rfl fun _ _ => rfl⟩
    | cons a t => simp [bindTs] at b
  | t :: ts, F, H, σ, ρ, ρ', vs, ds, Q, g, r, b, k => by
    cases r with
    | nil => simp [bindTs] at b
    | @cons v vr d dr a r =>
      simp only [bindTs] at b
      cases hb : bindT t d ρ with
      | none => rw [hb] at b; cases b
      | some ρ1 =>
        rw [hb] at b
        simp only [gsOf]
        -- the length by a dry run
        have hlen : dr.length = ts.length := by
          have := gsOf_len ts dr ρ1 ρ' b
          exact this
        refine ⟨by simp [hlen], v, vr, rfl, ?_⟩
        refine gOf_ok t g a hb fun σ1 g1 l1 n1 => ?_
        refine (gsOf_ok ts g1 r b fun σ2 g2 l2 n2 => ?_).2
        refine k σ2 g2 (l2.trans l1) fun i hi => ?_
        simp only [tixs, List.mem_append, not_or] at hi
        exact (n2 i hi.2).trans (n1 i hi.1)
theorem gsOf_len : ∀ (ts : List Tgt) (ds : List D) (ρ ρ' : Rho), bindTs ts ds ρ = some ρ' → ds.length = ts.length
  | [], ds, ρ, ρ', b => by
    cases ds with
    | nil => rfl
    | cons d ds => simp [bindTs] at b
  | t :: ts, ds, ρ, ρ', b => by
    cases ds with
    | nil => simp [bindTs] at b
    | cons d ds =>
      simp only [bindTs] at b
      cases hb : bindT t d ρ with
      | none => rw [hb] at b; cases b
      | some ρ1 =>
        rw [hb] at b
        simp [gsOf_len ts ds ρ1 ρ' b]
end
end

/-! ### iteration -/
def ItD (W : Wd) (F1 : Hp) (J : It) (ds : List D) : Prop := ∀ F H, Sub F1 F → Stp W.rs F H F H → (∀ i, i < ds.length → J.go i H) ∧ J.stop ds.length H ∧
  ∀ i x H', i < ds.length → J.yld i H x H' → ∃ F' d, Stp W.rs F H F' H' ∧ Dp W.K F' x d ∧ ds[i]? = some d
def iD (W : Wd) (ρ : Rho) (Φ : List D → Prop) : TI := fun σ H R => ∃ F, Good W F H σ ρ ∧ ∀ F' H' J ds, Stp W.rs F H F' H' → ItD W F' J ds → Φ ds → R J H'
def PId (X : Cx) (W : Wd) (tg iter : Expr) (ρ : Rho) (Φ : List D → Prop) : Prop := PI X tg iter (iD W ρ Φ)
theorem ItD.walk {W : Wd} {F1 : Hp} {J : It} {ds : List D} (h : ItD W F1 J ds) : Walk J ds.length (fun H => ∃ F, Sub F1 F ∧ Stp W.rs F H F H) J.yld :=
  ⟨fun i H hi ⟨F, a, b⟩ => (h F H a b).1 i hi, fun H ⟨F, a, b⟩ => (h F H a b).2.1, fun _ _ _ _ _ _ y => y⟩
theorem PI.weak {X : Cx} {tg it : Expr} {t t' : TI} (h : PI X tg it t) (i : ∀ σ H R, t' σ H R → t σ H R) : PI X tg it t' := ⟨fun pins s σ H R I hq => h.run pins s σ H R I (i _ _ _ hq)⟩
section
variable {X : Cx} {W : Wd} {ρ : Rho} {tg iter e a b c elt : Expr} {pos p p1 p2 : Pos} {Φ : List D → Prop}
theorem pid_list (hK : X.K = W.K) (h : PEd X W iter ρ fun d => asL d Φ) : PId X W tg iter ρ Φ := by
  refine PI.weak (L2.pi_list (PE.univ X iter)) fun σ H R ⟨F, g, k⟩ => ?_
  refine h.use g fun F1 H1 v d s1 g1 r p => ?_
  replace p := asL_elim p
  obtain ⟨ds, rfl, p⟩ := p
  replace r := list_inv r
  obtain ⟨q, xs, rfl, h1, h2⟩ := r
  refine ⟨q, rfl, ⟨xs, by rw [hK]; exact sqL_mono g1.st.ex h1⟩, ?_⟩
  rw [hK]
  refine k F1 H1 _ ds s1 (fun F2 H2 sub s2 => ?_) p
  have hq : SqL W.K H2 q xs := sqL_mono (fun b o e => s2.ex b o (sub b o e)) h1
  have w := walk_list (K := W.K) (a := q) (xs := xs)
  refine ⟨fun i hi => w.goes i H2 (by rw [da_len h2]; exact hi) hq, by rw [← da_len h2]; exact w.stops H2 hq, fun i x H' hi y => ?_⟩
  obtain ⟨rfl, hx⟩ := w.yields i H2 x H' (by rw [da_len h2]; exact hi) hq y
  obtain ⟨d, e1, e2⟩ := da_get' h2 hx
  exact ⟨F2, d, s2, dp_mono sub _ _ e2, e1⟩
theorem pid_tup (hK : X.K = W.K) (h : PEd X W iter ρ fun d => asT d Φ) : PId X W tg iter ρ Φ := by
  refine PI.weak (L2.pi_tup (PE.univ X iter)) fun σ H R ⟨F, g, k⟩ => ?_
  refine h.use g fun F1 H1 v d s1 g1 r p => ?_
  replace p := asT_elim p
  obtain ⟨ds, rfl, p⟩ := p
  replace r := tuple_inv r
  obtain ⟨q, xs, rfl, h1, h2⟩ := r
  refine ⟨q, rfl, ⟨xs, by rw [hK]; exact sqT_mono g1.st.ex h1⟩, ?_⟩
  rw [hK]
  refine k F1 H1 _ ds s1 (fun F2 H2 sub s2 => ?_) p
  have hq : SqT W.K H2 q xs := sqT_mono (fun b o e => s2.ex b o (sub b o e)) h1
  have w := walk_tup (K := W.K) (a := q) (xs := xs)
  refine ⟨fun i hi => w.goes i H2 (by rw [da_len h2]; exact hi) hq, by rw [← da_len h2]; exact w.stops H2 hq, fun i x H' hi y => ?_⟩
  obtain ⟨rfl, hx⟩ := w.yields i H2 x H' (by rw [da_len h2]; exact hi) hq y
  obtain ⟨d, e1, e2⟩ := da_get' h2 hx
  exact ⟨F2, d, s2, dp_mono sub _ _ e2, e1⟩
def rangeD (lo : Int) (n : Nat) : List D := (List.range n).map fun (i : Nat) => PyData.int (lo + (i : Int))
theorem rangeD_length (lo : Int) (n : Nat) : (rangeD lo n).length = n := by simp [rangeD]
theorem rangeD_get {lo : Int} {n i : Nat} (h : i < n) : (rangeD lo n)[i]? = some (.int (lo + i)) := by simp [rangeD, h]
theorem itD_range {lo : Int} {n : Nat} {F1 : Hp} : ItD W F1 (Itr lo n) (rangeD lo n) := fun F H sub s => by
  have w := walk_range (lo := lo) (n := n)
  refine ⟨fun i hi => w.goes i H (by rw [rangeD_length] at hi; exact hi) trivial, by rw [rangeD_length]; exact w.stops H trivial, fun i x H' hi y => ?_⟩
  rw [rangeD_length] at hi
  obtain ⟨rfl, hx⟩ := w.yields i H x H' hi trivial y
  subst hx
  exact ⟨F, _, s, .int _, rangeD_get hi⟩
theorem pid_range1 (hm : X.mg "range" = none) (h : PAd X W [a] ρ fun ens => asDs ens fun ds => as1 ds fun d => asI d fun j => (-(2 ^ 62) ≤ j ∧ j < 2 ^ 62) ∧ Φ (rangeD 0 j.toNat)) (hg : Gl X "range" := by rfl)
    (hs : starEach [a] X.env = [(false, eval a X.env)] := by rfl) : PId X W tg (.Call (.Name "range" p) [a] [] pos) ρ Φ := by
  refine PI.weak (L2.pi_range1 hg hm (PA.univ X _) hs) fun σ H R ⟨F, g, k⟩ => ?_
  refine h.use g fun F1 H1 vs ens s1 g1 r p => ?_
  replace p := asDs_elim p
  obtain ⟨ds, rfl, p⟩ := p
  replace p := as1_elim p
  obtain ⟨d, rfl, p⟩ := p
  replace r := da1 (ensR_dat r)
  obtain ⟨v, rfl, r⟩ := r
  replace p := asI_elim p
  obtain ⟨j, rfl, ⟨l1, l2⟩, p⟩ := p
  exact ⟨j, by rw [int_inv r], l1, l2, k F1 H1 _ _ s1 itD_range p⟩
theorem pid_range2 (hm : X.mg "range" = none) (h : PAd X W [a, b] ρ fun ens => asDs ens fun ds => as2 ds fun d e => asI d fun i => asI e fun j => (-(2 ^ 62) ≤ i ∧ i < 2 ^ 62 ∧ -(2 ^ 62) ≤ j ∧ j < 2 ^ 62) ∧ Φ (rangeD i (j - i).toNat)) (hg : Gl X "range" := by rfl)
    (hs : starEach [a, b] X.env = [(false, eval a X.env), (false, eval b X.env)] := by rfl) (hs2 : starEach [b] X.env = [(false, eval b X.env)] := by rfl) : PId X W tg (.Call (.Name "range" p) [a, b] [] pos) ρ Φ := by
  refine PI.weak (L2.pi_range2 hg hm (PA.univ X _) hs hs2) fun σ H R ⟨F, g, k⟩ => ?_
  refine h.use g fun F1 H1 vs ens s1 g1 r p => ?_
  replace p := asDs_elim p
  obtain ⟨ds, rfl, p⟩ := p
  replace p := as2_elim p
  obtain ⟨d, d', rfl, p⟩ := p
  replace r := da2 (ensR_dat r)
  obtain ⟨v, v', rfl, r1, r2⟩ := r
  replace p := asI_elim p
  obtain ⟨i, rfl, p⟩ := p
  replace p := asI_elim p
  obtain ⟨j, rfl, l, p⟩ := p
  exact ⟨i, j, by rw [int_inv r1, int_inv r2], l, k F1 H1 _ _ s1 itD_range p⟩

/-! ### comprehensions -/
/-- in the block of a comprehension -/
abbrev PEb (X : Cx) (W : Wd) (scope : Scope) (e : Expr) (ρ : Rho) (Φ : D → Prop) : Prop := ∀ (s : Shared) (H : Hp) (C : Addr) (cl : List (Str × Addr)) (fp : List Addr), PEd (X.blk s H scope (compEnvC scope cl C X.env) fp) W e ρ Φ
abbrev PTb (X : Cx) (W : Wd) (scope : Scope) (e : Expr) (ρ : Rho) (Φ : Bool → Prop) : Prop := ∀ (s : Shared) (H : Hp) (C : Addr) (cl : List (Str × Addr)) (fp : List Addr), PTd (X.blk s H scope (compEnvC scope cl C X.env) fp) W e ρ Φ
def uEb (X : Cx) (scope : Scope) (e : Expr) : TE := fun σ H Q => ∃ t : TE, (∀ (s : Shared) (H : Hp) (C : Addr) (cl : List (Str × Addr)) (fp : List Addr), PE (X.blk s H scope (compEnvC scope cl C X.env) fp) e t) ∧ t σ H Q
def uTb (X : Cx) (scope : Scope) (e : Expr) : TT := fun σ H Q => ∃ t : TT, (∀ (s : Shared) (H : Hp) (C : Addr) (cl : List (Str × Addr)) (fp : List Addr), PT (X.blk s H scope (compEnvC scope cl C X.env) fp) e t) ∧ t σ H Q
theorem pe_ub {X : Cx} {scope : Scope} {e : Expr} (s : Shared) (H : Hp) (C : Addr) (cl : List (Str × Addr)) (fp : List Addr) : PE (X.blk s H scope (compEnvC scope cl C X.env) fp) e (uEb X scope e) := ⟨fun pins s' σ H' Q I ⟨_, h, q⟩ => (h s H C cl fp).run pins s' σ H' Q I q⟩
theorem pt_ub {X : Cx} {scope : Scope} {e : Expr} (s : Shared) (H : Hp) (C : Addr) (cl : List (Str × Addr)) (fp : List Addr) : PT (X.blk s H scope (compEnvC scope cl C X.env) fp) e (uTb X scope e) := ⟨fun pins s' σ H' Q I ⟨_, h, q⟩ => (h s H C cl fp).run pins s' σ H' Q I q⟩
/-- one turn: the target, the test, the element -/
def LcW (X : Cx) (W : Wd) (scope : Scope) (t : Tgt) (own : List (Str × Nat)) (turn : Rho → (D → Prop) → Prop → Prop) (ρ : Rho) (Φ : List D → Prop) (ds : List D) : Prop :=
  ∃ I : Nat → List D → Prop, I 0 [] ∧ ds.length ≤ 100000 ∧ (∀ i d acc, ds[i]? = some d → I i acc → acc.length ≤ i → ∃ ρ', bindT t d (wipeR ρ (own.map (·.2))) = some ρ' ∧ turn ρ' (fun y => I (i + 1) (acc ++ [y])) (I (i + 1) acc)) ∧ ∀ acc, I ds.length acc → acc.length ≤ ds.length → Φ acc
theorem lc_key {t : Tgt} {own : List (Str × Nat)} {scope : Scope} {tt : TT} {te : TE} {turn : Rho → (D → Prop) → Prop → Prop} (hix : ∀ i ∈ tix t, i ∈ own.map (·.2))
    (ht : ∀ ρ' A B F H σ (Q : Hp → Prop) (R : V → Hp → Prop), turn ρ' A B → Good W F H σ ρ' → (∀ F' H' v d, Stp W.rs F H F' H' → Dp W.K F' v d → A d → R v H') → (∀ F' H', Stp W.rs F H F' H' → B → Q H') → tt σ H fun b H3 => if b = true then te σ H3 R else Q H3)
    {σ : L2.St} {H : Hp} {Q : VK} {F : Hp} (g : Good W F H σ ρ) (k : ∀ F' H' p xs ds, Stp W.rs F H F' H' → H' p = some (.lst xs) → F' p = none → (NoT H p ∧ p ∉ W.rs.dk) → DpAll W.K F' xs ds → Φ ds → Q (.ref p) H') :
    tLc (iD W ρ (LcW X W scope t own turn ρ Φ)) (gOf W.K t) tt te (own.map (·.2)) σ H Q := by
  refine ⟨F, g, fun F1 H1 J ds s1 hit ⟨I, i0, hlen, hturn, hend⟩ => ?_⟩
  intro Dl hD
  have g1 := g.step s1
  have hDk : Dl ∉ W.rs.dk := fun z => g1.st.dal Dl z hD
  obtain ⟨m1, m2, m3⟩ := fresh_back g.self s1 hD
  have hF1D : F1 Dl = none := by
    cases z : F1 Dl with
    | none => rfl
    | some o => rw [g1.st.ex _ _ z] at hD; cases hD
  refine lc_it hit.walk (fun i H' => ∃ F' xs acc, Stp W.rs F1 H1 F' H' ∧ F' Dl = none ∧ H' Dl = some (.lst xs) ∧ DpAll W.K F' xs acc ∧ I i acc ∧ acc.length ≤ i) ?_ ?_ ?_ ?_
  · exact ⟨F1, [], [], g1.self.newO hD, hF1D, upd_same, .nil, i0, Nat.le_refl _⟩
  · intro i H' hi ⟨F', xs, acc, s, h1, h2, h3, h4, h5⟩
    exact ⟨F', s.old, s.refl⟩
  · intro i x H2 H2' hi ⟨F', xs, acc, s, h1, h2, h3, h4, h5⟩ y
    obtain ⟨F2, d, s2, rx, hd⟩ := (hit F' H2 s.old s.refl).2.2 i x H2' hi y
    obtain ⟨ρ', hb, hp⟩ := hturn i d acc hd h4 h5
    have gw : Good W F2 H2' (wipe σ (own.map (·.2))) (wipeR ρ (own.map (·.2))) := ((g1.step s).step s2).wiped _
    refine gOf_ok t gw rx hb fun σ2 g2 l2 n2 => ⟨wipe_ext ?_ fun i hi => ?_, ?_⟩
    · rw [l2, wipe_length]
    · rw [n2 i fun z => hi (hix i z)]
      by_cases hl : i < σ.length
      · rw [wipe_get hl, if_neg hi]
      · rw [List.getElem?_eq_none (by rw [wipe_length]; omega), List.getElem?_eq_none (by omega)]
    · have sD := s.trans s2
      refine ht ρ' _ _ F2 H2' σ2 _ _ hp g2 (fun F4 H4 v dv s4 rv q => ?_) (fun F4 H4 s4 q => ?_)
      · have sE := sD.trans s4
        have e4 : H4 Dl = some (.lst xs) := (s2.trans s4).keepL h2 hDk
        have f4 : F4 Dl = none := by
          cases z : F4 Dl with
          | none => rfl
          | some o =>
            rcases (s2.trans s4).new _ _ z with y | y
            · rw [h1] at y; cases y
            · exact (y.lst h2).elim
        refine ⟨xs, e4, ?_, F4, xs ++ [v], acc ++ [dv], sE.change e4 f4 (.of hD) hDk, f4, upd_same, da_append (dpAll_mono (s2.trans s4).old _ _ h3) (.cons rv .nil), q, by simp; omega⟩
        rw [da_len h3, sizeLine_eq]
        omega
      · have sE := sD.trans s4
        have e4 : H4 Dl = some (.lst xs) := (s2.trans s4).keepL h2 hDk
        have f4 : F4 Dl = none := by
          cases z : F4 Dl with
          | none => rfl
          | some o =>
            rcases (s2.trans s4).new _ _ z with y | y
            · rw [h1] at y; cases y
            · exact (y.lst h2).elim
        exact ⟨F4, xs, acc, sE, f4, e4, dpAll_mono (s2.trans s4).old _ _ h3, q, by omega⟩
  · intro H' ⟨F', xs, acc, s, h1, h2, h3, h4, h5⟩
    exact k F' H' Dl xs acc (s1.trans s) h2 h1 ⟨m2, m3⟩ h3 (hend acc h4 h5)
abbrev turn1 (X : Cx) (W : Wd) (scope : Scope) (elt : Expr) : Rho → (D → Prop) → Prop → Prop := fun ρ' A _ => PEb X W scope elt ρ' A
abbrev turnIf (X : Cx) (W : Wd) (scope : Scope) (c elt : Expr) : Rho → (D → Prop) → Prop → Prop := fun ρ' A B => PTb X W scope c ρ' fun k => (k = true → PEb X W scope elt ρ' A) ∧ (k = false → B)
theorem pn_lc (t : Tgt) {own : List (Str × Nat)} {scope : Scope} (hc : X.calm = true) (hN : X.N.Nodup) (ok : BlkOk X.N X.env.scope scope own)
    (hg : ∀ (s : Shared) (H : Hp) (C : Addr) (cl : List (Str × Addr)) (fp : List Addr), PG (X.blk s H scope (compEnvC scope cl C X.env) fp) tg (gOf W.K t)) (hix : ∀ i ∈ tix t, i ∈ own.map (·.2))
    (h : PId X W tg iter ρ (LcW X W scope t own (turn1 X W scope elt) ρ Φ)) (hs : ∀ x, foldedSetIterable iter X.env x = pure x := by intro _; rfl) :
    PEn X W (.ListComp elt [⟨tg, iter, [], 0⟩] scope pos) ρ Φ := by
  refine PEn.of (pe_lc hc hN h ok hg (fun _ _ _ _ _ => pts_nil) (fun s H C cl fp => pe_ub s H C cl fp) hs) fun σ H Q F g k => lc_key hix (fun ρ' A B F H σ Q R hp g ka kb => ?_) g k
  show (if true = true then uEb X scope elt σ H R else Q H)
  rw [if_pos rfl]
  exact ⟨_, hp, F, g, ka⟩
theorem pn_lcIf (t : Tgt) {own : List (Str × Nat)} {scope : Scope} (hc : X.calm = true) (hN : X.N.Nodup) (ok : BlkOk X.N X.env.scope scope own)
    (hg : ∀ (s : Shared) (H : Hp) (C : Addr) (cl : List (Str × Addr)) (fp : List Addr), PG (X.blk s H scope (compEnvC scope cl C X.env) fp) tg (gOf W.K t)) (hix : ∀ i ∈ tix t, i ∈ own.map (·.2))
    (h : PId X W tg iter ρ (LcW X W scope t own (turnIf X W scope c elt) ρ Φ)) (hs : ∀ x, foldedSetIterable iter X.env x = pure x := by intro _; rfl) :
    PEn X W (.ListComp elt [⟨tg, iter, [c], 0⟩] scope pos) ρ Φ := by
  refine PEn.of (pe_lc hc hN h ok hg (fun s H C cl fp => pts_one (pt_ub s H C cl fp)) (fun s H C cl fp => pe_ub s H C cl fp) hs) fun σ H Q F g k => lc_key hix (fun ρ' A B F H σ Q R hp g ka kb => ?_) g k
  refine ⟨_, hp, F, g, fun F1 H1 kb' s1 pp => ?_⟩
  cases kb' with
  | true =>
    rw [if_pos rfl]
    exact ⟨_, pp.1 rfl, F1, g.step s1, fun F' H' v d s => ka F' H' v d (s1.trans s)⟩
  | false =>
    rw [if_neg Bool.false_ne_true]
    exact kb F1 H1 s1 (pp.2 rfl)
end
end TR

set_option maxRecDepth 100000
set_option maxHeartbeats 4000000
/-! T4: statements, own lists, a def's body. -/
namespace TR
open PySem PySem.Spec PyProof.Rows L2
theorem Sub.trans {F F1 F2 : Hp} (a : Sub F F1) (b : Sub F1 F2) : Sub F F2 := fun x o h => b x o (a x o h)
section
variable {X : Cx} {W : Wd} {ρ : Rho} {Ψ : Post} {e a b c : Expr} {es : List Expr} {pos p p1 p2 : Pos} {x : Str} {st : Stmt} {rest A B body : List Stmt}

/-! ### blocks -/
theorem psd_nil (q : Ψ.nx ρ) : PSsd X W [] ρ Ψ := PSs.weak pss_nil fun D σ H ⟨F, g, n, _⟩ => n F H σ ρ g (fun _ _ h => h) q
theorem psd_cons (h : PSd X W st ρ { Ψ with nx := fun ρ' => PSsd X W rest ρ' Ψ }) : PSsd X W (st :: rest) ρ Ψ := by
  refine PSs.weak (pss_cons (PS.univ X st) (PSs.univ X rest)) fun D σ H ⟨F, g, n, r, bk, ct⟩ => ?_
  refine ⟨_, h, F, g, fun F' H' σ' ρ' g' sub q => ?_, r, bk, ct⟩
  exact ⟨_, q, F', g', fun F2 H2 σ2 ρ2 g2 s2 => n F2 H2 σ2 ρ2 g2 (Sub.trans sub s2), r, fun F2 H2 σ2 ρ2 g2 s2 => bk F2 H2 σ2 ρ2 g2 (Sub.trans sub s2), fun F2 H2 σ2 ρ2 g2 s2 => ct F2 H2 σ2 ρ2 g2 (Sub.trans sub s2)⟩
theorem psd_pass (q : Ψ.nx ρ) : PSd X W (.Pass pos) ρ Ψ := PS.weak ps_pass fun D σ H ⟨F, g, n, _⟩ => n F H σ ρ g (fun _ _ h => h) q
theorem psd_break (q : Ψ.bk ρ) : PSd X W (.Break pos) ρ Ψ := PS.weak ps_break fun D σ H ⟨F, g, _, _, n, _⟩ => n F H σ ρ g (fun _ _ h => h) q
theorem psd_continue (q : Ψ.ct ρ) : PSd X W (.Continue pos) ρ Ψ := PS.weak ps_continue fun D σ H ⟨F, g, _, _, _, n⟩ => n F H σ ρ g (fun _ _ h => h) q
theorem psd_ret (h : PEd X W e ρ Ψ.rt) : PSd X W (.Return (some e) pos) ρ Ψ := by
  refine PS.weak (ps_ret (PE.univ X e)) fun D σ H ⟨F, g, n, r, _⟩ => ?_
  exact h.use g fun F1 H1 v d s1 g1 rv q => r F1 H1 v d g1.st rv q
theorem psd_expr (h : PEd X W e ρ fun _ => Ψ.nx ρ) (hs : swapsWith e none pos.line X.env = pure false := by rfl) : PSd X W (.Expr e pos) ρ Ψ := by
  refine PS.weak (ps_expr (PE.univ X e) hs) fun D σ H ⟨F, g, n, _⟩ => ?_
  exact h.use g fun F1 H1 v d s1 g1 rv q => n F1 H1 σ ρ g1 s1.old q
theorem psd_if (h : PTd X W c ρ fun k => (k = true → PSsd X W A ρ Ψ) ∧ (k = false → PSsd X W B ρ Ψ)) : PSd X W (.If c A B pos) ρ Ψ := by
  refine PS.weak (ps_if (PT.univ X c) (PSs.univ X A) (PSs.univ X B)) fun D σ H ⟨F, g, n, r, bk, ct⟩ => ?_
  refine h.use g fun F1 H1 k s1 g1 q => ?_
  have fin : ∀ {S : List Stmt}, PSsd X W S ρ Ψ → uSs X S D σ H1 := fun {S} hS =>
    ⟨_, hS, F1, g1, fun F2 H2 σ2 ρ2 g2 s2 => n F2 H2 σ2 ρ2 g2 (Sub.trans s1.old s2), r, fun F2 H2 σ2 ρ2 g2 s2 => bk F2 H2 σ2 ρ2 g2 (Sub.trans s1.old s2), fun F2 H2 σ2 ρ2 g2 s2 => ct F2 H2 σ2 ρ2 g2 (Sub.trans s1.old s2)⟩
  cases k with
  | true => rw [if_pos rfl]; exact fin (q.1 rfl)
  | false => rw [if_neg Bool.false_ne_true]; exact fin (q.2 rfl)

/-! ### stores -/
theorem psd_asg (i : Nat) (hN : X.N.Nodup) (hi : X.N[i]? = some x) (h : PEd X W e ρ fun d => Ψ.nx (ρ.set i (some (.dat d)))) (hx : Loc X.env.scope x := by first | exact Or.inl rfl | exact Or.inr rfl)
    (hs : swapsWith e (some (.Name x p)) pos.line X.env = pure false := by rfl) (hf : X.fn x = true ∨ X.env.scope.names.lookup x = some .local := by first | exact .inl rfl | exact .inr rfl | assumption) : PSd X W (.Assign [.Name x p] e pos) ρ Ψ := by
  refine PS.weak (ps_set hN hi hx (PE.univ X e) hs hf) fun D σ H ⟨F, g, n, _⟩ => ?_
  exact h.use g fun F1 H1 v d s1 g1 rv q => n F1 H1 _ _ (g1.set i rv) s1.old q
theorem own_new {F H F' H' : Hp} {σ : L2.St} (g : Good W F H σ ρ) (s : Stp W.rs F H F' H') {q : Addr} (hq : NoT H q ∧ q ∉ W.rs.dk) : NoT W.H0 q ∧ q ∉ W.rs.dk ∧ ∀ (j : Nat) (es : List D), ρ[j]? = some (some (.own es)) → σ[j]? ≠ some (some (.ref q)) := by
  obtain ⟨hq, hd⟩ := hq
  refine ⟨fun o z => ?_, hd, fun j es h1 h2 => ?_⟩
  · by_cases ht : ∃ ps, o = .tbl ps
    · exact ht
    · exact hq o (g.st.keep _ _ z hd fun ps e => ht ⟨ps, e⟩)
  · obtain ⟨v, e1, a, xs, rfl, e2, _⟩ := g.env j _ h1
    rw [h2] at e1
    cases e1
    exact (hq.lst e2).elim
theorem psd_asgN (i : Nat) (hN : X.N.Nodup) (hi : X.N[i]? = some x) (h : PEn X W e ρ fun ds => Ψ.nx (ρ.set i (some (.own ds)))) (hx : Loc X.env.scope x := by first | exact Or.inl rfl | exact Or.inr rfl)
    (hs : swapsWith e (some (.Name x p)) pos.line X.env = pure false := by rfl) (hf : X.fn x = true ∨ X.env.scope.names.lookup x = some .local := by first | exact .inl rfl | exact .inr rfl | assumption) : PSd X W (.Assign [.Name x p] e pos) ρ Ψ := by
  refine PS.weak (ps_set hN hi hx (PE.univ X e) hs hf) fun D σ H ⟨F, g, n, _⟩ => ?_
  refine h.use g fun F1 H1 q xs ds s1 g1 h1 h2 h3 r f => ?_
  obtain ⟨k1, k2, k3⟩ := own_new g s1 h3
  exact n F1 H1 _ _ (g1.setOwn i h1 h2 k1 k2 r k3) s1.old f
/-- name = [elt for ..] on one line, the list one's own -/
theorem psd_lcN (i : Nat) (t : Tgt) {own : List (Str × Nat)} {scope : Scope} {tg iter elt : Expr} (hc : X.calm = true) (hN : X.N.Nodup) (hi : X.N[i]? = some x) (hyl : X.env.scope.names.lookup x = some .local)
    (hsw : swapsWith (.ListComp elt [⟨tg, iter, [], 0⟩] scope pos) (some (.Name x p)) p2.line X.env = pure true) (ok : BlkOk X.N X.env.scope scope own)
    (hg : ∀ (s : Shared) (H : Hp) (C : Addr) (cl : List (Str × Addr)) (fp : List Addr), PG (X.blk s H scope (compEnvC scope cl C X.env) fp) tg (gOf W.K t)) (hix : ∀ i ∈ tix t, i ∈ own.map (·.2))
    (h : PId X W tg iter ρ (LcW X W scope t own (turn1 X W scope elt) ρ fun ds => Ψ.nx (ρ.set i (some (.own ds))))) (hs : ∀ x, foldedSetIterable iter X.env x = pure x := by intro _; rfl) :
    PSd X W (.Assign [.Name x p] (.ListComp elt [⟨tg, iter, [], 0⟩] scope pos) p2) ρ Ψ := by
  refine PS.weak (ps_setLc hc hN hi hyl hsw h ok hg (fun _ _ _ _ _ => pts_nil) (fun s H C cl fp => pe_ub s H C cl fp) hs) fun D σ H ⟨F, g, n, _⟩ => lc_key hix (fun ρ' A B F H σ Q R hp g ka kb => ?_) g fun F1 H1 q xs ds s1 h1 h2 h3 r f => ?_
  · show (if true = true then uEb X scope elt σ H R else Q H)
    rw [if_pos rfl]
    exact ⟨_, hp, F, g, ka⟩
  · obtain ⟨k1, k2, k3⟩ := own_new g s1 h3
    exact n F1 H1 _ _ ((g.step s1).setOwn i h1 h2 k1 k2 r k3) s1.old f
theorem psd_lcIfN (i : Nat) (t : Tgt) {own : List (Str × Nat)} {scope : Scope} {tg iter elt : Expr} (hc : X.calm = true) (hN : X.N.Nodup) (hi : X.N[i]? = some x) (hyl : X.env.scope.names.lookup x = some .local)
    (hsw : swapsWith (.ListComp elt [⟨tg, iter, [c], 0⟩] scope pos) (some (.Name x p)) p2.line X.env = pure true) (ok : BlkOk X.N X.env.scope scope own)
    (hg : ∀ (s : Shared) (H : Hp) (C : Addr) (cl : List (Str × Addr)) (fp : List Addr), PG (X.blk s H scope (compEnvC scope cl C X.env) fp) tg (gOf W.K t)) (hix : ∀ i ∈ tix t, i ∈ own.map (·.2))
    (h : PId X W tg iter ρ (LcW X W scope t own (turnIf X W scope c elt) ρ fun ds => Ψ.nx (ρ.set i (some (.own ds))))) (hs : ∀ x, foldedSetIterable iter X.env x = pure x := by intro _; rfl) :
    PSd X W (.Assign [.Name x p] (.ListComp elt [⟨tg, iter, [c], 0⟩] scope pos) p2) ρ Ψ := by
  refine PS.weak (ps_setLc hc hN hi hyl hsw h ok hg (fun s H C cl fp => pts_one (pt_ub s H C cl fp)) (fun s H C cl fp => pe_ub s H C cl fp) hs) fun D σ H ⟨F, g, n, _⟩ => lc_key hix (fun ρ' A B F H σ Q R hp g ka kb => ?_) g fun F1 H1 q xs ds s1 h1 h2 h3 r f => ?_
  · refine ⟨_, hp, F, g, fun F1 H1 kb' s1 pp => ?_⟩
    cases kb' with
    | true =>
      rw [if_pos rfl]
      exact ⟨_, pp.1 rfl, F1, g.step s1, fun F' H' v d s => ka F' H' v d (s1.trans s)⟩
    | false =>
      rw [if_neg Bool.false_ne_true]
      exact kb F1 H1 s1 (pp.2 rfl)
  · obtain ⟨k1, k2, k3⟩ := own_new g s1 h3
    exact n F1 H1 _ _ ((g.step s1).setOwn i h1 h2 k1 k2 r k3) s1.old f
/-- a target of any form -/
theorem psd_asgT (t : Tgt) {tg : Expr} (hK : X.K = W.K) (hg : PG X tg (gOf X.K t)) (h : PEd X W e ρ fun d => ∃ ρ', bindT t d ρ = some ρ' ∧ Ψ.nx ρ') (hs : swapsWithSole [tg] e pos.line X.env = pure false := by rfl) (hw : swappedStores [tg] e X.env = pure none := by rfl)
    (h1 : (assignEach [tg] X.env).map (·.2) = [assign tg X.env] := by rfl) : PSd X W (.Assign [tg] e pos) ρ Ψ := by
  refine PS.weak (ps_asg (PE.univ X e) hg hs hw h1) fun D σ H ⟨F, g, n, _⟩ => ?_
  refine h.use g fun F1 H1 v d s1 g1 rv ⟨ρ', hb, q⟩ => ?_
  rw [hK]
  exact gOf_ok t g1 rv hb fun σ' g' _ _ => n F1 H1 _ _ g' s1.old q
/-- two names at once, both data -/
theorem psd_par (i j : Nat) {y : Str} {a b : Expr} {px py pt : Pos} {kt k2 : Nat} {pt2 : Pos} (hc : X.calm = true) (hN : X.N.Nodup) (hi : X.N[i]? = some x) (hj : X.N[j]? = some y) (hij : i ≠ j)
    (hx : X.env.scope.names.lookup x = some .local) (hy : X.env.scope.names.lookup y = some .local) (h : PAd X W [a, b] ρ fun ens => asDs ens fun ds => as2 ds fun d e => Ψ.nx ((ρ.set i (some (.dat d))).set j (some (.dat e))))
    (hw : swappedStores [.Tuple [.Name x px, .Name y py] kt pt] (.Tuple [a, b] k2 pt2) X.env = pure (some [x, y]) := by rfl)
    (hs : swapsWithSole [.Tuple [.Name x px, .Name y py] kt pt] (.Tuple [a, b] k2 pt2) pos.line X.env = pure false := by rfl) : PSd X W (.Assign [.Tuple [.Name x px, .Name y py] kt pt] (.Tuple [a, b] k2 pt2) pos) ρ Ψ := by
  refine PS.weak (ps_par hc hN hi hj hij hx hy (PA.univ X _) hw hs) fun D σ H ⟨F, g, n, _⟩ => ?_
  refine h.use g fun F1 H1 vs ens s1 g1 r q => ?_
  replace q := asDs_elim q
  obtain ⟨ds, rfl, q⟩ := q
  replace q := as2_elim q
  obtain ⟨d, d', rfl, q⟩ := q
  replace r := da2 (ensR_dat r)
  obtain ⟨v, v', rfl, r1, r2⟩ := r
  exact ⟨v, v', rfl, n F1 H1 _ _ ((g1.set i r1).set j r2) s1.old q⟩
/-- x += e, whole numbers -/
theorem psd_augAdd (i : Nat) {n : Int} (hN : X.N.Nodup) (hi : X.N[i]? = some x) (hρ : ρ[i]? = some (some (.dat (.int n)))) (h : PEd X W e ρ fun d => asI d fun m => Ψ.nx (ρ.set i (some (.dat (.int (n + m)))))) (hx : Loc X.env.scope x := by first | exact Or.inl rfl | exact Or.inr rfl)
    (hf : X.fn x = true ∨ X.env.scope.names.lookup x = some .local := by first | exact .inl rfl | exact .inr rfl | assumption) : PSd X W (.AugAssign (.Name x p) .Add e pos) ρ Ψ := by
  refine PS.weak (ps_aug hN hi hx (PE.univ X e) ip_add hf) fun D σ H ⟨F, g, k, _⟩ => ?_
  obtain ⟨v, e1, e2⟩ := g.env i _ hρ
  have e3 : v = .int n := int_inv e2
  subst e3
  refine ⟨.int n, e1, ?_⟩
  refine h.use g fun F1 H1 v d s1 g1 rv q => ?_
  replace q := asI_elim q
  obtain ⟨m, rfl, q⟩ := q
  exact ⟨n, m, rfl, int_inv rv, k F1 H1 _ _ (g1.set i (.int (n + m))) s1.old q⟩

/-! ### loops -/
theorem psd_for (t : Tgt) {tg iter : Expr} (hc : X.calm = true) (hK : X.K = W.K) (hp : PassesOwn (model X.prog X.w) X.A X.env X.xe) (hg : PG X tg (gOf X.K t))
    (h : PId X W tg iter ρ fun ds => ∃ I : Nat → Rho → Prop, I 0 ρ ∧ (∀ i d ρ1, ds[i]? = some d → I i ρ1 → ∃ ρ2, bindT t d ρ1 = some ρ2 ∧ PSsd X W body ρ2 { nx := I (i + 1), ct := I (i + 1), bk := Ψ.nx, rt := Ψ.rt }) ∧ ∀ ρ1, I ds.length ρ1 → Ψ.nx ρ1)
    (hs : ∀ x, foldedSetIterable iter X.env x = pure x := by intro _; rfl) : PSd X W (.For tg iter body [] pos) ρ Ψ := by
  refine PS.weak (ps_for hp hc h hg (PSs.univ X body) hs) fun D σ H ⟨F, g, n, r, _, _⟩ => ?_
  refine ⟨F, g, fun F1 H1 J ds s1 hit ⟨I, i0, hturn, hend⟩ => ?_⟩
  have g1 := g.step s1
  refine for_it hit.walk (fun i σ' H' => ∃ F' ρ', Good W F' H' σ' ρ' ∧ Sub F1 F' ∧ I i ρ') ⟨F1, ρ, g1, fun _ _ h => h, i0⟩ (fun i σ' H' hi ⟨F', ρ', g', sub, _⟩ => ⟨F', sub, g'.self⟩) (fun i v σ' H' H2 hi ⟨F', ρ', g', sub, hI⟩ y => ?_) (fun σ' H' ⟨F', ρ', g', sub, hI⟩ => n F' H' σ' ρ' g' (Sub.trans s1.old sub) (hend ρ' hI))
  obtain ⟨F2, d, s2, rv, hd⟩ := (hit F' H' sub g'.self).2.2 i v H2 hi y
  obtain ⟨ρ2, hb, hS⟩ := hturn i d ρ' hd hI
  rw [hK]
  refine gOf_ok t (g'.step s2) rv hb fun σ2 g2 _ _ => ?_
  have sub2 : Sub F1 F2 := Sub.trans sub s2.old
  exact ⟨_, hS, F2, g2, fun F3 H3 σ3 ρ3 g3 s3 q => ⟨F3, ρ3, g3, Sub.trans sub2 s3, q⟩, r, fun F3 H3 σ3 ρ3 g3 s3 q => n F3 H3 σ3 ρ3 g3 (Sub.trans s1.old (Sub.trans sub2 s3)) q, fun F3 H3 σ3 ρ3 g3 s3 q => ⟨F3, ρ3, g3, Sub.trans sub2 s3, q⟩⟩
theorem psd_while (I : Nat → Rho → Prop) (m0 : Nat) (hp : PassesOwn (model X.prog X.w) X.A X.env X.xe) (h0 : I m0 ρ)
    (h : ∀ m ρ1, I m ρ1 → PTd X W c ρ1 fun k => (k = true → PSsd X W body ρ1 { nx := fun ρ2 => ∃ m', m' < m ∧ I m' ρ2, ct := fun ρ2 => ∃ m', m' < m ∧ I m' ρ2, bk := Ψ.nx, rt := Ψ.rt }) ∧ (k = false → Ψ.nx ρ1)) : PSd X W (.While c body [] pos) ρ Ψ := by
  refine PS.weak (ps_while hp (PT.univ X c) (PSs.univ X body)) fun D σ H ⟨F, g, n, r, _, _⟩ => ?_
  refine ⟨fun m σ' H' => ∃ F' ρ', Good W F' H' σ' ρ' ∧ Sub F F' ∧ I m ρ', ⟨m0, F, ρ, g, fun _ _ h => h, h0⟩, fun m σ' H' ⟨F', ρ', g', sub, hI⟩ => ?_⟩
  refine (h m ρ' hI).use g' fun F1 H1 k s1 g1 q => ?_
  have sub1 : Sub F F1 := Sub.trans sub s1.old
  cases k with
  | true =>
    rw [if_pos rfl]
    refine ⟨fun σ3 H3 => ∃ m', m' < m ∧ ∃ F' ρ', Good W F' H3 σ3 ρ' ∧ Sub F F' ∧ I m' ρ', fun σ3 H3 z => z, ?_⟩
    exact ⟨_, q.1 rfl, F1, g1, fun F3 H3 σ3 ρ3 g3 s3 ⟨m', lt, hI'⟩ => ⟨m', lt, F3, ρ3, g3, Sub.trans sub1 s3, hI'⟩, r, fun F3 H3 σ3 ρ3 g3 s3 q => n F3 H3 σ3 ρ3 g3 (Sub.trans sub1 s3) q, fun F3 H3 σ3 ρ3 g3 s3 ⟨m', lt, hI'⟩ => ⟨m', lt, F3, ρ3, g3, Sub.trans sub1 s3, hI'⟩⟩
  | false =>
    rw [if_neg Bool.false_ne_true]
    exact n F1 H1 _ _ g1 sub1 (q.2 rfl)

/-! ### one's own lists -/
theorem Good.ownUpd {F H : Hp} {σ : L2.St} (g : Good W F H σ ρ) {i : Nat} {ds ds' : List D} {q : Addr} {xs' : List V} (hρ : ρ[i]? = some (some (.own ds))) (hσ : σ[i]? = some (some (.ref q))) (r : DpAll W.K F xs' ds') :
    Good W F (upd H q (.lst xs')) σ (ρ.set i (some (.own ds'))) := by
  obtain ⟨v, e1, a, xs, rfl, h1, h2, h3, h4, h5⟩ := g.env i _ hρ
  rw [hσ] at e1
  cases e1
  have hl : i < ρ.length := by
    by_cases hl : i < ρ.length
    · exact hl
    · rw [List.getElem?_eq_none (by omega)] at hρ; cases hρ
  refine ⟨g.st.change h1 h2 h3 h4, by simp [g.len], fun j en h => ?_, fun j k es fs u hjk f1 f2 f3 => ?_⟩
  · by_cases hj : i = j
    · subst hj
      rw [List.getElem?_set_self hl] at h
      cases h
      exact ⟨.ref q, hσ, q, xs', rfl, upd_same, h2, h3, h4, r⟩
    · rw [List.getElem?_set_ne hj] at h
      obtain ⟨v, k1, k2⟩ := g.env j en h
      refine ⟨v, k1, ?_⟩
      cases en with
      | dat d => exact k2
      | raw u => exact k2
      | own es =>
        obtain ⟨b, ys, rfl, l1, l2, l3, l4, l5⟩ := k2
        refine ⟨b, ys, rfl, ?_, l2, l3, l4, l5⟩
        rw [upd_ne fun z => ?_]
        · exact l1
        · subst z
          exact g.dist i j ds es _ hj hρ h hσ k1
  · have hj' : ∃ es', ρ[j]? = some (some (.own es')) := by
      by_cases hj : i = j
      · subst hj; exact ⟨ds, hρ⟩
      · rw [List.getElem?_set_ne hj] at f1; exact ⟨es, f1⟩
    have hk' : ∃ es', ρ[k]? = some (some (.own es')) := by
      by_cases hk : i = k
      · subst hk; exact ⟨ds, hρ⟩
      · rw [List.getElem?_set_ne hk] at f2; exact ⟨fs, f2⟩
    obtain ⟨es', q1⟩ := hj'
    obtain ⟨fs', q2⟩ := hk'
    exact g.dist j k es' fs' u hjk q1 q2 f3
/-- xs.append(e), xs one's own -/
theorem psd_append (i : Nat) {ds : List D} (hK : X.K = W.K) (hN : X.N[i]? = some x) (hρ : ρ[i]? = some (some (.own ds))) (h : PEd X W e ρ fun d => ds.length < 100000 ∧ Ψ.nx (ρ.set i (some (.own (ds ++ [d])))))
    (hv : Vis X.env.scope x := by first | exact Or.inl rfl | exact Or.inr (Or.inl rfl) | exact Or.inr (Or.inr rfl)) (hd : (x == ("__debug__" : Str)) = false := by decide) (hcd : (x == ("__classdict__" : Str)) = false := by decide)
    (hbase : attributeBase (.Name x p) "append" X.env (eval (.Name x p) X.env) = eval (.Name x p) X.env := by rfl)
    (hfew : ((backTo p2 (starEach [e] X.env)).all (fun x => !x.1) && (backToKw p2 (keywordEach [] X.env)).all (fun x => x.1.isSome)
      && decide ([e].length + ([] : List Keyword).length + (if ([] : List Keyword).isEmpty then 0 else 1) < 30)) = true := by rfl)
    (hline : (p1.endLine == p2.line) = true := by rfl) (hst : starEach [e] X.env = (false, eval e X.env) :: starEach [] X.env := by rfl) (hplain : (backTo p2 (starEach [] X.env)).any (·.1) = false := by rfl)
    (hs : swapsWith (.Call (.Attribute (.Name x p) "append" p1) [e] [] p2) none pos.line X.env = pure false := by rfl) :
    PSd X W (.Expr (.Call (.Attribute (.Name x p) "append" p1) [e] [] p2) pos) ρ Ψ := by
  refine PS.weak (ps_expr (pe_bm PySem.F.plainAttrs_list PySem.F.slot_list_append PySem.F.type_list_append mt_append (pe_var hN hv hd hcd) (L2.pa_cons (PE.univ X e) L2.pa_nil hst) hbase hfew hline hst hplain) hs) fun D σ H ⟨F, g, n, _⟩ => ?_
  obtain ⟨v, e1, a, xs, rfl, h1, h2, h3, h4, h5⟩ := g.env i _ hρ
  refine ⟨.ref a, e1, .inl ⟨rfl, xs, .inl (.inl h1)⟩, ?_⟩
  refine h.use g fun F1 H1 v d s1 g1 rv ⟨hl, q⟩ => ?_
  have h1' := s1.keepL h1 h4
  refine ⟨a, xs, v, rfl, rfl, h1', by rw [da_len h5, sizeLine_eq]; omega, ?_⟩
  exact n F1 _ σ _ (g1.ownUpd hρ e1 (da_append (dpAll_mono s1.old _ _ h5) (.cons rv .nil))) s1.old q
/-- xs.extend(new list) -/
theorem psd_extend (i : Nat) {ds : List D} (hK : X.K = W.K) (hN : X.N[i]? = some x) (hρ : ρ[i]? = some (some (.own ds))) (h : PEn X W e ρ fun es => ds.length + es.length ≤ 100000 ∧ Ψ.nx (ρ.set i (some (.own (ds ++ es)))))
    (hv : Vis X.env.scope x := by first | exact Or.inl rfl | exact Or.inr (Or.inl rfl) | exact Or.inr (Or.inr rfl)) (hd : (x == ("__debug__" : Str)) = false := by decide) (hcd : (x == ("__classdict__" : Str)) = false := by decide)
    (hbase : attributeBase (.Name x p) "extend" X.env (eval (.Name x p) X.env) = eval (.Name x p) X.env := by rfl)
    (hfew : ((backTo p2 (starEach [e] X.env)).all (fun x => !x.1) && (backToKw p2 (keywordEach [] X.env)).all (fun x => x.1.isSome)
      && decide ([e].length + ([] : List Keyword).length + (if ([] : List Keyword).isEmpty then 0 else 1) < 30)) = true := by rfl)
    (hline : (p1.endLine == p2.line) = true := by rfl) (hst : starEach [e] X.env = (false, eval e X.env) :: starEach [] X.env := by rfl) (hplain : (backTo p2 (starEach [] X.env)).any (·.1) = false := by rfl)
    (hs : swapsWith (.Call (.Attribute (.Name x p) "extend" p1) [e] [] p2) none pos.line X.env = pure false := by rfl) :
    PSd X W (.Expr (.Call (.Attribute (.Name x p) "extend" p1) [e] [] p2) pos) ρ Ψ := by
  refine PS.weak (ps_expr (pe_bm PySem.F.plainAttrs_list PySem.F.slot_list_extend PySem.F.type_list_extend mt_extend (pe_var hN hv hd hcd) (L2.pa_cons (PE.univ X e) L2.pa_nil hst) hbase hfew hline hst hplain) hs) fun D σ H ⟨F, g, n, _⟩ => ?_
  obtain ⟨v, e1, a, xs, rfl, h1, h2, h3, h4, h5⟩ := g.env i _ hρ
  refine ⟨.ref a, e1, .inl ⟨rfl, xs, .inl (.inl h1)⟩, ?_⟩
  refine h.use g fun F1 H1 q ys es s1 g1 k1 k2 k3 rv ⟨hl, f⟩ => ?_
  have h1' := s1.keepL h1 h4
  refine ⟨a, q, xs, ys, rfl, rfl, h1', k1, by rw [da_len h5, da_len rv, sizeLine_eq]; omega, ?_⟩
  exact n F1 _ σ _ (g1.ownUpd hρ e1 (da_append (dpAll_mono s1.old _ _ h5) rv)) s1.old f
/-- xs[k] = e -/
theorem psd_setitem (i : Nat) {ds : List D} (hK : X.K = W.K) (hN : X.N[i]? = some x) (hρ : ρ[i]? = some (some (.own ds))) (h : PEd X W e ρ fun d => PEd X W b ρ fun y => asI y fun k => ∃ j, ixN ds.length k = some j ∧ Ψ.nx (ρ.set i (some (.own (ds.set j d)))))
    (hv : Vis X.env.scope x := by first | exact Or.inl rfl | exact Or.inr (Or.inl rfl) | exact Or.inr (Or.inr rfl)) (hd : (x == ("__debug__" : Str)) = false := by decide) (hcd : (x == ("__classdict__" : Str)) = false := by decide)
    (ha : ∀ v, assign (.Subscript (.Name x p) b p1) X.env v = (do
      let ov ← holding [v] (eval (.Name x p) X.env)
      let iv ← holding [v, ov] (eval b X.env)
      standAt p1
      holding [v, ov, iv] (setItem ov iv v)
      release [v, ov, iv] []) := by intro _; rfl)
    (hs : swapsWithSole [.Subscript (.Name x p) b p1] e pos.line X.env = pure false := by rfl) (hw : swappedStores [.Subscript (.Name x p) b p1] e X.env = pure none := by rfl)
    (h1 : (assignEach [.Subscript (.Name x p) b p1] X.env).map (·.2) = [assign (.Subscript (.Name x p) b p1) X.env] := by rfl) :
    PSd X W (.Assign [.Subscript (.Name x p) b p1] e pos) ρ Ψ := by
  refine PS.weak (ps_asg (PE.univ X e) (pg_sub (pe_var hN hv hd hcd) (PE.univ X b) set_list ha) hs hw h1) fun D σ H ⟨F, g, n, _⟩ => ?_
  refine h.use g fun F1 H1 v d s1 g1 rv q => ?_
  obtain ⟨u, e1, a, xs, rfl, h1, h2, h3, h4, h5⟩ := g1.env i _ hρ
  refine ⟨.ref a, e1, ?_⟩
  refine PEd.use q g1 fun F2 H2 y dy s2 g2 ry q => ?_
  replace q := asI_elim q
  obtain ⟨k, rfl, j, hj, q⟩ := q
  refine ⟨a, xs, k, j, rfl, int_inv ry, s2.keepL h1 h4, by rw [da_len h5]; exact hj, ?_⟩
  exact n F2 _ σ _ (g2.ownUpd hρ e1 (da_set (dp_mono s2.old _ _ rv) j (dpAll_mono s2.old _ _ h5))) (Sub.trans s1.old s2.old) q
/-- from here on it is data -/
theorem Good.frozen {F H : Hp} {σ : L2.St} (g : Good W F H σ ρ) {i : Nat} {ds : List D} (hρ : ρ[i]? = some (some (.own ds))) : ∃ a xs, σ[i]? = some (some (.ref a)) ∧ H a = some (.lst xs) ∧ F a = none ∧ a ∉ W.rs.dk ∧ DpAll W.K F xs ds ∧ Good W (upd F a (.lst xs)) H σ (ρ.set i (some (.dat (.list ds)))) := by
  obtain ⟨v, e1, a, xs, rfl, h1, h2, h3, h4, h5⟩ := g.env i _ hρ
  have sub : Sub F (upd F a (.lst xs)) := fun b o e => by rw [upd_ne (ne_of_none e h2)]; exact e
  have hl : i < ρ.length := by
    by_cases hl : i < ρ.length
    · exact hl
    · rw [List.getElem?_eq_none (by omega)] at hρ; cases hρ
  refine ⟨a, xs, e1, h1, h2, h4, h5, g.st.freeze h1 h2 h3 h4, by simp [g.len], fun j en h => ?_, fun j k es fs u hjk f1 f2 f3 => ?_⟩
  · by_cases hj : i = j
    · subst hj
      rw [List.getElem?_set_self hl] at h
      cases h
      exact ⟨.ref a, e1, .lst (.inl (.inl upd_same)) (dpAll_mono sub _ _ h5)⟩
    · rw [List.getElem?_set_ne hj] at h
      obtain ⟨v, k1, k2⟩ := g.env j en h
      refine ⟨v, k1, ?_⟩
      cases en with
      | dat d => exact dp_mono sub _ _ k2
      | raw u => exact k2
      | own es =>
        obtain ⟨b, ys, rfl, l1, l2, l3, l4, l5⟩ := k2
        refine ⟨b, ys, rfl, l1, ?_, l3, l4, dpAll_mono sub _ _ l5⟩
        rw [upd_ne fun z => ?_]
        · exact l2
        · subst z
          exact g.dist i j ds es _ hj hρ h e1 k1
  · have n1 : i ≠ j := fun z => by subst z; rw [List.getElem?_set_self hl] at f1; cases f1
    have n2 : i ≠ k := fun z => by subst z; rw [List.getElem?_set_self hl] at f2; cases f2
    rw [List.getElem?_set_ne n1] at f1
    rw [List.getElem?_set_ne n2] at f2
    exact g.dist j k es fs u hjk f1 f2 f3
theorem psd_freeze (i : Nat) {ds : List D} (hρ : ρ[i]? = some (some (.own ds))) (h : PSsd X W body (ρ.set i (some (.dat (.list ds)))) Ψ) : PSsd X W body ρ Ψ := by
  refine PSs.weak (PSs.univ X body) fun D σ H ⟨F, g, n, r, bk, ct⟩ => ?_
  obtain ⟨a, xs, e1, h1, h2, h4, h5, g'⟩ := g.frozen hρ
  have sub : Sub F (upd F a (.lst xs)) := fun b o e => by rw [upd_ne (ne_of_none e h2)]; exact e
  exact ⟨_, h, _, g', fun F2 H2 σ2 ρ2 g2 s2 => n F2 H2 σ2 ρ2 g2 (Sub.trans sub s2), r, fun F2 H2 σ2 ρ2 g2 s2 => bk F2 H2 σ2 ρ2 g2 (Sub.trans sub s2), fun F2 H2 σ2 ρ2 g2 s2 => ct F2 H2 σ2 ρ2 g2 (Sub.trans sub s2)⟩
/-! lent: an own list read as data by an expression whose value holds no list -/
mutual
def nl : D → Bool
  | .list _ => false
  | .tuple ds => nls ds
  | _ => true
def nls : List D → Bool
  | [] => true
  | d :: ds => nl d && nls ds
end
mutual
theorem dp_less {K : PySem.W.Frag} {F : Hp} {q : Addr} {xs : List V} (hq : F q = some (.lst xs)) : ∀ (d : D) (v : V), nl d = true → Dp K F v d → Dp K (fun b => if b = q then none else F b) v d
  | .none, _, _, h => by cases h; exact .non
  | .bool b, _, _, h => by cases h; exact .bl b
  | .int i, _, _, h => by cases h; exact .int i
  | .str s, _, _, h => by cases h; exact .str s
  | .list ds, _, n, h => by simp [nl] at n
  | .tuple ds, _, n, h => by
    cases h with
    | @tup a ys _ hs ha =>
      refine .tup ?_ (dpAll_less hq ds _ (by simpa [nl] using n) ha)
      rcases hs with (h | ⟨o, h⟩) | h
      · exact .inl (.inl ((if_neg (fun z => by rw [z, hq] at h; cases h)).trans h))
      · exact .inl (.inr ⟨o, (if_neg (fun z => by rw [z, hq] at h; cases h)).trans h⟩)
      · exact .inr h
  | .dict _, _, _, h => by cases h
theorem dpAll_less {K : PySem.W.Frag} {F : Hp} {q : Addr} {xs : List V} (hq : F q = some (.lst xs)) : ∀ (ds : List D) (vs : List V), nls ds = true → DpAll K F vs ds → DpAll K (fun b => if b = q then none else F b) vs ds
  | [], _, _, h => by cases h; exact .nil
  | d :: ds, _, n, h => by
    cases h with
    | cons h1 h2 =>
      simp only [nls, Bool.and_eq_true] at n
      exact .cons (dp_less hq d _ n.1 h1) (dpAll_less hq ds _ n.2 h2)
end
theorem Stp.lent {r : Rs} {F H F' H' : Hp} {q : Addr} {xs : List V} (hH : H q = some (.lst xs)) (hF : F q = none) (hd : q ∉ r.dk) (s : Stp r (upd F q (.lst xs)) H F' H') : F' q = some (.lst xs) ∧ Stp r F H (fun b => if b = q then none else F' b) H' := by
  have e : F' q = some (.lst xs) := s.old _ _ upd_same
  refine ⟨e, fun b o h => ?_, fun b o h => ?_, s.keep, fun b o h => ?_, fun b hb => ?_, s.dal, fun b o h => ?_, s.dw⟩
  · by_cases hb : b = q
    · rw [if_pos hb] at h; cases h
    · rw [if_neg hb] at h; exact s.ex b o h
  · have hb : b ≠ q := ne_of_none h hF
    rw [if_neg hb]
    exact s.old b o (by rw [upd_ne hb]; exact h)
  · by_cases hb : b = q
    · rw [if_pos hb] at h; cases h
    · rw [if_neg hb] at h
      rcases s.new b o h with z | z
      · rw [upd_ne hb] at z; exact .inl z
      · exact .inr z
  · by_cases hb' : b = q
    · rw [if_pos hb']
    · rw [if_neg hb']; exact s.fdk b hb
  · by_cases hb : b = q
    · rw [if_pos hb] at h; cases h
    · rw [if_neg hb] at h; exact s.fnt b o h
theorem pd_lend (i : Nat) {ds : List D} {Φ : D → Prop} (hρ : ρ[i]? = some (some (.own ds))) (h : PEd X W e (ρ.set i (some (.dat (.list ds)))) fun d => nl d = true ∧ Φ d) : PEd X W e ρ Φ := by
  refine PE.weak (PE.univ X e) fun σ H Q ⟨F, g, k⟩ => ?_
  obtain ⟨a, xs, e1, h1, h2, h4, h5, g'⟩ := g.frozen hρ
  refine ⟨_, h, _, g', fun F' H' v d s r p => ?_⟩
  obtain ⟨z, s'⟩ := Stp.lent h1 h2 h4 s
  exact k _ H' v d s' (dp_less z d v p.1 r) p.2
theorem pt_lend (i : Nat) {ds : List D} {Φ : Bool → Prop} (hρ : ρ[i]? = some (some (.own ds))) (h : PTd X W e (ρ.set i (some (.dat (.list ds)))) Φ) : PTd X W e ρ Φ := by
  refine PT.weak (PT.univ X e) fun σ H Q ⟨F, g, k⟩ => ?_
  obtain ⟨a, xs, e1, h1, h2, h4, h5, g'⟩ := g.frozen hρ
  refine ⟨_, h, _, g', fun F' H' b s p => ?_⟩
  obtain ⟨z, s'⟩ := Stp.lent h1 h2 h4 s
  exact k _ H' b s' p
/-- xs[k], xs one's own, its item whatever it is -/
theorem pd_ownIx (i : Nat) {ds : List D} {Φ : D → Prop} (hK : X.K = W.K) (hN : X.N[i]? = some x) (hρ : ρ[i]? = some (some (.own ds))) (h : PEd X W b ρ fun y => asI y fun k => ∃ d, atI ds k = some d ∧ Φ d) (hs : PlainIx b := by exact fun _ _ => rfl)
    (hv : Vis X.env.scope x := by first | exact Or.inl rfl | exact Or.inr (Or.inl rfl) | exact Or.inr (Or.inr rfl)) (hd : (x == ("__debug__" : Str)) = false := by decide) (hcd : (x == ("__classdict__" : Str)) = false := by decide) :
    PEd X W (.Subscript (.Name x p) b pos) ρ Φ := by
  refine PEd.of (pe_ix ix_list (pe_var hN hv hd hcd) (PE.univ X b) hs) fun σ H Q F g k => ?_
  obtain ⟨v, e1, a, xs, rfl, h1, h2, h3, h4, h5⟩ := g.env i _ hρ
  refine ⟨.ref a, e1, ?_⟩
  refine h.use g fun F1 H1 y dy s1 g1 ry q => ?_
  replace q := asI_elim q
  obtain ⟨n, rfl, d, hd, q⟩ := q
  have key : ∃ v, atI xs n = some v ∧ Dp W.K F v d := by
    unfold atI at hd ⊢
    rw [da_len h5]
    cases hj : ixN ds.length n with
    | none => rw [hj] at hd; simp at hd
    | some j =>
      rw [hj] at hd
      exact da_get h5 (by simpa using hd)
  obtain ⟨v, e2, e3⟩ := key
  exact ⟨a, xs, n, v, rfl, int_inv ry, .inl (.inl (s1.keepL h1 h4)), e2, k F1 H1 v d s1 (dp_mono s1.old _ _ e3) q⟩
end

/-! ### a def's body -/
def rho0 (N : List Str) (ens : List En) : Rho := ens.map some ++ List.replicate (N.length - ens.length) none
theorem good0 {rs : Rs} {K : PySem.W.Frag} {F H : Hp} {N : List Str} {vs : List V} {ens : List En} (s : Stp rs F H F H) (r : EnsR K F vs ens) : Good ⟨rs, K, F, H⟩ F H (L2.start N vs) (rho0 N ens) := by
  have hl := r.len
  refine ⟨s, by simp [L2.start, rho0, hl], fun i e h => ?_, fun i j ds es v hij h1 h2 h3 => ?_⟩
  · unfold rho0 at h
    unfold L2.start
    by_cases hi : i < ens.length
    · rw [List.getElem?_append_left (by simpa using hi)] at h
      rw [List.getElem?_append_left (by simpa [hl] using hi)]
      simp only [List.getElem?_map] at h ⊢
      have key : ∀ {vs : List V} {ens : List En} {i : Nat} {e : En}, EnsR K F vs ens → ens[i]? = some e → ∃ v, vs[i]? = some v ∧ EnC K F v e := by
        intro vs ens i e r
        induction r generalizing i with
        | nil => intro h; simp at h
        | cons a t ih =>
          intro h
          cases i with
          | zero => simp at h; subst h; exact ⟨_, rfl, a⟩
          | succ i =>
            obtain ⟨v, h1, h2⟩ := ih (i := i) (by simpa using h)
            exact ⟨v, by simpa using h1, h2⟩
      cases he : ens[i]? with
      | none => rw [he] at h; simp at h
      | some e' =>
        rw [he] at h
        simp at h
        subst h
        obtain ⟨v, h1, h2⟩ := key r he
        refine ⟨v, by rw [h1]; rfl, ?_⟩
        cases e' with
        | dat d => exact h2
        | raw u => exact h2
        | own _ => exact h2.elim
    · rw [List.getElem?_append_right (by simpa using hi)] at h
      rw [List.getElem?_replicate] at h
      split at h <;> simp at h
  · unfold rho0 at h1
    by_cases hi : i < ens.length
    · rw [List.getElem?_append_left (by simpa using hi)] at h1
      simp only [List.getElem?_map] at h1
      have key : ∀ {vs : List V} {ens : List En} {i : Nat} {ds : List D}, EnsR K F vs ens → ens[i]? = some (.own ds) → False := by
        intro vs ens i ds r
        induction r generalizing i with
        | nil => intro h; simp at h
        | cons a t ih =>
          intro h
          cases i with
          | zero => simp at h; subst h; exact a
          | succ i => exact ih (i := i) (by simpa using h)
      cases he : ens[i]? with
      | none => rw [he] at h1; simp at h1
      | some e' =>
        rw [he] at h1
        simp at h1
        subst h1
        exact (key r he).elim
    · rw [List.getElem?_append_right (by simpa using hi)] at h1
      rw [List.getElem?_replicate] at h1
      split at h1 <;> simp at h1
section
variable {P : Program} {w : World} {K : PySem.W.Frag} {mg : Str → Option Value} {base : Heap} {rs : Rs}
/-- the context of a def's body -/
abbrev bCx (P : Program) (w : World) (K : PySem.W.Frag) (mg : Str → Option Value) (base : Heap) (N : List Str) (x : Str) (st : Stmt) (f : Addr) (cdv : Value) (A : Around) (outer : List Env) (s : Shared) (H : Hp) (E : XK) : Cx :=
  cxOf (L2.CX P w) P w K mg base N x (defScope st) f cdv A outer s H E
theorem fd_mk {x : Str} {st : Stmt} {f : Addr} {fd : FuncData} {N ps : List Str} {k : Nat} {Pr : Pf} (F : Fun K x x st f fd) (hm : mg x = some (.ref f)) (S : FnScope N ps (defScope st))
    (hb : ∀ (kV doc pm : Value) (an : Option Addr) (cdv ct : Value) (us : List Value), us.length = ps.length → bindArgs (PySem.W.fnOf x x (defArgs st) (defBody st) (defScope st) .none kV doc pm an cdv ct) ⟨us, []⟩ = pure (ps.zip us)) (len : ∀ ens Φ, Pr ens Φ → ens.length = ps.length)
    (hbody : ∀ (cdv : Value) (A : Around) (outer : List Env) (s : Shared) (H F0 : Hp) (E : XK) (ens : List En) (Φ : Out → Prop), Room k (bCx P w K mg base N x st f cdv A outer s H E).A → Pr ens Φ →
      TkD (bCx P w K mg base N x st f cdv A outer s H E) ⟨rs, K, F0, H⟩ (fun C d => Φ (.err C d)) →
      PSsd (bCx P w K mg base N x st f cdv A outer s H E) ⟨rs, K, F0, H⟩ (defBody st) (rho0 N ens) { nx := fun _ => Φ (.val .none), rt := fun d => Φ (.val d) }) : Fd P w K mg base rs (k + 1) x st ps Pr := by
  refine ⟨f, fd, hm, F, ?_, ?_⟩
  · obtain ⟨oc, od, kV, doc, pm, an, cdv, ct, osl, rfl, _⟩ := F.ex
    exact fun us hu => hb kV doc pm an cdv ct us hu
  refine F.okX S (fun vs H Q E ⟨F0, ens, Φ, _, r, p, _⟩ => by rw [r.len]; exact len _ _ p) fun cdv A outer s H vs Q E hr ⟨F0, ens, Φ, st0, r, p, kv, ke⟩ => ?_
  have tk : TkD (bCx P w K mg base N x st f cdv A outer s H E) ⟨rs, K, F0, H⟩ (fun C d => Φ (.err C d)) := by
    refine Takes.imp (takes_of (E := E) rfl rfl rfl rfl) fun cls d σ H' ⟨C, d0, F', v, dd, e1, e2, h1, s1, rv, q⟩ => ?_
    subst e1 e2
    exact ke F' H' C d0 v dd s1 h1 rv q
  refine ⟨_, hbody cdv A outer s H F0 E ens Φ hr p tk, F0, good0 st0 r, fun F' H' σ' ρ' g' _ q => kv F' H' .non .none g'.st .non q, fun F' H' v d s1 rv q => kv F' H' v d s1 rv q, fun _ _ _ _ _ _ z => z, fun _ _ _ _ _ _ z => z⟩
end
end TR

set_option maxRecDepth 100000
set_option maxHeartbeats 4000000
/-! T5: the errors of the package: a base class over Exception whose __init__ keeps its argument as thing, classes over it; raised, handed on. -/
namespace TR
open PySem PySem.W PySem.Calls PyProof.Rows PySem.HandSPX
abbrev exTl : List Value := [.type "Exception", .type "BaseException", .type "object"]
/-! ### the text of __init__ -/
def iA (p1 p2 : Pos) : Arguments := { posonlyargs := [], args := [{ arg := "self", annotation := none, pos := p1 }, { arg := "thing", annotation := none, pos := p2 }], vararg := none, kwonlyargs := [], kw_defaults := [], kwarg := none, defaults := [] }
def iB (q1 q2 q3 q4 : Pos) : List Stmt := [.Assign [.Attribute (.Name "self" q1) "thing" q2] (.Name "thing" q3) q4]
def iS : Scope := { kind := .function, names := [(PySem.Str.ofString "self", .local), (PySem.Str.ofString "thing", .local)], isGenerator := false, isCoroutine := false, more := [] }
/-- what the written part says of the class at C (over the base class at C0, whose __init__ stands at fI) -/
structure ErrC (K : Frag) (C C0 fI : Addr) : Prop where
  cls : ∃ nm q N bs sn sub ab col dd k0 k1 k2 k3 k5, K.lookup C = some (excClassObj nm q C N bs (.ref C0 :: exTl) true sn sub ab col dd k0 k1 k2 k3 k5 "Exception.__new__")
  sa : findIn K (.ref C) "__setattr__" = some (some (.builtin "object.__setattr__"))
  noN : findIn K (.ref C) "thing" = some none
  iC : findIn K (.ref C) "__init__" = some (some (.ref fI))
  tC : typeIn K (.ref fI) = some (.type "function")
  kC : keepIn K (.ref C) = true
  exC : subIn K (.ref C) (.type "BaseException") = some true
  tyC : typeIn K (.ref C) = some (.type "type")
  fn : ∃ (oc : Value) (od : Option Addr) (doc pm : Value) (an : Option Addr) (cdv ct : Value) (osl : Array (Option Value)) (p1 p2 q1 q2 q3 q4 : Pos),
    K.lookup fI = some ⟨oc, od, .func (fnOf "__init__" "ToldError.__init__" (iA p1 p2) (iB q1 q2 q3 q4) iS .none .none doc pm an cdv ct), osl⟩ ∧ codeIn K cdv "ToldError.__init__" = true
theorem tl_has (C0 : Addr) (X : String) : (Value.ref C0 :: exTl).contains (.type X) = exTl.contains (.type X) := by rw [List.contains_cons]; rfl
section
open Builtin Builtin.ObjectAttr
variable {prog : Program} {w : World} {A : Around} {E : Value → Shared → Prop} {R : Result → Shared → Prop} {hp : Heap} {g : Array GenState} {d : Drawn} {t : Nat} {os : OsState}
/-- self.thing = v of a fresh error -/
theorem osa_err {K : W.Frag} {name : Str} {tk : Tok} {v : Value} {x C C0 : Addr} {fv : Array Value} {cd : ClassData}
    (X : K.In hp) (hx : hp.get? x = some { cls := .ref C, data := .fields fv }) (hcd : W.clsIn K C = some cd) (hm : cd.mro = .ref C :: .ref C0 :: exTl) (hh : cd.hasDict = true) (ha : W.findIn K (.ref C) name = some none)
    (hq : ∀ h' tk' dx, (∀ b o, b ≠ x → hp.get? b = some o → h'.get? b = some o) → hp.objs.size ≤ dx → dx ≠ x → h'.get? x = some { cls := .ref C, dict := some dx, data := .fields fv } →
      h'.Ns1 dx (fun y => if y = name then some v else none) → R (.ok (.ret .none)) ⟨h', g, d, tk', os⟩) :
    codeAny (model prog w) A (.call (.builtin "object.__setattr__") ⟨[.ref x, .str name tk, v], []⟩) R ⟨hp, g, d, t, os⟩ := by
  have I : W.InstAt hp x { cls := .ref C, data := .fields fv } C none := ⟨hx, rfl, rfl, trivial⟩
  have hxs : x ≠ hp.objs.size := Nat.ne_of_lt (Heap.lt_size hx)
  have SF := F.store_object
  have hob : W.mroIn K C (.type "object") = some true := by
    unfold W.mroIn
    rw [hcd, Option.bind_some, hm, if_neg (show ¬ (List.isEmpty (Value.ref C :: Value.ref C0 :: exTl) = true) from Bool.false_ne_true)]
    rfl
  have sub : W.Looks (model prog w) hp (isInstance (.ref x) (.type "object")) true := I.type.andThen (W.looks_mroIn X hob)
  refine codeAny_call_builtin SF.slot.plain SF.entry (@W.check_slot (model prog w) _ _ ⟨hp, g, d, t, os⟩ "object.__setattr__" "object" "__setattr__" (.ref x) [.str name tk, v] [] _ SF.kind SF.split sub (SF.args (.ref x) (.str name tk) v) ?_)
  have hmr : W.Looks (model prog w) hp (mroOf (.ref C)) cd.mro := (W.looks_clsIn X hcd).andThen .now
  have L3 : W.Looks (model prog w) hp (storeTaker? none) none := .now
  have hpass : refuseLoop (.ref x) "__setattr__" cd.mro = pure () := by
    rw [hm, refuseLoop_ref, refuseLoop_ref]
    exact F.store_Exception.passes _
  rw [W.osa_eq, refuse_eq]
  refine wpAny_bind (wpAny_bind (I.type.at (wpAny_bind (hmr.at ?_))))
  rw [hpass]
  refine wpAny_pure (wpAny_bind (I.type.at (wpAny_bind ((W.looks_findIn X ha).at (wpAny_bind (L3.at ?_))))))
  show wpAny _ _ (storeInOwnDict (.ref x) (.ref C) (.str name tk) name v false) _ _ _
  have hcls : W.Looks (model prog w) hp (classData C) cd := W.looks_clsIn X hcd
  obtain ⟨nm, bs, mro, ns, qn, hd, sn, sb, ab, col, del⟩ := cd
  dsimp only at hh
  subst hh
  unfold storeInOwnDict ownDictForStores
  repeat (first | with_reducible refine HandSPX.store_in_new ?_ ?_ | with_reducible refine wpAny_loadPart_at hx ?_ | with_reducible refine hcls.at ?_ | wp_step)
  · exact ⟨_, #[], _, (Heap.get?_update_ne _ _ _ _ hxs.symm).trans (Heap.get?_push_at rfl rfl), rfl, fun e he => absurd he (by simp), fun _ => rfl⟩
  · intro h' tk' hn' hs
    have hx₁ : (hp.push { cls := .type "dict", data := .dict #[] }).get? x = some { cls := .ref C, data := .fields fv } := Heap.get?_push_of_some _ hx
    refine hq h' tk' hp.objs.size (fun b o hb ho => ?_) (Nat.le_refl _) hxs.symm ?_ hn'
    · exact (hs.2 b (Nat.ne_of_lt (Heap.lt_size ho))).trans ((Heap.get?_update_ne _ _ _ _ hb).trans (Heap.get?_push_of_some _ ho))
    · exact (hs.2 x hxs).trans (Heap.get?_update_self _ hx₁ rfl)
end
theorem ldN {M : Model} {s : Shared} {name : Str} {scope : Scope} {L a : Addr} {cd : Value} {m : Str → Option Value} {x : Str} {pos : Pos} {v : Value} {Q : Value → Shared → Prop} {A : Around} {E : Value → Shared → Prop} (hn : s.heap.Ns L m) (hv : m x = some v) (h : Q v s)
    (hk : scope.kind = .function := by rfl) (hl : (envOfC name scope L a cd).kindOf x = some .local := by rfl) (hd : (x == ("__debug__" : Str)) = false := by decide) :
    wpAny M A (eval (.Name x pos) (envOfC name scope L a cd)) Q E s := wpAny_Name (wpAny_loadName_local hk hl hn hv h) hd
/-- what stands behind the making of an error -/
structure ErrMade (h h' : Heap) (e C d : Addr) (v : Value) : Prop where
  keep : ∀ b o, h.get? b = some o → h'.get? b = some o
  new : h.objs.size ≤ e
  obj : ∃ oe vs, h'.get? e = some oe ∧ oe.cls = .ref C ∧ oe.dict = some d ∧ oe.data = .fields vs ∧ vs[1]? = some .none
  dbig : h.objs.size ≤ d
  dne : d ≠ e
  ns : h'.Ns1 d (fun y => if y = "thing" then some v else none)
section
variable {prog : Program} {w : World} {A : Around} {E : Value → Shared → Prop} {R : Result → Shared → Prop} {s : Shared} {K : Frag} {C C0 fI : Addr}
theorem err_init (T : ErrC K C C0 fI) {x t0 : Addr} {v : Value} (X : K.In s.heap) (hlim : s.heap.NoLimit) (hx : s.heap.get? x = some (excO C t0)) (hroom : A.depth < recursionLimit)
    (hq : ∀ h' tk dx, (∀ b o, b ≠ x → s.heap.get? b = some o → h'.get? b = some o) → h'.get? x = some { cls := .ref C, dict := some dx, data := .fields #[.ref t0, .none, .none, .none, .bool false, .none] } → s.heap.objs.size ≤ dx → dx ≠ x →
      h'.Ns1 dx (fun y => if y = "thing" then some v else none) → R (.ok (.ret .none)) { s with heap := h', toks := tk }) :
    codeAny (model prog w) A (.call (.ref fI) ⟨[.ref x, v], []⟩) R s := by
  obtain ⟨oc, od, doc, pm, an, cdv, ct, osl, p1, p2, q1, q2, q3, q4, ho, hcd⟩ := T.fn
  obtain ⟨nm, q, N, bs, sn, sub, ab, col, dd, k0, k1, k2, k3, k5, hC⟩ := T.cls
  have hcl : clsIn K C = some { name := nm, bases := bs, mro := .ref C :: .ref C0 :: exTl, ns := N, qualname := q, hasDict := true, slotNames := sn, subclasses := sub, abstract := ab, collection := col, hasDel := false } := by unfold clsIn; rw [hC] <;> rfl
  refine Att.call_fn (binds := [("self", .ref x), ("thing", v)]) X hlim ho hcd hroom (BindsTo.of_eq (by first | rfl | with_unfolding_all rfl)) (by first | rfl | decide | with_unfolding_all rfl) (fun s₁ IC => ?_) rfl rfl rfl
  obtain ⟨h₁, tk₁, rfl⟩ := IC.toInCall.same
  have k : ∀ b o, s.heap.get? b = some o → h₁.get? b = some o := IC.toInCall.keep
  have hn := IC.toInCall.ns
  have X₁ : K.In h₁ := X.keeps k
  have hx₁ := k _ _ hx
  show wpAny _ _ (execs _ _) _ _ _
  refine wpAny_execs_cons (plainObj_wpAny_Assign_Attribute ?_)
  refine ldN (v := v) hn (by first | rfl | with_unfolding_all rfl | kernel_rfl) (ldN (v := .ref x) hn (by first | rfl | with_unfolding_all rfl | kernel_rfl) ?_)
  refine set_plain X₁ (ox := excO C t0) (od := none) ⟨hx₁, rfl, rfl, trivial⟩ T.sa ?_
  refine osa_err X₁ hx₁ hcl rfl rfl T.noN (fun h₃ tk₃ dx k₃ dn dne hx₃ hn₃ => ?_)
  show wpAny _ _ (execs _ _) _ _ _
  have z : s.heap.objs.size < h₁.objs.size := hn.lt
  exact wpAny_execs_nil (hq h₃ tk₃ dx (fun b o hb e => k₃ b o hb (k b o e)) hx₃ (Nat.le_of_lt (Nat.lt_of_lt_of_le z dn)) dne hn₃)
theorem err_made (T : ErrC K C C0 fI) {v : Value} (X : K.In s.heap) (hlim : s.heap.NoLimit) (hroom : A.depth + 1 < recursionLimit)
    (hq : ∀ h' tk e d, ErrMade s.heap h' e C d v → R (.ok (.ret (.ref e))) { s with heap := h', toks := tk }) :
    codeAny (model prog w) A (.call (.ref C) ⟨[v], []⟩) R s := by
  obtain ⟨nm, q, N, bs, sn, sub, ab, col, dd, k0, k1, k2, k3, k5, hC⟩ := T.cls
  obtain ⟨hp, g, dr, tk, os⟩ := s
  have k : ∀ b o, hp.get? b = some o → ((hp.push (kdv_tup [v])).push (excO C hp.objs.size)).get? b = some o := fun b o e => Heap.get?_push_of_some _ (Heap.get?_push_of_some _ e)
  have hget : ((hp.push (kdv_tup [v])).push (excO C hp.objs.size)).get? (hp.objs.size + 1) = some (excO C hp.objs.size) := by heap_get
  refine call_own F.excBase_Exception (fun X => tl_has C0 X) (X _ _ hC) (looks_findIn X T.iC) (fun self => bind_fn X self T.tC) (by show 1 ≤ sizeLine; decide) ?_
  refine err_init (s := ⟨(hp.push (kdv_tup [v])).push (excO C hp.objs.size), g, dr, tk, os⟩) T (X.keeps k) (hlim.keeps k) hget (by show A.depth + 1 < recursionLimit; exact hroom) fun h' tk' dx k' hx dn dne hns => ?_
  have old : ∀ b o, hp.get? b = some o → h'.get? b = some o := fun b o e => k' b o (Nat.ne_of_lt (Nat.lt_succ_of_lt (Heap.lt_size e))) (k b o e)
  have z : hp.objs.size + 1 + 1 ≤ dx := by
    have q := dn
    simpa only [Heap.size_push] using q
  exact ⟨rfl, hq h' tk' (hp.objs.size + 1) dx ⟨old, Nat.le_succ _, ⟨_, _, hx, rfl, rfl, rfl, rfl⟩, Nat.le_trans (Nat.le_trans (Nat.le_succ _) (Nat.le_succ _)) z, dne, hns⟩⟩
end
end TR
namespace TR
open PySem PySem.Spec PyProof.Rows L2
theorem relO_thing {v : V} {v' : Value} (r : RelV v v') (f : Str) : RelO (List.lookup f [(("thing" : Str), v)]) (if f = "thing" then some v' else none) := by
  by_cases hw : f = "thing"
  · subst hw
    rw [if_pos rfl]
    have q : List.lookup ("thing" : Str) [(("thing" : Str), v)] = some v := by simp [List.lookup]
    rw [q]
    exact r
  · rw [if_neg hw]
    have qw : (f == ("thing" : Str)) = false := by simpa using hw
    have q2 : List.lookup f [(("thing" : Str), v)] = none := by simp [List.lookup, qw]
    rw [q2]
    trivial
section
variable {X : Cx} {C C0 fI : Addr} {x : Str}
def tMkErr (C : Addr) (te : TE) : L2.St → Hp → XK → Prop := fun σ H Q => te σ H fun v H1 => ∀ d, H1 d = none → Q (.ref C) (some d) (upd H1 d (.xd [(("thing" : Str), v)]))
theorem pmk_err {a : Expr} {te : TE} {p pos : Pos} {k : Nat} (T : ErrC X.K C C0 fI) (gC : X.mg x = some (.ref C)) (hr : Room k X.A) (ha : PE X a te) (hg : Gl X x) (hdb : (x == ("__debug__" : Str)) = false := by decide)
    (he : starEach (a :: []) X.env = (false, eval a X.env) :: starEach [] X.env := by rfl) (hpl : (backTo pos (starEach [] X.env)).any (·.1) = false := by rfl) : PMk X (.Call (.Name x p) [a] [] pos) (tMkErr C te) := by
  intro pins s σ H Q I h
  refine wpAny_Call_Name_kw (ld_glob I hg gC ?_ hdb)
  refine PySem.W.callWith_K (h₀ := X.base) I.ok.mod.kin T.kC (thn ((L2.pa_cons ha L2.pa_nil he).run pos pins s σ H (fun vs H1 => ∃ v, vs = [v] ∧ ∀ d, H1 d = none → Q (.ref C) (some d) (upd H1 d (.xd [(("thing" : Str), v)]))) I (show te σ H _ from ?_)) fun us s1 hh => ?_) he hpl
  · have h' : te σ H fun v H1 => ∀ d, H1 d = none → Q (.ref C) (some d) (upd H1 d (.xd [(("thing" : Str), v)])) := h
    have e : (fun (v : V) (H1 : Hp) => tNil σ H1 fun xs H2 => ∃ u, v :: xs = [u] ∧ ∀ d, H2 d = none → Q (.ref C) (some d) (upd H2 d (.xd [(("thing" : Str), u)]))) = fun v H1 => ∀ d, H1 d = none → Q (.ref C) (some d) (upd H1 d (.xd [(("thing" : Str), v)])) := by
      funext v H1
      apply propext
      constructor
      · rintro ⟨u, e, hu⟩
        cases e
        exact hu
      · exact fun hu => ⟨v, rfl, hu⟩
    rw [e]
    exact h'
  · obtain ⟨vs, H1, I1, r1, v, ev, q1⟩ := hh
    subst ev
    refine ⟨I1.kIn, ?_⟩
    obtain ⟨v', rfl, rv⟩ := vals1 r1
    show wpAny _ _ (call (.ref C) [v']) _ _ _
    have hlim := I1.nolimit
    obtain ⟨hp, g, dr, tk, os⟩ := s1
    refine wpAny_call (err_made T I1.kIn hlim (by have := hr.dp; omega) fun h' tk' e d M => ?_)
    show MkP X pins σ Q (.ref e) ⟨h', g, dr, tk', os⟩
    obtain ⟨oe, fv, hoe, hc, hd, hdat, h1⟩ := M.obj
    have hns := M.ns
    obtain ⟨G', g1, g2⟩ := restrict h' fun b => decide (b ≠ e)
    have gk : ∀ b, b ≠ e → G'.get? b = h'.get? b := fun b hb => g1 b (decide_eq_true hb)
    have ge : G'.get? e = none := g2 e (by simp)
    have old : ∀ b o, hp.get? b = some o → G'.get? b = some o := fun b o q => (gk b (Nat.ne_of_lt (Nat.lt_of_lt_of_le (Heap.lt_size q) M.new))).trans (M.keep b o q)
    have ob : ObjOk X.prog X.w (upd H1 d (.xd [(("thing" : Str), v)])) G' d (.xd [(("thing" : Str), v)]) :=
      ⟨_, hns.at (fun o q => (gk d M.dne).trans q), fun f => relO_thing rv f⟩
    have J : Inv X pins σ (upd H1 d (.xd [(("thing" : Str), v)])) ⟨G', g, dr, tk', os⟩ := I1.laid (t' := tk') old M.dbig ob
    refine ⟨e, oe, fv, ⟨G', g, dr, tk', os⟩, _, .ref C, some d, rfl, J, fun b o q => ?_, ge, hoe, ⟨hc, hd⟩, hdat, h1, ?_, rfl, I1.bare, raises_own T.exC T.tyC, q1 d (I1.hok.fresh M.dbig)⟩
    · by_cases hb : b = e
      · have q' : G'.get? b = some o := q
        rw [hb, ge] at q'; cases q'
      · exact (gk b hb).symm.trans q
    · rw [upd_ne (Ne.symm M.dne)]
      exact I1.hok.fresh M.new
variable {W : Wd} {ρ : Rho} {Ψ : Post} {ΦX : Addr → D → Prop}
/-- raise X(e) -/
theorem psd_raise {a : Expr} {p pos pos2 : Pos} {k : Nat} (T : ErrC X.K C C0 fI) (gC : X.mg x = some (.ref C)) (hc : X.calm = true) (hr : Room k X.A) (tk : TkD X W ΦX) (h : PEd X W a ρ fun d => ΦX C d) (hg : Gl X x) (hdb : (x == ("__debug__" : Str)) = false := by decide)
    (he : starEach (a :: []) X.env = (false, eval a X.env) :: starEach [] X.env := by rfl) (hpl : (backTo pos (starEach [] X.env)).any (·.1) = false := by rfl) : PSd X W (.Raise (some (.Call (.Name x p) [a] [] pos)) none pos2) ρ Ψ := by
  refine PS.weak (ps_raise hc tk (pmk_err T gC hr (PE.univ X a) hg hdb he hpl)) fun D σ H ⟨F, g, _⟩ => ?_
  refine h.use g fun F1 H1 v d s1 g1 rv q => fun dd hdd => ?_
  have s2 := g1.self.newO (o := .xd [(("thing" : Str), v)]) hdd
  exact ⟨C, dd, F1, v, d, rfl, rfl, upd_same, g1.st.trans s2, rv, q⟩
end
end TR

set_option maxRecDepth 100000
set_option maxHeartbeats 4000000
/-! T6: the deck of a law's draws; zip; further rules. -/
namespace TR
open PySem PySem.Spec PyProof.Rows L2

theorem shaped_nil : SeqAt.shaped (.list []) = true := by decide
theorem canLay_ints : ∀ ns : List Int, PyData.canLayAll0 (ns.map PyData.int) = true
  | [] => rfl
  | n :: ns => by simp only [List.map_cons, PyData.canLayAll0, PyData.canLay0, canLay_ints ns, Bool.and_self]
theorem depth_ints : ∀ ns : List Int, PyData.depthAll (ns.map PyData.int) = 0
  | [] => rfl
  | n :: ns => by simp only [List.map_cons, PyData.depthAll, PyData.depth, depth_ints ns]; rfl
theorem shaped_ints (ns : List Int) : SeqAt.shaped (.list (ns.map PyData.int)) = true := by
  unfold SeqAt.shaped
  simp only [PyData.canLay0, canLay_ints, PyData.depth, depth_ints]
  rfl
theorem dk_of {r : Rs} {a l : Addr} (h : r.deck = some (a, l)) : a ∈ r.dk ∧ l ∈ r.dk := by unfold Rs.dk; rw [h]; simp
/-- the deck's own objects change -/
theorem Stp.deckW {r : Rs} {F0 H0 F H : Hp} {a l p : Addr} {o : HO} (s : Stp r F0 H0 F H) (h : r.deck = some (a, l)) (hp : p = a ∨ p = l) (ho : ∀ ps, o ≠ .tbl ps) (hn : DeckOk a l (upd H p o)) : Stp r F0 H0 F (upd H p o) := by
  have hin : p ∈ r.dk := by rcases hp with rfl | rfl; exact (dk_of h).1; exact (dk_of h).2
  obtain ⟨_, m, n, ns, k1, k2, _⟩ := s.dw.deck a l h
  have old : ∃ u, H p = some u ∧ (∀ ps, u ≠ .tbl ps) ∧ (∀ c q, u ≠ LamX.CodeO c q) := by
    rcases hp with rfl | rfl
    · refine ⟨_, k1, (fun _ z => ?_), fun c q z => ?_⟩
      · cases z
      · unfold LamX.CodeO at z
        cases z
    · refine ⟨_, k2, (fun _ z => ?_), fun c q z => ?_⟩
      · cases z
      · unfold LamX.CodeO at z
        cases z
  obtain ⟨u, hu, ht, hc⟩ := old
  refine ⟨fun b v e => ?_, s.old, fun b v e n t => ?_, s.new, s.fdk, fun b hb => ?_, s.fnt, fun a' l' h' => ?_, fun q hq => ?_⟩
  · rw [upd_ne (fun z => by rw [z, s.fdk p hin] at e; cases e)]; exact s.ex b v e
  · rw [upd_ne (fun z : b = p => n (z ▸ hin))]; exact s.keep b v e n t
  · by_cases hb' : b = p
    · rw [hb', upd_same]; simp
    · rw [upd_ne hb']; exact s.dal b hb
  · rw [h] at h'; cases h'; exact hn
  · obtain ⟨ps, e1, e2, e3⟩ := s.dw.tabs q hq
    refine ⟨ps, by rw [upd_ne (fun z => by rw [z, hu] at e1; exact ht ps (Option.some.inj e1))]; exact e1, e2, fun pos cv hcv => ?_⟩
    obtain ⟨c, f1, f2⟩ := e3 pos cv hcv
    exact ⟨c, f1, by rw [upd_ne (fun z => by rw [z, hu] at f2; exact hc _ _ (Option.some.inj f2))]; exact f2⟩
theorem Good.deckW {W : Wd} {ρ : Rho} {σ : L2.St} {F H : Hp} {a l p : Addr} {o : HO} (g : Good W F H σ ρ) (h : W.rs.deck = some (a, l)) (hp : p = a ∨ p = l) (ho : ∀ ps, o ≠ .tbl ps) (hn : DeckOk a l (upd H p o)) : Good W F (upd H p o) σ ρ := by
  have hin : p ∈ W.rs.dk := by rcases hp with rfl | rfl; exact (dk_of h).1; exact (dk_of h).2
  refine ⟨g.st.deckW h hp ho hn, g.len, fun i e he => ?_, g.dist⟩
  obtain ⟨v, k1, k2⟩ := g.env i e he
  refine ⟨v, k1, ?_⟩
  cases e with
  | dat d => exact k2
  | raw u => exact k2
  | own ds =>
    obtain ⟨b, xs, rfl, l1, l2, l3, l4, l5⟩ := k2
    exact ⟨b, xs, rfl, by rw [upd_ne (fun z : b = p => l4 (z ▸ hin))]; exact l1, l2, l3, l4, l5⟩
abbrev kL : Key := .inr "left"
abbrev kM : Key := .inr "mixed"
abbrev kD : Key := .inr "draws"
abbrev deckKv (l : Addr) (m n : Int) : List (Key × V) := [(kL, .ref l), (kM, .int m), (kD, .int n)]
theorem deckKv_get (l : Addr) (m n : Int) : valV (deckKv l m n) kL = some (.ref l) ∧ valV (deckKv l m n) kM = some (.int m) ∧ valV (deckKv l m n) kD = some (.int n) := by
  have h1 : ¬ (kL = kM) := by decide
  have h2 : ¬ (kL = kD) := by decide
  have h3 : ¬ (kM = kD) := by decide
  refine ⟨valV_pos rfl, ?_, ?_⟩
  · unfold deckKv; rw [valV_neg h1, valV_pos rfl]
  · unfold deckKv; rw [valV_neg h2, valV_neg h3, valV_pos rfl]
theorem deckKv_put (l : Addr) (m n n' : Int) : putK (deckKv l m n) kD (.int n') = deckKv l m n' := by
  have h2 : ¬ (Sum.inr (Str.ofString "left") : Key) = Sum.inr (Str.ofString "draws") := by decide
  have h3 : ¬ (Sum.inr (Str.ofString "mixed") : Key) = Sum.inr (Str.ofString "draws") := by decide
  simp only [deckKv, putK, List.any_cons, List.map_cons, List.map_nil, h2, h3, decide_false, if_false, decide_true, if_true, Bool.false_or, Bool.true_or]

section
variable {X : Cx} {W : Wd} {ρ : Rho} {Φ : D → Prop} {Ψ : Post} {e a b c e2 : Expr} {es : List Expr} {pos p p1 p2 p3 p4 : Pos} {x xd xc xm : Str} {j j2 : Nat} {ad al : Addr} {S : Stmt}
theorem deck_int (iD : Nat) {key : Str} (hN : X.N[iD]? = some x) (hρ : ρ[iD]? = some (some (.raw (.ref ad)))) (hd : W.rs.deck = some (ad, al)) (hu : X.A.units + 1 < cLine) (hk : key = "mixed" ∨ key = "draws") (q : ∀ m : Int, Φ (.int m))
    (hs : NoSl (.Constant (.str key) j p1) := by exact fun _ _ => rfl) (hv : Vis X.env.scope x := by first | exact Or.inl rfl | exact Or.inr (Or.inl rfl) | exact Or.inr (Or.inr rfl))
    (hdb : (x == ("__debug__" : Str)) = false := by decide) (hcd : (x == ("__classdict__" : Str)) = false := by decide) : PEd X W (.Subscript (.Name x p) (.Constant (.str key) j p1) pos) ρ Φ := by
  refine PEd.of (pe_dget hu (pe_var hN hv hdb hcd) pe_str hs) fun σ H Q F g k => ?_
  obtain ⟨v, e1, e2⟩ := g.env iD _ hρ
  cases e2
  obtain ⟨_, m, n, ns, k1, k2, _⟩ := g.st.dw.deck ad al hd
  refine ⟨.ref ad, e1, ad, ?_⟩
  rcases hk with rfl | rfl
  · have := DGet.k (k := kM) k1
    rw [(deckKv_get al m n).2.1] at this
    exact ⟨.int m, rfl, this, k F H _ _ g.self (.int m) (q m)⟩
  · have := DGet.k (k := kD) k1
    rw [(deckKv_get al m n).2.2] at this
    exact ⟨.int n, rfl, this, k F H _ _ g.self (.int n) (q n)⟩
theorem psd_deckPut (iD : Nat) (hN : X.N[iD]? = some x) (hρ : ρ[iD]? = some (some (.raw (.ref ad)))) (hd : W.rs.deck = some (ad, al)) (hu : X.A.units + 1 < cLine) (h : PEd X W e ρ fun d => asI d fun _ => Ψ.nx ρ)
    (hs : swapsWith e (some (.Subscript (.Name x p) (.Constant (.str "draws") j p1) p2)) pos.line X.env = pure false := by rfl) (hv : Vis X.env.scope x := by first | exact Or.inl rfl | exact Or.inr (Or.inl rfl) | exact Or.inr (Or.inr rfl))
    (hdb : (x == ("__debug__" : Str)) = false := by decide) (hcd : (x == ("__classdict__" : Str)) = false := by decide) : PSd X W (.Assign [.Subscript (.Name x p) (.Constant (.str "draws") j p1) p2] e pos) ρ Ψ := by
  refine PS.weak (ps_dput hu (pe_var hN hv hdb hcd) pe_str (PE.univ X e) hs) fun E σ H ⟨F, g, n, _⟩ => ?_
  refine h.use g fun F1 H1 v d s1 g1 rv q => ?_
  replace q := asI_elim q
  obtain ⟨i, rfl, q⟩ := q
  cases int_inv rv
  obtain ⟨u, e1, e2⟩ := g1.env iD _ hρ
  cases e2
  obtain ⟨ne, m, nn, ns, k1, k2, k3⟩ := g1.st.dw.deck ad al hd
  refine ⟨.ref ad, e1, ad, _, rfl, DPut.k (k := kD) k1 (by show 3 < sizeLine; decide), ?_⟩
  rw [show putK [(Sum.inr (Str.ofString "left"), V.ref al), (Sum.inr (Str.ofString "mixed"), V.int m), (Sum.inr (Str.ofString "draws"), V.int nn)] kD (.int i) = deckKv al m i from deckKv_put al m nn i]
  refine n F1 _ σ ρ (g1.deckW hd (.inl rfl) (fun _ z => by cases z) ⟨ne, m, i, ns, upd_same, ?_, k3⟩) s1.old q
  rw [upd_ne (Ne.symm ne)]
  exact k2
/-- if deck["left"] != []: cell = deck["left"].pop(); if cell >= 10 ** 18: deck["left"].append(cell // max(2, many)); return e2; S -/
theorem psd_deckIf (iD iC iM : Nat) {many : Int} {q1 q2 q3 q4 q5 q6 q7 q8 q9 q10 q11 q12 q13 q14 q15 q16 q17 q18 q19 q20 q21 q22 q23 q24 q25 q26 q27 q28 q29 q30 q31 : Pos} {j1 j2 j3 j4 j5 j6 : Nat} (hK : X.K = W.K) (hc : X.calm = true) (hNd : X.N.Nodup) (hN : X.N[iD]? = some xd) (hNC : X.N[iC]? = some xc) (hNM : X.N[iM]? = some xm)
    (hρ : ρ[iD]? = some (some (.raw (.ref ad)))) (hρM : ρ[iM]? = some (some (.dat (.int many)))) (hDC : iD ≠ iC) (hMC : iM ≠ iC) (hlc : iC < ρ.length) (hm : many < 2 ^ 62) (hd : W.rs.deck = some (ad, al)) (hu : X.A.units + 64 < cLine) (zmax : X.mg "max" = none) (hgmax : Gl X "max")
    (hyes : ∀ cc : Int, PEd X W e2 (ρ.set iC (some (.dat (.int cc)))) Ψ.rt) (hno : ∀ cc : Int, PSd X W S (ρ.set iC (some (.dat (.int cc)))) Ψ) (hz : Ψ.nx ρ)
    (hv : X.env.scope.names.lookup xd = some .local) (hvc : X.env.scope.names.lookup xc = some .local) (hvm : X.env.scope.names.lookup xm = some .local)
    (hdb : (xd == ("__debug__" : Str)) = false := by decide) (hcd : (xd == ("__classdict__" : Str)) = false := by decide) (hdb2 : (xc == ("__debug__" : Str)) = false := by decide) (hcd2 : (xc == ("__classdict__" : Str)) = false := by decide)
    (hdb3 : (xm == ("__debug__" : Str)) = false := by decide) (hcd3 : (xm == ("__classdict__" : Str)) = false := by decide)
    (hs1 : NoSl (.Constant (.str "left") j1 q2) := by exact fun _ _ => rfl) (hs2 : NoSl (.Constant (.str "left") j2 q7) := by exact fun _ _ => rfl) (hs3 : NoSl (.Constant (.str "left") j5 q17) := by exact fun _ _ => rfl)
    (hb1 : attributeBase (.Subscript (.Name xd q6) (.Constant (.str "left") j2 q7) q8) "pop" X.env (eval (.Subscript (.Name xd q6) (.Constant (.str "left") j2 q7) q8) X.env) = eval (.Subscript (.Name xd q6) (.Constant (.str "left") j2 q7) q8) X.env := by rfl)
    (hl1 : (q9.endLine == q10.line) = true := by rfl)
    (hsw1 : swapsWith (.Call (.Attribute (.Subscript (.Name xd q6) (.Constant (.str "left") j2 q7) q8) "pop" q9) [] [] q10) (some (.Name xc q5)) q11.line X.env = pure false := by rfl)
    (hb2 : attributeBase (.Subscript (.Name xd q16) (.Constant (.str "left") j5 q17) q18) "append" X.env (eval (.Subscript (.Name xd q16) (.Constant (.str "left") j5 q17) q18) X.env) = eval (.Subscript (.Name xd q16) (.Constant (.str "left") j5 q17) q18) X.env := by rfl)
    (hl2 : (q19.endLine == q26.line) = true := by rfl)
    (hst : starEach [.BinOp (.Name xc q20) .FloorDiv (.Call (.Name "max" q21) [.Constant (.int 2) j6 q22, .Name xm q23] [] q24) q25] X.env = (false, eval (.BinOp (.Name xc q20) .FloorDiv (.Call (.Name "max" q21) [.Constant (.int 2) j6 q22, .Name xm q23] [] q24) q25) X.env) :: starEach [] X.env := by rfl)
    (hsw2 : swapsWith (.Call (.Attribute (.Subscript (.Name xd q16) (.Constant (.str "left") j5 q17) q18) "append" q19) [.BinOp (.Name xc q20) .FloorDiv (.Call (.Name "max" q21) [.Constant (.int 2) j6 q22, .Name xm q23] [] q24) q25] [] q26) none q27.line X.env = pure false := by rfl) :
    PSd X W (.If (.Compare (.Subscript (.Name xd q1) (.Constant (.str "left") j1 q2) q3) [.NotEq] [.List [] q4] q28)
      [.Assign [.Name xc q5] (.Call (.Attribute (.Subscript (.Name xd q6) (.Constant (.str "left") j2 q7) q8) "pop" q9) [] [] q10) q11,
       .If (.Compare (.Name xc q12) [.GtE] [.BinOp (.Constant (.int 10) j3 q13) .Pow (.Constant (.int 18) j4 q14) q15] q29)
         [.Expr (.Call (.Attribute (.Subscript (.Name xd q16) (.Constant (.str "left") j5 q17) q18) "append" q19) [.BinOp (.Name xc q20) .FloorDiv (.Call (.Name "max" q21) [.Constant (.int 2) j6 q22, .Name xm q23] [] q24) q25] [] q26) q27, .Return (some e2) q30] [] q31, S] [] pos) ρ Ψ := by
  have hu1 : X.A.units + 1 < cLine := by omega
  have hvar : ∀ {q}, PE X (.Name xd q) (tVar iD) := pe_var hN (.inl hv) hdb hcd
  have hvarC : ∀ {q}, PE X (.Name xc q) (tVar iC) := pe_var hNC (.inl hvc) hdb2 hcd2
  have hvarM : ∀ {q}, PE X (.Name xm q) (tVar iM) := pe_var hNM (.inl hvm) hdb3 hcd3
  refine PS.weak (ps_if (pt_cmpR (op_neD hu) (pe_dget hu1 hvar pe_str hs1) (pe_lst L2.pa_nil) (nomark _))
    (pss_cons (ps_set (i := iC) hNd hNC (.inl hvc) (pe_bm0 PySem.F.plainAttrs_list PySem.F.slot_list_pop PySem.F.type_list_pop mt_pop (pe_dget hu1 hvar pe_str hs2) hb1 hl1) hsw1 (.inr hvc))
      (pss_cons (ps_if (pt_cmpR op_ge hvarC (pe_op op_pow pe_int pe_int) (nomark _))
        (pss_cons (ps_expr (pe_bm PySem.F.plainAttrs_list PySem.F.slot_list_append PySem.F.type_list_append mt_append (pe_dget hu1 hvar pe_str hs3)
            (L2.pa_cons (pe_op op_fdivW hvarC (pe_callB (call_max2 hc) hgmax zmax (by decide +kernel) (L2.pa_cons pe_int (L2.pa_cons hvarM L2.pa_nil)))) L2.pa_nil hst) hb2 (by rfl) hl2 hst (by rfl)) hsw2)
          (pss_one (ps_ret (PE.univ X e2)))) pss_nil)
        (pss_one (PS.univ X S)))) pss_nil) fun E σ H ⟨F, g, n, r, bk, ct⟩ => ?_
  obtain ⟨u, e1, e2⟩ := g.env iD _ hρ
  cases e2
  obtain ⟨um, f1, f2⟩ := g.env iM _ hρM
  cases int_inv f2
  obtain ⟨ne, m, nn, ns, k1, k2, k3⟩ := g.st.dw.deck ad al hd
  have hget : DGet H ad (kV kL) (some (.ref al)) := by
    have := DGet.k (k := kL) k1
    rw [(deckKv_get al m nn).1] at this
    exact this
  refine ⟨.ref ad, e1, ad, .ref al, rfl, hget, ?_⟩
  refine ⟨by show 0 ≤ sizeLine; decide, fun q hq => ?_⟩
  have sq := g.self.newO (o := .lst []) hq
  have g0 := g.step sq
  have k2' : upd H q (.lst []) al = some (.lst (ns.map V.int)) := by rw [upd_ne (ne_of_none k2 hq)]; exact k2
  have k1' : upd H q (.lst []) ad = some (.dK (deckKv al m nn)) := by rw [upd_ne (ne_of_none k1 hq)]; exact k1
  generalize hH' : upd H q (.lst []) = H' at *
  refine ⟨.list (ns.map .int), .list [], .lst (.inl (.inl (by rw [← hK] at *; exact k2'))) (dpAll_ints ns), .lst (.inl (.inl (by rw [← hH']; exact upd_same))) .nil, shaped_ints ns, shaped_nil, _, rfl, ?_⟩
  rcases List.eq_nil_or_concat ns with hn | ⟨ms, cc, hn⟩
  · subst hn
    rw [if_neg (by decide)]
    exact n F H' σ ρ g0 sq.old hz
  · rw [List.concat_eq_append] at hn
    subst hn
    have ek : (!PyData.eqv (.list ((ms ++ [cc]).map .int)) (.list [])) = true := by
      cases ms <;> rfl
    rw [ek, if_pos rfl]
    have hms : ms.length ≤ 62 := by simp at k3; omega
    have hget' : DGet H' ad (kV kL) (some (.ref al)) := by
      have := DGet.k (k := kL) k1'
      rw [(deckKv_get al m nn).1] at this
      exact this
    refine ⟨.ref ad, e1, ad, .ref al, rfl, hget', .inl ⟨rfl, _, .inl (.inl k2')⟩, al, (ms ++ [cc]).map V.int, .int cc, rfl, rfl, k2', by simp, ?_⟩
    have e4 : ((ms ++ [cc]).map V.int).dropLast = ms.map V.int := by simp
    rw [e4]
    dsimp only [gName]
    have g1 : Good W F (upd H' al (.lst (ms.map V.int))) (σ.set iC (some (.int cc))) (ρ.set iC (some (.dat (.int cc)))) :=
      (g0.deckW hd (.inr rfl) (fun _ z => by cases z) ⟨ne, m, nn, ms, by rw [upd_ne ne]; exact k1', upd_same, by omega⟩).set iC (.int cc)
    have lC : iC < σ.length := by rw [g.len]; exact hlc
    have sC : (σ.set iC (some (V.int cc)))[iC]? = some (some (.int cc)) := List.getElem?_set_self lC
    have sD : (σ.set iC (some (V.int cc)))[iD]? = some (some (.ref ad)) := by rw [List.getElem?_set_ne (Ne.symm hDC)]; exact e1
    have sM : (σ.set iC (some (V.int cc)))[iM]? = some (some (.int many)) := by rw [List.getElem?_set_ne (Ne.symm hMC)]; exact f1
    generalize hσ' : σ.set iC (some (V.int cc)) = σ' at *
    have m1 : upd H' al (.lst (ms.map V.int)) al = some (.lst (ms.map V.int)) := upd_same
    have m2 : upd H' al (.lst (ms.map V.int)) ad = some (.dK (deckKv al m nn)) := by rw [upd_ne ne]; exact k1'
    generalize hH1 : upd H' al (.lst (ms.map V.int)) = H1 at *
    have hget1 : DGet H1 ad (kV kL) (some (.ref al)) := by
      have := DGet.k (k := kL) m2
      rw [(deckKv_get al m nn).1] at this
      exact this
    refine ⟨.int cc, sC, 10, 18, rfl, rfl, ⟨by decide, by decide, by decide⟩, cc, _, rfl, rfl, _, rfl, ?_⟩
    refine ite2 (fun _ => ?_) fun _ => ?_
    · refine ⟨.ref ad, sD, ad, .ref al, rfl, hget1, .inl ⟨rfl, _, .inl (.inl m1)⟩, .int cc, sC, .int many, sM, 2, many, rfl, cc, _, rfl, rfl, ?_, al, _, _, rfl, rfl, m1, by simp; rw [sizeLine_eq]; omega, ?_⟩
      · refine wide_div (b := 64) (by split <;> omega) ?_ (by decide) (by decide)
        split <;> omega
      · have em : ms.map V.int ++ [V.int (cc / if many > 2 then many else 2)] = (ms ++ [cc / if many > 2 then many else 2]).map V.int := by simp
        rw [em]
        have g2 := g1.deckW (o := .lst ((ms ++ [cc / if many > 2 then many else 2]).map V.int)) hd (.inr rfl) (fun _ z => by cases z) ⟨ne, m, nn, _, by rw [upd_ne ne]; exact m2, upd_same, by simp; omega⟩
        exact (hyes cc).use g2 fun F3 H3 v d s3 g3 rv q => r F3 H3 v d g3.st rv q
    · refine ⟨_, hno cc, F, g1, fun F2 H2 σ2 ρ2 g2 s2 q => n F2 H2 σ2 ρ2 g2 s2 q, r, bk, ct⟩
/-- for a, b in zip(x, y), two lists or two tuples -/
def zipD (xs ys : List D) : List D := (xs.zip ys).map fun q => PyData.tuple [q.1, q.2]
theorem zipD_length (xs ys : List D) : (zipD xs ys).length = min xs.length ys.length := by simp [zipD]
theorem pid_zip {elts : List Expr} {kk : Nat} {tpos : Pos} {Φ : List D → Prop} (hK : X.K = W.K) (hm : X.mg "zip" = none) (h : PAd X W [a, b] ρ fun ens => asDs ens fun ds => as2 ds fun d e => ∃ xs ys, ((d = .list xs ∧ e = .list ys) ∨ (d = .tuple xs ∧ e = .tuple ys)) ∧ Φ (zipD xs ys)) (hg : Gl X "zip" := by rfl)
    (hs : starEach [a, b] X.env = (false, eval a X.env) :: starEach [b] X.env := by rfl) (hpl : (backTo pos (starEach [b] X.env)).any (·.1) = false := by rfl) :
    PId X W (.Tuple elts kk tpos) (.Call (.Name "zip" p) [a, b] [] pos) ρ Φ := by
  refine PI.weak (RZ.pi_zipA hg hm (PA.univ X _) hs hpl) fun σ H R ⟨F, g, k⟩ => ?_
  refine h.use g fun F1 H1 vs ens s1 g1 r q => ?_
  replace q := asDs_elim q
  obtain ⟨ds, rfl, q⟩ := q
  replace q := as2_elim q
  obtain ⟨d, d', rfl, q⟩ := q
  replace r := da2 (ensR_dat r)
  obtain ⟨v, v', rfl, r1, r2⟩ := r
  obtain ⟨xs, ys, hh, q⟩ := q
  have yes : ∀ {F2 H2 : Hp} {us ws : List V} {i : Nat} {x : V} {H' : Hp}, Sub F1 F2 → Stp W.rs F2 H2 F2 H2 → DpAll W.K F1 us xs → DpAll W.K F1 ws ys → YPair (fun i => us[i]?) (fun i => ws[i]?) i H2 x H' → ∃ F' dd, Stp W.rs F2 H2 F' H' ∧ Dp W.K F' x dd ∧ (zipD xs ys)[i]? = some dd := by
    rintro F2 H2 us ws i x H' sub s2 h1 h2 ⟨T, u, w, rfl, hT, rfl, e1, e2⟩
    obtain ⟨du, f1, f2⟩ := da_get' h1 e1
    obtain ⟨dw, f3, f4⟩ := da_get' h2 e2
    have s3 := s2.new1 (o := .tup [u, w]) hT
    refine ⟨_, .tuple [du, dw], s3, .tup (.inl (.inl upd_same)) (.cons (dp_mono (Sub.trans sub s3.old) _ _ f2) (.cons (dp_mono (Sub.trans sub s3.old) _ _ f4) .nil)), ?_⟩
    unfold zipD
    rw [List.getElem?_map, show (xs.zip ys)[i]? = some (du, dw) from List.getElem?_zip_eq_some.mpr ⟨f1, f3⟩]
    rfl
  rcases hh with ⟨rfl, rfl⟩ | ⟨rfl, rfl⟩
  · obtain ⟨pa, us, rfl, a1, a2⟩ := list_inv r1
    obtain ⟨pb, ws, rfl, b1, b2⟩ := list_inv r2
    refine ⟨pa, pb, us, ws, rfl, .inl ⟨by rw [hK]; exact sqL_mono g1.st.ex a1, by rw [hK]; exact sqL_mono g1.st.ex b1, ?_⟩⟩
    rw [hK]
    refine k F1 H1 _ _ s1 (fun F2 H2 sub s2 => ?_) q
    have qa : SqL W.K H2 pa us := sqL_mono (fun b o e => s2.ex b o (sub b o e)) a1
    have qb : SqL W.K H2 pb ws := sqL_mono (fun b o e => s2.ex b o (sub b o e)) b1
    have w := walk_zip (K := W.K) (a := pa) (b := pb) (xs := us) (ys := ws) (n := (zipD xs ys).length) (by rw [zipD_length, da_len a2, da_len b2])
    exact ⟨fun i hi => w.goes i H2 hi ⟨qa, qb⟩, w.stops H2 ⟨qa, qb⟩, fun i x H' hi y => yes sub s2 a2 b2 (w.yields i H2 x H' hi ⟨qa, qb⟩ y)⟩
  · obtain ⟨pa, us, rfl, a1, a2⟩ := tuple_inv r1
    obtain ⟨pb, ws, rfl, b1, b2⟩ := tuple_inv r2
    refine ⟨pa, pb, us, ws, rfl, .inr ⟨by rw [hK]; exact sqT_mono g1.st.ex a1, by rw [hK]; exact sqT_mono g1.st.ex b1, ?_⟩⟩
    rw [hK]
    refine k F1 H1 _ _ s1 (fun F2 H2 sub s2 => ?_) q
    have qa : SqT W.K H2 pa us := sqT_mono (fun b o e => s2.ex b o (sub b o e)) a1
    have qb : SqT W.K H2 pb ws := sqT_mono (fun b o e => s2.ex b o (sub b o e)) b1
    have hn : (zipD xs ys).length = min us.length ws.length := by rw [zipD_length, da_len a2, da_len b2]
    refine ⟨fun i hi => ?_, ⟨us, ws, qa, qb, by omega⟩, fun i x H' hi y => ?_⟩
    · have l1 : i < us.length := by omega
      have l2 : i < ws.length := by omega
      exact ⟨us, ws, us[i], ws[i], qa, qb, by simp [l1], by simp [l2]⟩
    · obtain ⟨T, u, w, e1, e2, e3, e4, e5⟩ := y
      exact yes sub s2 a2 b2 ⟨T, u, w, e1, e2, e3, e4 us qa, e5 ws qb⟩
end
end TR

set_option maxRecDepth 100000
set_option maxHeartbeats 4000000
/-! T7: what a law hears of a call: try .. except (A, B) as e; the thing of an error; a lambda handed over. -/
namespace TR
open PySem PySem.Spec PyProof.Rows L2

theorem flyingZ_keeps {base h h' : Heap} {l : List Env} {e : Addr} {Z : Obj → Prop} (x : HandSPX.FlyingZ base l e Z h) (k : ∀ b o, h.get? b = some o → h'.get? b = some o) : HandSPX.FlyingZ base l e Z h' := by
  obtain ⟨f1, f2, f3, oe, vs, T, oT, ts, a1, a2, a3, a4, a5, a6, a7, a8, a9⟩ := x
  exact ⟨fun b o q => k b o (f1 b o q), f2, f3.of_keeps fun b o q _ => ⟨o, k b o q, rfl⟩, oe, vs, T, oT, ts, k _ _ a1, a2, a3, a4, a5, a6, k _ _ a7, a8, a9⟩
/-- what the clause 'except (x1, x2) as n' wishes of an exception: it is one of them -/
def wAs2 (K : PySem.W.Frag) (c1 c2 : Value) (i : Nat) (ts : Addr → Value → Option Addr → TS) (D : Ends) : WX := fun cls d σ H =>
  PySem.W.exmAny K cls [c1, c2] = some true ∧ ∀ a, H a = none → ts a cls d { nx := fun σ' H' => D.nx (σ'.set i none) H', rt := D.rt, bk := fun σ' H' => D.bk (σ'.set i none) H', ct := fun σ' H' => D.ct (σ'.set i none) H' } (σ.set i (some (.ref a))) H
section
variable {X : Cx} {x1 x2 n : Str} {c1 c2 : Value} {i : Nat} {body suite : List Stmt} {b₀ : Stmt} {p1 p2 tpos pos pos' : Pos} {kk : Nat} {tb : WX → TS} {ts : Addr → Value → Option Addr → TS}
theorem ps_try_as2 (hs : X.stack = X.env :: X.outer) (hf : X.env.frame = some X.env.locals) (hN : X.N.Nodup) (hi : X.N[i]? = some n) (hln : X.env.kindOf n = some .local)
    (hg1 : Gl X x1) (hm1 : X.mg x1 = some c1) (hd1 : (x1 == ("__debug__" : Str)) = false) (hg2 : Gl X x2) (hm2 : X.mg x2 = some c2) (hd2 : (x2 == ("__debug__" : Str)) = false)
    (hb : ∀ (W : WX) (pn : List (Addr × Obj)) (xe : Value → Shared → Prop), Takes (X.tr pn xe) W → PassesOwn (model X.prog X.w) X.A X.env xe → PSs (X.tr pn xe) body (tb W))
    (hsu : ∀ (a : Addr) (oe : Obj) (cls : Value) (d : Option Addr) (pn : List (Addr × Obj)), Zc cls d oe → (∃ vs, oe.data = .fields vs) → PSs (X.suite a ((a, oe) :: pn)) (b₀ :: suite) (ts a cls d)) :
    PS X (.Try body [.ExceptHandler (some (.Tuple [.Name x1 p1, .Name x2 p2] kk tpos)) (some n) (b₀ :: suite) pos'] [] [] pos) (fun D σ H => tb (wAs2 X.K c1 c2 i ts D) D σ H) := by
  refine ⟨fun pins s σ H D I h => ?_⟩
  have ok := I.ok
  have hfr : X.A.frames = some (X.env :: X.outer) := by rw [ok.frames, hs]
  have hloc : Loc X.env.scope n := .inl hln
  refine wpAny_Try_except ?_
  refine wpAny_mono ((hb (wAs2 X.K c1 c2 i ts D) (X.pn ++ pins) (fun e s₁ => wpAny (model X.prog X.w) X.A (noteFrame e X.env) (fun _ s₂ => wpAny (model X.prog X.w) X.A (setFlight e none) (fun _ s₃ =>
    wpAny (model X.prog X.w) X.A (handleBy e X.env [.ExceptHandler (some (.Tuple [.Name x1 p1, .Name x2 p2] kk tpos)) (some n) (b₀ :: suite) pos']) (SP X pins D) X.xe s₃) X.xe s₂) X.xe s₁) (fun u s' xx => ?_) PassesOwn.looking).run [] s σ H D (I.toTry _) h) (fun f s1 hsp => ?_) (fun e s1 he => he)
  · obtain ⟨a, B, sI, pins', σ', H', cls, d, rfl, J', nb, up, sky, na, os, ag, hb1, hyes⟩ := xx
    have J : Inv X pins σ' H' sI := J'.ofTry ok
    have sky' : Sky B (X.env :: X.outer) a (Zc cls d) X.env.locals s'.heap := by rw [← hs]; exact sky
    show wpAny (model X.prog X.w) X.A (noteFrame (.ref a) X.env) _ _ _
    refine Sky.land Zc.steady hfr hf sky' fun h3 fl3 up3 => ?_
    have J3 : Inv X pins σ' H' { s' with heap := h3 } := J.landed nb fl3.1 (up.trans up3) os ag
    obtain ⟨oe3, vs3, he3, hz3, hd3⟩ := fl3.there
    have notFr : ∀ {h : Heap} {o : Obj} {vs : Array Value}, h.FunFrames B (X.env :: X.outer) → h.get? a = some o → o.data = .fields vs → a ∉ frs (X.env :: X.outer) := fun {h o vs} ff e dd hm => by
      obtain ⟨_, o', e', hnf⟩ := ff.mem hm
      rw [e] at e'; cases e'
      exact hnf _ dd
    have nfr := notFr fl3.2.2.1 he3 hd3
    have nL : a ≠ X.env.locals := fun z => nfr (List.mem_filterMap.mpr ⟨X.env, List.mem_cons_self, by rw [hf, z]⟩)
    have nF : a ∉ X.fs := fun hm => by
      obtain ⟨e, he, q⟩ := List.mem_filterMap.mp hm
      exact nfr (List.mem_filterMap.mpr ⟨e, List.mem_cons_of_mem _ he, q⟩)
    have S3 := J3.suite he3 hd3 na nL nF
    refine wpAny_handleBy_cons (codeAny_handlers_test ?_) (by intro q; cases q)
    have LT : PySem.W.Looks (model X.prog X.w) h3 (typeOf (.ref a)) cls := fun A Q E s k q => wpAny_typeOf_ref (k _ _ he3) (by rw [hz3.1]; exact q)
    refine wpAny_Tuple ?_
    refine PySem.wpAny_items_cons (ld_glob (X := X.suite a ((a, oe3) :: (X.pn ++ pins))) S3 hg1 hm1 ?_ hd1)
    refine PySem.wpAny_items_cons (ld_glob (X := X.suite a ((a, oe3) :: (X.pn ++ pins))) S3 hg2 hm2 ?_ hd2)
    refine PySem.wpAny_items_nil ⟨by show 2 ≤ sizeLine; decide, ?_⟩
    have kp : ∀ q o, h3.get? q = some o → (h3.push { cls := .type "tuple", data := .seq [c1, c2].toArray }).get? q = some o := fun _ _ z => Heap.get?_push_of_some _ z
    refine (PySem.W.exm_tup2 ((J3.kIn).keeps kp) (LT.keeps kp) (Heap.get?_push_size h3 rfl) hb1).here ?_
    refine codeAny_handlers_suite_as ?_
    refine HandSPX.lands_againZ (flyingZ_keeps fl3 kp) fun h4 fl4 up4 => ?_
    have J4 : Inv X pins σ' H' { s' with heap := h4 } := J.landed nb fl4.1 (((up.trans up3).trans (.of_keeps kp)).trans up4) os ag
    obtain ⟨oe4, vs4, he4, hz4, hd4⟩ := fl4.there
    have S4 := J4.suite he4 hd4 na nL nF
    refine store_ok (X := X.suite a ((a, oe4) :: (X.pn ++ pins))) (v := .ref a) S4 hN hi hloc rfl (fun s5 S5 => ?_) (.inr hln)
    refine wpAny_mono ((hsu a oe4 cls d (X.pn ++ pins) hz4 ⟨_, hd4⟩).run [] s5 _ H' _ S5 (hyes a na)) (fun f s6 hsp => ?_) (fun _ _ z => False.elim z)
    have end_ : ∀ {σ6 : L2.St} {H6 : Hp} {Q : Shared → Prop}, Inv (X.suite a ((a, oe4) :: (X.pn ++ pins))) [] σ6 H6 s6 → (∀ s7, Inv X pins (σ6.set i none) H6 s7 → Q s7) →
        wpAny (model X.prog X.w) X.A (do bindName X.env n .none; unbindBehindTheSuite X.env n pos') (fun _ s7 => Q s7) X.xe s6 := fun {σ6 H6 Q} S6 hq => gone_ok (S6.unsuite ok) hN hi hln hq
    cases f with
    | next =>
      obtain ⟨σ6, H6, S6, q6⟩ := hsp
      exact end_ S6 fun s7 J7 => ⟨_, _, J7, q6⟩
    | brk =>
      obtain ⟨σ6, H6, S6, q6⟩ := hsp
      exact end_ S6 fun s7 J7 => ⟨_, _, J7, q6⟩
    | cont =>
      obtain ⟨σ6, H6, S6, q6⟩ := hsp
      exact end_ S6 fun s7 J7 => ⟨_, _, J7, q6⟩
    | ret u =>
      obtain ⟨v6, σ6, H6, S6, r6, q6⟩ := hsp
      exact end_ S6 fun s7 J7 => ⟨_, _, _, J7, r6, q6⟩
  · cases f with
    | next =>
      obtain ⟨σ', H', J', q⟩ := hsp
      exact wpAny_execs_nil ⟨σ', H', J'.ofTry ok, q⟩
    | brk =>
      obtain ⟨σ', H', J', q⟩ := hsp
      exact ⟨σ', H', J'.ofTry ok, q⟩
    | cont =>
      obtain ⟨σ', H', J', q⟩ := hsp
      exact ⟨σ', H', J'.ofTry ok, q⟩
    | ret u =>
      obtain ⟨v, σ', H', J', r, q⟩ := hsp
      exact ⟨v, σ', H', J'.ofTry ok, r, q⟩
end
/-- what is asked of an error's class, so that its things are read in a suite -/
structure HrC (K : PySem.W.Frag) (C : Addr) : Prop where
  xf : XfC K C
  ec : ExcC K C
  no : PySem.W.findIn K (.ref C) "thing" = some none
/-- isinstance(e, c), e the error that the suite holds -/
def rIsE2 (K : PySem.W.Frag) (cls : Value) (d : Option Addr) (a : Addr) : List V → Hp → VK → Prop := fun xs H Q =>
  ∃ (c : V) (cv : Value) (b : Bool) (D dd : Addr) (fs : List (Str × V)), xs = [.ref a, c] ∧ cls = .ref D ∧ ExcC K D ∧ d = some dd ∧ H dd = some (.xd fs) ∧ (∀ u, RelV c u → u = cv) ∧ PySem.W.kitOne K (.ref D) cv = some b ∧ Q (.bl b) H
theorem call_isE2 {X : Cx} {a : Addr} {cls : Value} {d : Option Addr} {oe : Obj} {pn : List (Addr × Obj)} (hz : Zc cls d oe) (hf : ∃ vs, oe.data = .fields vs) : CallR (X.suite a ((a, oe) :: pn)) (.builtin "isinstance") (rIsE2 X.K cls d a) := by
  intro pins s σ H xs us Q I r h
  obtain ⟨c, cv, b, D, dd, fs, rfl, ec, C, ed, ea, hcv, e, q⟩ := h
  cases r with
  | cons rx rr =>
    cases rr with
    | cons rt rr =>
      cases rr
      cases rx
      have ecv := hcv _ rt
      subst ecv
      obtain ⟨hget, _⟩ := I.pin (a, oe) (List.mem_append.mpr (.inl List.mem_cons_self))
      obtain ⟨vs, hv⟩ := hf
      have hx : ObjOk X.prog X.w H s.heap dd (.xd fs) := I.hok dd _ ea
      obtain ⟨mA, hns, hr⟩ := hx
      obtain ⟨od, ho, hl⟩ := lookIn_ns hns
      subst ec
      subst ed
      have J : PySem.W.InstAt s.heap a oe D (some od) := ⟨hget, hz.1, by unfold PySem.W.notCls; rw [hv] <;> rfl, by rw [hz.2]; exact ho⟩
      have hcl : (PySem.W.clsIn X.K D).isSome = true := by
        obtain ⟨cd, hc, _⟩ := PySem.W.any_some C.hd
        rw [hc] <;> rfl
      exact PySem.W.kia_one (PySem.W.kitx_exc hcl C.hg C.hk C.hs C.ha C.hn C.ht C.hm) I.kIn J e (fun z => nomatch z) fun tk => ⟨.bl b, H, I.kept (t' := tk) fun _ _ z => z, rfl, q⟩
/-- e.thing in the suite -/
def tTh (K : PySem.W.Frag) (a : Addr) (cls : Value) (d : Option Addr) (i : Nat) : TE := fun σ H Q => σ[i]? = some (some (.ref a)) ∧ ∃ (C dd : Addr) (fs : List (Str × V)) (v : V), cls = .ref C ∧ HrC K C ∧ d = some dd ∧ H dd = some (.xd fs) ∧ fs.lookup ("thing" : Str) = some v ∧ Q v H
theorem pe_thing {X : Cx} {a : Addr} {oe : Obj} {cls : Value} {d : Option Addr} {pn : List (Addr × Obj)} {i : Nat} {n : Str} {p pos : Pos} (hz : Zc cls d oe) (hf : ∃ vs, oe.data = .fields vs) (hN : X.N[i]? = some n) (hv : Vis X.env.scope n) (hd : (n == ("__debug__" : Str)) = false) (hcd : (n == ("__classdict__" : Str)) = false)
    (hb : attributeBase (.Name n p) "thing" X.env (eval (.Name n p) X.env) = eval (.Name n p) X.env := by rfl) : PE (X.suite a ((a, oe) :: pn)) (.Attribute (.Name n p) "thing" pos) (tTh X.K a cls d i) :=
  ⟨fun pins s σ H Q I ⟨h0, C, dd, fs, v, e1, hC, e2, e3, e4, q⟩ => by
    exact (pe_xf hC.xf hC.no hz hf (pe_var (X := X.suite a ((a, oe) :: pn)) (i := i) hN hv hd hcd) hb).run pins s σ H Q I ⟨.ref a, h0, rfl, e1, dd, fs, v, e2, e3, e4, q⟩⟩

theorem takes_len {X : Cx} {W : WX} (t : Takes X W) : Takes X (fun cls d σ H => σ.length = X.N.length → W cls d σ H) := fun u s' ⟨a, B, sI, pins, σ, H, cls, d, e, I, nb, up, sky, na, os, ag, w⟩ =>
  t u s' ⟨a, B, sI, pins, σ, H, cls, d, e, I, nb, up, sky, na, os, ag, w I.len⟩
/-! ### what is heard -/
/-- told: ('told', the value); an error of a class with a word: (the word, its thing) -/
def TTh (word : Addr → Option Str) : (XK → Hp → VK → Prop) → Hp → VK → Prop := fun tl H Q =>
  tl (fun cls d H' => ∃ (C dd : Addr) (v : V) (wd : Str), cls = .ref C ∧ d = some dd ∧ H' dd = some (.xd [("thing", v)]) ∧ word C = some wd ∧ ∀ q H2, (∀ b o, H' b = some o → H2 b = some o) → H2 q = some (.tup [.str wd, v]) → H' q = none → Q (.ref q) H2) H
    (fun v H' => [V.str "told", v].length ≤ sizeLine ∧ ∀ p, H' p = none → Q (.ref p) (upd H' p (.tup [.str "told", v])))
theorem ext_upd {H : Hp} {q : Addr} {o : HO} (h : H q = none) : ∀ b u, H b = some u → upd H q o b = some u := fun b u e => by rw [upd_ne (ne_of_none e h)]; exact e
/-- def h(call): try: return ('told', call()) / except (x1, x2) as e: return (w1 if isinstance(e, x1) else w2, e.thing) -/
theorem hear2_gives {X : Cx} {Ng : List Str} {x a n x1 x2 q w1 w2 : Str} {sg : Scope} {g C1 C2 : Addr} {cdg : Value} {word : Addr → Option Str} {j0 j1 j2 kt kt2 kt3 : Nat} {p1 p2 p3 p4 p5 p6 p7 p8 p9 p10 p11 p12 p13 p14 p15 p16 p17 p18 p19 p20 p21 : Pos}
    (hNd : Ng.Nodup) (hi : Ng[1]? = some n) (hln : sg.names.lookup n = some .local) (hn1 : (n == ("__debug__" : Str)) = false) (hn2 : (n == ("__classdict__" : Str)) = false)
    (hg1 : sg.names.lookup x1 = some .globalImplicit) (hm1 : X.mg x1 = some (.ref C1)) (hd1 : (x1 == ("__debug__" : Str)) = false) (hg2 : sg.names.lookup x2 = some .globalImplicit) (hm2 : X.mg x2 = some (.ref C2)) (hd2 : (x2 == ("__debug__" : Str)) = false)
    (hgi : sg.names.lookup ("isinstance" : Str) = some .globalImplicit) (hmi : X.mg "isinstance" = none) (h0 : ∀ f : Addr, (L2.start Ng [V.ref f])[0]? = some (some (V.ref f)) ∧ 1 < (L2.start Ng [V.ref f]).length)
    (hw : ∀ C wd, word C = some wd → HrC X.K C ∧ PySem.W.exmAny X.K (.ref C) [.ref C1, .ref C2] = some true ∧ ∃ b, PySem.W.kitOne X.K (.ref C) (.ref C1) = some b ∧ wd = if b then w1 else w2) :
    LamX.GivesTo X Ng x sg g cdg [.Try [.Return (some (.Tuple [.Constant (.str "told") j0 p1, .Call (.Name a p2) [] [] p3] kt p4)) p5]
      [.ExceptHandler (some (.Tuple [.Name x1 p6, .Name x2 p7] kt2 p8)) (some n) [.Return (some (.Tuple [.IfExp (.Call (.Name "isinstance" p9) [.Name n p10, .Name x1 p11] [] p12) (.Constant (.str w1) j1 p13) (.Constant (.str w2) j2 p14) p15, .Attribute (.Name n p16) "thing" p17] kt3 p18)) p19] p20] [] [] p21] a q (TTh word) := by
  intro f c' s H Q tl act hc h
  generalize hY : (cxOf C8.CX0 X.prog X.w X.K X.mg X.base Ng x sg g cdg X.A X.stack s H C8.E0).nox = Y
  have eK : Y.K = X.K := by rw [← hY]; rfl
  refine ⟨_, pss_one (ps_try_as2 (X := Y) (i := 1) (c1 := .ref C1) (c2 := .ref C2)
      (tb := fun W D σ H => ∃ Ech : XK, (∀ cls d σ' H', Ech cls d H' → σ'.length = Ng.length → W cls d σ' H') ∧ σ[0]? = some (some (.ref f)) ∧ H c' = some (LamX.CodeO c' q) ∧ tl Ech H (fun v H1 => [V.str "told", v].length ≤ sizeLine ∧ ∀ p, H1 p = none → D.rt (.ref p) (upd H1 p (.tup [.str "told", v]))))
      (by subst hY; rfl) (by subst hY; rfl) (by subst hY; exact hNd) (by subst hY; exact hi) (by subst hY; exact hln) (by subst hY; exact hg1) (by subst hY; exact hm1) hd1 (by subst hY; exact hg2) (by subst hY; exact hm2) hd2 (fun W pn xe tk _ => ?_)
      (fun a oe cls d pn hz hf => pss_one (ps_ret (pe_tup (L2.pa_cons (pe_ifExp (L2.pt_val (pe_callB (call_isE2 hz hf) (by subst hY; exact hgi) (by subst hY; exact hmi) boot_isinstance
        (L2.pa_cons (pe_var (i := 1) (by subst hY; exact hi) (by subst hY; exact .inl hln) hn1 hn2) (L2.pa_cons (pe_glob (v := .ref C1) (by subst hY; exact hg1) (by subst hY; exact hm1) rfl hd1) L2.pa_nil)))) pe_str pe_str) (L2.pa_cons (pe_thing hz hf (i := 1) (by subst hY; exact hi) (by subst hY; exact .inl hln) hn1 hn2) L2.pa_nil)))))), ?_⟩
  · refine ⟨fun pins s' σ H' D I h' => ?_⟩
    obtain ⟨Ech, hW, h1, h2, h3⟩ := h'
    subst hY
    have hp := act (fun cls d σ H => σ.length = Ng.length → W cls d σ H) pn xe Ech p2 p3 (takes_len tk) fun cls d σ' H' e hl => hW cls d σ' H' e hl
    have hq := pss_one (ps_ret (pos := p5) (pe_tup (x1 := kt) (pos := p4) (L2.pa_cons (pe_str (x := "told") (j := j0) (pos := p1)) (L2.pa_cons hp L2.pa_nil))))
    exact hq.run pins s' σ H' D I ⟨h1, h2, h3⟩
  · refine ⟨_, fun cls d σ' H' e hl => ?_, (h0 f).1, hc, h⟩
    obtain ⟨C, dd, v, wd, rfl, rfl, k1, k2, k3⟩ := e
    obtain ⟨w1', w2', b, w3', w4'⟩ := hw C wd k2
    rw [← eK] at w1' w2' w3'
    refine ⟨w2', fun a ha => ?_⟩
    have l1 : 1 < σ'.length := by rw [hl]; exact (List.getElem?_eq_some_iff.mp hi).1
    have sC : (σ'.set 1 (some (V.ref a)))[1]? = some (some (.ref a)) := List.getElem?_set_self l1
    have fin : [V.str wd, v].length ≤ sizeLine ∧ ∀ p, H' p = none → Q (.ref p) (upd H' p (.tup [.str wd, v])) := ⟨by show 2 ≤ sizeLine; decide, fun p hp => k3 p _ (ext_upd hp) upd_same hp⟩
    refine ⟨.ref a, sC, .ref C1, .ref C1, b, C, dd, _, rfl, rfl, w1'.ec, rfl, k1, fun u r => r, w3', b, rfl, ?_⟩
    cases b with
    | true =>
      subst w4'
      exact ⟨sC, C, dd, _, v, rfl, w1', rfl, k1, rfl, fin⟩
    | false =>
      subst w4'
      exact ⟨sC, C, dd, _, v, rfl, w1', rfl, k1, rfl, fin⟩
end TR

set_option maxRecDepth 100000
set_option maxHeartbeats 4000000
/-! T8: h(lambda: body) as a tree rule. -/
namespace TR
open PySem PySem.Spec PyProof.Rows L2
/-- what a lambda may read: no list of one's own -/
def hideR (ρ : Rho) : Rho := ρ.map fun o => match o with | some (.own _) => none | x => x
theorem hideR_get {ρ : Rho} {i : Nat} {e : En} (h : (hideR ρ)[i]? = some (some e)) : ρ[i]? = some (some e) ∧ ∀ ds, e ≠ .own ds := by
  unfold hideR at h
  rw [List.getElem?_map] at h
  cases q : ρ[i]? with
  | none => rw [q] at h; cases h
  | some o =>
    rw [q] at h
    cases o with
    | none => cases h
    | some en =>
      cases en with
      | own ds => cases h
      | dat d => cases h; exact ⟨rfl, fun ds z => by cases z⟩
      | raw d => cases h; exact ⟨rfl, fun ds z => by cases z⟩
theorem Good.rebase {W : Wd} {F H : Hp} {σ : L2.St} {ρ : Rho} (g : Good W F H σ ρ) : Good ⟨W.rs, W.K, F, H⟩ F H σ (hideR ρ) := by
  refine ⟨g.st.refl, by rw [g.len]; simp [hideR], fun i e h => ?_, fun i j ds es v hij h1 h2 h3 => ?_⟩
  · obtain ⟨h1, h2⟩ := hideR_get h
    obtain ⟨v, k1, k2⟩ := g.env i e h1
    refine ⟨v, k1, ?_⟩
    cases e with
    | dat d => exact k2
    | raw u => exact k2
    | own ds => exact (h2 ds rfl).elim
  · exact ((hideR_get h1).2 ds rfl).elim
/-- tables may have grown -/
theorem Stp.lam {r : Rs} {F H H1 : Hp} (s : Stp r F H F H) (e : LamX.ExtN H H1) (t : LamX.Tabs r.tabs H1) : Stp r F H F H1 where
  ex := fun b o h => e b o (s.ex b o h) (s.fnt b o h)
  old := fun _ _ h => h
  keep := fun b o h _ n => e b o h n
  new := fun _ _ h => .inl h
  fdk := s.fdk
  dal := fun b hb => by
    cases q : H b with
    | none => exact (s.dal b hb q).elim
    | some u =>
      by_cases ht : ∃ ps, u = .tbl ps
      · obtain ⟨ps, rfl⟩ := ht
        unfold Rs.dk at hb
        rcases List.mem_append.mp hb with hb | hb
        · cases hd : r.deck with
          | none => rw [hd] at hb; cases hb
          | some p =>
            obtain ⟨a, l⟩ := p
            rw [hd] at hb
            obtain ⟨ne, m, n, ns, k1, k2, _⟩ := s.dw.deck a l hd
            have hb' : b = a ∨ b = l := by simpa using hb
            rcases hb' with rfl | rfl
            · rw [k1] at q; cases q
            · rw [k2] at q; cases q
        · obtain ⟨p, hp, rfl⟩ := List.mem_map.mp hb
          obtain ⟨ps', z, _⟩ := t p hp
          rw [z]; simp
      · rw [e b u q fun ps z => ht ⟨ps, z⟩]; simp
  fnt := s.fnt
  dw := by
    refine ⟨fun a l h => ?_, t⟩
    obtain ⟨ne, m, n, ns, k1, k2, k3⟩ := s.dw.deck a l h
    exact ⟨ne, m, n, ns, e _ _ k1 fun _ z => (by cases z), e _ _ k2 fun _ z => (by cases z), k3⟩
/-- more objects, one of them a tuple that is frozen -/
theorem Stp.grow {r : Rs} {F H H2 : Hp} {q : Addr} {xs : List V} (s : Stp r F H F H) (e : ∀ b o, H b = some o → H2 b = some o) (hq : H2 q = some (.tup xs)) (hn : H q = none) : Stp r F H (upd F q (.tup xs)) H2 where
  ex := fun b o h => by
    by_cases hb : b = q
    · subst hb; rw [upd_same] at h; cases h; exact hq
    · rw [upd_ne hb] at h; exact e _ _ (s.ex b o h)
  old := fun b o h => by rw [upd_ne (ne_of_none (s.ex b o h) hn)]; exact h
  keep := fun b o h _ _ => e b o h
  new := fun b o h => by
    by_cases hb : b = q
    · subst hb; exact .inr (.of hn)
    · rw [upd_ne hb] at h; exact .inl h
  fdk := fun b hb => by
    have : b ≠ q := fun z => s.dal b hb (by rw [z]; exact hn)
    rw [upd_ne this]; exact s.fdk b hb
  dal := fun b hb => by
    cases z : H b with
    | none => exact (s.dal b hb z).elim
    | some o => rw [e b o z]; simp
  fnt := fun b o h => by
    by_cases hb : b = q
    · subst hb; rw [upd_same] at h; cases h; intro _ z; cases z
    · rw [upd_ne hb] at h; exact s.fnt b o h
  dw := s.dw.mono e
section
variable {X : Cx} {W : Wd} {ρ : Rho} {Φ : D → Prop} {ΦX : Addr → D → Prop}
theorem pd_heard {word : Addr → Option Str} {x a : Str} {g c P : Addr} {k : Nat} {pg : Arguments} {bg : List Stmt} {sg : Scope} {dV kV doc pm cdv ct oc : Value} {an od : Option Addr} {osl : Array (Option Value)} {Ng : List Str}
    {params : Arguments} {body : Expr} {scope : Scope} {p lpos pos : Pos} (hg : Gl X x) (hm : X.mg x = some (.ref g)) (hk : PySem.W.keepIn X.K (.ref g) = true)
    (lk : X.K.lookup g = some ⟨oc, od, .func (PySem.W.fnOf x x pg bg sg dV kV doc pm an cdv ct), osl⟩) (hcg : PySem.W.codeIn X.K cdv x = true) (hb : L2.Binds X.K (PySem.W.fnOf x x pg bg sg dV kV doc pm an cdv ct) [a] []) (Sg : FnScope Ng [a] sg) (hNg : Ng[0]? = some a) (hva : Vis sg a)
    (hG : LamX.GivesTo X Ng x sg g cdv bg a (X.env.qual ++ "<lambda>") (TTh word))
    (TB : LamX.TabB X.base X.mg c P) (hcode : X.env.code = .ref c) (hmT : (P, X.env.qual ++ "<lambda>") ∈ W.rs.tabs) (hu : ∀ p ∈ W.rs.tabs, p.1 = P → p.2 = X.env.qual ++ "<lambda>") (hr : Room (k + 2) X.A) (L : LamX.LamS X.env.scope scope) (hdef : defaultsOf params X.env = ([], []))
    (hbind : ∀ (q : Str) (cl : List (Str × Addr)) (pm cv ctv : Value), bindArgs (PySem.W.kla_fn "<lambda>" q params body scope cl pm cv ctv) ⟨[], []⟩ = pure [])
    (hbody : ∀ (A : Around) (outer : List Env) (s : Shared) (H F0 H0 : Hp) (E : XK) (f c' : Addr), Room k (LamX.lamCx X A outer s H E scope f c').A → TkD (LamX.lamCx X A outer s H E scope f c') ⟨W.rs, W.K, F0, H0⟩ (fun C d => ∃ wd, word C = some wd ∧ Φ (.tuple [.str wd, d])) →
      PEd (LamX.lamCx X A outer s H E scope f c') ⟨W.rs, W.K, F0, H0⟩ body (hideR ρ) fun d => Φ (.tuple [.str "told", d]))
    (hdb : (x == ("__debug__" : Str)) = false := by decide) (hd : (a == ("__debug__" : Str)) = false := by decide) (hcd : (a == ("__classdict__" : Str)) = false := by decide) :
    PEd X W (.Call (.Name x p) [.Lambda params body scope lpos] [] pos) ρ Φ := by
  refine PEd.of (LamX.pe_lamcall (T := W.rs.tabs) (t := fun E σ H Q => ∃ F, Good W F H σ ρ ∧ (∀ F' H' v d, Stp W.rs F H F' H' → Dp W.K F' v d → Φ (.tuple [.str "told", d]) → Q v H') ∧
      (∀ F' H' C d0 v d wd, Stp W.rs F H F' H' → H' d0 = some (.xd [("thing", v)]) → Dp W.K F' v d → word C = some wd → Φ (.tuple [.str wd, d]) → E (.ref C) (some d0) H'))
    hg hm hk lk hcg hb Sg hNg hva hG TB hcode hmT hu hr L hdef hbind (fun A outer s H E f c' hr2 => ?_) hdb hd hcd) fun σ H Q F g k => ?_
  · refine ⟨fun pins s' σ H' Q I h => ?_⟩
    obtain ⟨F, g, kv, ke⟩ := h
    have tk : TkD (LamX.lamCx X A outer s H E scope f c') ⟨W.rs, W.K, F, H'⟩ (fun C d => ∃ wd, word C = some wd ∧ Φ (.tuple [.str wd, d])) := by
      refine Takes.imp (takes_of (E := E) rfl rfl rfl rfl) fun cls d σ' H2 ⟨C, d0, F', v, dd, e1, e2, h1, s1, rv, wd, q1, q2⟩ => ?_
      subst e1 e2
      exact ke F' H2 C d0 v dd wd s1 h1 rv q1 q2
    exact PE.run (hbody A outer s H F H' E f c' hr2 tk) pins s' σ H' Q I ⟨F, g.rebase, kv⟩
  · refine ⟨g.st.dw.tabs, fun H1 e t => ?_⟩
    have sl := g.self.lam e t
    have g1 := g.step sl
    refine ⟨F, g1, fun F' H' v d s rv q => ?_, fun F' H' C d0 v d wd s h1 rv hw q => ?_⟩
    · refine ⟨by show 2 ≤ sizeLine; decide, fun p hp => ?_⟩
      have s2 := (s.refl).grow (ext_upd (o := .tup [.str "told", v]) hp) upd_same hp
      exact k _ _ _ _ ((sl.trans s).trans s2) (.tup (.inl (.inl upd_same)) (.cons (.str _) (.cons (dp_mono s2.old _ _ rv) .nil))) q
    · refine ⟨C, d0, v, wd, rfl, rfl, h1, hw, fun p H2 hx hp hn => ?_⟩
      have s2 := (s.refl).grow hx hp hn
      exact k _ _ _ _ ((sl.trans s).trans s2) (.tup (.inl (.inl upd_same)) (.cons (.str _) (.cons (dp_mono s2.old _ _ rv) .nil))) q
end
end TR

set_option maxRecDepth 100000
set_option maxHeartbeats 4000000
/-! T9: further rules. -/
namespace TR
open PySem PySem.Spec PyProof.Rows L2
section
variable {X : Cx} {W : Wd} {ρ : Rho} {Φ : D → Prop} {e a b c : Expr} {es : List Expr} {pos p p1 p2 p3 : Pos}
abbrev bits (i : Int) : Nat := Builtin.Int.intBits i
theorem pd_bits {apos : Pos} (h : PEd X W e ρ fun d => asI d fun i => Φ (.int (bits i : Nat))) (hbase : attributeBase e "bit_length" X.env (eval e X.env) = eval e X.env := by rfl) (hline : (apos.endLine == pos.line) = true := by rfl) : PEd X W (.Call (.Attribute e "bit_length" apos) [] [] pos) ρ Φ := by
  refine PEd.of (pe_bits (PE.univ X e) hbase hline) fun σ H Q F g k => ?_
  refine h.use g fun F1 H1 x dx s1 g1 rx h2 => ?_
  obtain ⟨i, rfl, h2⟩ := asI_elim h2
  exact ⟨i, int_inv rx, k F1 H1 _ _ s1 (.int _) h2⟩
theorem bits_le {i : Int} {k : Nat} (h0 : 0 ≤ i) (h : i < 2 ^ k) : bits i ≤ k := by
  unfold bits Builtin.Int.intBits
  split
  · omega
  · rename_i hne
    have hn : i.natAbs ≠ 0 := by simpa using hne
    have h1 : i.natAbs < 2 ^ k := by
      have e : (i.natAbs : Int) = i := Int.natAbs_of_nonneg h0
      have : (i.natAbs : Int) < ((2 ^ k : Nat) : Int) := by rw [e]; simpa using h
      exact_mod_cast this
    have := (Nat.log2_lt hn).mpr h1
    omega
/-- a comprehension that only maps -/
theorem lcw_map {scope : Scope} {t : Tgt} {own : List (Str × Nat)} {elt : Expr} {Φ : List D → Prop} {ds : List D} (g : D → D) (hl : ds.length ≤ 100000)
    (h : ∀ (i : Nat) (d : D), ds[i]? = some d → ∃ ρ', bindT t d (wipeR ρ (own.map (·.2))) = some ρ' ∧ PEb X W scope elt ρ' (fun y => y = g d)) (q : Φ (ds.map g)) : LcW X W scope t own (turn1 X W scope elt) ρ Φ ds := by
  refine ⟨fun i acc => acc = (ds.take i).map g, by simp, hl, fun i d acc hd hI _ => ?_, fun acc hI _ => ?_⟩
  · obtain ⟨ρ', hb, ht⟩ := h i d hd
    refine ⟨ρ', hb, fun s H C cl fp => (ht s H C cl fp).mono fun y hy => ?_⟩
    subst hy hI
    rw [List.take_succ, hd]
    simp
  · subst hI
    rw [List.take_length]
    exact q
theorem lcw_if {scope : Scope} {t : Tgt} {own : List (Str × Nat)} {c elt : Expr} {Φ : List D → Prop} {ds : List D} (k : D → Bool) (g : D → D) (hl : ds.length ≤ 100000)
    (h : ∀ (i : Nat) (d : D), ds[i]? = some d → ∃ ρ', bindT t d (wipeR ρ (own.map (·.2))) = some ρ' ∧ PTb X W scope c ρ' (fun b => b = k d) ∧ (k d = true → PEb X W scope elt ρ' (fun y => y = g d))) (q : Φ ((ds.filter k).map g)) :
    LcW X W scope t own (turnIf X W scope c elt) ρ Φ ds := by
  refine ⟨fun i acc => acc = ((ds.take i).filter k).map g, by simp, hl, fun i d acc hd hI _ => ?_, fun acc hI _ => ?_⟩
  · obtain ⟨ρ', hb, ht, he⟩ := h i d hd
    refine ⟨ρ', hb, fun s H C cl fp => (ht s H C cl fp).mono fun b hy => ?_⟩
    subst hy hI
    refine ⟨fun hk s H C cl fp => (he hk s H C cl fp).mono fun y hy => ?_, fun hk => ?_⟩
    · subst hy
      rw [List.take_succ, hd]
      simp [hk]
    · show List.map g (List.filter k (List.take i ds)) = List.map g (List.filter k (List.take (i + 1) ds))
      rw [List.take_succ, hd]
      simp [hk]
  · subst hI
    rw [List.take_length]
    exact q
theorem rangeD_inv {lo : Int} {n i : Nat} {d : D} (h : (rangeD lo n)[i]? = some d) : i < n ∧ d = .int (lo + i) := by
  have hi : i < n := by
    by_cases hi : i < n
    · exact hi
    · rw [List.getElem?_eq_none (by rw [rangeD_length]; omega)] at h; cases h
  rw [rangeD_get hi] at h
  cases h
  exact ⟨hi, rfl⟩
theorem ints_inv {ns : List Int} {i : Nat} {d : D} (h : (ns.map PyData.int)[i]? = some d) : ∃ j, ns[i]? = some j ∧ j ∈ ns ∧ d = .int j := by
  rw [List.getElem?_map] at h
  cases e : ns[i]? with
  | none => rw [e] at h; cases h
  | some j => rw [e] at h; cases h; exact ⟨j, rfl, List.mem_of_getElem? e, rfl⟩
/-- the whole numbers from lo on -/
def rangeI (lo : Int) (n : Nat) : List Int := (List.range n).map fun (i : Nat) => lo + (i : Int)
theorem rangeD_eq (lo : Int) (n : Nat) : rangeD lo n = (rangeI lo n).map .int := by simp [rangeD, rangeI]
theorem mem_rangeI {lo j : Int} {n : Nat} : j ∈ rangeI lo n ↔ lo ≤ j ∧ j < lo + n := by
  unfold rangeI
  simp only [List.mem_map, List.mem_range]
  constructor
  · rintro ⟨i, h, rfl⟩; omega
  · rintro ⟨h1, h2⟩; exact ⟨(j - lo).toNat, by omega, by omega⟩
theorem filter_ints (ns : List Int) (k : D → Bool) (c : Int → Bool) (h : ∀ i ∈ ns, k (.int i) = c i) : (ns.map PyData.int).filter k = (ns.filter c).map .int := by
  induction ns with
  | nil => rfl
  | cons n ns ih =>
    have h1 := h n (by simp)
    have ih := ih fun i hi => h i (by simp [hi])
    simp only [List.map_cons, List.filter_cons, h1, ih]
    cases c n <;> rfl
end
end TR

set_option maxRecDepth 100000
set_option maxHeartbeats 4000000
/-! T10: a def whose code object is known (it makes lambdas). -/
namespace TR
open PySem PySem.Spec PyProof.Rows L2
structure FunL (K : PySem.W.Frag) (x : Str) (st : Stmt) (f : Addr) (fd : FuncData) (c : Addr) : Prop where
  ex : ∃ (oc : Value) (od : Option Addr) (kV doc pm : Value) (an : Option Addr) (ct : Value) (osl : Array (Option Value)),
    fd = PySem.W.fnOf x x (defArgs st) (defBody st) (defScope st) .none kV doc pm an (.ref c) ct ∧ K.lookup f = some ⟨oc, od, .func fd, osl⟩ ∧ PySem.W.codeIn K (.ref c) x = true
  kp : PySem.W.keepIn K (.ref f) = true
theorem FunL.fun {K : PySem.W.Frag} {x : Str} {st : Stmt} {f : Addr} {fd : FuncData} {c : Addr} (F : FunL K x st f fd c) : Fun K x x st f fd := by
  obtain ⟨oc, od, kV, doc, pm, an, ct, osl, h⟩ := F.ex
  exact ⟨⟨oc, od, kV, doc, pm, an, .ref c, ct, osl, h⟩, F.kp⟩
section
variable {P : Program} {w : World} {K : PySem.W.Frag} {mg : Str → Option Value} {base : Heap} {rs : Rs}
theorem fd_mkL {x : Str} {st : Stmt} {f : Addr} {fd : FuncData} {N ps : List Str} {k : Nat} {Pr : Pf} {c : Addr} (F : FunL K x st f fd c) (hm : mg x = some (.ref f)) (S : FnScope N ps (defScope st))
    (hb : ∀ (kV doc pm : Value) (an : Option Addr) (cdv ct : Value) (us : List Value), us.length = ps.length → bindArgs (PySem.W.fnOf x x (defArgs st) (defBody st) (defScope st) .none kV doc pm an cdv ct) ⟨us, []⟩ = pure (ps.zip us)) (len : ∀ ens Φ, Pr ens Φ → ens.length = ps.length)
    (hbody : ∀ (A : Around) (outer : List Env) (s : Shared) (H F0 : Hp) (E : XK) (ens : List En) (Φ : Out → Prop), Room k (bCx P w K mg base N x st f (.ref c) A outer s H E).A → Pr ens Φ →
      TkD (bCx P w K mg base N x st f (.ref c) A outer s H E) ⟨rs, K, F0, H⟩ (fun C d => Φ (.err C d)) →
      PSsd (bCx P w K mg base N x st f (.ref c) A outer s H E) ⟨rs, K, F0, H⟩ (defBody st) (rho0 N ens) { nx := fun _ => Φ (.val .none), rt := fun d => Φ (.val d) }) : Fd P w K mg base rs (k + 1) x st ps Pr := by
  have F0 := F.fun
  obtain ⟨oc, od, kV, doc, pm, an, ct, osl, rfl, lk, hcd⟩ := F.ex
  refine ⟨f, _, hm, F0, fun us hu => hb kV doc pm an (.ref c) ct us hu, ?_⟩
  refine fn_of lk hcd S (fun vs H Q E ⟨F0, ens, Φ, _, r, p, _⟩ => by rw [r.len]; exact len _ _ p) fun A outer s H vs Q E hr ⟨F0, ens, Φ, st0, r, p, kv, ke⟩ => ?_
  have tk : TkD (bCx P w K mg base N x st f (.ref c) A outer s H E) ⟨rs, K, F0, H⟩ (fun C d => Φ (.err C d)) := by
    refine Takes.imp (takes_of (E := E) rfl rfl rfl rfl) fun cls d σ H' ⟨C, d0, F', v, dd, e1, e2, h1, s1, rv, q⟩ => ?_
    subst e1 e2
    exact ke F' H' C d0 v dd s1 h1 rv q
  exact ⟨_, hbody A outer s H F0 E ens Φ hr p tk, F0, good0 st0 r, fun F' H' σ' ρ' g' _ q => kv F' H' .non .none g'.st .non q, fun F' H' v d s1 rv q => kv F' H' v d s1 rv q, fun _ _ _ _ _ _ z => z, fun _ _ _ _ _ _ z => z⟩
end
/-- the slots written out -/
theorem psd_eq {X : Cx} {W : Wd} {ρ ρ' : Rho} {S : List Stmt} {Ψ : Post} (e : ρ = ρ') (h : PSsd X W S ρ' Ψ) : PSsd X W S ρ Ψ := by
  subst e
  exact h
end TR

set_option maxRecDepth 100000
set_option maxHeartbeats 4000000
/-! T11: slices of lists, the deck is made, a law's beginning and end. -/
namespace TR
open PySem PySem.Spec PyProof.Rows L2
theorem da_reverse {K : PySem.W.Frag} {F : Hp} : ∀ {vs : List V} {ds : List D}, DpAll K F vs ds → DpAll K F vs.reverse ds.reverse
  | _, _, .nil => .nil
  | _, _, .cons a t => by
    rw [List.reverse_cons, List.reverse_cons]
    exact da_append (da_reverse t) (.cons a .nil)
section
variable {X : Cx} {W : Wd} {ρ : Rho} {e e1 e2 e3 : Expr} {pos p p1 p2 p3 q1 q2 q3 : Pos}
/-- xs[:k] of a list -/
theorem pn_take {Φ : List D → Prop} {k j : Nat} {i : Int} (hi : i = (k : Int)) (hK : X.K = W.K) (h : PEd X W e ρ fun d => asL d fun ds => Φ (ds.take k)) :
    PEn X W (.Subscript e (.Slice none (some (.Constant (.int i) j p1)) none p2) pos) ρ Φ := by
  subst hi
  refine PEn.of (pe_slice sl_list (PE.univ X e) po_none (po_some pe_int)) fun σ H Q F g k' => ?_
  refine h.use g fun F1 H1 x dx s1 g1 rx h2 => ?_
  obtain ⟨ds, rfl, h2⟩ := asL_elim h2
  obtain ⟨a, xs, rfl, q1, q2⟩ := list_inv rx
  refine ⟨(k : Int), rfl, a, xs, rfl, by rw [hK]; exact sqL_mono g1.st.ex q1, fun l hl => ?_⟩
  obtain ⟨n1, n2, n3⟩ := fresh_back g.self s1 hl
  have ec : cutV xs none (some (k : Int)) = xs.take k := by
    unfold cutV
    rw [HT.sIx_none, HT.sIx_nat, List.drop_zero, Nat.sub_zero]
    rcases Nat.le_total k xs.length with z | z
    · rw [Nat.min_eq_left z]
    · rw [Nat.min_eq_right z, List.take_length, List.take_of_length_le z]
  rw [ec]
  exact k' _ _ l _ _ (s1.trans (g1.self.newO hl)) upd_same n1 ⟨n2, n3⟩ (da_take k q2) h2
/-- xs[::-1] of a list -/
theorem pn_rev {Φ : List D → Prop} {k : Nat} (hK : X.K = W.K) (h : PEd X W e ρ fun d => asL d fun ds => Φ ds.reverse) :
    PEn X W (.Subscript e (.Slice none none (some (.UnaryOp .USub (.Constant (.int 1) k p1) p2)) p3) pos) ρ Φ := by
  refine PEn.of (pe_revL (PE.univ X e)) fun σ H Q F g k' => ?_
  refine h.use g fun F1 H1 x dx s1 g1 rx h2 => ?_
  obtain ⟨ds, rfl, h2⟩ := asL_elim h2
  obtain ⟨a, xs, rfl, q1, q2⟩ := list_inv rx
  refine ⟨a, xs, rfl, by rw [hK]; exact sqL_mono g1.st.ex q1, fun l hl => ?_⟩
  obtain ⟨n1, n2, n3⟩ := fresh_back g.self s1 hl
  exact k' _ _ l _ _ (s1.trans (g1.self.newO hl)) upd_same n1 ⟨n2, n3⟩ (da_reverse q2) h2
/-- an own empty dict is filled -/
theorem Stp.dput {r : Rs} {F0 H0 F H : Hp} {p : Addr} {kv : List (Key × V)} (s : Stp r F0 H0 F H) (hH : H p = some (.dK [])) (hF : F p = none) (h0 : NoT H0 p) (hd : p ∉ r.dk) : Stp r F0 H0 F (upd H p (.dK kv)) where
  ex := fun b u e => by rw [upd_ne (ne_of_none e hF)]; exact s.ex b u e
  old := s.old
  keep := fun b u e n t => by rw [upd_ne (h0.ne e t)]; exact s.keep b u e n t
  new := s.new
  fdk := s.fdk
  dal := fun b hb => by
    have : b ≠ p := fun z => hd (z ▸ hb)
    rw [upd_ne this]; exact s.dal b hb
  fnt := s.fnt
  dw := by
    refine ⟨fun a l h => ?_, fun q hq => ?_⟩
    · have hin := dk_of h
      obtain ⟨ne, m, n, ns, h1, h2, h3⟩ := s.dw.deck a l h
      exact ⟨ne, m, n, ns, by rw [upd_ne (fun z : a = p => hd (z ▸ hin.1))]; exact h1, by rw [upd_ne (fun z : l = p => hd (z ▸ hin.2))]; exact h2, h3⟩
    · obtain ⟨ps, h1, h2, h3⟩ := s.dw.tabs q hq
      refine ⟨ps, by rw [upd_ne (fun z => by rw [z, hH] at h1; cases h1)]; exact h1, h2, fun pos cv hc => ?_⟩
      obtain ⟨c, e1, e2⟩ := h3 pos cv hc
      refine ⟨c, e1, ?_⟩
      rw [upd_ne (fun z => by rw [z, hH] at e2; unfold LamX.CodeO at e2; cases e2)]
      exact e2
/-- what the making of a deck gives -/
structure DeckNew (tabs : List (Addr × Str)) (F H F' H' : Hp) (ad al : Addr) : Prop where
  st : Stp ⟨none, tabs⟩ F H F' H'
  nw : Stp ⟨some (ad, al), tabs⟩ F' H' F' H'
def tDeckNew (tabs : List (Addr × Str)) (K : PySem.W.Frag) (F0 H0 : Hp) (ρ : Rho) : TE := fun σ H Q => ∃ F, Good ⟨⟨none, tabs⟩, K, F0, H0⟩ F H σ ρ ∧ ∀ F' H' ad al, DeckNew tabs F H F' H' ad al → Q (.ref ad) H'
theorem mergeK3 (q : Addr) (m n : Int) : mergeK [] [(kL, V.ref q), (kM, .int m), (kD, .int n)] = deckKv q m n := by
  have h1 : ¬ (Sum.inr (Str.ofString "left") : Key) = Sum.inr (Str.ofString "mixed") := by decide
  have h2 : ¬ (Sum.inr (Str.ofString "left") : Key) = Sum.inr (Str.ofString "draws") := by decide
  have h3 : ¬ (Sum.inr (Str.ofString "mixed") : Key) = Sum.inr (Str.ofString "draws") := by decide
  simp only [mergeK, List.foldl_cons, List.foldl_nil, putK, List.any_nil, List.any_cons, List.nil_append, List.cons_append, h1, h2, h3, decide_false, Bool.or_false, if_false, Bool.false_eq_true]
theorem pe_deckNew {tabs : List (Addr × Str)} {K : PySem.W.Frag} {F0 H0 : Hp} {j1 j2 j3 : Nat} (h : PEn X ⟨⟨none, tabs⟩, K, F0, H0⟩ e1 ρ fun ds => (∃ ns : List Int, ds = ns.map .int ∧ ns.length ≤ 63) ∧ PEd X ⟨⟨none, tabs⟩, K, F0, H0⟩ e2 ρ fun d2 => (∃ i, d2 = .int i) ∧ PEd X ⟨⟨none, tabs⟩, K, F0, H0⟩ e3 ρ fun d3 => ∃ i, d3 = .int i) :
    PE X (.Dict [some (.Constant (.str "left") j1 q1), some (.Constant (.str "mixed") j2 q2), some (.Constant (.str "draws") j3 q3)] [e1, e2, e3] pos) (tDeckNew tabs K F0 H0 ρ) := by
  refine PE.weak (pe_disp (pps_cons pe_str (PE.univ X e1) (pps_cons pe_str (PE.univ X e2) (pps_cons pe_str (PE.univ X e3) pps_nil))) rfl rfl (by simp) (by show 3 ≤ 15; decide)) fun σ H Q ⟨F, g, k⟩ => fun p hp => ?_
  have s0 := g.self.newO (o := .dK []) hp
  have g0 := g.step s0
  have hpd : p ∉ (Rs.mk none tabs).dk := fun z => g.st.dal p z hp
  have hFp : F p = none := by
    cases z : F p with
    | none => rfl
    | some o => rw [g.st.ex _ _ z] at hp; cases hp
  refine PEn.use h g0 fun F1 H1 q xs ds s1 g1 l1 l2 l3 r1 ⟨⟨ns, en, hn⟩, h2⟩ => ?_
  subst en
  obtain rfl := da_ints r1
  refine PEd.use h2 g1 fun F2 H2 v2 d2 s2 g2 r2 ⟨⟨m, em⟩, h3⟩ => ?_
  subst em
  cases int_inv r2
  refine PEd.use h3 g2 fun F3 H3 v3 d3 s3 g3 r3 ⟨n, ed⟩ => ?_
  subst ed
  cases int_inv r3
  have sA := (s1.trans s2).trans s3
  have hp3 : H3 p = some (.dK []) := sA.keep _ _ upd_same hpd fun _ z => by cases z
  have hq3 : H3 q = some (.lst (ns.map V.int)) := (s2.trans s3).keepL l1 l3.2
  have hpq : p ≠ q := fun z => by rw [z, hq3] at hp3; cases hp3
  have sT := s0.trans sA
  have hF3p : F3 p = none := by
    cases z : F3 p with
    | none => rfl
    | some o =>
      rcases sA.new p o z with y | y
      · rw [hFp] at y; cases y
      · obtain ⟨_, w⟩ := y _ upd_same
        cases w
  have hF3q : F3 q = none := by
    cases z : F3 q with
    | none => rfl
    | some o =>
      rcases (s2.trans s3).new q o z with y | y
      · rw [l2] at y; cases y
      · exact (y.lst l1).elim
  refine ⟨hp3, [(kL, V.ref q), (kM, .int m), (kD, .int n)], rfl, by show 3 ≤ 15; decide, ?_⟩
  rw [mergeK3]
  have sF := sT.dput (kv := deckKv q m n) hp3 hF3p (.of hp) hpd
  refine k F3 _ p q ⟨sF, sF.ex, fun _ _ h => h, fun _ _ h _ _ => h, fun _ _ h => .inl h, fun b hb => ?_, fun b hb => ?_, sF.fnt, fun a l hd => ?_, sF.dw.tabs⟩
  · have hb' : b = p ∨ b = q ∨ b ∈ (Rs.mk none tabs).dk := by
      unfold Rs.dk at hb ⊢
      simpa [or_assoc] using hb
    rcases hb' with rfl | rfl | hb'
    · exact hF3p
    · exact hF3q
    · exact sF.fdk b hb'
  · have hb' : b = p ∨ b = q ∨ b ∈ (Rs.mk none tabs).dk := by
      unfold Rs.dk at hb ⊢
      simpa [or_assoc] using hb
    rcases hb' with rfl | rfl | hb'
    · rw [upd_same]; simp
    · rw [upd_ne (Ne.symm hpq), hq3]; simp
    · exact sF.dal b hb'
  · cases hd
    exact ⟨hpq, m, n, ns, upd_same, by rw [upd_ne (Ne.symm hpq)]; exact hq3, hn⟩
end
end TR

set_option maxRecDepth 100000
set_option maxHeartbeats 4000000
namespace K33
open PySem PySem.Spec PyProof.Rows L2 TR
abbrev topS (i : Nat) : Stmt := PySem.Challenge.pw_toldinbounds_k33_choices_that_mislead.main.body.getD i (.Pass ⟨0, 0, 0, 0⟩)
/-- what the module's names mean -/
structure Ms (K : PySem.W.Frag) (mg : Str → Option Value) (cM cR cT fI : Addr) : Prop where
  z_range : mg "range" = none
  z_len : mg "len" = none
  z_int : mg "int" = none
  z_bool : mg "bool" = none
  z_str : mg "str" = none
  z_list : mg "list" = none
  z_tuple : mg "tuple" = none
  z_isinstance : mg "isinstance" = none
  z_abs : mg "abs" = none
  z_sum : mg "sum" = none
  z_all : mg "all" = none
  z_min : mg "min" = none
  z_max : mg "max" = none
  z_zip : mg "zip" = none
  g_MOST_BITS : ∃ t, mg "MOST_BITS" = some (.int 1400 t)
  g_MOST_ROWS : ∃ t, mg "MOST_ROWS" = some (.int 60 t)
  g_MOST_SHARE : ∃ t, mg "MOST_SHARE" = some (.int 1000000 t)
  g_BadMany : mg "BadMany" = some (.ref cM)
  g_BadRange : mg "BadRange" = some (.ref cR)
  T_BadMany : ErrC K cM cT fI
  T_BadRange : ErrC K cR cT fI
def wholeD : D → Bool | .int i => decide (bits i ≤ 1400) | _ => false
def wholeB (d : D) (l m : Int) : Bool := match d with | .int i => decide (l ≤ i ∧ i ≤ m) | _ => false
def need (d : D) (l m : Int) (k : Int → Prop) (e : Prop) : Prop := match d with | .int i => if l ≤ i ∧ i ≤ m then k i else e | _ => e
theorem need_pos {i l m : Int} {k : Int → Prop} {e : Prop} (h1 : l ≤ i) (h2 : i ≤ m) (h : k i) : need (.int i) l m k e := by
  show if l ≤ i ∧ i ≤ m then k i else e
  rw [if_pos ⟨h1, h2⟩]; exact h
theorem need_neg {d : D} {l m : Int} {k : Int → Prop} {e : Prop} (h : wholeB d l m = false) (he : e) : need d l m k e := by
  cases d <;> first | exact he | skip
  rename_i i
  show if l ≤ i ∧ i ≤ m then k i else e
  rw [if_neg (of_decide_eq_false h)]; exact he
theorem need_mono {d : D} {l m : Int} {k k' : Int → Prop} {e e' : Prop} (h : need d l m k e) (hk : ∀ i, d = .int i → l ≤ i → i ≤ m → k i → k' i) (he : e → e') : need d l m k' e' := by
  cases d <;> first | exact he h | skip
  rename_i i
  change if l ≤ i ∧ i ≤ m then k i else e at h
  show if l ≤ i ∧ i ≤ m then k' i else e'
  by_cases c : l ≤ i ∧ i ≤ m
  · rw [if_pos c] at h ⊢; exact hk i rfl c.1 c.2 h
  · rw [if_neg c] at h ⊢; exact he h
section
variable {P : Program} {w : World} {K : PySem.W.Frag} {mg : Str → Option Value} {base : Heap} {rs : Rs} {cM cR cT fI : Addr} (M : Ms K mg cM cR cT fI)
include M
abbrev sis_whole : Stmt := topS 2
omit M in
theorem scis_whole : FnScope ["thing"] ["thing"] (defScope sis_whole) := ⟨rfl, rfl, rfl, by decide +kernel, rfl, by decide +kernel, by decide +kernel⟩
abbrev Pis_whole : Pf := fun ens Φ => ∃ d, ens = [.dat d] ∧ Φ (.val (.bool (wholeD d)))
theorem okis_whole {f : Addr} {fd : FuncData} (F : Fun K "is_whole" "is_whole" sis_whole f fd) (hm : mg "is_whole" = some (.ref f)) :
    Fd P w K mg base rs 1 "is_whole" sis_whole ["thing"] Pis_whole := by
  refine fd_mk F hm scis_whole (fun _ _ _ _ _ _ us hl => match us, hl with | [_], _ => rfl) (fun ens Φ ⟨_, e, _⟩ => by rw [e]; rfl) fun cdv A outer s H F0 E ens Φ hr hp tk => ?_
  obtain ⟨d, rfl, hp⟩ := hp
  refine TR.psd_cons ?_
  refine TR.psd_ret ?_
  refine TR.PEd.mono (Φ := fun d' => d' = .bool (wholeD d)) ?_ ?_
  · refine TR.pd_and ?_
    refine TR.pd_isi (T' := "int") M.z_isinstance M.z_int (by decide +kernel) (by decide +kernel) rfl ?_ rfl
    refine TR.pd_name 0 rfl rfl ?_
    refine ⟨fun h => ?_, fun h => ?_⟩
    · refine TR.pd_and ?_
      refine TR.pd_not ?_
      refine TR.pd_isi (T' := "bool") M.z_isinstance M.z_bool (by decide +kernel) (by decide +kernel) rfl ?_ rfl
      refine TR.pd_name 0 rfl rfl ?_
      refine ⟨fun h2 => ?_, fun h2 => ?_⟩
      · cases d <;> first | exact absurd h Bool.false_ne_true | exact absurd h2 Bool.false_ne_true | skip
        refine TR.pd_one ?_
        refine TR.pd_le ?_
        refine TR.pd_bits ?_
        refine TR.pd_name 0 rfl rfl ?_
        refine TR.pd_glob (by rfl) M.g_MOST_BITS ?_
        rename_i i
        show PyData.bool (decide ((bits i : Int) ≤ 1400)) = PyData.bool (decide (bits i ≤ 1400))
        congr 1
        exact decide_eq_decide.mpr (by omega)
      · cases d <;> first | rfl | exact absurd h Bool.false_ne_true | exact absurd h2.symm Bool.false_ne_true
    · cases d <;> first | rfl | exact absurd h.symm Bool.false_ne_true
  · intro d' hd
    subst hd
    exact hp
abbrev sis_whole_between : Stmt := topS 3
omit M in
theorem scis_whole_between : FnScope ["thing", "least", "most"] ["thing", "least", "most"] (defScope sis_whole_between) := ⟨rfl, rfl, rfl, by decide +kernel, rfl, by decide +kernel, by decide +kernel⟩
abbrev Pis_whole_between : Pf := fun ens Φ => ∃ (d : D) (l m : Int), ens = [.dat d, .dat (.int l), .dat (.int m)] ∧ (0 ≤ l ∧ m < 2 ^ 60) ∧ Φ (.val (.bool (wholeB d l m)))
theorem okis_whole_between {f : Addr} {fd : FuncData} (F : Fun K "is_whole_between" "is_whole_between" sis_whole_between f fd) (hm : mg "is_whole_between" = some (.ref f))
    (h_is_whole : Fd P w K mg base rs 1 "is_whole" sis_whole ["thing"] Pis_whole) :
    Fd P w K mg base rs 2 "is_whole_between" sis_whole_between ["thing", "least", "most"] Pis_whole_between := by
  refine fd_mk F hm scis_whole_between (fun _ _ _ _ _ _ us hl => match us, hl with | [_, _, _], _ => rfl) (fun ens Φ ⟨_, _, _, e, _⟩ => by rw [e]; rfl) fun cdv A outer s H F0 E ens Φ hr hp tk => ?_
  obtain ⟨d, l, m, rfl, ⟨hl, hm⟩, hp⟩ := hp
  refine TR.psd_cons ?_
  refine TR.psd_ret ?_
  refine TR.PEd.mono (Φ := fun d' => d' = .bool (wholeB d l m)) ?_ ?_
  · refine TR.pd_and ?_
    refine TR.pd_call h_is_whole rfl (hr.mono (by decide)) rfl tk ?_
    refine TR.pa_cons ?_
    refine TR.pd_name 0 rfl rfl ?_
    refine TR.pa_nil ?_
    refine ⟨d, rfl, ?_⟩
    refine ⟨fun h => ?_, fun h => ?_⟩
    · cases d <;> first | exact Bool.noConfusion h | skip
      rename_i i
      refine TR.pd_one ?_
      refine TR.pd_chain op_le op_le rcI rcI (by rfl) ?_
      refine TR.pd_name 1 rfl rfl ?_
      refine TR.pd_name 0 rfl rfl ?_
      refine ⟨fun h2 => ?_, fun h2 => ?_⟩
      · refine TR.pd_name 2 rfl rfl ?_
        have h2 := of_decide_eq_true h2
        show PyData.bool (decide (i ≤ m)) = PyData.bool (decide (l ≤ i ∧ i ≤ m))
        congr 1
        exact decide_eq_decide.mpr (by omega)
      · have h2 := of_decide_eq_false h2
        show PyData.bool false = PyData.bool (decide (l ≤ i ∧ i ≤ m))
        congr 1
        exact (decide_eq_false (by omega)).symm
    · cases d <;> first | rfl | skip
      rename_i i
      have h : decide (bits i ≤ 1400) = false := h
      have h := of_decide_eq_false h
      show PyData.bool false = PyData.bool (decide (l ≤ i ∧ i ≤ m))
      congr 1
      refine (decide_eq_false fun ⟨h1, h2⟩ => h ?_).symm
      exact Nat.le_trans (bits_le (k := 60) (by omega) (by omega)) (by decide)
  · intro d' hd
    subst hd
    exact hp
abbrev sneed_between : Stmt := topS 11
omit M in
theorem scneed_between : FnScope ["thing", "least", "most"] ["thing", "least", "most"] (defScope sneed_between) := ⟨rfl, rfl, rfl, by decide +kernel, rfl, by decide +kernel, by decide +kernel⟩
abbrev Pneed_between (cM : Addr) : Pf := fun ens Φ => ∃ (d : D) (l m : Int), ens = [.dat d, .dat (.int l), .dat (.int m)] ∧ (0 ≤ l ∧ m < 2 ^ 60) ∧ need d l m (fun _ => Φ (.val .none)) (Φ (.err cM d))
omit M in
theorem need_of {d : D} {l m : Int} {k : Int → Prop} {e : Prop} (h : need d l m k e) : (wholeB d l m = true → ∃ i, k i) ∧ (wholeB d l m = false → e) := by
  cases d <;> first | exact ⟨fun z => Bool.noConfusion z, fun _ => h⟩ | skip
  rename_i i
  change if l ≤ i ∧ i ≤ m then k i else e at h
  constructor
  · intro z
    have z := of_decide_eq_true z
    rw [if_pos z] at h
    exact ⟨i, h⟩
  · intro z
    have z := of_decide_eq_false z
    rw [if_neg z] at h
    exact h
theorem okneed_between {f : Addr} {fd : FuncData} (F : Fun K "need_between" "need_between" sneed_between f fd) (hm : mg "need_between" = some (.ref f))
    (h_is_whole_between : Fd P w K mg base rs 2 "is_whole_between" sis_whole_between ["thing", "least", "most"] Pis_whole_between) :
    Fd P w K mg base rs 3 "need_between" sneed_between ["thing", "least", "most"] (Pneed_between cM) := by
  refine fd_mk F hm scneed_between (fun _ _ _ _ _ _ us hl => match us, hl with | [_, _, _], _ => rfl) (fun ens Φ ⟨_, _, _, e, _⟩ => by rw [e]; rfl) fun cdv A outer s H F0 E ens Φ hr hp tk => ?_
  obtain ⟨d, l, m, rfl, hb, hp⟩ := hp
  have hp := need_of hp
  refine TR.psd_cons ?_
  refine TR.psd_if ?_
  refine TR.pt_not ?_
  refine TR.pt_val ?_
  refine TR.pd_call h_is_whole_between rfl (hr.mono (by decide)) rfl tk ?_
  refine TR.pa_cons ?_
  refine TR.pd_name 0 rfl rfl ?_
  refine TR.pa_cons ?_
  refine TR.pd_name 1 rfl rfl ?_
  refine TR.pa_cons ?_
  refine TR.pd_name 2 rfl rfl ?_
  refine TR.pa_nil ?_
  refine ⟨d, l, m, rfl, hb, ?_⟩
  refine ⟨fun h => ?_, fun h => ?_⟩
  · refine TR.psd_cons ?_
    refine TR.psd_raise (k := 0) M.T_BadMany M.g_BadMany rfl (hr.mono (by decide)) tk ?_ rfl
    refine TR.pd_name 0 rfl rfl ?_
    exact hp.2 (by simpa using h)
  · refine TR.psd_nil ?_
    refine TR.psd_nil ?_
    obtain ⟨_, z⟩ := hp.1 (by simpa using h)
    exact z
end
end K33

set_option maxRecDepth 100000
set_option maxHeartbeats 4000000
namespace K33
open PySem PySem.Spec PyProof.Rows L2 TR
def chooseBy (n m : Int) : Int := if m < 0 ∨ n < m then 0 else (List.range m.toNat).foldl (fun f (k : Nat) => f * (n - k) / (k + 1)) 1
def oddB (n a m e j : Int) : Bool := decide (e * m < (if n * j - a * m < 0 then -(n * j - a * m) else n * j - a * m))
def misBy (n a m e : Int) : Int := (((rangeI 0 (m + 1).toNat).filter (oddB n a m e)).map fun j => chooseBy a j * chooseBy (n - a) (m - j)).sum
def isEnough (n low high m e p q : Int) : Bool := (rangeI low (high + 1 - low).toNat).all fun a => decide (q * misBy n a m e ≤ p * chooseBy n m)
section
variable {P : Program} {w : World} {K : PySem.W.Frag} {mg : Str → Option Value} {base : Heap} {rs : Rs} {cM cR cT fI : Addr} (M : Ms K mg cM cR cT fI)
include M

abbrev Pchoices_by : Pf := fun ens Φ => ∃ n m : Int, ens = [.dat (.int n), .dat (.int m)] ∧ (-(2 ^ 40) < n ∧ n < 2 ^ 40 ∧ m < 2 ^ 40) ∧ Φ (.val (.int (chooseBy n m)))
abbrev schoices_by : Stmt := topS 12
omit M in
theorem scchoices_by : FnScope ["n", "m", "found", "k"] ["n", "m"] (defScope schoices_by) := ⟨rfl, rfl, rfl, by decide +kernel, rfl, by decide +kernel, by decide +kernel⟩
theorem okchoices_by {f : Addr} {fd : FuncData} (F : Fun K "choices_by" "choices_by" schoices_by f fd) (hm : mg "choices_by" = some (.ref f)) :
    Fd P w K mg base rs 1 "choices_by" schoices_by ["n", "m"] Pchoices_by := by
  refine fd_mk F hm scchoices_by (fun _ _ _ _ _ _ us hl => match us, hl with | [_, _], _ => rfl) (fun ens Φ ⟨_, _, e, _⟩ => by rw [e]; rfl) fun cdv A outer s H F0 E ens Φ hr hp tk => ?_
  obtain ⟨n, m, rfl, ⟨hn0, hn, hmm⟩, hp⟩ := hp
  refine TR.psd_cons ?_
  -- if m < 0 or m > n:
  refine TR.psd_if ?_
  refine TR.PTd.mono (Φ := fun k => k = decide (m < 0 ∨ n < m)) ?_ ?_
  · refine TR.pt_pw ?_
    refine TR.pw_or ?_
    refine TR.pt_lt ?_
    refine TR.pd_name 1 rfl rfl ?_
    refine TR.pd_int ?_
    refine ⟨fun h => ?_, fun h => ?_⟩
    · exact (decide_eq_true (.inl (of_decide_eq_true h))).symm
    · skip
      refine TR.pw_or1 ?_
      refine TR.pt_gt ?_
      refine TR.pd_name 1 rfl rfl ?_
      refine TR.pd_name 0 rfl rfl ?_
      exact decide_eq_decide.mpr (by have := of_decide_eq_false h; omega)
  · intro k hk
    subst hk
    refine ⟨fun h => ?_, fun h => ?_⟩
    · skip
      refine TR.psd_cons ?_
      -- return 0
      refine TR.psd_ret ?_
      refine TR.pd_int ?_
      have e : chooseBy n m = 0 := if_pos (of_decide_eq_true h)
      rw [e] at hp
      exact hp
    · skip
      refine TR.psd_nil ?_
      refine TR.psd_cons ?_
      -- found = 1
      refine TR.psd_asg 2 scchoices_by.nd rfl ?_
      refine TR.pd_int ?_
      refine TR.psd_cons ?_
      -- for k in range(m):
      refine TR.psd_for (.nm 3) rfl rfl (passes_of rfl) (pg_name (i := 3) scchoices_by.nd rfl (.inl rfl)) ?_
      refine TR.pid_range1 M.z_range ?_
      refine TR.pa_cons ?_
      refine TR.pd_name 1 rfl rfl ?_
      refine TR.pa_nil ?_
      have h := of_decide_eq_false h
      refine ⟨by omega, ?_⟩
      refine ⟨fun i ρ => ∃ o, ρ = [some (.dat (.int n)), some (.dat (.int m)), some (.dat (.int ((List.range i).foldl (fun f (k : Nat) => f * (n - k) / (k + 1)) 1))), o], ⟨_, rfl⟩, ?_, ?_⟩
      · intro i d ρ1 hd hI
        obtain ⟨hi, rfl⟩ := rangeD_inv hd
        obtain ⟨o, rfl⟩ := hI
        refine ⟨_, rfl, ?_⟩
        refine TR.psd_cons ?_
        -- found = found * (n - k) // (k + 1)
        refine TR.psd_asg 2 scchoices_by.nd rfl ?_
        refine TR.pd_div ?_
        refine TR.pd_mul ?_
        refine TR.pd_name 2 rfl rfl ?_
        refine TR.pd_sub ?_
        refine TR.pd_name 0 rfl rfl ?_
        refine TR.pd_name 3 rfl rfl ?_
        refine ⟨.inr ⟨by omega, by omega⟩, ?_⟩
        refine TR.pd_add ?_
        refine TR.pd_name 3 rfl rfl ?_
        refine TR.pd_int ?_
        refine ⟨wide_div (b := 41) (by omega) (by omega) (by decide) (by decide), ?_⟩
        refine TR.psd_nil ?_
        refine ⟨some (.dat (.int (0 + (i : Int)))), ?_⟩
        rw [List.range_succ, List.foldl_append]
        simp only [Int.zero_add]
        rfl
      · intro ρ1 hI
        obtain ⟨o, rfl⟩ := hI
        refine TR.psd_cons ?_
        -- return found
        refine TR.psd_ret ?_
        refine TR.pd_name 2 rfl rfl ?_
        rw [rangeD_length]
        have e : chooseBy n m = _ := if_neg h
        rw [e] at hp
        exact hp


omit M in
theorem cm {i j : Int} (h1 : -(2 ^ 62) < i) (h2 : i < 2 ^ 62) : CMul i j := .inl ⟨by omega, by omega⟩
omit M in
theorem choose_lt : ∀ n ∈ List.range 61, ∀ m ∈ List.range 62, 0 ≤ chooseBy (n : Int) (m : Int) ∧ chooseBy (n : Int) (m : Int) < 2 ^ 60 := by decide +kernel
omit M in
theorem choose_b {n m : Int} (h0 : 0 ≤ n) (h1 : n ≤ 60) (h2 : m ≤ 61) : 0 ≤ chooseBy n m ∧ chooseBy n m < 2 ^ 60 := by
  by_cases h : m < 0
  · have e : chooseBy n m = 0 := if_pos (.inl h)
    rw [e]; decide
  · obtain ⟨a, rfl⟩ := Int.eq_ofNat_of_zero_le h0
    obtain ⟨b, rfl⟩ := Int.eq_ofNat_of_zero_le (show 0 ≤ m by omega)
    exact choose_lt a (List.mem_range.mpr (by omega)) b (List.mem_range.mpr (by omega))

abbrev Pmisled_by : Pf := fun ens Φ => ∃ n a m e : Int, ens = [.dat (.int n), .dat (.int a), .dat (.int m), .dat (.int e)] ∧ (0 ≤ a ∧ a ≤ n ∧ n ≤ 60 ∧ 0 ≤ m ∧ m ≤ n ∧ 0 ≤ e ∧ e ≤ 100) ∧ Φ (.val (.int (misBy n a m e)))
abbrev smisled_by : Stmt := topS 13
omit M in
theorem scmisled_by : FnScope ["n", "a", "m", "e", "odd", "j"] ["n", "a", "m", "e"] (defScope smisled_by) := ⟨rfl, rfl, rfl, by decide +kernel, rfl, by decide +kernel, by decide +kernel⟩
theorem okmisled_by {f : Addr} {fd : FuncData} (F : Fun K "misled_by" "misled_by" smisled_by f fd) (hm : mg "misled_by" = some (.ref f))
    (h_choices_by : Fd P w K mg base rs 1 "choices_by" schoices_by ["n", "m"] Pchoices_by) :
    Fd P w K mg base rs 2 "misled_by" smisled_by ["n", "a", "m", "e"] Pmisled_by := by
  refine fd_mk F hm scmisled_by (fun _ _ _ _ _ _ us hl => match us, hl with | [_, _, _, _], _ => rfl) (fun ens Φ ⟨_, _, _, _, e, _⟩ => by rw [e]; rfl) fun cdv A outer s H F0 E ens Φ hr hp tk => ?_
  obtain ⟨n, a, m, e, rfl, hb, hp⟩ := hp
  refine TR.psd_cons ?_
  -- odd = [j for j in range(m + 1) if abs(n * j - a * m) > e * m]
  refine TR.psd_lcIfN 4 (.nm 5) (own := [("j", 5)]) rfl scmisled_by.nd rfl rfl (sw_true rfl rfl rfl (by decide +kernel)) (blkOk_by rfl) (fun _ _ _ _ _ => (pg_name (i := 5) scmisled_by.nd rfl (.inl rfl) (.inr rfl))) (by decide) ?_
  refine TR.pid_range1 M.z_range ?_
  refine TR.pa_cons ?_
  refine TR.pd_add ?_
  refine TR.pd_name 2 rfl rfl ?_
  refine TR.pd_int ?_
  refine TR.pa_nil ?_
  refine ⟨by omega, ?_⟩
  refine lcw_if (fun d => match d with | .int j => oddB n a m e j | _ => false) id (by rw [rangeD_length]; omega) (fun i d hd => ?_) ?_
  · obtain ⟨hi, rfl⟩ := rangeD_inv hd
    refine ⟨_, rfl, fun s H C cl fp => ?_, fun _ s H C cl fp => ?_⟩
    · refine TR.pt_gt ?_
      refine TR.pd_abs M.z_abs ?_
      refine TR.pa_cons ?_
      refine TR.pd_sub ?_
      refine TR.pd_mul ?_
      refine TR.pd_name 0 rfl rfl ?_
      refine TR.pd_name 5 rfl rfl ?_
      refine ⟨cm (by omega) (by omega), ?_⟩
      refine TR.pd_mul ?_
      refine TR.pd_name 1 rfl rfl ?_
      refine TR.pd_name 2 rfl rfl ?_
      refine ⟨cm (by omega) (by omega), ?_⟩
      refine TR.pa_nil ?_
      refine TR.pd_mul ?_
      refine TR.pd_name 3 rfl rfl ?_
      refine TR.pd_name 2 rfl rfl ?_
      refine ⟨cm (by omega) (by omega), ?_⟩
      rfl
    · refine TR.pd_name 5 rfl rfl ?_
      rfl
  · rw [rangeD_eq, filter_ints _ _ (oddB n a m e) (fun i _ => rfl), List.map_id]
    refine TR.psd_cons ?_
    refine TR.psd_ret ?_
    refine TR.pd_lend 4 rfl ?_
    refine TR.pd_sum rfl rfl M.z_sum ?_
    refine TR.pa_cons ?_
    refine TR.pd_ofN ?_
    refine TR.pn_lc (.nm 5) (own := [("j", 5)]) rfl scmisled_by.nd (blkOk_by rfl) (fun _ _ _ _ _ => (pg_name (i := 5) scmisled_by.nd rfl (.inl rfl) (.inr rfl))) (by decide) ?_
    refine TR.pid_list rfl ?_
    refine TR.pd_name 4 rfl rfl ?_
    refine lcw_map (fun d => match d with | .int j => .int (chooseBy a j * chooseBy (n - a) (m - j)) | _ => .none) (by
      rw [List.length_map]
      refine Nat.le_trans (List.length_filter_le _ _) ?_
      simp [rangeI]
      omega) (fun i d hd => ?_) ?_
    · obtain ⟨j, _, hj, rfl⟩ := ints_inv hd
      have hj := mem_rangeI.mp (List.mem_filter.mp hj).1
      refine ⟨_, rfl, fun s H C cl fp => ?_⟩
      refine TR.pd_mul ?_
      refine TR.pd_call h_choices_by rfl (hr.mono (by decide)) rfl tkNo ?_
      refine TR.pa_cons ?_
      refine TR.pd_name 1 rfl rfl ?_
      refine TR.pa_cons ?_
      refine TR.pd_name 5 rfl rfl ?_
      refine TR.pa_nil ?_
      refine ⟨_, _, rfl, by omega, ?_⟩
      refine TR.pd_call h_choices_by rfl (hr.mono (by decide)) rfl tkNo ?_
      refine TR.pa_cons ?_
      refine TR.pd_sub ?_
      refine TR.pd_name 0 rfl rfl ?_
      refine TR.pd_name 1 rfl rfl ?_
      refine TR.pa_cons ?_
      refine TR.pd_sub ?_
      refine TR.pd_name 2 rfl rfl ?_
      refine TR.pd_name 5 rfl rfl ?_
      refine TR.pa_nil ?_
      refine ⟨_, _, rfl, by omega, ?_⟩
      have hc := choose_b (n := a) (m := j) (by omega) (by omega) (by omega)
      refine ⟨cm (by omega) (by omega), ?_⟩
      rfl
    · refine TR.pa_nil ?_
      refine ⟨((rangeI 0 (m + 1).toNat).filter (oddB n a m e)).map fun j => chooseBy a j * chooseBy (n - a) (m - j), ?_, rfl, hp⟩
      rw [List.map_map, List.map_map]
      rfl

abbrev Pis_enough : Pf := fun ens Φ => ∃ n low high m e p q : Int, ens = [.dat (.int n), .dat (.int low), .dat (.int high), .dat (.tuple [.int m, .int e]), .dat (.tuple [.int p, .int q])] ∧ (0 ≤ low ∧ low ≤ high ∧ high ≤ n ∧ n ≤ 60 ∧ 0 ≤ m ∧ m ≤ n ∧ 0 ≤ e ∧ e ≤ 100 ∧ 0 ≤ p ∧ p ≤ 1000000 ∧ 0 ≤ q ∧ q ≤ 1000000) ∧ Φ (.val (.bool (isEnough n low high m e p q)))
abbrev sis_enough : Stmt := topS 14
omit M in
theorem scis_enough : FnScope ["n", "low", "high", "draw", "share", "m", "e", "p", "q", "a"] ["n", "low", "high", "draw", "share"] (defScope sis_enough) := ⟨rfl, rfl, rfl, by decide +kernel, rfl, by decide +kernel, by decide +kernel⟩
theorem okis_enough {f : Addr} {fd : FuncData} (F : Fun K "is_enough" "is_enough" sis_enough f fd) (hm : mg "is_enough" = some (.ref f))
    (h_choices_by : Fd P w K mg base rs 1 "choices_by" schoices_by ["n", "m"] Pchoices_by)
    (h_misled_by : Fd P w K mg base rs 2 "misled_by" smisled_by ["n", "a", "m", "e"] Pmisled_by) :
    Fd P w K mg base rs 3 "is_enough" sis_enough ["n", "low", "high", "draw", "share"] Pis_enough := by
  refine fd_mk F hm scis_enough (fun _ _ _ _ _ _ us hl => match us, hl with | [_, _, _, _, _], _ => rfl) (fun ens Φ ⟨_, _, _, _, _, _, _, e, _⟩ => by rw [e]; rfl) fun cdv A outer s H F0 E ens Φ hr hp tk => ?_
  obtain ⟨n, low, high, m, e, p, q, rfl, hb, hp⟩ := hp
  refine TR.psd_cons ?_
  -- (m, e), (p, q) = (draw, share)
  refine TR.psd_asgT (.tp [(.tp [(.nm 5), (.nm 6)]), (.tp [(.nm 7), (.nm 8)])]) rfl (pg_tup rfl (pgs_cons (pg_tup rfl (pgs_cons (pg_name (i := 5) scis_enough.nd rfl (.inr rfl)) (pgs_cons (pg_name (i := 6) scis_enough.nd rfl (.inr rfl)) pgs_nil))) (pgs_cons (pg_tup rfl (pgs_cons (pg_name (i := 7) scis_enough.nd rfl (.inr rfl)) (pgs_cons (pg_name (i := 8) scis_enough.nd rfl (.inr rfl)) pgs_nil))) pgs_nil))) ?_
  refine TR.pd_tuple ?_
  refine TR.pa_cons ?_
  refine TR.pd_name 3 rfl rfl ?_
  refine TR.pa_cons ?_
  refine TR.pd_name 4 rfl rfl ?_
  refine TR.pa_nil ?_
  refine ⟨by simp, ?_⟩
  refine ⟨_, rfl, ?_⟩
  refine TR.psd_cons ?_
  -- return all([q * misled_by(n, a, m, e) <= p * choices_by(n, m) for a in range(low, high + 1)])
  refine TR.psd_ret ?_
  refine TR.pd_all rfl rfl M.z_all ?_
  refine TR.pa_cons ?_
  refine TR.pd_ofN ?_
  refine TR.pn_lc (.nm 9) (own := [("a", 9)]) rfl scis_enough.nd (blkOk_by rfl) (fun _ _ _ _ _ => (pg_name (i := 9) scis_enough.nd rfl (.inl rfl) (.inr rfl))) (by decide) ?_
  refine TR.pid_range2 M.z_range ?_
  refine TR.pa_cons ?_
  refine TR.pd_name 1 rfl rfl ?_
  refine TR.pa_cons ?_
  refine TR.pd_add ?_
  refine TR.pd_name 2 rfl rfl ?_
  refine TR.pd_int ?_
  refine TR.pa_nil ?_
  refine ⟨by omega, ?_⟩
  refine lcw_map (fun d => match d with | .int a => .bool (decide (q * misBy n a m e ≤ p * chooseBy n m)) | _ => .none) (by rw [rangeD_length]; omega) (fun i d hd => ?_) ?_
  · obtain ⟨hi, rfl⟩ := rangeD_inv hd
    refine ⟨_, rfl, fun s H C cl fp => ?_⟩
    refine TR.pd_le ?_
    refine TR.pd_mul ?_
    refine TR.pd_name 8 rfl rfl ?_
    refine TR.pd_call h_misled_by rfl (hr.mono (by decide)) rfl tkNo ?_
    refine TR.pa_cons ?_
    refine TR.pd_name 0 rfl rfl ?_
    refine TR.pa_cons ?_
    refine TR.pd_name 9 rfl rfl ?_
    refine TR.pa_cons ?_
    refine TR.pd_name 5 rfl rfl ?_
    refine TR.pa_cons ?_
    refine TR.pd_name 6 rfl rfl ?_
    refine TR.pa_nil ?_
    refine ⟨_, _, _, _, rfl, by omega, ?_⟩
    refine ⟨cm (by omega) (by omega), ?_⟩
    refine TR.pd_mul ?_
    refine TR.pd_name 7 rfl rfl ?_
    refine TR.pd_call h_choices_by rfl (hr.mono (by decide)) rfl tkNo ?_
    refine TR.pa_cons ?_
    refine TR.pd_name 0 rfl rfl ?_
    refine TR.pa_cons ?_
    refine TR.pd_name 5 rfl rfl ?_
    refine TR.pa_nil ?_
    refine ⟨_, _, rfl, by omega, ?_⟩
    refine ⟨cm (by omega) (by omega), ?_⟩
    rfl
  · refine TR.pa_nil ?_
    refine ⟨(rangeI low (high + 1 - low).toNat).map fun a => decide (q * misBy n a m e ≤ p * chooseBy n m), ?_, ?_⟩
    · rw [rangeD_eq, List.map_map, List.map_map]
      rfl
    · have e1 : ((rangeI low (high + 1 - low).toNat).map fun a => decide (q * misBy n a m e ≤ p * chooseBy n m)).all id = isEnough n low high m e p q := by
        rw [List.all_map]; rfl
      rw [e1]
      exact hp

abbrev Pchoices (cM : Addr) : Pf := fun ens Φ => ∃ dn dm, ens = [.dat dn, .dat dm] ∧ need dn 0 60 (fun n => need dm 0 n (fun m => Φ (.val (.int (chooseBy n m)))) (Φ (.err cM dm))) (Φ (.err cM dn))
abbrev schoices : Stmt := topS 15
omit M in
theorem scchoices : FnScope ["n", "m"] ["n", "m"] (defScope schoices) := ⟨rfl, rfl, rfl, by decide +kernel, rfl, by decide +kernel, by decide +kernel⟩
theorem okchoices {f : Addr} {fd : FuncData} (F : Fun K "choices" "choices" schoices f fd) (hm : mg "choices" = some (.ref f))
    (h_choices_by : Fd P w K mg base rs 1 "choices_by" schoices_by ["n", "m"] Pchoices_by)
    (h_need_between : Fd P w K mg base rs 3 "need_between" sneed_between ["thing", "least", "most"] (Pneed_between cM)) :
    Fd P w K mg base rs 4 "choices" schoices ["n", "m"] (Pchoices cM) := by
  refine fd_mk F hm scchoices (fun _ _ _ _ _ _ us hl => match us, hl with | [_, _], _ => rfl) (fun ens Φ ⟨_, _, e, _⟩ => by rw [e]; rfl) fun cdv A outer s H F0 E ens Φ hr hp tk => ?_
  obtain ⟨dn, dm, rfl, hp⟩ := hp
  refine TR.psd_cons ?_
  -- need_between(n, 0, MOST_ROWS)
  refine TR.psd_expr ?_
  refine TR.pd_call h_need_between rfl (hr.mono (by decide)) rfl tk ?_
  refine TR.pa_cons ?_
  refine TR.pd_name 0 rfl rfl ?_
  refine TR.pa_cons ?_
  refine TR.pd_int ?_
  refine TR.pa_cons ?_
  refine TR.pd_glob (by rfl) M.g_MOST_ROWS ?_
  refine TR.pa_nil ?_
  refine ⟨dn, _, _, rfl, by decide, ?_⟩
  refine need_mono hp (fun n en n0 n1 hp2 => ?_) id
  clear hp
  subst en
  have hp := hp2
  clear hp2
  refine TR.psd_cons ?_
  -- need_between(m, 0, n)
  refine TR.psd_expr ?_
  refine TR.pd_call h_need_between rfl (hr.mono (by decide)) rfl tk ?_
  refine TR.pa_cons ?_
  refine TR.pd_name 1 rfl rfl ?_
  refine TR.pa_cons ?_
  refine TR.pd_int ?_
  refine TR.pa_cons ?_
  refine TR.pd_name 0 rfl rfl ?_
  refine TR.pa_nil ?_
  refine ⟨dm, _, _, rfl, by omega, ?_⟩
  refine need_mono hp (fun m em m0 m1 hp2 => ?_) id
  clear hp
  subst em
  have hp := hp2
  clear hp2
  refine TR.psd_cons ?_
  -- return choices_by(n, m)
  refine TR.psd_ret ?_
  refine TR.pd_call h_choices_by rfl (hr.mono (by decide)) rfl tk ?_
  refine TR.pa_cons ?_
  refine TR.pd_name 0 rfl rfl ?_
  refine TR.pa_cons ?_
  refine TR.pd_name 1 rfl rfl ?_
  refine TR.pa_nil ?_
  refine ⟨_, _, rfl, by omega, ?_⟩
  exact hp


abbrev Pmisled (cM : Addr) : Pf := fun ens Φ => ∃ dn da dm de, ens = [.dat dn, .dat da, .dat dm, .dat de] ∧ need dn 1 60 (fun n => need da 0 n (fun a => need dm 1 n (fun m => need de 0 60 (fun e => Φ (.val (.int (misBy n a m e)))) (Φ (.err cM de))) (Φ (.err cM dm))) (Φ (.err cM da))) (Φ (.err cM dn))
abbrev smisled : Stmt := topS 16
omit M in
theorem scmisled : FnScope ["n", "a", "m", "e"] ["n", "a", "m", "e"] (defScope smisled) := ⟨rfl, rfl, rfl, by decide +kernel, rfl, by decide +kernel, by decide +kernel⟩
theorem okmisled {f : Addr} {fd : FuncData} (F : Fun K "misled" "misled" smisled f fd) (hm : mg "misled" = some (.ref f))
    (h_misled_by : Fd P w K mg base rs 2 "misled_by" smisled_by ["n", "a", "m", "e"] Pmisled_by)
    (h_need_between : Fd P w K mg base rs 3 "need_between" sneed_between ["thing", "least", "most"] (Pneed_between cM)) :
    Fd P w K mg base rs 4 "misled" smisled ["n", "a", "m", "e"] (Pmisled cM) := by
  refine fd_mk F hm scmisled (fun _ _ _ _ _ _ us hl => match us, hl with | [_, _, _, _], _ => rfl) (fun ens Φ ⟨_, _, _, _, e, _⟩ => by rw [e]; rfl) fun cdv A outer s H F0 E ens Φ hr hp tk => ?_
  obtain ⟨dn, da, dm, de, rfl, hp⟩ := hp
  refine TR.psd_cons ?_
  -- need_between(n, 1, MOST_ROWS)
  refine TR.psd_expr ?_
  refine TR.pd_call h_need_between rfl (hr.mono (by decide)) rfl tk ?_
  refine TR.pa_cons ?_
  refine TR.pd_name 0 rfl rfl ?_
  refine TR.pa_cons ?_
  refine TR.pd_int ?_
  refine TR.pa_cons ?_
  refine TR.pd_glob (by rfl) M.g_MOST_ROWS ?_
  refine TR.pa_nil ?_
  refine ⟨dn, _, _, rfl, by decide, ?_⟩
  refine need_mono hp (fun n en n0 n1 hp2 => ?_) id
  clear hp
  subst en
  have hp := hp2
  clear hp2
  refine TR.psd_cons ?_
  -- need_between(a, 0, n)
  refine TR.psd_expr ?_
  refine TR.pd_call h_need_between rfl (hr.mono (by decide)) rfl tk ?_
  refine TR.pa_cons ?_
  refine TR.pd_name 1 rfl rfl ?_
  refine TR.pa_cons ?_
  refine TR.pd_int ?_
  refine TR.pa_cons ?_
  refine TR.pd_name 0 rfl rfl ?_
  refine TR.pa_nil ?_
  refine ⟨da, _, _, rfl, by omega, ?_⟩
  refine need_mono hp (fun a ea a0 a1 hp2 => ?_) id
  clear hp
  subst ea
  have hp := hp2
  clear hp2
  refine TR.psd_cons ?_
  -- need_between(m, 1, n)
  refine TR.psd_expr ?_
  refine TR.pd_call h_need_between rfl (hr.mono (by decide)) rfl tk ?_
  refine TR.pa_cons ?_
  refine TR.pd_name 2 rfl rfl ?_
  refine TR.pa_cons ?_
  refine TR.pd_int ?_
  refine TR.pa_cons ?_
  refine TR.pd_name 0 rfl rfl ?_
  refine TR.pa_nil ?_
  refine ⟨dm, _, _, rfl, by omega, ?_⟩
  refine need_mono hp (fun m em m0 m1 hp2 => ?_) id
  clear hp
  subst em
  have hp := hp2
  clear hp2
  refine TR.psd_cons ?_
  -- need_between(e, 0, MOST_ROWS)
  refine TR.psd_expr ?_
  refine TR.pd_call h_need_between rfl (hr.mono (by decide)) rfl tk ?_
  refine TR.pa_cons ?_
  refine TR.pd_name 3 rfl rfl ?_
  refine TR.pa_cons ?_
  refine TR.pd_int ?_
  refine TR.pa_cons ?_
  refine TR.pd_glob (by rfl) M.g_MOST_ROWS ?_
  refine TR.pa_nil ?_
  refine ⟨de, _, _, rfl, by decide, ?_⟩
  refine need_mono hp (fun e ee e0 e1 hp2 => ?_) id
  clear hp
  subst ee
  have hp := hp2
  clear hp2
  refine TR.psd_cons ?_
  -- return misled_by(n, a, m, e)
  refine TR.psd_ret ?_
  refine TR.pd_call h_misled_by rfl (hr.mono (by decide)) rfl tk ?_
  refine TR.pa_cons ?_
  refine TR.pd_name 0 rfl rfl ?_
  refine TR.pa_cons ?_
  refine TR.pd_name 1 rfl rfl ?_
  refine TR.pa_cons ?_
  refine TR.pd_name 2 rfl rfl ?_
  refine TR.pa_cons ?_
  refine TR.pd_name 3 rfl rfl ?_
  refine TR.pa_nil ?_
  refine ⟨_, _, _, _, rfl, by omega, ?_⟩
  exact hp


omit M in
theorem need_get {d : D} {l m : Int} {k : Int → Prop} {e : Prop} (h : need d l m k e) (hw : wholeB d l m = true) : ∃ i, d = .int i ∧ l ≤ i ∧ i ≤ m ∧ k i := by
  cases d <;> first | exact Bool.noConfusion hw | skip
  rename_i i
  have z := of_decide_eq_true hw
  change if l ≤ i ∧ i ≤ m then k i else e at h
  rw [if_pos z] at h
  exact ⟨i, rfl, z.1, z.2, h⟩

/-- the least draw that is enough -/
abbrev Pleast_draw (cM cR : Addr) : Pf := fun ens Φ => ∃ dn dl dh de dp dq, ens = [.dat dn, .dat dl, .dat dh, .dat de, .dat dp, .dat dq] ∧ need dn 1 60 (fun n => need dl 0 n (fun low => need dh low n (fun high => need de 0 60 (fun e => need dp 0 1000000 (fun p => need dq 1 1000000 (fun q =>
  ∃ m, 1 ≤ m ∧ m ≤ n ∧ isEnough n low high m e p q = true ∧ (∀ m', 1 ≤ m' → m' < m → isEnough n low high m' e p q = false) ∧ Φ (.val (.int m))) (Φ (.err cM dq))) (Φ (.err cM dp))) (Φ (.err cM de))) (Φ (.err cR dh))) (Φ (.err cR dl))) (Φ (.err cM dn))
abbrev sleast_draw : Stmt := topS 17
omit M in
theorem scleast_draw : FnScope ["n", "low", "high", "e", "p", "q", "m"] ["n", "low", "high", "e", "p", "q"] (defScope sleast_draw) := ⟨rfl, rfl, rfl, by decide +kernel, rfl, by decide +kernel, by decide +kernel⟩
theorem okleast_draw {f : Addr} {fd : FuncData} (F : Fun K "least_draw" "least_draw" sleast_draw f fd) (hm : mg "least_draw" = some (.ref f))
    (h_need_between : Fd P w K mg base rs 3 "need_between" sneed_between ["thing", "least", "most"] (Pneed_between cM))
    (h_is_whole_between : Fd P w K mg base rs 2 "is_whole_between" sis_whole_between ["thing", "least", "most"] Pis_whole_between)
    (h_is_enough : Fd P w K mg base rs 3 "is_enough" sis_enough ["n", "low", "high", "draw", "share"] Pis_enough) :
    Fd P w K mg base rs 4 "least_draw" sleast_draw ["n", "low", "high", "e", "p", "q"] (Pleast_draw cM cR) := by
  refine fd_mk F hm scleast_draw (fun _ _ _ _ _ _ us hl => match us, hl with | [_, _, _, _, _, _], _ => rfl) (fun ens Φ ⟨_, _, _, _, _, _, e, _⟩ => by rw [e]; rfl) fun cdv A outer s H F0 E ens Φ hr hp tk => ?_
  obtain ⟨dn, dl, dh, de, dp, dq, rfl, hp⟩ := hp
  refine TR.psd_cons ?_
  -- need_between(n, 1, MOST_ROWS)
  refine TR.psd_expr ?_
  refine TR.pd_call h_need_between rfl (hr.mono (by decide)) rfl tk ?_
  refine TR.pa_cons ?_
  refine TR.pd_name 0 rfl rfl ?_
  refine TR.pa_cons ?_
  refine TR.pd_int ?_
  refine TR.pa_cons ?_
  refine TR.pd_glob (by rfl) M.g_MOST_ROWS ?_
  refine TR.pa_nil ?_
  refine ⟨dn, _, _, rfl, by decide, ?_⟩
  refine need_mono hp (fun n en n0 n1 hp2 => ?_) id
  clear hp
  subst en
  have hp := hp2
  clear hp2
  refine TR.psd_cons ?_
  -- if not is_whole_between(low, 0, n):
  refine TR.psd_if ?_
  refine TR.pt_not ?_
  refine TR.pt_val ?_
  refine TR.pd_call h_is_whole_between rfl (hr.mono (by decide)) rfl tk ?_
  refine TR.pa_cons ?_
  refine TR.pd_name 1 rfl rfl ?_
  refine TR.pa_cons ?_
  refine TR.pd_int ?_
  refine TR.pa_cons ?_
  refine TR.pd_name 0 rfl rfl ?_
  refine TR.pa_nil ?_
  refine ⟨dl, _, _, rfl, by omega, ?_⟩
  refine ⟨fun h => ?_, fun h => ?_⟩
  · skip
    refine TR.psd_cons ?_
    -- raise BadRange(low)
    refine TR.psd_raise (k := 0) M.T_BadRange M.g_BadRange rfl (hr.mono (by decide)) tk ?_ rfl
    refine TR.pd_name 1 rfl rfl ?_
    exact (need_of hp).2 (by simpa using h)
  · obtain ⟨low, el, l0, l1, hp2⟩ := need_get hp (by simpa using h)
    clear hp
    subst el
    have hp := hp2
    clear hp2
    refine TR.psd_nil ?_
    refine TR.psd_cons ?_
    -- if not is_whole_between(high, low, n):
    refine TR.psd_if ?_
    refine TR.pt_not ?_
    refine TR.pt_val ?_
    refine TR.pd_call h_is_whole_between rfl (hr.mono (by decide)) rfl tk ?_
    refine TR.pa_cons ?_
    refine TR.pd_name 2 rfl rfl ?_
    refine TR.pa_cons ?_
    refine TR.pd_name 1 rfl rfl ?_
    refine TR.pa_cons ?_
    refine TR.pd_name 0 rfl rfl ?_
    refine TR.pa_nil ?_
    refine ⟨dh, _, _, rfl, by omega, ?_⟩
    refine ⟨fun h => ?_, fun h => ?_⟩
    · skip
      refine TR.psd_cons ?_
      -- raise BadRange(high)
      refine TR.psd_raise (k := 0) M.T_BadRange M.g_BadRange rfl (hr.mono (by decide)) tk ?_ rfl
      refine TR.pd_name 2 rfl rfl ?_
      exact (need_of hp).2 (by simpa using h)
    · obtain ⟨high, eh, h0, h1, hp2⟩ := need_get hp (by simpa using h)
      clear hp
      subst eh
      have hp := hp2
      clear hp2
      refine TR.psd_nil ?_
      refine TR.psd_cons ?_
      -- need_between(e, 0, MOST_ROWS)
      refine TR.psd_expr ?_
      refine TR.pd_call h_need_between rfl (hr.mono (by decide)) rfl tk ?_
      refine TR.pa_cons ?_
      refine TR.pd_name 3 rfl rfl ?_
      refine TR.pa_cons ?_
      refine TR.pd_int ?_
      refine TR.pa_cons ?_
      refine TR.pd_glob (by rfl) M.g_MOST_ROWS ?_
      refine TR.pa_nil ?_
      refine ⟨de, _, _, rfl, by decide, ?_⟩
      refine need_mono hp (fun e ee e0 e1 hp2 => ?_) id
      clear hp
      subst ee
      have hp := hp2
      clear hp2
      refine TR.psd_cons ?_
      -- need_between(p, 0, MOST_SHARE)
      refine TR.psd_expr ?_
      refine TR.pd_call h_need_between rfl (hr.mono (by decide)) rfl tk ?_
      refine TR.pa_cons ?_
      refine TR.pd_name 4 rfl rfl ?_
      refine TR.pa_cons ?_
      refine TR.pd_int ?_
      refine TR.pa_cons ?_
      refine TR.pd_glob (by rfl) M.g_MOST_SHARE ?_
      refine TR.pa_nil ?_
      refine ⟨dp, _, _, rfl, by decide, ?_⟩
      refine need_mono hp (fun p ep p0 p1 hp2 => ?_) id
      clear hp
      subst ep
      have hp := hp2
      clear hp2
      refine TR.psd_cons ?_
      -- need_between(q, 1, MOST_SHARE)
      refine TR.psd_expr ?_
      refine TR.pd_call h_need_between rfl (hr.mono (by decide)) rfl tk ?_
      refine TR.pa_cons ?_
      refine TR.pd_name 5 rfl rfl ?_
      refine TR.pa_cons ?_
      refine TR.pd_int ?_
      refine TR.pa_cons ?_
      refine TR.pd_glob (by rfl) M.g_MOST_SHARE ?_
      refine TR.pa_nil ?_
      refine ⟨dq, _, _, rfl, by decide, ?_⟩
      refine need_mono hp (fun q eq q0 q1 hp2 => ?_) id
      clear hp
      subst eq
      have hp := hp2
      clear hp2
      refine TR.psd_cons ?_
      -- return min([m for m in range(1, n + 1) if is_enough(n, low, high, (m, e), (p, q))])
      refine TR.psd_ret ?_
      refine TR.pd_minL rfl rfl M.z_min ?_
      refine TR.pa_cons ?_
      refine TR.pd_ofN ?_
      refine TR.pn_lcIf (.nm 6) (own := [("m", 6)]) rfl scleast_draw.nd (blkOk_by rfl) (fun _ _ _ _ _ => (pg_name (i := 6) scleast_draw.nd rfl (.inl rfl) (.inr rfl))) (by decide) ?_
      refine TR.pid_range2 M.z_range ?_
      refine TR.pa_cons ?_
      refine TR.pd_int ?_
      refine TR.pa_cons ?_
      refine TR.pd_add ?_
      refine TR.pd_name 0 rfl rfl ?_
      refine TR.pd_int ?_
      refine TR.pa_nil ?_
      refine ⟨by omega, ?_⟩
      refine lcw_if (fun d => match d with | .int m => isEnough n low high m e p q | _ => false) id (by rw [rangeD_length]; omega) (fun i d hd => ?_) ?_
      · obtain ⟨hi, rfl⟩ := rangeD_inv hd
        refine ⟨_, rfl, fun s H C cl fp => ?_, fun _ s H C cl fp => ?_⟩
        · refine TR.pt_val ?_
          refine TR.pd_call h_is_enough rfl (hr.mono (by decide)) rfl tkNo ?_
          refine TR.pa_cons ?_
          refine TR.pd_name 0 rfl rfl ?_
          refine TR.pa_cons ?_
          refine TR.pd_name 1 rfl rfl ?_
          refine TR.pa_cons ?_
          refine TR.pd_name 2 rfl rfl ?_
          refine TR.pa_cons ?_
          refine TR.pd_tuple ?_
          refine TR.pa_cons ?_
          refine TR.pd_name 6 rfl rfl ?_
          refine TR.pa_cons ?_
          refine TR.pd_name 3 rfl rfl ?_
          refine TR.pa_nil ?_
          refine ⟨by simp, ?_⟩
          refine TR.pa_cons ?_
          refine TR.pd_tuple ?_
          refine TR.pa_cons ?_
          refine TR.pd_name 4 rfl rfl ?_
          refine TR.pa_cons ?_
          refine TR.pd_name 5 rfl rfl ?_
          refine TR.pa_nil ?_
          refine ⟨by simp, ?_⟩
          refine TR.pa_nil ?_
          refine ⟨_, _, _, _, _, _, _, rfl, by omega, ?_⟩
          rfl
        · refine TR.pd_name 6 rfl rfl ?_
          rfl
      · refine TR.pa_nil ?_
        obtain ⟨m0, m1, m2, m3, m4, hp⟩ := hp
        have e0 : (n + 1 - 1).toNat = n.toNat := by omega
        refine ⟨(rangeI 1 (n + 1 - 1).toNat).filter (fun m => isEnough n low high m e p q), ?_, ?_, fun m hm hall => ?_⟩
        · rw [rangeD_eq, filter_ints _ _ (fun m => isEnough n low high m e p q) (fun i _ => rfl), List.map_id]
        · exact List.length_pos_of_mem (List.mem_filter.mpr ⟨mem_rangeI.mpr (show 1 ≤ m0 ∧ m0 < _ by omega), m3⟩)
        · have hm := List.mem_filter.mp hm
          have hr1 := mem_rangeI.mp hm.1
          have h3 := hall m0 (List.mem_filter.mpr ⟨mem_rangeI.mpr (by omega), m3⟩)
          have e1 : m = m0 := by
            rcases Int.lt_or_eq_of_le h3 with z | z
            · have := m4 m (by omega) z
              rw [hm.2] at this
              cases this
            · exact z
          rw [e1]
          exact hp

end
end K33

set_option maxRecDepth 100000
set_option maxHeartbeats 4000000
namespace K33
open PySem PySem.Spec PyProof.Rows L2 TR
section
variable {P : Program} {w : World} {K : PySem.W.Frag} {mg : Str → Option Value} {base : Heap} {rs : Rs} {cM cR cT fI : Addr} (M : Ms K mg cM cR cT fI)
include M
abbrev s_law_modulo : Stmt := topS 19
omit M in
theorem sc_law_modulo : FnScope ["number", "by"] ["number", "by"] (defScope s_law_modulo) := ⟨rfl, rfl, rfl, by decide +kernel, rfl, by decide +kernel, by decide +kernel⟩
abbrev P_law_modulo : Pf := fun ens Φ => ∃ n b : Int, ens = [.dat (.int n), .dat (.int b)] ∧ (0 < b ∧ b < 2 ^ 62) ∧ Φ (.val (.int (n % b)))
theorem ok_law_modulo {f : Addr} {fd : FuncData} (F : Fun K "_law_modulo" "_law_modulo" s_law_modulo f fd) (hm : mg "_law_modulo" = some (.ref f)) :
    Fd P w K mg base rs 1 "_law_modulo" s_law_modulo ["number", "by"] P_law_modulo := by
  refine fd_mk F hm sc_law_modulo (fun _ _ _ _ _ _ us hl => match us, hl with | [_, _], _ => rfl) (fun ens Φ ⟨_, _, e, _⟩ => by rw [e]; rfl) fun cdv A outer s H F0 E ens Φ hr hp tk => ?_
  obtain ⟨n, b, rfl, hb, hp⟩ := hp
  refine TR.psd_cons ?_
  refine TR.psd_ret ?_
  refine TR.pd_sub ?_
  refine TR.pd_name 0 rfl rfl ?_
  refine TR.pd_mul ?_
  refine TR.pd_div ?_
  refine TR.pd_name 0 rfl rfl ?_
  refine TR.pd_name 1 rfl rfl ?_
  refine ⟨wide_div (b := 62) (by omega) (by omega) (by decide) (by decide), ?_⟩
  refine TR.pd_name 1 rfl rfl ?_
  refine ⟨.inr ⟨by omega, by omega⟩, ?_⟩
  have e : n - n / b * b = n % b := by rw [Int.emod_def, Int.mul_comm]
  rw [← e] at hp
  exact hp
abbrev s_law_draw : Stmt := topS 21
omit M in
theorem sc_law_draw : FnScope ["deck", "many", "number", "cell"] ["deck", "many"] (defScope s_law_draw) := ⟨rfl, rfl, rfl, by decide +kernel, rfl, by decide +kernel, by decide +kernel⟩
abbrev P_law_draw (ad : Addr) : Pf := fun ens Φ => ∃ many : Int, ens = [.raw (.ref ad), .dat (.int many)] ∧ (0 < many ∧ many < 2 ^ 60) ∧ ∀ r : Int, 0 ≤ r → r < many → Φ (.val (.int r))
theorem ok_law_draw {f : Addr} {fd : FuncData} {ad al : Addr} (hd : rs.deck = some (ad, al)) (F : Fun K "_law_draw" "_law_draw" s_law_draw f fd) (hm : mg "_law_draw" = some (.ref f))
    (h__law_modulo : Fd P w K mg base rs 1 "_law_modulo" s_law_modulo ["number", "by"] P_law_modulo) :
    Fd P w K mg base rs 2 "_law_draw" s_law_draw ["deck", "many"] (P_law_draw ad) := by
  refine fd_mk F hm sc_law_draw (fun _ _ _ _ _ _ us hl => match us, hl with | [_, _], _ => rfl) (fun ens Φ ⟨_, e, _⟩ => by rw [e]; rfl) fun cdv A outer s H F0 E ens Φ hr hp tk => ?_
  obtain ⟨many, rfl, hb, hp⟩ := hp
  have hu := hr.un
  have last : ∀ x : Int, Φ (.val (.int (x % many))) := fun x => hp _ (Int.emod_nonneg _ (by omega)) (Int.emod_lt_of_pos _ (by omega))
  refine TR.psd_cons ?_
  refine TR.psd_deckPut 0 rfl rfl hd (by omega) ?_
  refine TR.pd_add ?_
  refine TR.deck_int 0 (ad := ad) (al := al) rfl rfl hd (by omega) (.inr rfl) fun m1 => ?_
  refine TR.pd_int ?_
  refine TR.psd_cons ?_
  refine TR.psd_asg 2 sc_law_draw.nd rfl ?_
  refine TR.pd_add ?_
  refine TR.deck_int 0 (ad := ad) (al := al) rfl rfl hd (by omega) (.inl rfl) fun m2 => ?_
  refine TR.pd_mul ?_
  refine TR.pd_int ?_
  refine TR.deck_int 0 (ad := ad) (al := al) rfl rfl hd (by omega) (.inr rfl) fun m3 => ?_
  refine ⟨.inl ⟨by decide, by decide⟩, ?_⟩
  refine TR.psd_cons ?_
  have tail : ∀ (N : Int) (o : Option En), PSsd (bCx P w K mg base ["deck", "many", "number", "cell"] "_law_draw" s_law_draw f cdv A outer s H E) ⟨rs, K, F0, H⟩ ((defBody s_law_draw).drop 3)
      [some (.raw (.ref ad)), some (.dat (.int many)), some (.dat (.int N)), o] { nx := fun _ => Φ (.val .none), rt := fun d => Φ (.val d) } := by
    intro N o
    refine TR.psd_cons ?_
    refine TR.psd_asg 2 sc_law_draw.nd rfl ?_
    refine TR.pd_call h__law_modulo rfl (hr.mono (by decide)) rfl tk ?_
    refine TR.pa_cons ?_
    refine TR.pd_intOf M.z_int ?_
    refine TR.pa_cons ?_
    refine TR.pd_add ?_
    refine TR.pd_mul ?_
    refine TR.pd_name 2 rfl rfl ?_
    refine TR.pd_int ?_
    refine ⟨.inr ⟨by decide, by decide⟩, ?_⟩
    refine TR.pd_int ?_
    refine TR.pa_nil ?_
    refine TR.pa_cons ?_
    refine TR.pd_int ?_
    refine TR.pa_nil ?_
    refine ⟨_, _, rfl, by decide, ?_⟩
    generalize hN1 : (N * 40014 + 241370) % 2147483563 = N1
    have l1 : 0 ≤ N1 := by rw [← hN1]; exact Int.emod_nonneg _ (by decide)
    have l2 : N1 < 2147483563 := by rw [← hN1]; exact Int.emod_lt_of_pos _ (by decide)
    refine TR.psd_cons ?_
    refine TR.psd_asg 2 sc_law_draw.nd rfl ?_
    refine TR.pd_call h__law_modulo rfl (hr.mono (by decide)) rfl tk ?_
    refine TR.pa_cons ?_
    refine TR.pd_intOf M.z_int ?_
    refine TR.pa_cons ?_
    refine TR.pd_add ?_
    refine TR.pd_add ?_
    refine TR.pd_mul ?_
    refine TR.pd_name 2 rfl rfl ?_
    refine TR.pd_name 2 rfl rfl ?_
    refine ⟨.inl ⟨by omega, by omega⟩, ?_⟩
    refine TR.pd_mul ?_
    refine TR.pd_int ?_
    refine TR.deck_int 0 (ad := ad) (al := al) rfl rfl hd (by omega) (.inr rfl) fun m4 => ?_
    refine ⟨.inl ⟨by decide, by decide⟩, ?_⟩
    refine TR.pd_int ?_
    refine TR.pa_nil ?_
    refine TR.pa_cons ?_
    refine TR.pd_int ?_
    refine TR.pa_nil ?_
    refine ⟨_, _, rfl, by decide, ?_⟩
    refine TR.psd_cons ?_
    refine TR.psd_ret ?_
    refine TR.pd_call h__law_modulo rfl (hr.mono (by decide)) rfl tk ?_
    refine TR.pa_cons ?_
    refine TR.pd_div ?_
    refine TR.pd_call h__law_modulo rfl (hr.mono (by decide)) rfl tk ?_
    refine TR.pa_cons ?_
    refine TR.pd_intOf M.z_int ?_
    refine TR.pa_cons ?_
    refine TR.pd_mul ?_
    refine TR.pd_name 2 rfl rfl ?_
    refine TR.pd_int ?_
    refine ⟨.inr ⟨by decide, by decide⟩, ?_⟩
    refine TR.pa_nil ?_
    refine TR.pa_cons ?_
    refine TR.pd_int ?_
    refine TR.pa_nil ?_
    refine ⟨_, _, rfl, by decide, ?_⟩
    refine TR.pd_int ?_
    refine ⟨wide_div (b := 62) (by decide) (by decide) (by decide) (by decide), ?_⟩
    refine TR.pa_cons ?_
    refine TR.pd_name 1 rfl rfl ?_
    refine TR.pa_nil ?_
    refine ⟨_, _, rfl, by omega, ?_⟩
    exact last _
  refine TR.psd_deckIf 0 3 1 (ad := ad) (al := al) (many := many) rfl rfl sc_law_draw.nd rfl rfl rfl rfl rfl (by decide) (by decide) (show 3 < 4 from by decide) (by omega) hd (by omega) M.z_max rfl (fun cc => ?_) (fun cc => ?_) ?_ rfl rfl rfl
  · refine TR.pd_call h__law_modulo rfl (hr.mono (by decide)) rfl tk ?_
    refine TR.pa_cons ?_
    refine TR.pd_intOf M.z_int ?_
    refine TR.pa_cons ?_
    refine TR.pd_name 3 rfl rfl ?_
    refine TR.pa_nil ?_
    refine TR.pa_cons ?_
    refine TR.pd_name 1 rfl rfl ?_
    refine TR.pa_nil ?_
    refine ⟨_, _, rfl, by omega, ?_⟩
    exact last _
  · refine TR.psd_asg 2 sc_law_draw.nd rfl ?_
    refine TR.pd_add ?_
    refine TR.pd_name 2 rfl rfl ?_
    refine TR.pd_call h__law_modulo rfl (hr.mono (by decide)) rfl tk ?_
    refine TR.pa_cons ?_
    refine TR.pd_intOf M.z_int ?_
    refine TR.pa_cons ?_
    refine TR.pd_name 3 rfl rfl ?_
    refine TR.pa_nil ?_
    refine TR.pa_cons ?_
    refine TR.pd_int ?_
    refine TR.pa_nil ?_
    refine ⟨_, _, rfl, by decide, ?_⟩
    exact tail _ _
  · exact tail _ _
abbrev s_law_pick : Stmt := topS 22
omit M in
theorem sc_law_pick : FnScope ["deck", "some"] ["deck", "some"] (defScope s_law_pick) := ⟨rfl, rfl, rfl, by decide +kernel, rfl, by decide +kernel, by decide +kernel⟩
abbrev P_law_pick (ad : Addr) : Pf := fun ens Φ => ∃ ds : List D, ens = [.raw (.ref ad), .dat (.list ds)] ∧ (0 < ds.length ∧ ds.length < 2 ^ 59) ∧ ∀ d ∈ ds, Φ (.val d)
omit M in
theorem atI_of {ds : List D} {r : Int} (h0 : 0 ≤ r) (h : r < ds.length) : ∃ d, atI ds r = some d ∧ d ∈ ds := by
  obtain ⟨k, rfl⟩ := Int.eq_ofNat_of_zero_le h0
  have hk : k < ds.length := by omega
  have hl : (ds.length : Int) ≠ 0 := by omega
  refine ⟨ds[k], ?_, List.getElem_mem hk⟩
  unfold atI ixN
  simp [hk]
theorem ok_law_pick {f : Addr} {fd : FuncData} {ad : Addr} (F : Fun K "_law_pick" "_law_pick" s_law_pick f fd) (hm : mg "_law_pick" = some (.ref f))
    (h__law_draw : Fd P w K mg base rs 2 "_law_draw" s_law_draw ["deck", "many"] (P_law_draw ad)) :
    Fd P w K mg base rs 3 "_law_pick" s_law_pick ["deck", "some"] (P_law_pick ad) := by
  refine fd_mk F hm sc_law_pick (fun _ _ _ _ _ _ us hl => match us, hl with | [_, _], _ => rfl) (fun ens Φ ⟨_, e, _⟩ => by rw [e]; rfl) fun cdv A outer s H F0 E ens Φ hr hp tk => ?_
  obtain ⟨ds, rfl, hb, hp⟩ := hp
  refine TR.psd_cons ?_
  refine TR.psd_ret ?_
  refine TR.pd_ix rfl ?_
  refine TR.pd_name 1 rfl rfl ?_
  refine TR.pd_call h__law_draw rfl (hr.mono (by decide)) rfl tk ?_
  refine TR.pa_raw 0 rfl rfl ?_
  refine TR.pa_cons ?_
  refine TR.pd_len rfl M.z_len ?_
  refine TR.pa_cons ?_
  refine TR.pd_name 1 rfl rfl ?_
  refine TR.pa_nil ?_
  refine TR.pa_nil ?_
  refine ⟨_, rfl, by omega, fun r h0 h1 => ?_⟩
  obtain ⟨d, e, hm⟩ := atI_of h0 h1
  exact ⟨d, e, hp d hm⟩
end
end K33

set_option maxRecDepth 100000
set_option maxHeartbeats 4000000
namespace K33
open PySem PySem.Spec PyProof.Rows L2 TR
theorem depthAll_mem : ∀ {ds : List D} {d : D}, d ∈ ds → d.depth ≤ PyData.depthAll ds
  | d :: ds, d', h => by
    have e : PyData.depthAll (d :: ds) = max d.depth (PyData.depthAll ds) := by rw [PyData.depthAll]
    rw [e]
    rcases List.mem_cons.mp h with rfl | h
    · omega
    · have := depthAll_mem h; omega
theorem canLayAll_mem : ∀ {ds : List D} {d : D}, PyData.canLayAll0 ds = true → d ∈ ds → d.canLay0 = true
  | d :: ds, d', hc, h => by
    rw [PyData.canLayAll0, Bool.and_eq_true] at hc
    rcases List.mem_cons.mp h with rfl | h
    · exact hc.1
    · exact canLayAll_mem hc.2 h
mutual
/-- how many items stand in it, at all depths -/
def nd : D → Nat
  | .list ds => nds ds
  | .tuple ds => nds ds
  | _ => 0
def nds : List D → Nat
  | [] => 0
  | d :: ds => nd d + 1 + nds ds
end
theorem nds_len : ∀ ds : List D, ds.length ≤ nds ds
  | [] => Nat.le_refl _
  | d :: ds => by
    have := nds_len ds
    rw [nds, List.length_cons]
    omega
theorem nds_mem : ∀ {ds : List D} {d : D}, d ∈ ds → nd d ≤ nds ds
  | d :: ds, d', h => by
    rw [nds]
    rcases List.mem_cons.mp h with rfl | h
    · omega
    · have := nds_mem h; omega
theorem zipD_self {ds : List D} {i : Nat} {d : D} (h : (zipD ds ds)[i]? = some d) : ∃ x ∈ ds, d = .tuple [x, x] := by
  unfold zipD at h
  rw [List.getElem?_map] at h
  cases e : (ds.zip ds)[i]? with
  | none => rw [e] at h; cases h
  | some q =>
    rw [e] at h
    cases h
    obtain ⟨a, b⟩ := q
    obtain ⟨h1, h2⟩ := List.getElem?_zip_eq_some.mp e
    rw [h1] at h2
    cases h2
    exact ⟨a, List.mem_of_getElem? h1, rfl⟩
section
variable {P : Program} {w : World} {K : PySem.W.Frag} {mg : Str → Option Value} {base : Heap} {rs : Rs} {cM cR cT fI : Addr} (M : Ms K mg cM cR cT fI)
include M
abbrev s_law_same : Stmt := topS 23
omit M in
theorem sc_law_same : FnScope ["given", "due", "one", "it"] ["given", "due"] (defScope s_law_same) := ⟨rfl, rfl, rfl, by decide +kernel, rfl, by decide +kernel, by decide +kernel⟩
abbrev P_law_same (k : Nat) : Pf := fun ens Φ => ∃ d : D, ens = [.dat d, .dat d] ∧ (d.canLay0 = true ∧ d.depth ≤ k ∧ nd d ≤ 100000) ∧ Φ (.val (.bool true))
theorem ok_law_same {f : Addr} {fd : FuncData} (F : Fun K "_law_same" "_law_same" s_law_same f fd) (hm : mg "_law_same" = some (.ref f)) : ∀ k, Fd P w K mg base rs (k + 1) "_law_same" s_law_same ["given", "due"] (P_law_same k) := by
  have seq : ∀ (k : Nat) (d : D) (ds : List D) (hd : (isT "tuple" d || isT "list" d) = true ∧ (d = .list ds ∨ d = .tuple ds)) (hx : d.canLay0 = true ∧ d.depth ≤ k ∧ nd d ≤ 100000) (h__law_same : ∀ j, j < k → Fd P w K mg base rs (j + 1) "_law_same" s_law_same ["given", "due"] (P_law_same j))
      (cdv : Value) (A : Around) (outer : List Env) (s : Shared) (H F0 : Hp) (E : XK) (Ψ : Post) (hr : Room k (bCx P w K mg base ["given", "due", "one", "it"] "_law_same" s_law_same f cdv A outer s H E).A) (hp : Ψ.rt (.bool true)),
      PSsd (bCx P w K mg base ["given", "due", "one", "it"] "_law_same" s_law_same f cdv A outer s H E) ⟨rs, K, F0, H⟩ (match (defBody s_law_same).getD 0 (.Pass ⟨0, 0, 0, 0⟩) with | .If _ b _ _ => b | _ => []) [some (.dat d), some (.dat d), none, none] Ψ := by
    intro k d ds hd hx h__law_same cdv A outer s H F0 E Ψ hr hp
    have hu := hr.un
    have hnd : nds ds ≤ 100000 := by
      have h3 := hx.2.2
      rcases hd.2 with rfl | rfl <;> rw [nd] at h3 <;> exact h3
    have hmem : ∀ x ∈ ds, x.canLay0 = true ∧ x.depth + 1 ≤ k ∧ nd x ≤ 100000 := by
      intro x hxm
      rcases hd.2 with rfl | rfl
      · have h1 := hx.1
        have h2 := hx.2.1
        have h3 := nds_mem hxm
        rw [PyData.canLay0] at h1
        rw [PyData.depth] at h2
        have := depthAll_mem hxm
        exact ⟨canLayAll_mem h1 hxm, by omega, by omega⟩
      · have h1 := hx.1
        have h2 := hx.2.1
        have h3 := nds_mem hxm
        rw [PyData.canLay0] at h1
        rw [PyData.depth] at h2
        have := depthAll_mem hxm
        exact ⟨canLayAll_mem h1 hxm, by omega, by omega⟩
    have bne : ∀ b : Bool, (!PyData.eqv (.bool b) (.bool b)) = false := by decide
    refine TR.psd_cons ?_
    refine TR.psd_if ?_
    refine TR.PTd.mono (Φ := fun k => k = false) ?_ ?_
    · refine TR.pt_pw ?_
      refine TR.pw_or ?_
      refine TR.pt_ne rfl (by show A.units + 3 + 64 < cLine; have h1 : A.units + 3 + 16 * k + 200 < cLine := hu; omega) ?_
      refine TR.pd_isi (T' := "tuple") M.z_isinstance M.z_tuple (by decide +kernel) (by decide +kernel) rfl ?_ rfl
      refine TR.pd_name 0 rfl rfl ?_
      refine TR.pd_isi (T' := "tuple") M.z_isinstance M.z_tuple (by decide +kernel) (by decide +kernel) rfl ?_ rfl
      refine TR.pd_name 1 rfl rfl ?_
      refine ⟨⟨rfl, rfl⟩, ?_⟩
      refine ⟨fun h => absurd (h.symm.trans (bne _)) (by decide), fun h => ?_⟩
      refine TR.pw_or1 ?_
      refine TR.pt_ne rfl (by show A.units + 3 + 64 < cLine; have h1 : A.units + 3 + 16 * k + 200 < cLine := hu; omega) ?_
      refine TR.pd_isi (T' := "list") M.z_isinstance M.z_list (by decide +kernel) (by decide +kernel) rfl ?_ rfl
      refine TR.pd_name 0 rfl rfl ?_
      refine TR.pd_isi (T' := "list") M.z_isinstance M.z_list (by decide +kernel) (by decide +kernel) rfl ?_ rfl
      refine TR.pd_name 1 rfl rfl ?_
      exact ⟨⟨rfl, rfl⟩, bne _⟩
    · intro k' hk
      subst hk
      refine ⟨fun h => Bool.noConfusion h, fun _ => ?_⟩
      refine TR.psd_nil ?_
      refine TR.psd_cons ?_
      refine TR.psd_ret ?_
      refine TR.PEd.mono (Φ := fun d => d = .bool true) ?_ ?_
      · refine TR.pd_and ?_
        refine TR.pd_eq rfl (by show A.units + 3 + 64 < cLine; have h1 : A.units + 3 + 16 * k + 200 < cLine := hu; omega) ?_
        refine TR.pd_len rfl M.z_len ?_
        refine TR.pa_cons ?_
        refine TR.pd_name 0 rfl rfl ?_
        refine TR.pa_nil ?_
        have q1 : ∀ {kk : List D → Prop}, kk ds → asQ d kk := fun {kk} z => by
          rcases hd.2 with rfl | rfl
          · exact z
          · exact z
        refine q1 ?_
        refine TR.pd_len rfl M.z_len ?_
        refine TR.pa_cons ?_
        refine TR.pd_name 1 rfl rfl ?_
        refine TR.pa_nil ?_
        refine q1 ?_
        refine ⟨⟨rfl, rfl⟩, ?_⟩
        refine ⟨fun h => ?_, fun h => ?_⟩
        · refine TR.pd_one ?_
          refine TR.pd_eq rfl (by show A.units + 3 + 64 < cLine; have h1 : A.units + 3 + 16 * k + 200 < cLine := hu; omega) ?_
          refine TR.pd_ofN ?_
          refine TR.pn_lcIf (.tp [(.nm 2), (.nm 3)]) (own := [("one", 2), ("it", 3)]) rfl sc_law_same.nd (blkOk_by rfl) (fun _ _ _ _ _ => (pg_tup rfl (pgs_cons (pg_name (i := 2) sc_law_same.nd rfl (.inl rfl) (.inr rfl)) (pgs_cons (pg_name (i := 3) sc_law_same.nd rfl (.inl rfl) (.inr rfl)) pgs_nil)))) (by decide) ?_
          refine TR.pid_zip rfl M.z_zip ?_
          refine TR.pa_cons ?_
          refine TR.pd_name 0 rfl rfl ?_
          refine TR.pa_cons ?_
          refine TR.pd_name 1 rfl rfl ?_
          refine TR.pa_nil ?_
          refine ⟨ds, ds, by rcases hd.2 with rfl | rfl; exact .inl ⟨rfl, rfl⟩; exact .inr ⟨rfl, rfl⟩, ?_⟩
          refine lcw_if (fun _ => false) id ?_ (fun i d' hd' => ?_) ?_
          · rw [zipD_length]
            have := nds_len ds
            omega
          · obtain ⟨x, hx1, rfl⟩ := zipD_self hd'
            obtain ⟨c1, c2, c3⟩ := hmem x hx1
            refine ⟨_, rfl, fun s H C cl fp => ?_, fun z => Bool.noConfusion z⟩
            refine TR.pt_not ?_
            refine TR.pt_val ?_
            refine TR.pd_call (h__law_same (k - 1) (by omega)) rfl (hr.mono (by omega)) rfl tkNo ?_
            refine TR.pa_cons ?_
            refine TR.pd_name 2 rfl rfl ?_
            refine TR.pa_cons ?_
            refine TR.pd_name 3 rfl rfl ?_
            refine TR.pa_nil ?_
            exact ⟨x, rfl, ⟨c1, by omega, c3⟩, rfl⟩
          · have e0 : (zipD ds ds).filter (fun _ => false) = [] := by simp
            rw [e0]
            refine TR.pd_ofN ?_
            refine TR.pn_list ?_
            refine TR.pa_nil ?_
            refine ⟨by simp, ?_⟩
            exact ⟨⟨by decide, by decide⟩, rfl⟩
        · exact absurd (h.symm.trans (show PyData.eqv (.int _) (.int _) = true from beq_self_eq_true _)) (by decide)
      · intro d' hd'
        subst hd'
        exact hp
  intro k
  induction k using Nat.strongRecOn with
  | _ k ih =>
  refine fd_mk F hm sc_law_same (fun _ _ _ _ _ _ us hl => match us, hl with | [_, _], _ => rfl) (fun ens Φ ⟨_, e, _⟩ => by rw [e]; rfl) fun cdv A outer s H F0 E ens Φ hr hp tk => ?_
  obtain ⟨d, rfl, hx, hp⟩ := hp
  have hu := hr.un
  have hu2 : A.units + 3 + 64 < cLine := by have h1 : A.units + 3 + 16 * k + 200 < cLine := hu; omega
  refine TR.psd_cons ?_
  refine TR.psd_if ?_
  refine TR.pt_val ?_
  refine TR.pd_isi2 (T' := "tuple") (U' := "list") M.z_isinstance M.z_tuple M.z_list (by decide +kernel) (by decide +kernel) (by decide +kernel) (by decide +kernel) rfl rfl ?_ rfl
  refine TR.pd_name 1 rfl rfl ?_
  refine ⟨fun h => ?_, fun h => ?_⟩
  · have hd : ∃ ds, d = .list ds ∨ d = .tuple ds := by
      cases d <;> first | exact ⟨_, .inl rfl⟩ | exact ⟨_, .inr rfl⟩ | exact absurd h Bool.false_ne_true
    obtain ⟨ds, hd⟩ := hd
    exact seq k d ds ⟨h, hd⟩ hx (fun j hj => ih j hj) cdv A outer s H F0 E _ hr hp
  · refine TR.psd_nil ?_
    refine TR.psd_cons ?_
    refine TR.psd_if ?_
    refine TR.pt_val ?_
    refine TR.pd_isi (T' := "str") M.z_isinstance M.z_str (by decide +kernel) (by decide +kernel) rfl ?_ rfl
    refine TR.pd_name 1 rfl rfl ?_
    refine ⟨fun h2 => ?_, fun h2 => ?_⟩
    · refine TR.psd_cons ?_
      refine TR.psd_ret ?_
      refine TR.PEd.mono (Φ := fun d => d = .bool true) ?_ ?_
      · refine TR.pd_and ?_
        refine TR.pd_isi (T' := "str") M.z_isinstance M.z_str (by decide +kernel) (by decide +kernel) rfl ?_ rfl
        refine TR.pd_name 0 rfl rfl ?_
        refine ⟨fun h => ?_, fun h => ?_⟩
        · refine TR.pd_one ?_
          refine TR.pd_eq rfl hu2 ?_
          refine TR.pd_name 0 rfl rfl ?_
          refine TR.pd_name 1 rfl rfl ?_
          have hs : ∃ x, d = .str x := by
            cases d <;> first | exact ⟨_, rfl⟩ | exact absurd h2 Bool.false_ne_true
          obtain ⟨x, rfl⟩ := hs
          have hsh : SeqAt.shaped (.str x) = true := by
            unfold SeqAt.shaped
            rw [hx.1]
            rfl
          have e : PyData.eqv (.str x) (.str x) = true := SeqAt.eqv_refl _ hx.1
          refine ⟨⟨hsh, hsh⟩, ?_⟩
          show PyData.bool _ = PyData.bool true
          rw [e]
        · exact absurd (h2.symm.trans h) (by decide)
      · intro d' hd'
        subst hd'
        exact hp
    · refine TR.psd_nil ?_
      refine TR.psd_cons ?_
      refine TR.psd_if ?_
      refine TR.pt_isN ?_
      refine TR.pd_name 1 rfl rfl ?_
      refine TR.pd_none ?_
      refine ⟨rfl, ?_⟩
      refine ⟨fun h3 => ?_, fun h3 => ?_⟩
      · refine TR.psd_cons ?_
        refine TR.psd_ret ?_
        refine TR.pd_isN ?_
        refine TR.pd_name 0 rfl rfl ?_
        refine TR.pd_none ?_
        refine ⟨rfl, ?_⟩
        rw [h3]
        exact hp
      · refine TR.psd_nil ?_
        refine TR.psd_cons ?_
        refine TR.psd_if ?_
        refine TR.pt_val ?_
        refine TR.pd_isi (T' := "bool") M.z_isinstance M.z_bool (by decide +kernel) (by decide +kernel) rfl ?_ rfl
        refine TR.pd_name 1 rfl rfl ?_
        refine ⟨fun h4 => ?_, fun h4 => ?_⟩
        · refine TR.psd_cons ?_
          refine TR.psd_ret ?_
          refine TR.PEd.mono (Φ := fun d => d = .bool true) ?_ ?_
          · refine TR.pd_and ?_
            refine TR.pd_isi (T' := "bool") M.z_isinstance M.z_bool (by decide +kernel) (by decide +kernel) rfl ?_ rfl
            refine TR.pd_name 0 rfl rfl ?_
            refine ⟨fun h => ?_, fun h => ?_⟩
            · refine TR.pd_one ?_
              refine TR.pd_eq rfl hu2 ?_
              refine TR.pd_name 0 rfl rfl ?_
              refine TR.pd_name 1 rfl rfl ?_
              have hs : ∃ x, d = .bool x := by
                cases d <;> first | exact ⟨_, rfl⟩ | exact absurd h4 Bool.false_ne_true
              obtain ⟨x, rfl⟩ := hs
              have e : PyData.eqv (.bool x) (.bool x) = true := SeqAt.eqv_refl _ hx.1
              refine ⟨⟨rfl, rfl⟩, ?_⟩
              show PyData.bool _ = PyData.bool true
              rw [e]
            · exact absurd (h4.symm.trans h) (by decide)
          · intro d' hd'
            subst hd'
            exact hp
        · refine TR.psd_nil ?_
          refine TR.psd_cons ?_
          refine TR.psd_ret ?_
          have hi : ∃ i, d = .int i := by
            cases d <;> first | exact ⟨_, rfl⟩ | exact absurd h.symm Bool.false_ne_true | exact absurd h2.symm Bool.false_ne_true | exact absurd h3.symm Bool.false_ne_true | exact absurd h4.symm Bool.false_ne_true | (have := hx.1; rw [PyData.canLay0] at this; exact absurd this Bool.false_ne_true)
          obtain ⟨i, rfl⟩ := hi
          refine TR.PEd.mono (Φ := fun d => d = .bool true) ?_ ?_
          · refine TR.pd_and ?_
            refine TR.pd_isi (T' := "int") M.z_isinstance M.z_int (by decide +kernel) (by decide +kernel) rfl ?_ rfl
            refine TR.pd_name 0 rfl rfl ?_
            refine ⟨fun h => ?_, fun h => absurd h.symm Bool.false_ne_true⟩
            refine TR.pd_and ?_
            refine TR.pd_not ?_
            refine TR.pd_isi (T' := "bool") M.z_isinstance M.z_bool (by decide +kernel) (by decide +kernel) rfl ?_ rfl
            refine TR.pd_name 0 rfl rfl ?_
            refine ⟨fun h => ?_, fun h => absurd h.symm Bool.false_ne_true⟩
            refine TR.pd_one ?_
            refine TR.pd_eq rfl hu2 ?_
            refine TR.pd_name 0 rfl rfl ?_
            refine TR.pd_name 1 rfl rfl ?_
            refine ⟨⟨rfl, rfl⟩, ?_⟩
            have e : PyData.eqv (.int i) (.int i) = true := beq_self_eq_true i
            show PyData.bool _ = PyData.bool true
            rw [e]
          · intro d' hd'
            subst hd'
            exact hp
end
end K33

set_option maxRecDepth 100000
set_option maxHeartbeats 4000000
namespace K33
open PySem PySem.Spec PyProof.Rows L2 TR
/-! sums -/
theorem rangeI_length (lo : Int) (n : Nat) : (rangeI lo n).length = n := by simp [rangeI]
theorem rangeI_append (lo : Int) (a b : Nat) : rangeI lo (a + b) = rangeI lo a ++ rangeI (lo + a) b := by
  unfold rangeI
  rw [List.range_add, List.map_append, List.map_map]
  congr 1
  apply List.map_congr_left
  intro i _
  simp only [Function.comp]
  omega
theorem rangeI_succ (lo : Int) (n : Nat) : rangeI lo (n + 1) = rangeI lo n ++ [lo + n] := by
  rw [rangeI_append]
  simp [rangeI]
theorem sum_zero {f : Int → Int} : ∀ {L : List Int}, (∀ j ∈ L, f j = 0) → (L.map f).sum = 0
  | [], _ => rfl
  | x :: L, h => by
    simp only [List.map_cons, List.sum_cons]
    rw [h x (by simp), sum_zero fun j hj => h j (by simp [hj])]
    rfl
theorem sum_filter {p : Int → Bool} {f : Int → Int} : ∀ {L : List Int}, ((L.filter p).map f).sum = (L.map fun j => if p j then f j else 0).sum
  | [] => rfl
  | x :: L => by
    simp only [List.map_cons, List.sum_cons, List.filter_cons]
    rw [← sum_filter (L := L)]
    cases p x <;> simp
theorem sum_sub {f : Int → Int} {lo : Int} {N n : Nat} (h0 : 0 ≤ lo) (h1 : lo + n ≤ N) (hz : ∀ j, (0 ≤ j ∧ j < lo) ∨ (lo + n ≤ j ∧ j < N) → f j = 0) : ((rangeI 0 N).map f).sum = ((rangeI lo n).map f).sum := by
  obtain ⟨l, rfl⟩ := Int.eq_ofNat_of_zero_le h0
  have e : N = l + (n + (N - l - n)) := by omega
  rw [e, rangeI_append, rangeI_append, List.map_append, List.map_append, List.sum_append, List.sum_append]
  rw [sum_zero fun j hj => hz j (.inl (by have := mem_rangeI.mp hj; omega))]
  rw [sum_zero (L := rangeI (0 + (l : Int) + (n : Int)) (N - l - n)) fun j hj => hz j (.inr (by have := mem_rangeI.mp hj; omega))]
  simp
def term (n a m e j : Int) : Int := if oddB n a m e j then chooseBy a j * chooseBy (n - a) (m - j) else 0
theorem misBy_sum (n a m e : Int) : misBy n a m e = ((rangeI 0 (m + 1).toNat).map (term n a m e)).sum := sum_filter
theorem choose_hi {n m : Int} (h : n < m) : chooseBy n m = 0 := if_pos (.inr h)
theorem choose_neg {n m : Int} (h : m < 0) : chooseBy n m = 0 := if_pos (.inl h)
theorem term_out {n a m e j : Int} (h : a < j ∨ n - a < m - j) : term n a m e j = 0 := by
  unfold term
  split
  · rcases h with h | h
    · rw [choose_hi h, Int.zero_mul]
    · rw [choose_hi h, Int.mul_zero]
  · rfl
theorem misBy_in {n a m e : Int} (h : 0 ≤ a ∧ a ≤ n ∧ 0 ≤ m ∧ m ≤ n) : ∀ lo cnt, lo = (if m - (n - a) > 0 then m - (n - a) else 0) → cnt = ((if m < a then m else a) + 1 - lo).toNat → ((rangeI lo cnt).map (term n a m e)).sum = misBy n a m e := by
  intro lo cnt h1 h2
  have hlo : 0 ≤ lo ∧ lo ≤ a ∧ lo ≤ m := by rw [h1]; split <;> omega
  have hcnt : lo + cnt = (if m < a then m else a) + 1 := by
    rw [h2]
    split <;> omega
  rw [misBy_sum]
  refine (sum_sub hlo.1 ?_ fun j hj => term_out ?_).symm
  · rw [hcnt]; split <;> omega
  · rcases hj with hj | hj
    · right; rw [h1] at hj; split at hj <;> omega
    · left; rw [hcnt] at hj; split at hj <;> omega
/-! the rows of the triangle -/
theorem pascal_k : ∀ n ∈ List.range 60, chooseBy (n : Int) 0 = 1 ∧ chooseBy ((n : Int) + 1) ((n : Int) + 1) = 1 ∧ ∀ k ∈ List.range n, chooseBy (n : Int) (k : Int) + chooseBy (n : Int) ((k : Int) + 1) = chooseBy ((n : Int) + 1) ((k : Int) + 1) := by decide +kernel
def rowI (n : Nat) : List Int := (List.range (n + 1)).map fun (k : Nat) => chooseBy (n : Int) (k : Int)
def rowD (n : Nat) : D := .list ((rowI n).map .int)
def rowsD : List D := (List.range 61).map rowD
theorem rowI_length (n : Nat) : (rowI n).length = n + 1 := by simp [rowI]
theorem rowI_get {n k : Nat} (h : k ≤ n) : (rowI n)[k]? = some (chooseBy (n : Int) (k : Int)) := by
  unfold rowI
  rw [List.getElem?_map, List.getElem?_range (by omega)]
  rfl
theorem sum_rows : ∀ n ∈ List.range 61, (rowI n).sum = 2 ^ n := by decide +kernel
theorem row_step {n : Nat} (h : n < 60) : rowI (n + 1) = [1] ++ (List.range n).map (fun (k : Nat) => chooseBy (n : Int) (k : Int) + chooseBy (n : Int) ((k : Int) + 1)) ++ [1] := by
  obtain ⟨_, h1, h2⟩ := pascal_k n (List.mem_range.mpr h)
  have h0 : chooseBy (((n + 1 : Nat)) : Int) 0 = 1 := by
    by_cases z : n + 1 < 60
    · exact (pascal_k (n + 1) (List.mem_range.mpr z)).1
    · have : n + 1 = 60 := by omega
      rw [this]; decide +kernel
  have e : List.range (n + 1 + 1) = 0 :: ((List.range n).map Nat.succ ++ [n + 1]) := by
    rw [List.range_succ_eq_map, List.range_succ, List.map_append]
    rfl
  unfold rowI
  rw [e, List.map_cons, List.map_append, List.map_map]
  have e1 : (List.range n).map ((fun (k : Nat) => chooseBy ((n + 1 : Nat) : Int) (k : Int)) ∘ Nat.succ) = (List.range n).map (fun (k : Nat) => chooseBy (n : Int) (k : Int) + chooseBy (n : Int) ((k : Int) + 1)) := by
    apply List.map_congr_left
    intro k hk
    have := h2 k hk
    simp only [Function.comp]
    rw [this]
    congr 1
  rw [e1]
  have e2 : chooseBy ((n + 1 : Nat) : Int) ((0 : Nat) : Int) = 1 := h0
  have e3 : chooseBy ((n + 1 : Nat) : Int) ((n + 1 : Nat) : Int) = 1 := h1
  rw [e2]
  show 1 :: (_ ++ [chooseBy ((n + 1 : Nat) : Int) ((n + 1 : Nat) : Int)]) = _
  rw [e3]
  rfl
theorem atI_nn {α : Type} {xs : List α} {k : Nat} {x : α} (h : xs[k]? = some x) : atI xs (k : Int) = some x := by
  have hk : k < xs.length := (List.getElem?_eq_some_iff.mp h).1
  have e := (List.getElem?_eq_some_iff.mp h).2
  unfold atI ixN
  simp [hk, e]
theorem atI_int {ns : List Int} {k : Int} {x : Int} (h0 : 0 ≤ k) (h : ns[k.toNat]? = some x) : atI (ns.map PyData.int) k = some (.int x) := by
  have e : k = (k.toNat : Int) := by omega
  rw [e]
  refine atI_nn ?_
  rw [List.getElem?_map, h]
  rfl
theorem at_rows {a : Int} (h0 : 0 ≤ a) (h1 : a ≤ 60) : atI rowsD a = some (rowD a.toNat) := by
  have e : a = (a.toNat : Int) := by omega
  conv => lhs; rw [e]
  refine atI_nn ?_
  unfold rowsD
  rw [List.getElem?_map, List.getElem?_range (by omega)]
  rfl
theorem at_row {n : Nat} {k : Int} (h0 : 0 ≤ k) (h1 : k ≤ n) : atI ((rowI n).map PyData.int) k = some (.int (chooseBy (n : Int) k)) := by
  have e : chooseBy (n : Int) k = chooseBy (n : Int) (k.toNat : Int) := by rw [Int.toNat_of_nonneg h0]
  rw [e]
  exact atI_int h0 (rowI_get (by omega))
section
variable {P : Program} {w : World} {K : PySem.W.Frag} {mg : Str → Option Value} {base : Heap} {rs : Rs} {cM cR cT fI : Addr} (M : Ms K mg cM cR cT fI)
include M
abbrev s_law_rows_of : Stmt := topS 25
omit M in
theorem sc_law_rows_of : FnScope ["most", "found", "n", "last", "k"] ["most"] (defScope s_law_rows_of) := ⟨rfl, rfl, rfl, by decide +kernel, rfl, by decide +kernel, by decide +kernel⟩
abbrev P_law_rows_of : Pf := fun ens Φ => ens = [.dat (.int 60)] ∧ Φ (.val (.list rowsD))
theorem ok_law_rows_of {f : Addr} {fd : FuncData} (F : Fun K "_law_rows_of" "_law_rows_of" s_law_rows_of f fd) (hm : mg "_law_rows_of" = some (.ref f)) :
    Fd P w K mg base rs 1 "_law_rows_of" s_law_rows_of ["most"] P_law_rows_of := by
  refine fd_mk F hm sc_law_rows_of (fun _ _ _ _ _ _ us hl => match us, hl with | [_], _ => rfl) (fun ens Φ ⟨e, _⟩ => by rw [e]; rfl) fun cdv A outer s H F0 E ens Φ hr hp tk => ?_
  obtain ⟨rfl, hp⟩ := hp
  refine TR.psd_cons ?_
  refine TR.psd_asgN 1 sc_law_rows_of.nd rfl ?_
  refine TR.pn_list ?_
  refine TR.pa_cons ?_
  refine TR.pd_ofN ?_
  refine TR.pn_list ?_
  refine TR.pa_cons ?_
  refine TR.pd_int ?_
  refine TR.pa_nil ?_
  refine ⟨by simp, ?_⟩
  refine TR.pa_nil ?_
  refine ⟨by simp, ?_⟩
  refine TR.psd_cons ?_
  refine TR.psd_for (.nm 2) rfl rfl (passes_of rfl) (pg_name (i := 2) sc_law_rows_of.nd rfl (.inl rfl)) ?_
  refine TR.pid_range1 M.z_range ?_
  refine TR.pa_cons ?_
  refine TR.pd_name 0 rfl rfl ?_
  refine TR.pa_nil ?_
  refine ⟨by decide, ?_⟩
  refine ⟨fun i ρ => ∃ o2 o3 o4, ρ = [some (.dat (.int 60)), some (.own ((List.range (i + 1)).map rowD)), o2, o3, o4], ⟨_, _, _, rfl⟩, ?_, ?_⟩
  · intro i d ρ1 hd hI
    obtain ⟨hi, rfl⟩ := rangeD_inv hd
    obtain ⟨o2, o3, o4, rfl⟩ := hI
    have hi : i < 60 := hi
    refine ⟨_, rfl, ?_⟩
    refine TR.psd_cons ?_
    refine TR.psd_asg 3 sc_law_rows_of.nd rfl ?_
    refine TR.pd_ownIx 1 rfl rfl rfl ?_
    refine TR.pd_neg ?_
    refine TR.pd_int ?_
    refine ⟨rowD i, ?_, ?_⟩
    · unfold atI ixN
      have e1 : (-1 + ((i : Int) + 1)).toNat = i := by omega
      simp
      rw [if_pos (by omega), e1]
      simp [List.getElem?_range]
    refine TR.psd_cons ?_
    refine TR.psd_append 1 rfl rfl rfl ?_
    refine TR.pd_ofN ?_
    refine TR.pn_cat ?_
    refine TR.pn_cat ?_
    refine TR.pn_list ?_
    refine TR.pa_cons ?_
    refine TR.pd_int ?_
    refine TR.pa_nil ?_
    refine ⟨by simp, ?_⟩
    refine TR.pn_lc (.nm 4) (own := [("k", 4)]) rfl sc_law_rows_of.nd (blkOk_by rfl) (fun _ _ _ _ _ => (pg_name (i := 4) sc_law_rows_of.nd rfl (.inl rfl) (.inr rfl))) (by decide) ?_
    refine TR.pid_range1 M.z_range ?_
    refine TR.pa_cons ?_
    refine TR.pd_name 2 rfl rfl ?_
    refine TR.pa_nil ?_
    refine ⟨by omega, ?_⟩
    refine lcw_map (fun d => match d with | .int k => .int (chooseBy (i : Int) k + chooseBy (i : Int) (k + 1)) | _ => .none) (by rw [rangeD_length]; omega) (fun j d hd => ?_) ?_
    · obtain ⟨hj, rfl⟩ := rangeD_inv hd
      refine ⟨_, rfl, fun s H C cl fp => ?_⟩
      refine TR.pd_add ?_
      refine TR.pd_ix rfl ?_
      refine TR.pd_name 3 rfl rfl ?_
      refine TR.pd_name 4 rfl rfl ?_
      refine ⟨_, at_row (by omega) (by omega), ?_⟩
      refine TR.pd_ix rfl ?_
      refine TR.pd_name 3 rfl rfl ?_
      refine TR.pd_add ?_
      refine TR.pd_name 4 rfl rfl ?_
      refine TR.pd_int ?_
      refine ⟨_, at_row (by omega) (by omega), ?_⟩
      rfl
    · refine ⟨by rw [List.length_map, rangeD_length]; simp; omega, ?_⟩
      refine TR.pn_list ?_
      refine TR.pa_cons ?_
      refine TR.pd_int ?_
      refine TR.pa_nil ?_
      refine ⟨by simp, ?_⟩
      refine ⟨by simp [rangeD_length]; omega, ?_⟩
      refine ⟨by simp; omega, ?_⟩
      refine TR.psd_nil ?_
      refine ⟨some (.dat (.int (0 + (i : Int)))), some (.dat (rowD i)), o4, ?_⟩
      have e : (PyData.list ([PyData.int 1] ++ (rangeD 0 (0 + (i : Int)).toNat).map (fun d => match d with | .int k => .int (chooseBy (i : Int) k + chooseBy (i : Int) (k + 1)) | _ => .none) ++ [PyData.int 1])) = rowD (i + 1) := by
        unfold rowD
        rw [row_step hi, rangeD_eq]
        unfold rangeI
        simp
      have e2 : (List.range (i + 1)).map rowD ++ [rowD (i + 1)] = (List.range (i + 1 + 1)).map rowD := by rw [List.range_succ (n := i + 1), List.map_append]; rfl
      rw [← e2, ← e]
      rfl
  · intro ρ1 hI
    obtain ⟨o2, o3, o4, rfl⟩ := hI
    refine TR.psd_freeze 1 rfl ?_
    refine TR.psd_cons ?_
    refine TR.psd_ret ?_
    refine TR.pd_name 1 rfl rfl ?_
    exact hp
abbrev s_law_misled : Stmt := topS 26
omit M in
theorem sc_law_misled : FnScope ["rows", "n", "a", "m", "e", "found", "j"] ["rows", "n", "a", "m", "e"] (defScope s_law_misled) := ⟨rfl, rfl, rfl, by decide +kernel, rfl, by decide +kernel, by decide +kernel⟩
abbrev P_law_misled : Pf := fun ens Φ => ∃ n a m e : Int, ens = [.dat (.list rowsD), .dat (.int n), .dat (.int a), .dat (.int m), .dat (.int e)] ∧ (0 ≤ a ∧ a ≤ n ∧ n ≤ 60 ∧ 0 ≤ m ∧ m ≤ n ∧ 0 ≤ e ∧ e ≤ 100) ∧ Φ (.val (.int (misBy n a m e)))
theorem ok_law_misled {f : Addr} {fd : FuncData} (F : Fun K "_law_misled" "_law_misled" s_law_misled f fd) (hm : mg "_law_misled" = some (.ref f)) :
    Fd P w K mg base rs 1 "_law_misled" s_law_misled ["rows", "n", "a", "m", "e"] P_law_misled := by
  refine fd_mk F hm sc_law_misled (fun _ _ _ _ _ _ us hl => match us, hl with | [_, _, _, _, _], _ => rfl) (fun ens Φ ⟨_, _, _, _, e, _⟩ => by rw [e]; rfl) fun cdv A outer s H F0 E ens Φ hr hp tk => ?_
  obtain ⟨n, a, m, e, rfl, hb, hp⟩ := hp
  refine TR.psd_cons ?_
  refine TR.psd_asg 5 sc_law_misled.nd rfl ?_
  refine TR.pd_int ?_
  refine TR.psd_cons ?_
  refine TR.psd_for (.nm 6) rfl rfl (passes_of rfl) (pg_name (i := 6) sc_law_misled.nd rfl (.inl rfl)) ?_
  refine TR.pid_range2 M.z_range ?_
  refine TR.pa_cons ?_
  refine TR.pd_max2 rfl M.z_max ?_
  refine TR.pa_cons ?_
  refine TR.pd_int ?_
  refine TR.pa_cons ?_
  refine TR.pd_sub ?_
  refine TR.pd_name 3 rfl rfl ?_
  refine TR.pd_sub ?_
  refine TR.pd_name 1 rfl rfl ?_
  refine TR.pd_name 2 rfl rfl ?_
  refine TR.pa_nil ?_
  refine TR.pa_cons ?_
  refine TR.pd_add ?_
  refine TR.pd_min2 rfl M.z_min ?_
  refine TR.pa_cons ?_
  refine TR.pd_name 2 rfl rfl ?_
  refine TR.pa_cons ?_
  refine TR.pd_name 3 rfl rfl ?_
  refine TR.pa_nil ?_
  refine TR.pd_int ?_
  refine TR.pa_nil ?_
  have hlo : ∀ lo : Int, lo = (if m - (n - a) > 0 then m - (n - a) else 0) → 0 ≤ lo ∧ m - (n - a) ≤ lo ∧ lo ≤ 60 := by intro lo h; subst h; split <;> omega
  have hhi : ∀ hi : Int, hi = (if m < a then m else a) → 0 ≤ hi ∧ hi ≤ a ∧ hi ≤ m := by intro hi h; subst h; split <;> omega
  have fin := misBy_in (n := n) (a := a) (m := m) (e := e) (by omega) _ _ rfl rfl
  generalize hl1 : (if m - (n - a) > 0 then m - (n - a) else 0) = lo at *
  generalize hh1 : (if m < a then m else a) = hi at *
  have hlo := hlo lo rfl
  have hhi := hhi hi rfl
  refine ⟨by omega, ?_⟩
  refine ⟨fun i ρ => ∃ o, ρ = [some (.dat (.list rowsD)), some (.dat (.int n)), some (.dat (.int a)), some (.dat (.int m)), some (.dat (.int e)), some (.dat (.int (((rangeI lo i).map (term n a m e)).sum))), o], ⟨_, rfl⟩, ?_, ?_⟩
  · intro i d ρ1 hd hI
    obtain ⟨hi2, rfl⟩ := rangeD_inv hd
    obtain ⟨o, rfl⟩ := hI
    have hj : 0 ≤ lo + (i : Int) ∧ lo + (i : Int) ≤ a ∧ lo + (i : Int) ≤ m ∧ m - (lo + (i : Int)) ≤ n - a := by omega
    have hs : ((rangeI lo (i + 1)).map (term n a m e)).sum = ((rangeI lo i).map (term n a m e)).sum + term n a m e (lo + i) := by rw [rangeI_succ, List.map_append, List.sum_append]; simp
    refine ⟨_, rfl, ?_⟩
    refine TR.psd_cons ?_
    refine TR.psd_if ?_
    refine TR.pt_gt ?_
    refine TR.pd_abs M.z_abs ?_
    refine TR.pa_cons ?_
    refine TR.pd_sub ?_
    refine TR.pd_mul ?_
    refine TR.pd_name 1 rfl rfl ?_
    refine TR.pd_name 6 rfl rfl ?_
    refine ⟨cm (by omega) (by omega), ?_⟩
    refine TR.pd_mul ?_
    refine TR.pd_name 2 rfl rfl ?_
    refine TR.pd_name 3 rfl rfl ?_
    refine ⟨cm (by omega) (by omega), ?_⟩
    refine TR.pa_nil ?_
    refine TR.pd_mul ?_
    refine TR.pd_name 4 rfl rfl ?_
    refine TR.pd_name 3 rfl rfl ?_
    refine ⟨cm (by omega) (by omega), ?_⟩
    refine ⟨fun h => ?_, fun h => ?_⟩
    · have ho : oddB n a m e (lo + i) = true := h
      refine TR.psd_cons ?_
      refine TR.psd_asg 5 sc_law_misled.nd rfl ?_
      refine TR.pd_add ?_
      refine TR.pd_name 5 rfl rfl ?_
      refine TR.pd_mul ?_
      refine TR.pd_ix rfl ?_
      refine TR.pd_ix rfl ?_
      refine TR.pd_name 0 rfl rfl ?_
      refine TR.pd_name 2 rfl rfl ?_
      refine ⟨_, at_rows (by omega) (by omega), ?_⟩
      refine TR.pd_name 6 rfl rfl ?_
      refine ⟨_, at_row (by omega) (by omega), ?_⟩
      refine TR.pd_ix rfl ?_
      refine TR.pd_ix rfl ?_
      refine TR.pd_name 0 rfl rfl ?_
      refine TR.pd_sub ?_
      refine TR.pd_name 1 rfl rfl ?_
      refine TR.pd_name 2 rfl rfl ?_
      refine ⟨_, at_rows (by omega) (by omega), ?_⟩
      refine TR.pd_sub ?_
      refine TR.pd_name 3 rfl rfl ?_
      refine TR.pd_name 6 rfl rfl ?_
      refine ⟨_, at_row (by omega) (by omega), ?_⟩
      have hc := choose_b (n := (a.toNat : Int)) (m := lo + i) (by omega) (by omega) (by omega)
      refine ⟨cm (by omega) (by omega), ?_⟩
      refine TR.psd_nil ?_
      refine TR.psd_nil ?_
      refine ⟨some (.dat (.int (lo + (i : Int)))), ?_⟩
      rw [hs]
      have ht : term n a m e (lo + i) = chooseBy (a.toNat : Int) (lo + i) * chooseBy ((n - a).toNat : Int) (m - (lo + i)) := by
        unfold term
        rw [if_pos ho, Int.toNat_of_nonneg (by omega), Int.toNat_of_nonneg (by omega)]
      rw [ht]
      rfl
    · have ho : oddB n a m e (lo + i) = false := h
      refine TR.psd_nil ?_
      refine TR.psd_nil ?_
      refine ⟨some (.dat (.int (lo + (i : Int)))), ?_⟩
      have ht : term n a m e (lo + i) = 0 := by
        unfold term
        rw [ho]
        rfl
      rw [hs, ht, Int.add_zero]
      rfl
  · intro ρ1 hI
    obtain ⟨o, rfl⟩ := hI
    refine TR.psd_cons ?_
    refine TR.psd_ret ?_
    refine TR.pd_name 5 rfl rfl ?_
    rw [rangeD_length, fin]
    exact hp
end
end K33

set_option maxRecDepth 100000
set_option maxHeartbeats 4000000
namespace K33
open PySem PySem.Spec PyProof.Rows L2 TR
/-! choices listed by their bits -/
def tb (x : Nat) (k : Int) : Bool := x.testBit k.toNat
def drawnI (n x : Nat) : List Int := (rangeI 0 n).filter (tb x)
def lowL (n : Nat) (a : Int) (x : Nat) : List Int := (drawnI n x).filter fun k => decide (k < a)
theorem drawn_succ (n x : Nat) : drawnI (n + 1) x = drawnI n x ++ (if x.testBit n then [(n : Int)] else []) := by
  unfold drawnI
  rw [rangeI_succ, List.filter_append]
  congr 1
  simp only [List.filter_cons, List.filter_nil, tb, Int.zero_add, Int.toNat_natCast]
  rfl
theorem drawn_low {n x : Nat} (h : x < 2 ^ n) : drawnI (n + 1) x = drawnI n x := by
  rw [drawn_succ, Nat.testBit_lt_two_pow h]
  simp
theorem drawn_high {n x : Nat} (h : x < 2 ^ n) : drawnI (n + 1) (2 ^ n + x) = drawnI n x ++ [(n : Int)] := by
  rw [drawn_succ, Nat.testBit_two_pow_add_eq, Nat.testBit_lt_two_pow h]
  have e : drawnI n (2 ^ n + x) = drawnI n x := by
    unfold drawnI
    apply List.filter_congr
    intro k hk
    have := mem_rangeI.mp hk
    unfold tb
    rw [Nat.testBit_two_pow_add_gt (by omega)]
  rw [e]
  simp
def Sn (a : Int) (n : Nat) (F : Nat → Nat → Int) : Int := ((List.range (2 ^ n)).map fun x => F (drawnI n x).length (lowL n a x).length).sum
theorem sum_map_add {α : Type} (f g : α → Int) : ∀ L : List α, (L.map fun x => f x + g x).sum = (L.map f).sum + (L.map g).sum
  | [] => rfl
  | x :: L => by
    simp only [List.map_cons, List.sum_cons]
    rw [sum_map_add f g L]
    omega
theorem Sn_step (a : Int) (n : Nat) (F : Nat → Nat → Int) : Sn a (n + 1) F = Sn a n F + Sn a n (fun p l => F (p + 1) (if (n : Int) < a then l + 1 else l)) := by
  unfold Sn
  rw [show 2 ^ (n + 1) = 2 ^ n + 2 ^ n by rw [Nat.pow_succ]; omega, List.range_add, List.map_append, List.sum_append, List.map_map]
  congr 1
  · congr 1
    apply List.map_congr_left
    intro x hx
    have hx := List.mem_range.mp hx
    unfold lowL
    rw [drawn_low hx]
  · congr 1
    apply List.map_congr_left
    intro x hx
    have hx := List.mem_range.mp hx
    simp only [Function.comp]
    unfold lowL
    rw [drawn_high hx, List.filter_append, List.length_append, List.length_append]
    congr 1
    by_cases h : (n : Int) < a <;> simp [h]
theorem pascal_s : ∀ n ∈ List.range 12, ∀ m ∈ List.range 14, chooseBy ((n : Int) + 1) (m : Int) = chooseBy (n : Int) (m : Int) + chooseBy (n : Int) ((m : Int) - 1) := by decide +kernel
theorem pascalI {n : Nat} (h : n < 12) (m : Int) : chooseBy ((n + 1 : Nat) : Int) m = chooseBy (n : Int) m + chooseBy (n : Int) (m - 1) := by
  by_cases h0 : m < 0
  · rw [choose_neg h0, choose_neg h0, choose_neg (by omega)]; rfl
  · by_cases h1 : m < 14
    · have := pascal_s n (List.mem_range.mpr h) m.toNat (List.mem_range.mpr (by omega))
      rw [Int.toNat_of_nonneg (by omega)] at this
      exact this
    · rw [choose_hi (by omega), choose_hi (by omega), choose_hi (by omega)]; rfl
def Fm (m : Int) (g : Nat → Int) : Nat → Nat → Int := fun p l => if (p : Int) = m then g l else 0
theorem choose00 : chooseBy 0 0 = 1 := by decide
theorem S_low {a : Int} : ∀ (n : Nat) (m : Int) (g : Nat → Int), (n : Int) ≤ a → n ≤ 12 → Sn a n (Fm m g) = chooseBy n m * g m.toNat
  | 0, m, g, _, _ => by
    have e : Sn a 0 (Fm m g) = if (0 : Int) = m then g 0 else 0 := by
      unfold Sn Fm
      simp [lowL, drawnI, rangeI]
    rw [e]
    by_cases h : (0 : Int) = m
    · subst h
      rw [if_pos rfl, show ((0 : Nat) : Int) = 0 from rfl, choose00]
      simp
    · rw [if_neg h]
      by_cases h2 : m < 0
      · rw [choose_neg h2, Int.zero_mul]
      · rw [choose_hi (show ((0 : Nat) : Int) < m by omega), Int.zero_mul]
  | n + 1, m, g, h, h12 => by
    rw [Sn_step]
    have e : (fun p l => Fm m g (p + 1) (if (n : Int) < a then l + 1 else l)) = Fm (m - 1) (fun l => g (l + 1)) := by
      funext p l
      unfold Fm
      rw [if_pos (show (n : Int) < a by omega)]
      by_cases q : ((p + 1 : Nat) : Int) = m
      · rw [if_pos q, if_pos (by omega)]
      · rw [if_neg q, if_neg (by omega)]
    rw [e, S_low n m g (by omega) (by omega), S_low n (m - 1) _ (by omega) (by omega), pascalI (by omega)]
    by_cases h1 : 1 ≤ m
    · rw [show (m - 1).toNat + 1 = m.toNat by omega, Int.add_mul]
    · rw [choose_neg (show m - 1 < 0 by omega)]
      simp
theorem sum_single {f : Int → Int} {m : Int} : ∀ (N : Nat), (∀ j, j ≠ m → f j = 0) → ((rangeI 0 N).map f).sum = if 0 ≤ m ∧ m < N then f m else 0
  | 0, _ => by
    rw [if_neg (by omega)]
    rfl
  | N + 1, h => by
    rw [rangeI_succ, List.map_append, List.sum_append, sum_single N h]
    simp only [List.map_cons, List.map_nil, List.sum_cons, List.sum_nil, Int.add_zero, Int.zero_add]
    by_cases e : (N : Int) = m
    · rw [if_neg (by omega), if_pos (by omega), e]; omega
    · rw [h _ e]
      by_cases q : 0 ≤ m ∧ m < N
      · rw [if_pos q, if_pos (by omega)]; omega
      · rw [if_neg q, if_neg (by omega)]; rfl
theorem S_high {a : Nat} : ∀ (h : Nat) (m : Int) (g : Nat → Int), a + h ≤ 12 → Sn a (a + h) (Fm m g) = ((rangeI 0 (a + 1)).map fun j => chooseBy (a : Int) j * chooseBy (h : Int) (m - j) * g j.toNat).sum
  | 0, m, g, h12 => by
    rw [Nat.add_zero, S_low a m g (Int.le_refl _) (by omega), sum_single (m := m)]
    · by_cases q : 0 ≤ m ∧ m < ((a + 1 : Nat) : Int)
      · rw [if_pos q, show m - m = 0 by omega, show ((0 : Nat) : Int) = 0 from rfl, choose00, Int.mul_one]
      · rw [if_neg q]
        by_cases z : m < 0
        · rw [choose_neg z, Int.zero_mul]
        · rw [choose_hi (by omega), Int.zero_mul]
    · intro j hj
      have : chooseBy ((0 : Nat) : Int) (m - j) = 0 := by
        by_cases z : m - j < 0
        · exact choose_neg z
        · exact choose_hi (by omega)
      rw [this]
      simp
  | h + 1, m, g, h12 => by
    rw [← Nat.add_assoc, Sn_step]
    have e : (fun p l => Fm m g (p + 1) (if ((a + h : Nat) : Int) < (a : Int) then l + 1 else l)) = Fm (m - 1) g := by
      funext p l
      unfold Fm
      rw [if_neg (show ¬ ((a + h : Nat) : Int) < (a : Int) by omega)]
      by_cases q : ((p + 1 : Nat) : Int) = m
      · rw [if_pos q, if_pos (by omega)]
      · rw [if_neg q, if_neg (by omega)]
    rw [e, S_high h m g (by omega), S_high h (m - 1) g (by omega), ← sum_map_add]
    congr 1
    apply List.map_congr_left
    intro j _
    rw [pascalI (by omega), show m - 1 - j = m - j - 1 by omega, Int.mul_add, Int.add_mul]
theorem listed_is {n a m e : Int} (h : 0 ≤ a ∧ a ≤ n ∧ n ≤ 10 ∧ 0 ≤ m ∧ m ≤ n) :
    ((List.range (2 ^ n.toNat)).map fun x => if ((drawnI n.toNat x).length : Int) = m then (if oddB n a m e ((lowL n.toNat a x).length : Int) then (1 : Int) else 0) else 0).sum = misBy n a m e := by
  obtain ⟨k, rfl⟩ := Int.eq_ofNat_of_zero_le h.1
  obtain ⟨r, hr⟩ : ∃ r : Nat, n = ((k + r : Nat) : Int) := ⟨(n - k).toNat, by omega⟩
  subst hr
  have key := S_high (a := k) r m (fun l => if oddB ((k + r : Nat) : Int) k m e (l : Int) then 1 else 0) (by omega)
  unfold Sn Fm at key
  rw [Int.toNat_natCast, key, misBy_sum]
  have e1 : ∀ j : Int, 0 ≤ j → chooseBy (k : Int) j * chooseBy (r : Int) (m - j) * (if oddB ((k + r : Nat) : Int) k m e ((j.toNat : Nat) : Int) then 1 else 0) = term ((k + r : Nat) : Int) k m e j := by
    intro j hj
    unfold term
    rw [Int.toNat_of_nonneg hj, show (((k + r : Nat) : Int) - (k : Int)) = (r : Int) by omega]
    split <;> simp
  have e2 : ((rangeI 0 (k + 1)).map fun j => chooseBy (k : Int) j * chooseBy (r : Int) (m - j) * (if oddB ((k + r : Nat) : Int) k m e ((j.toNat : Nat) : Int) then 1 else 0)) = (rangeI 0 (k + 1)).map (term ((k + r : Nat) : Int) k m e) := by
    apply List.map_congr_left
    intro j hj
    exact e1 j (by have := mem_rangeI.mp hj; omega)
  rw [e2]
  have z : ∀ j, term ((k + r : Nat) : Int) k m e j ≠ 0 → j ≤ k ∧ j ≤ m := by
    intro j hj
    refine ⟨?_, ?_⟩
    · by_cases q : j ≤ k
      · exact q
      · exact (hj (term_out (.inl (by omega)))).elim
    · by_cases q : j ≤ m
      · exact q
      · refine (hj ?_).elim
        unfold term
        rw [choose_neg (show m - j < 0 by omega), Int.mul_zero]
        simp
  have z0 : ∀ j, (k : Int) < j ∨ m < j → term ((k + r : Nat) : Int) k m e j = 0 := by
    intro j hj
    by_cases q : term ((k + r : Nat) : Int) k m e j = 0
    · exact q
    · have := z j q; omega
  rw [← sum_sub (lo := 0) (N := k + 1 + (m + 1).toNat) (n := k + 1) (by omega) (by omega) fun j hj => z0 j (by omega)]
  rw [← sum_sub (lo := 0) (N := k + 1 + (m + 1).toNat) (n := (m + 1).toNat) (by omega) (by omega) fun j hj => z0 j (by omega)]
end K33

set_option maxRecDepth 100000
set_option maxHeartbeats 4000000
namespace K33
open PySem PySem.Spec PyProof.Rows L2 TR
theorem bit_tb (x : Nat) {k : Int} (h : 0 ≤ k) : PyData.eqv (.int (Builtin.bitAnd ((x : Int) / 2 ^ k.toNat) 1)) (.int 1) = tb x k := by
  rw [bitAnd_m1]
  unfold tb
  rw [Nat.testBit_eq_decide_div_mod_eq]
  have e : ((x : Int) / 2 ^ k.toNat % 2) = ((x / 2 ^ k.toNat % 2 : Nat) : Int) := by
    rw [Int.natCast_emod, Int.natCast_ediv, Int.natCast_pow]; rfl
  rw [e]
  show (((x / 2 ^ k.toNat % 2 : Nat) : Int) == 1) = _
  rw [Bool.eq_iff_iff]
  simp
  omega
def listV (n a m e : Int) (x : Nat) : Int := if ((drawnI n.toNat x).length : Int) = m then (if oddB n a m e ((lowL n.toNat a x).length : Int) then (1 : Int) else 0) else 0
section
variable {P : Program} {w : World} {K : PySem.W.Frag} {mg : Str → Option Value} {base : Heap} {rs : Rs} {cM cR cT fI : Addr} (M : Ms K mg cM cR cT fI)
include M
abbrev s_law_listed : Stmt := topS 27
omit M in
theorem sc_law_listed : FnScope ["n", "a", "m", "e", "found", "number", "drawn", "k"] ["n", "a", "m", "e"] (defScope s_law_listed) := ⟨rfl, rfl, rfl, by decide +kernel, rfl, by decide +kernel, by decide +kernel⟩
abbrev P_law_listed : Pf := fun ens Φ => ∃ n a m e : Int, ens = [.dat (.int n), .dat (.int a), .dat (.int m), .dat (.int e)] ∧ (0 ≤ a ∧ a ≤ n ∧ n ≤ 10 ∧ 0 ≤ m ∧ m ≤ n ∧ 0 ≤ e ∧ e ≤ 100) ∧ Φ (.val (.int (misBy n a m e)))
theorem ok_law_listed {f : Addr} {fd : FuncData} (F : Fun K "_law_listed" "_law_listed" s_law_listed f fd) (hm : mg "_law_listed" = some (.ref f)) :
    Fd P w K mg base rs 1 "_law_listed" s_law_listed ["n", "a", "m", "e"] P_law_listed := by
  refine fd_mk F hm sc_law_listed (fun _ _ _ _ _ _ us hl => match us, hl with | [_, _, _, _], _ => rfl) (fun ens Φ ⟨_, _, _, _, e, _⟩ => by rw [e]; rfl) fun cdv A outer s H F0 E ens Φ hr hp tk => ?_
  obtain ⟨n, a, m, e, rfl, hb, hp⟩ := hp
  have hu : A.units + 3 + 64 < cLine := by have h1 : A.units + 3 + 16 * 0 + 200 < cLine := hr.un; omega
  rw [← listed_is (by omega)] at hp
  obtain ⟨N, rfl⟩ := Int.eq_ofNat_of_zero_le (show 0 ≤ n by omega)
  have hN : N ≤ 10 := by omega
  have hpow : (2 : Nat) ^ N ≤ 1024 := by
    have : 2 ^ N ≤ 2 ^ 10 := Nat.pow_le_pow_right (by decide) hN
    omega
  obtain ⟨T, hT⟩ : ∃ T : Nat, T = 2 ^ N := ⟨_, rfl⟩
  rw [← hT] at hpow
  rw [Int.toNat_natCast, ← hT] at hp
  refine TR.psd_cons ?_
  refine TR.psd_asg 4 sc_law_listed.nd rfl ?_
  refine TR.pd_int ?_
  refine TR.psd_cons ?_
  refine TR.psd_for (.nm 5) rfl rfl (passes_of rfl) (pg_name (i := 5) sc_law_listed.nd rfl (.inr rfl)) ?_
  refine TR.pid_range1 M.z_range ?_
  refine TR.pa_cons ?_
  have e2 : (1 : Int) * 2 ^ (N : Int).toNat = (T : Int) := by rw [Int.toNat_natCast, Int.one_mul, hT, Int.natCast_pow]; rfl
  refine TR.PEd.mono (Φ := fun d => d = .int (T : Int)) ?_ ?_
  · refine TR.pd_shl ?_
    refine TR.pd_int ?_
    refine TR.pd_name 0 rfl rfl ?_
    refine ⟨⟨by omega, by omega, by decide⟩, ?_⟩
    show PyData.int ((1 : Int) * 2 ^ (N : Int).toNat) = PyData.int (T : Int)
    rw [e2]
  intro d hd
  subst hd
  refine TR.pa_nil ?_
  refine ⟨by omega, ?_⟩
  rw [Int.toNat_natCast]
  refine ⟨fun i ρ => ∃ o5 o6 o7, ρ = [some (.dat (.int N)), some (.dat (.int a)), some (.dat (.int m)), some (.dat (.int e)), some (.dat (.int (((List.range i).map (listV N a m e)).sum))), o5, o6, o7], ⟨_, _, _, rfl⟩, ?_, ?_⟩
  · intro i d ρ1 hd hI
    obtain ⟨hi, rfl⟩ := rangeD_inv hd
    obtain ⟨o5, o6, o7, rfl⟩ := hI
    rw [Int.zero_add]
    have hs : ((List.range (i + 1)).map (listV N a m e)).sum = ((List.range i).map (listV N a m e)).sum + listV N a m e i := by rw [List.range_succ, List.map_append, List.sum_append]; simp
    refine ⟨_, rfl, ?_⟩
    refine TR.psd_cons ?_
    refine TR.psd_lcIfN 6 (.nm 7) (own := [("k", 7)]) rfl sc_law_listed.nd rfl rfl (sw_true rfl rfl rfl (by decide +kernel)) (blkOk_by rfl) (fun _ _ _ _ _ => (pg_name (i := 7) sc_law_listed.nd rfl (.inl rfl) (.inr rfl))) (by decide) ?_
    refine TR.pid_range1 M.z_range ?_
    refine TR.pa_cons ?_
    refine TR.pd_name 0 rfl rfl ?_
    refine TR.pa_nil ?_
    refine ⟨by omega, ?_⟩
    refine lcw_if (fun d => match d with | .int k => tb i k | _ => false) id (by rw [rangeD_length]; omega) (fun j d hd => ?_) ?_
    · obtain ⟨hj, rfl⟩ := rangeD_inv hd
      refine ⟨_, rfl, fun s H C cl fp => ?_, fun _ s H C cl fp => ?_⟩
      · refine TR.pt_eq rfl hu ?_
        refine TR.pd_band ?_
        refine TR.pd_shr ?_
        refine TR.pd_name 5 rfl rfl ?_
        refine TR.pd_name 7 rfl rfl ?_
        refine ⟨by omega, ?_⟩
        refine TR.pd_int ?_
        refine TR.pd_int ?_
        exact ⟨⟨rfl, rfl⟩, bit_tb i (by omega)⟩
      · refine TR.pd_name 7 rfl rfl ?_
        rfl
    · rw [rangeD_eq, filter_ints _ _ (tb i) (fun i _ => rfl), List.map_id, Int.toNat_natCast]
      have ed : (rangeI 0 N).filter (tb i) = drawnI N i := rfl
      rw [ed]
      have hdl : (drawnI N i).length ≤ 10 := Nat.le_trans (List.length_filter_le _ _) (by rw [rangeI_length]; exact hN)
      have hll : (lowL N a i).length ≤ 10 := Nat.le_trans (List.length_filter_le _ _) hdl
      refine TR.psd_cons ?_
      refine TR.psd_if ?_
      refine TR.pt_lend 6 rfl ?_
      refine TR.pt_eq rfl hu ?_
      refine TR.pd_len rfl M.z_len ?_
      refine TR.pa_cons ?_
      refine TR.pd_name 6 rfl rfl ?_
      refine TR.pa_nil ?_
      refine TR.pd_name 2 rfl rfl ?_
      refine ⟨⟨rfl, rfl⟩, ?_⟩
      have ex : PyData.eqv (.int (((drawnI N i).map PyData.int).length : Int)) (.int m) = decide (((drawnI N i).length : Int) = m) := by
        rw [List.length_map]
        show (((drawnI N i).length : Int) == m) = _
        rw [Bool.eq_iff_iff]
        simp
      rw [ex]
      refine ⟨fun h => ?_, fun h => ?_⟩
      · have h := of_decide_eq_true h
        refine TR.psd_cons ?_
        refine TR.psd_asg 4 sc_law_listed.nd rfl ?_
        refine TR.pd_lend 6 rfl ?_
        refine TR.pd_add ?_
        refine TR.pd_name 4 rfl rfl ?_
        refine TR.pd_intOf M.z_int ?_
        refine TR.pa_cons ?_
        refine TR.pd_gt ?_
        refine TR.pd_abs M.z_abs ?_
        refine TR.pa_cons ?_
        refine TR.pd_sub ?_
        refine TR.pd_mul ?_
        refine TR.pd_name 0 rfl rfl ?_
        refine TR.PEd.mono (Φ := fun d => d = .int ((lowL N a i).length : Int)) ?_ ?_
        · skip
          refine TR.pd_len rfl M.z_len ?_
          refine TR.pa_cons ?_
          refine TR.pd_ofN ?_
          refine TR.pn_lcIf (.nm 7) (own := [("k", 7)]) rfl sc_law_listed.nd (blkOk_by rfl) (fun _ _ _ _ _ => (pg_name (i := 7) sc_law_listed.nd rfl (.inl rfl) (.inr rfl))) (by decide) ?_
          refine TR.pid_list rfl ?_
          refine TR.pd_name 6 rfl rfl ?_
          refine lcw_if (fun d => match d with | .int k => decide (k < a) | _ => false) id (by rw [List.length_map]; omega) (fun j d hd => ?_) ?_
          · obtain ⟨k, _, hk, rfl⟩ := ints_inv hd
            refine ⟨_, rfl, fun s H C cl fp => ?_, fun _ s H C cl fp => ?_⟩
            · refine TR.pt_lt ?_
              refine TR.pd_name 7 rfl rfl ?_
              refine TR.pd_name 1 rfl rfl ?_
              rfl
            · refine TR.pd_name 7 rfl rfl ?_
              rfl
          · rw [filter_ints _ _ (fun k => decide (k < a)) (fun i _ => rfl), List.map_id]
            have el : (drawnI N i).filter (fun k => decide (k < a)) = lowL N a i := rfl
            rw [el]
            refine TR.pa_nil ?_
            show PyData.int _ = PyData.int _
            rw [List.length_map]
        intro d hd
        subst hd
        refine ⟨cm (by omega) (by omega), ?_⟩
        refine TR.pd_mul ?_
        refine TR.pd_name 1 rfl rfl ?_
        refine TR.pd_name 2 rfl rfl ?_
        refine ⟨cm (by omega) (by omega), ?_⟩
        refine TR.pa_nil ?_
        refine TR.pd_mul ?_
        refine TR.pd_name 3 rfl rfl ?_
        refine TR.pd_name 2 rfl rfl ?_
        refine ⟨cm (by omega) (by omega), ?_⟩
        refine TR.pa_nil ?_
        refine ⟨rfl, ?_⟩
        refine TR.psd_nil ?_
        refine TR.psd_nil ?_
        refine ⟨some (.dat (.int (i : Int))), some (.own ((drawnI N i).map .int)), o7, ?_⟩
        rw [hs]
        unfold listV
        rw [Int.toNat_natCast, if_pos h]
        rfl
      · have h := of_decide_eq_false h
        refine TR.psd_nil ?_
        refine TR.psd_nil ?_
        refine ⟨some (.dat (.int (i : Int))), some (.own ((drawnI N i).map .int)), o7, ?_⟩
        have ez : listV N a m e i = 0 := by
          unfold listV
          rw [Int.toNat_natCast, if_neg h]
        rw [hs, ez, Int.add_zero]
        rfl
  · intro ρ1 hI
    obtain ⟨o5, o6, o7, rfl⟩ := hI
    refine TR.psd_cons ?_
    refine TR.psd_ret ?_
    refine TR.pd_name 4 rfl rfl ?_
    rw [rangeD_length]
    exact hp
end
end K33

set_option maxRecDepth 100000
set_option maxHeartbeats 4000000
namespace K33
open PySem PySem.Spec PyProof.Rows L2 TR
def word (cM cR : Addr) : Addr → Option Str := fun C => if C = cM then some "many" else if C = cR then some "range" else none
/-- what is known of _law_heard -/
structure Hd (K : PySem.W.Frag) (mg : Str → Option Value) (cM cR : Addr) : Prop where
  fn : ∃ g fd, mg "_law_heard" = some (.ref g) ∧ Fun K "_law_heard" "_law_heard" (topS 24) g fd
  ne : cR ≠ cM
  hM : HrC K cM
  hR : HrC K cR
  aM : PySem.W.exmAny K (.ref cM) [.ref cM, .ref cR] = some true
  aR : PySem.W.exmAny K (.ref cR) [.ref cM, .ref cR] = some true
  kM : PySem.W.kitOne K (.ref cM) (.ref cM) = some true
  kR : PySem.W.kitOne K (.ref cR) (.ref cM) = some false
/-- a def that makes lambdas: its code object and its table -/
structure Lm (mg : Str → Option Value) (base : Heap) (rs : Rs) (x : Str) (c P : Addr) : Prop where
  tb : LamX.TabB base mg c P
  mem : (P, x ++ ".<locals>." ++ "<lambda>") ∈ rs.tabs
  uq : ∀ p ∈ rs.tabs, p.1 = P → p.2 = x ++ ".<locals>." ++ "<lambda>"
section
variable {P : Program} {w : World} {K : PySem.W.Frag} {mg : Str → Option Value} {base : Heap} {rs : Rs} {cM cR cT fI : Addr} (M : Ms K mg cM cR cT fI) (HD : Hd K mg cM cR)
theorem sc_law_heard : FnScope ["call", "e"] ["call"] (defScope (topS 24)) := ⟨rfl, rfl, rfl, by decide +kernel, rfl, by decide +kernel, by decide +kernel⟩
include M HD
theorem hd33 {N : List Str} {x : Str} {st : Stmt} {f c T : Addr} {A : Around} {outer : List Env} {s : Shared} {H F0 H0 : Hp} {E : XK} {ρ : Rho} {Φ : D → Prop} {k : Nat} {params : Arguments} {body : Expr} {scope : Scope} {p lpos pos : Pos}
    (L0 : Lm mg base rs x c T) (hg : Gl (bCx P w K mg base N x st f (.ref c) A outer s H E) "_law_heard") (hr : Room (k + 2) (bCx P w K mg base N x st f (.ref c) A outer s H E).A) (L : LamX.LamS (defScope st) scope) (hdef : defaultsOf params (bCx P w K mg base N x st f (.ref c) A outer s H E).env = ([], []))
    (hbind : ∀ (q : Str) (cl : List (Str × Addr)) (pm cv ctv : Value), bindArgs (PySem.W.kla_fn "<lambda>" q params body scope cl pm cv ctv) ⟨[], []⟩ = pure [])
    (hbody : ∀ (A2 : Around) (outer2 : List Env) (s2 : Shared) (H2 F2 H02 : Hp) (E2 : XK) (f2 c2 : Addr), Room k (LamX.lamCx (bCx P w K mg base N x st f (.ref c) A outer s H E) A2 outer2 s2 H2 E2 scope f2 c2).A →
      TkD (LamX.lamCx (bCx P w K mg base N x st f (.ref c) A outer s H E) A2 outer2 s2 H2 E2 scope f2 c2) ⟨rs, K, F2, H02⟩ (fun C d => ∃ wd, word cM cR C = some wd ∧ Φ (.tuple [.str wd, d])) →
      PEd (LamX.lamCx (bCx P w K mg base N x st f (.ref c) A outer s H E) A2 outer2 s2 H2 E2 scope f2 c2) ⟨rs, K, F2, H02⟩ body (hideR ρ) fun d => Φ (.tuple [.str "told", d])) :
    PEd (bCx P w K mg base N x st f (.ref c) A outer s H E) ⟨rs, K, F0, H0⟩ (.Call (.Name "_law_heard" p) [.Lambda params body scope lpos] [] pos) ρ Φ := by
  obtain ⟨g, fd, hm, hf⟩ := HD.fn
  have hk := hf.kp
  obtain ⟨oc, od, kV, doc, pm, an, cdv, ct, osl, rfl, lk, hcd⟩ := hf.ex
  refine TR.pd_heard (word := word cM cR) (a := "call") (Ng := ["call", "e"]) hg hm hk lk hcd (.all fun us hl => match us, hl with | [_], _ => rfl) sc_law_heard rfl (.inl rfl) ?_ L0.tb rfl L0.mem L0.uq hr L hdef hbind hbody
  refine hear2_gives (C1 := cM) (C2 := cR) (by decide +kernel) rfl rfl (by decide) (by decide) rfl M.g_BadMany (by decide) rfl M.g_BadRange (by decide) rfl M.z_isinstance (fun f => ⟨rfl, by show 1 < 2; decide⟩) fun C wd hw => ?_
  unfold word at hw
  by_cases h1 : C = cM
  · subst h1
    rw [if_pos rfl] at hw
    cases hw
    exact ⟨HD.hM, HD.aM, true, HD.kM, rfl⟩
  · rw [if_neg h1] at hw
    by_cases h2 : C = cR
    · subst h2
      rw [if_pos rfl] at hw
      cases hw
      exact ⟨HD.hR, HD.aR, false, HD.kR, rfl⟩
    · rw [if_neg h2] at hw
      cases hw
end
end K33

set_option maxRecDepth 100000
set_option maxHeartbeats 4000000
namespace K33
open PySem PySem.Spec PyProof.Rows L2 TR
abbrev P_right (ad : Addr) : Pf := fun ens Φ => ens = [.raw (.ref ad), .dat (.list rowsD)] ∧ Φ (.val (.bool true))
theorem nd_int (i : Int) : nd (.int i) = 0 := by simp [nd]
theorem nd_str (x : Str) : nd (.str x) = 0 := by simp [nd]
theorem nds_ints : ∀ ns : List Int, nds (ns.map PyData.int) = ns.length
  | [] => rfl
  | n :: ns => by
    rw [List.map_cons, nds, nds_ints ns, nd_int, List.length_cons]
    omega
theorem lay_list (ds : List D) : (PyData.list ds).canLay0 = PyData.canLayAll0 ds := by rw [PyData.canLay0]
theorem lay_tuple (ds : List D) : (PyData.tuple ds).canLay0 = PyData.canLayAll0 ds := by rw [PyData.canLay0]
theorem lay_cons (d : D) (ds : List D) : PyData.canLayAll0 (d :: ds) = (d.canLay0 && PyData.canLayAll0 ds) := by rw [PyData.canLayAll0]
theorem lay_nil : PyData.canLayAll0 [] = true := by rw [PyData.canLayAll0]
theorem lay_int (i : Int) : (PyData.int i).canLay0 = true := by rw [PyData.canLay0]
theorem lay_str (x : Str) : (PyData.str x).canLay0 = PyData.strOk x := by rw [PyData.canLay0]
theorem lay_ints (ns : List Int) : PyData.canLayAll0 (ns.map PyData.int) = true := canLay_ints ns
theorem dep_list (ds : List D) : (PyData.list ds).depth = PyData.depthAll ds + 1 := by rw [PyData.depth]
theorem dep_tuple (ds : List D) : (PyData.tuple ds).depth = PyData.depthAll ds + 1 := by rw [PyData.depth]
theorem dep_cons (d : D) (ds : List D) : PyData.depthAll (d :: ds) = max d.depth (PyData.depthAll ds) := by rw [PyData.depthAll]
theorem dep_nil : PyData.depthAll [] = 0 := by rw [PyData.depthAll]
theorem dep_int (i : Int) : (PyData.int i).depth = 0 := by rw [PyData.depth]
theorem dep_str (x : Str) : (PyData.str x).depth = 0 := by rw [PyData.depth]
theorem dep_ints (ns : List Int) : PyData.depthAll (ns.map PyData.int) = 0 := depth_ints ns
theorem nd_list (ds : List D) : nd (.list ds) = nds ds := by rw [nd]
theorem nd_tuple (ds : List D) : nd (.tuple ds) = nds ds := by rw [nd]
theorem nds_cons (d : D) (ds : List D) : nds (d :: ds) = nd d + 1 + nds ds := by rw [nds]
theorem nds_nil : nds [] = 0 := by rw [nds]
theorem ok_many : PyData.strOk "many" = true := by decide +kernel
theorem ok_range : PyData.strOk "range" = true := by decide +kernel
/-- a wrong value, small -/
structure Bd (d : D) (l m : Int) : Prop where
  no : wholeB d l m = false
  lay : d.canLay0 = true
  dep : d.depth ≤ 1
  ndo : nd d ≤ 1
theorem Bd.int {i l m : Int} (h : i < l ∨ m < i) : Bd (.int i) l m := ⟨decide_eq_false (by omega), rfl, by simp [PyData.depth], by rw [nd_int]; omega⟩
theorem Bd.tru {l m : Int} : Bd (.bool true) l m := ⟨rfl, rfl, by simp [PyData.depth], by simp [K33.nd]⟩
theorem Bd.non {l m : Int} : Bd .none l m := ⟨rfl, rfl, by simp [PyData.depth], by simp [K33.nd]⟩
section
variable {P : Program} {w : World} {K : PySem.W.Frag} {mg : Str → Option Value} {base : Heap} {rs : Rs} {cM cR cT fI : Addr} (M : Ms K mg cM cR cT fI) (HD : Hd K mg cM cR)
include M HD
def chF (n : Int) : D → D | .int k => .int (chooseBy n k) | _ => .none
omit M HD in
theorem sym_k : ∀ n ∈ List.range 61, ∀ m ∈ List.range (n + 1), chooseBy (n : Int) ((n : Int) - (m : Int)) = chooseBy (n : Int) (m : Int) := by decide +kernel
omit M HD in
theorem choose_sym {n m : Int} (n0 : 0 ≤ n) (n1 : n ≤ 60) (m0 : 0 ≤ m) (m1 : m ≤ n) : chooseBy n (n - m) = chooseBy n m := by
  have := sym_k n.toNat (List.mem_range.mpr (by omega)) m.toNat (List.mem_range.mpr (by omega))
  rw [Int.toNat_of_nonneg n0, Int.toNat_of_nonneg m0] at this
  exact this
abbrev s_law_are_choices_right : Stmt := topS 28
omit M HD in
theorem sc_law_are_choices_right : FnScope ["deck", "rows", "n", "m", "told", "heard", "bad", "odd", "k"] ["deck", "rows"] (defScope s_law_are_choices_right) := ⟨rfl, rfl, rfl, by decide +kernel, rfl, by decide +kernel, by decide +kernel⟩
theorem ok_law_are_choices_right {f : Addr} {fd : FuncData} (hm : mg "_law_are_choices_right" = some (.ref f))
    {ad al : Addr} (hd : rs.deck = some (ad, al)) {c T : Addr} (F : FunL K "_law_are_choices_right" s_law_are_choices_right f fd c) (L0 : Lm mg base rs "_law_are_choices_right" c T)
    (h__law_draw : Fd P w K mg base rs 2 "_law_draw" s_law_draw ["deck", "many"] (P_law_draw ad))
    (h__law_pick : Fd P w K mg base rs 3 "_law_pick" s_law_pick ["deck", "some"] (P_law_pick ad))
    (h__law_same : ∀ k, Fd P w K mg base rs (k + 1) "_law_same" s_law_same ["given", "due"] (P_law_same k))
    (h_choices : Fd P w K mg base rs 4 "choices" schoices ["n", "m"] (Pchoices cM)) :
    Fd P w K mg base rs 13 "_law_are_choices_right" s_law_are_choices_right ["deck", "rows"] (P_right ad) := by
  refine fd_mkL F hm sc_law_are_choices_right (fun _ _ _ _ _ _ us hl => match us, hl with | [_, _], _ => rfl) (fun ens Φ ⟨e, _⟩ => by rw [e]; rfl) fun A outer s H F0 E ens Φ hr hp tk => ?_
  obtain ⟨rfl, hp⟩ := hp
  have hu : A.units + 3 + 64 < cLine := by have h1 : A.units + 3 + 16 * 12 + 200 < cLine := hr.un; omega
  refine TR.psd_cons ?_
  -- n = _law_pick(deck, [0, 1, 5, 30, 59, 60, _law_draw(deck, 61)])
  refine TR.psd_asg 2 sc_law_are_choices_right.nd rfl ?_
  refine TR.pd_call h__law_pick rfl (hr.mono (by decide)) rfl tk ?_
  refine TR.pa_raw 0 rfl rfl ?_
  refine TR.pa_cons ?_
  refine TR.pd_ofN ?_
  refine TR.pn_list ?_
  refine TR.pa_cons ?_
  refine TR.pd_int ?_
  refine TR.pa_cons ?_
  refine TR.pd_int ?_
  refine TR.pa_cons ?_
  refine TR.pd_int ?_
  refine TR.pa_cons ?_
  refine TR.pd_int ?_
  refine TR.pa_cons ?_
  refine TR.pd_int ?_
  refine TR.pa_cons ?_
  refine TR.pd_int ?_
  refine TR.pa_cons ?_
  refine TR.pd_call h__law_draw rfl (hr.mono (by decide)) rfl tk ?_
  refine TR.pa_raw 0 rfl rfl ?_
  refine TR.pa_cons ?_
  refine TR.pd_int ?_
  refine TR.pa_nil ?_
  refine ⟨61, rfl, by decide, fun r r0 r1 => ?_⟩
  refine TR.pa_nil ?_
  refine ⟨by simp, ?_⟩
  refine TR.pa_nil ?_
  refine ⟨_, rfl, by simp, fun dn hdn => ?_⟩
  obtain ⟨n, rfl, n0, n1⟩ : ∃ n : Int, dn = .int n ∧ 0 ≤ n ∧ n ≤ 60 := by
    simp only [List.mem_cons, List.not_mem_nil, or_false] at hdn
    rcases hdn with rfl | rfl | rfl | rfl | rfl | rfl | rfl <;> exact ⟨_, rfl, by omega, by omega⟩
  clear hdn r0 r1
  refine TR.psd_cons ?_
  -- m = _law_draw(deck, n + 1)
  refine TR.psd_asg 3 sc_law_are_choices_right.nd rfl ?_
  refine TR.pd_call h__law_draw rfl (hr.mono (by decide)) rfl tk ?_
  refine TR.pa_raw 0 rfl rfl ?_
  refine TR.pa_cons ?_
  refine TR.pd_add ?_
  refine TR.pd_name 2 rfl rfl ?_
  refine TR.pd_int ?_
  refine TR.pa_nil ?_
  refine ⟨n + 1, rfl, by omega, fun m m0 m1 => ?_⟩
  refine TR.psd_cons ?_
  -- told = [choices(n, m), choices(m=n - m, n=n), [choices(n, k) for k in range(n + 1)]]
  refine TR.psd_asgN 4 sc_law_are_choices_right.nd rfl ?_
  refine TR.pn_list ?_
  refine TR.pa_cons ?_
  refine TR.pd_call h_choices rfl (hr.mono (by decide)) rfl tk ?_
  refine TR.pa_cons ?_
  refine TR.pd_name 2 rfl rfl ?_
  refine TR.pa_cons ?_
  refine TR.pd_name 3 rfl rfl ?_
  refine TR.pa_nil ?_
  refine ⟨_, _, rfl, need_pos (by omega) (by omega) (need_pos (by omega) (by omega) ?_)⟩
  refine TR.pa_cons ?_
  refine TR.pd_callK [1, 0] ["m", "n"] h_choices rfl (hr.mono (by decide)) rfl tk (fun _ _ _ _ _ _ ws hl => match ws, hl with | [_, _], _ => rfl) ?_
  refine TR.pk_consD ?_
  refine TR.pd_sub ?_
  refine TR.pd_name 2 rfl rfl ?_
  refine TR.pd_name 3 rfl rfl ?_
  refine TR.pk_consD ?_
  refine TR.pd_name 2 rfl rfl ?_
  refine TR.pk_nilD ?_
  refine ⟨rfl, ?_⟩
  refine ⟨_, _, rfl, need_pos (by omega) (by omega) (need_pos (by omega) (by omega) ?_)⟩
  refine TR.pa_cons ?_
  refine TR.pd_ofN ?_
  refine TR.pn_lc (.nm 8) (own := [("k", 8)]) rfl sc_law_are_choices_right.nd (blkOk_by rfl) (fun _ _ _ _ _ => (pg_name (i := 8) sc_law_are_choices_right.nd rfl (.inl rfl) (.inr rfl))) (by decide) ?_
  refine TR.pid_range1 M.z_range ?_
  refine TR.pa_cons ?_
  refine TR.pd_add ?_
  refine TR.pd_name 2 rfl rfl ?_
  refine TR.pd_int ?_
  refine TR.pa_nil ?_
  refine ⟨by omega, ?_⟩
  refine lcw_map (chF n) (by rw [rangeD_length]; omega) (fun i d hd => ?_) ?_
  · obtain ⟨hi, rfl⟩ := rangeD_inv hd
    refine ⟨_, rfl, fun s H C cl fp => ?_⟩
    refine TR.pd_call h_choices rfl (hr.mono (by decide)) rfl tkNo ?_
    refine TR.pa_cons ?_
    refine TR.pd_name 2 rfl rfl ?_
    refine TR.pa_cons ?_
    refine TR.pd_name 8 rfl rfl ?_
    refine TR.pa_nil ?_
    refine ⟨_, _, rfl, need_pos (by omega) (by omega) (need_pos (by omega) (by omega) ?_)⟩
    rfl
  · have er : (rangeD 0 (n + 1).toNat).map (chF n) = (rowI n.toNat).map .int := by
      rw [rangeD_eq, List.map_map]
      unfold rangeI rowI
      rw [List.map_map, List.map_map, show (n + 1).toNat = n.toNat + 1 by omega]
      apply List.map_congr_left
      intro k hk
      simp only [Function.comp, Int.zero_add]
      rw [Int.toNat_of_nonneg n0]
      rfl
    have ec : chooseBy n (n - m) = chooseBy n m := choose_sym n0 n1 m0 (by omega)
    rw [er, ec]
    refine TR.pa_nil ?_
    refine ⟨by simp, ?_⟩
    refine TR.psd_freeze 4 rfl ?_
    refine TR.psd_cons ?_
    refine TR.psd_if ?_
    refine TR.PTd.mono (Φ := fun k => k = false) ?_ ?_
    · refine TR.pt_pw ?_
      refine TR.pw_or ?_
      refine TR.pt_not ?_
      refine TR.pt_val ?_
      refine TR.pd_call (h__law_same 4) rfl (hr.mono (by decide)) rfl tk ?_
      refine TR.pa_cons ?_
      refine TR.pd_name 4 rfl rfl ?_
      refine TR.pa_cons ?_
      refine TR.pd_ofN ?_
      refine TR.pn_list ?_
      refine TR.pa_cons ?_
      refine TR.pd_ix rfl ?_
      refine TR.pd_ix rfl ?_
      refine TR.pd_name 1 rfl rfl ?_
      refine TR.pd_name 2 rfl rfl ?_
      refine ⟨_, at_rows n0 n1, ?_⟩
      refine TR.pd_name 3 rfl rfl ?_
      refine ⟨_, at_row (n := n.toNat) m0 (by omega), ?_⟩
      refine TR.pa_cons ?_
      refine TR.pd_ix rfl ?_
      refine TR.pd_ix rfl ?_
      refine TR.pd_name 1 rfl rfl ?_
      refine TR.pd_name 2 rfl rfl ?_
      refine ⟨_, at_rows n0 n1, ?_⟩
      refine TR.pd_name 3 rfl rfl ?_
      refine ⟨_, at_row (n := n.toNat) m0 (by omega), ?_⟩
      refine TR.pa_cons ?_
      refine TR.pd_ix rfl ?_
      refine TR.pd_name 1 rfl rfl ?_
      refine TR.pd_name 2 rfl rfl ?_
      refine ⟨_, at_rows n0 n1, ?_⟩
      refine TR.pa_nil ?_
      refine ⟨by simp, ?_⟩
      refine TR.pa_nil ?_
      rw [Int.toNat_of_nonneg n0]
      have hlen := rowI_length n.toNat
      refine ⟨_, rfl, ⟨?_, ?_, ?_⟩, ?_⟩
      · simp only [lay_list, lay_cons, lay_nil, lay_int, lay_ints, Bool.and_true]
      · simp only [dep_list, dep_cons, dep_nil, dep_int, dep_ints]; decide
      · simp only [nd_list, nds_cons, nds_nil, nd_int, nds_ints]; omega
      refine ⟨fun h => ?_, fun h => ?_⟩
      · exact Bool.noConfusion h
      · skip
        refine TR.pw_or1 ?_
        refine TR.pt_ne rfl hu ?_
        refine TR.pd_sum rfl rfl M.z_sum ?_
        refine TR.pa_cons ?_
        refine TR.pd_ix rfl ?_
        refine TR.pd_name 1 rfl rfl ?_
        refine TR.pd_name 2 rfl rfl ?_
        refine ⟨_, at_rows n0 n1, ?_⟩
        refine TR.pa_nil ?_
        refine ⟨_, rfl, ?_⟩
        refine TR.pd_shl ?_
        refine TR.pd_int ?_
        refine TR.pd_name 2 rfl rfl ?_
        refine ⟨⟨by omega, by omega, by decide⟩, ?_⟩
        refine ⟨⟨rfl, rfl⟩, ?_⟩
        have hs := sum_rows n.toNat (List.mem_range.mpr (by omega))
        show (!PyData.eqv (.int (rowI n.toNat).sum) (.int (1 * 2 ^ n.toNat))) = false
        rw [hs, Int.one_mul]
        show (!((2 : Int) ^ n.toNat == 2 ^ n.toNat)) = false
        rw [beq_self_eq_true]
        rfl
    · intro k hk
      subst hk
      refine ⟨fun h => Bool.noConfusion h, fun h => ?_⟩
      · skip
        refine TR.psd_nil ?_
        refine TR.psd_cons ?_
        -- bad, odd = (_law_pick(deck, [-1, 61, True, None, '3', (3,)]), _law_pick(deck, [-1, n + 1, True, None, '0']))
        refine TR.psd_asgT (.tp [(.nm 6), (.nm 7)]) rfl (pg_tup rfl (pgs_cons (pg_name (i := 6) sc_law_are_choices_right.nd rfl (by first | exact .inl rfl | exact .inr rfl)) (pgs_cons (pg_name (i := 7) sc_law_are_choices_right.nd rfl (by first | exact .inl rfl | exact .inr rfl)) pgs_nil))) ?_
        refine TR.pd_tuple ?_
        refine TR.pa_cons ?_
        refine TR.pd_call h__law_pick rfl (hr.mono (by decide)) rfl tk ?_
        refine TR.pa_raw 0 rfl rfl ?_
        refine TR.pa_cons ?_
        refine TR.pd_ofN ?_
        refine TR.pn_list ?_
        refine TR.pa_cons ?_
        refine TR.pd_neg ?_
        refine TR.pd_int ?_
        refine TR.pa_cons ?_
        refine TR.pd_int ?_
        refine TR.pa_cons ?_
        refine TR.pd_bool ?_
        refine TR.pa_cons ?_
        refine TR.pd_none ?_
        refine TR.pa_cons ?_
        refine TR.pd_str ?_
        refine TR.pa_cons ?_
        refine TR.pd_tuple ?_
        refine TR.pa_cons ?_
        refine TR.pd_int ?_
        refine TR.pa_nil ?_
        refine ⟨by simp, ?_⟩
        refine TR.pa_nil ?_
        refine ⟨by simp, ?_⟩
        refine TR.pa_nil ?_
        refine ⟨_, rfl, by simp, fun bad hbad => ?_⟩
        replace hbad : Bd bad 0 60 := by
          simp only [List.mem_cons, List.not_mem_nil, or_false] at hbad
          rcases hbad with rfl | rfl | rfl | rfl | rfl | rfl
          · exact .int (by decide)
          · exact .int (by decide)
          · exact .tru
          · exact .non
          · exact ⟨rfl, by decide +kernel, by decide +kernel, by decide +kernel⟩
          · exact ⟨rfl, by decide +kernel, by decide +kernel, by decide +kernel⟩
        refine TR.pa_cons ?_
        refine TR.pd_call h__law_pick rfl (hr.mono (by decide)) rfl tk ?_
        refine TR.pa_raw 0 rfl rfl ?_
        refine TR.pa_cons ?_
        refine TR.pd_ofN ?_
        refine TR.pn_list ?_
        refine TR.pa_cons ?_
        refine TR.pd_neg ?_
        refine TR.pd_int ?_
        refine TR.pa_cons ?_
        refine TR.pd_add ?_
        refine TR.pd_name 2 rfl rfl ?_
        refine TR.pd_int ?_
        refine TR.pa_cons ?_
        refine TR.pd_bool ?_
        refine TR.pa_cons ?_
        refine TR.pd_none ?_
        refine TR.pa_cons ?_
        refine TR.pd_str ?_
        refine TR.pa_nil ?_
        refine ⟨by simp, ?_⟩
        refine TR.pa_nil ?_
        refine ⟨_, rfl, by simp, fun odd hodd => ?_⟩
        replace hodd : Bd odd 0 n := by
          simp only [List.mem_cons, List.not_mem_nil, or_false] at hodd
          rcases hodd with rfl | rfl | rfl | rfl | rfl
          · exact .int (by omega)
          · exact .int (by omega)
          · exact .tru
          · exact .non
          · exact ⟨rfl, by decide +kernel, by decide +kernel, by decide +kernel⟩
        refine TR.pa_nil ?_
        refine ⟨by simp, ?_⟩
        refine ⟨_, rfl, ?_⟩
        refine TR.psd_cons ?_
        -- heard = [_law_heard(lambda: choices(bad, odd))]
        refine TR.psd_asgN 5 sc_law_are_choices_right.nd rfl ?_
        refine TR.pn_list ?_
        refine TR.pa_cons ?_
        refine hd33 M HD (k := 8) L0 rfl (hr.mono (by decide)) (LamX.lamS_by (by decide +kernel)) rfl (fun _ _ _ _ _ => rfl) (fun A2 outer2 s2 H2 F2 H02 E2 f2 c2 hrL tkL => ?_)
        refine TR.pd_call h_choices rfl (hrL.mono (by decide)) rfl tkL ?_
        refine TR.pa_cons ?_
        refine TR.pd_name 6 rfl rfl ?_
        refine TR.pa_cons ?_
        refine TR.pd_name 7 rfl rfl ?_
        refine TR.pa_nil ?_
        refine ⟨_, _, rfl, need_neg hbad.no ⟨"many", if_pos rfl, ?_⟩⟩
        refine TR.pa_nil ?_
        refine ⟨by simp, ?_⟩
        refine TR.psd_cons ?_
        -- heard.append(_law_heard(lambda: choices(n, odd)))
        refine TR.psd_append 5 rfl rfl rfl ?_
        refine hd33 M HD (k := 8) L0 rfl (hr.mono (by decide)) (LamX.lamS_by (by decide +kernel)) rfl (fun _ _ _ _ _ => rfl) (fun A2 outer2 s2 H2 F2 H02 E2 f2 c2 hrL tkL => ?_)
        refine TR.pd_call h_choices rfl (hrL.mono (by decide)) rfl tkL ?_
        refine TR.pa_cons ?_
        refine TR.pd_name 2 rfl rfl ?_
        refine TR.pa_cons ?_
        refine TR.pd_name 7 rfl rfl ?_
        refine TR.pa_nil ?_
        refine ⟨_, _, rfl, need_pos (by omega) (by omega) (need_neg hodd.no ⟨"many", if_pos rfl, ?_⟩)⟩
        refine ⟨by simp, ?_⟩
        refine TR.psd_cons ?_
        -- heard.append(_law_heard(lambda: choices(m=odd, n=n)))
        refine TR.psd_append 5 rfl rfl rfl ?_
        refine hd33 M HD (k := 8) L0 rfl (hr.mono (by decide)) (LamX.lamS_by (by decide +kernel)) rfl (fun _ _ _ _ _ => rfl) (fun A2 outer2 s2 H2 F2 H02 E2 f2 c2 hrL tkL => ?_)
        refine TR.pd_callK [1, 0] ["m", "n"] h_choices rfl (hrL.mono (by decide)) rfl tkL (fun _ _ _ _ _ _ ws hl => match ws, hl with | [_, _], _ => rfl) ?_
        refine TR.pk_consD ?_
        refine TR.pd_name 7 rfl rfl ?_
        refine TR.pk_consD ?_
        refine TR.pd_name 2 rfl rfl ?_
        refine TR.pk_nilD ?_
        refine ⟨rfl, ?_⟩
        refine ⟨_, _, rfl, need_pos (by omega) (by omega) (need_neg hodd.no ⟨"many", if_pos rfl, ?_⟩)⟩
        refine ⟨by simp, ?_⟩
        refine TR.psd_freeze 5 rfl ?_
        refine TR.psd_cons ?_
        -- return _law_same(heard, [('many', bad), ('many', odd), ('many', odd)])
        refine TR.psd_ret ?_
        refine TR.pd_call (h__law_same 4) rfl (hr.mono (by decide)) rfl tk ?_
        refine TR.pa_cons ?_
        refine TR.pd_name 5 rfl rfl ?_
        refine TR.pa_cons ?_
        refine TR.pd_ofN ?_
        refine TR.pn_list ?_
        refine TR.pa_cons ?_
        refine TR.pd_tuple ?_
        refine TR.pa_cons ?_
        refine TR.pd_str ?_
        refine TR.pa_cons ?_
        refine TR.pd_name 6 rfl rfl ?_
        refine TR.pa_nil ?_
        refine ⟨by simp, ?_⟩
        refine TR.pa_cons ?_
        refine TR.pd_tuple ?_
        refine TR.pa_cons ?_
        refine TR.pd_str ?_
        refine TR.pa_cons ?_
        refine TR.pd_name 7 rfl rfl ?_
        refine TR.pa_nil ?_
        refine ⟨by simp, ?_⟩
        refine TR.pa_cons ?_
        refine TR.pd_tuple ?_
        refine TR.pa_cons ?_
        refine TR.pd_str ?_
        refine TR.pa_cons ?_
        refine TR.pd_name 7 rfl rfl ?_
        refine TR.pa_nil ?_
        refine ⟨by simp, ?_⟩
        refine TR.pa_nil ?_
        refine ⟨by simp, ?_⟩
        refine TR.pa_nil ?_
        have b1 := hbad.lay
        have b2 := hbad.dep
        have b3 := hbad.ndo
        have o1 := hodd.lay
        have o2 := hodd.dep
        have o3 := hodd.ndo
        refine ⟨_, rfl, ⟨?_, ?_, ?_⟩, hp⟩
        · simp only [List.cons_append, List.nil_append, lay_list, lay_tuple, lay_cons, lay_nil, lay_str, ok_many, b1, o1, Bool.and_true, Bool.and_self]
        · simp only [List.cons_append, List.nil_append, dep_list, dep_tuple, dep_cons, dep_nil, dep_str]; omega
        · simp only [List.cons_append, List.nil_append, nd_list, nd_tuple, nds_cons, nds_nil, nd_str]; omega


end
end K33

set_option maxRecDepth 100000
set_option maxHeartbeats 4000000
namespace K33
open PySem PySem.Spec PyProof.Rows L2 TR
theorem rangeI_shift (lo : Int) (n : Nat) : rangeI (lo + 1) n = (rangeI lo n).map (· + 1) := by
  unfold rangeI
  rw [List.map_map]
  apply List.map_congr_left
  intro i _
  simp only [Function.comp]
  omega
theorem sum_rev : ∀ (N : Nat) (f : Int → Int), ((rangeI 0 N).map fun j => f ((N : Int) - 1 - j)).sum = ((rangeI 0 N).map f).sum
  | 0, _ => rfl
  | N + 1, f => by
    have e : rangeI 0 (N + 1) = 0 :: (rangeI 0 N).map (· + 1) := by
      rw [Nat.add_comm N 1, rangeI_append, Int.zero_add, ← rangeI_shift]
      rfl
    conv => lhs; rw [e]
    rw [rangeI_succ, List.map_append, List.sum_append, List.map_cons, List.sum_cons, List.map_map]
    have e2 : ((rangeI 0 N).map ((fun j => f (((N + 1 : Nat) : Int) - 1 - j)) ∘ (· + 1))).sum = ((rangeI 0 N).map f).sum := by
      rw [← sum_rev N f]
      congr 1
      apply List.map_congr_left
      intro j _
      simp only [Function.comp]
      congr 1
      omega
    rw [e2]
    simp only [List.map_cons, List.map_nil, List.sum_cons, List.sum_nil, Int.zero_add, Int.add_zero]
    rw [show ((N + 1 : Nat) : Int) - 1 - 0 = (N : Int) by omega]
    omega
theorem odd_sym (n a m e j : Int) : oddB n (n - a) m e j = oddB n a m e (m - j) := by
  unfold oddB
  have h1 : n * (m - j) - a * m = -(n * j - (n - a) * m) := by
    rw [Int.mul_sub, Int.sub_mul]
    omega
  rw [h1]
  generalize n * j - (n - a) * m = x
  congr 1
  apply propext
  constructor <;> intro h <;> split at h <;> split <;> omega
theorem mis_sym {n a m e : Int} (h : 0 ≤ m) : misBy n (n - a) m e = misBy n a m e := by
  rw [misBy_sum, misBy_sum, ← sum_rev _ (term n a m e)]
  congr 1
  apply List.map_congr_left
  intro j hj
  have hj := mem_rangeI.mp hj
  have e1 : (((m + 1).toNat : Int) - 1 - j) = m - j := by omega
  rw [e1]
  unfold term
  rw [odd_sym, show n - (n - a) = a by omega, show m - (m - j) = j by omega, Int.mul_comm (chooseBy (n - a) j)]
theorem mis_all {n a : Int} (h0 : 0 ≤ a) (h1 : a ≤ n) : misBy n a n 0 = 0 := by
  rw [misBy_sum]
  apply sum_zero
  intro j _
  by_cases h : j = a
  · subst h
    unfold term
    have : oddB n j n 0 j = false := by
      unfold oddB
      rw [Int.mul_comm j n, Int.sub_self, Int.zero_mul]
      rfl
    rw [this]
    rfl
  · exact term_out (by omega)
theorem sum_mono {f g : Int → Int} : ∀ {L : List Int}, (∀ j ∈ L, f j ≤ g j) → (L.map f).sum ≤ (L.map g).sum
  | [], _ => Int.le_refl _
  | x :: L, h => by
    simp only [List.map_cons, List.sum_cons]
    have h1 := h x (by simp)
    have h2 := sum_mono (f := f) (g := g) (L := L) fun j hj => h j (by simp [hj])
    omega
theorem mis_mono {n a m e e' : Int} (h : 0 ≤ a ∧ a ≤ n ∧ n ≤ 60 ∧ 0 ≤ m ∧ m ≤ n) (he : e ≤ e') : misBy n a m e' ≤ misBy n a m e := by
  rw [misBy_sum, misBy_sum]
  apply sum_mono
  intro j hj
  have hj := mem_rangeI.mp hj
  have c1 := choose_b (n := a) (m := j) (by omega) (by omega) (by omega)
  have c2 := choose_b (n := n - a) (m := m - j) (by omega) (by omega) (by omega)
  have hp : 0 ≤ chooseBy a j * chooseBy (n - a) (m - j) := Int.mul_nonneg c1.1 c2.1
  unfold term
  by_cases h1 : oddB n a m e' j = true
  · have h2 : oddB n a m e j = true := by
      have h1 := of_decide_eq_true h1
      refine decide_eq_true ?_
      have : e * m ≤ e' * m := Int.mul_le_mul_of_nonneg_right he (by omega)
      omega
    rw [if_pos h1, if_pos h2]
    exact Int.le_refl _
  · rw [if_neg h1]
    split
    · exact hp
    · exact Int.le_refl _
end K33

set_option maxRecDepth 100000
set_option maxHeartbeats 4000000
namespace K33
open PySem PySem.Spec PyProof.Rows L2 TR
def muF (n a m : Int) : D → D | .int e => .int (misBy n a m e) | _ => .none
section
variable {P : Program} {w : World} {K : PySem.W.Frag} {mg : Str → Option Value} {base : Heap} {rs : Rs} {cM cR cT fI : Addr} (M : Ms K mg cM cR cT fI) (HD : Hd K mg cM cR)
include M HD
abbrev s_law_are_misled_right : Stmt := topS 29
omit M HD in
theorem sc_law_are_misled_right : FnScope ["deck", "rows", "n", "due", "told", "heard", "a", "m", "e", "bad", "odd", "none", "far", "it"] ["deck", "rows"] (defScope s_law_are_misled_right) := ⟨rfl, rfl, rfl, by decide +kernel, rfl, by decide +kernel, by decide +kernel⟩
theorem ok_law_are_misled_right {f : Addr} {fd : FuncData} (hm : mg "_law_are_misled_right" = some (.ref f))
    {ad al : Addr} (hd : rs.deck = some (ad, al)) {c T : Addr} (F : FunL K "_law_are_misled_right" s_law_are_misled_right f fd c) (L0 : Lm mg base rs "_law_are_misled_right" c T)
    (h__law_draw : Fd P w K mg base rs 2 "_law_draw" s_law_draw ["deck", "many"] (P_law_draw ad))
    (h__law_pick : Fd P w K mg base rs 3 "_law_pick" s_law_pick ["deck", "some"] (P_law_pick ad))
    (h__law_same : ∀ k, Fd P w K mg base rs (k + 1) "_law_same" s_law_same ["given", "due"] (P_law_same k))
    (h_misled : Fd P w K mg base rs 4 "misled" smisled ["n", "a", "m", "e"] (Pmisled cM))
    (h__law_misled : Fd P w K mg base rs 1 "_law_misled" s_law_misled ["rows", "n", "a", "m", "e"] P_law_misled)
    (h__law_listed : Fd P w K mg base rs 1 "_law_listed" s_law_listed ["n", "a", "m", "e"] P_law_listed) :
    Fd P w K mg base rs 13 "_law_are_misled_right" s_law_are_misled_right ["deck", "rows"] (P_right ad) := by
  refine fd_mkL F hm sc_law_are_misled_right (fun _ _ _ _ _ _ us hl => match us, hl with | [_, _], _ => rfl) (fun ens Φ ⟨e, _⟩ => by rw [e]; rfl) fun A outer s H F0 E ens Φ hr hp tk => ?_
  obtain ⟨rfl, hp⟩ := hp
  have hu : A.units + 3 + 64 < cLine := by have h1 : A.units + 3 + 16 * 12 + 200 < cLine := hr.un; omega
  refine TR.psd_cons ?_
  -- n = _law_pick(deck, [1, 2, 7, 12, 40, 60, 1 + _law_draw(deck, 60)])
  refine TR.psd_asg 2 sc_law_are_misled_right.nd rfl ?_
  refine TR.pd_call h__law_pick rfl (hr.mono (by decide)) rfl tk ?_
  refine TR.pa_raw 0 rfl rfl ?_
  refine TR.pa_cons ?_
  refine TR.pd_ofN ?_
  refine TR.pn_list ?_
  refine TR.pa_cons ?_
  refine TR.pd_int ?_
  refine TR.pa_cons ?_
  refine TR.pd_int ?_
  refine TR.pa_cons ?_
  refine TR.pd_int ?_
  refine TR.pa_cons ?_
  refine TR.pd_int ?_
  refine TR.pa_cons ?_
  refine TR.pd_int ?_
  refine TR.pa_cons ?_
  refine TR.pd_int ?_
  refine TR.pa_cons ?_
  refine TR.pd_add ?_
  refine TR.pd_int ?_
  refine TR.pd_call h__law_draw rfl (hr.mono (by decide)) rfl tk ?_
  refine TR.pa_raw 0 rfl rfl ?_
  refine TR.pa_cons ?_
  refine TR.pd_int ?_
  refine TR.pa_nil ?_
  refine ⟨60, rfl, by decide, fun r r0 r1 => ?_⟩
  refine TR.pa_nil ?_
  refine ⟨by simp, ?_⟩
  refine TR.pa_nil ?_
  refine ⟨_, rfl, by simp, fun dn hdn => ?_⟩
  obtain ⟨n, rfl, n0, n1⟩ : ∃ n : Int, dn = .int n ∧ 1 ≤ n ∧ n ≤ 60 := by
    simp only [List.mem_cons, List.not_mem_nil, or_false] at hdn
    rcases hdn with rfl | rfl | rfl | rfl | rfl | rfl | rfl <;> exact ⟨_, rfl, by omega, by omega⟩
  clear hdn
  refine TR.psd_eq (ρ' := [_, _, _, _, _, _, _, _, _, _, _, _, _, _]) rfl ?_
  refine TR.psd_cons ?_
  -- a, m, e = (_law_pick(deck, [0, n, _law_draw(deck, n + 1), n // 2]), _law_pick(deck, [1, n, 1 + _law_draw(deck, n)]), _law_pick(deck, [0, 1, 2, n // 3, 60]))
  refine TR.psd_asgT (.tp [(.nm 6), (.nm 7), (.nm 8)]) rfl (pg_tup rfl (pgs_cons (pg_name (i := 6) sc_law_are_misled_right.nd rfl (by first | exact .inl rfl | exact .inr rfl)) (pgs_cons (pg_name (i := 7) sc_law_are_misled_right.nd rfl (by first | exact .inl rfl | exact .inr rfl)) (pgs_cons (pg_name (i := 8) sc_law_are_misled_right.nd rfl (by first | exact .inl rfl | exact .inr rfl)) pgs_nil)))) ?_
  refine TR.pd_tuple ?_
  refine TR.pa_cons ?_
  refine TR.pd_call h__law_pick rfl (hr.mono (by decide)) rfl tk ?_
  refine TR.pa_raw 0 rfl rfl ?_
  refine TR.pa_cons ?_
  refine TR.pd_ofN ?_
  refine TR.pn_list ?_
  refine TR.pa_cons ?_
  refine TR.pd_int ?_
  refine TR.pa_cons ?_
  refine TR.pd_name 2 rfl rfl ?_
  refine TR.pa_cons ?_
  refine TR.pd_call h__law_draw rfl (hr.mono (by decide)) rfl tk ?_
  refine TR.pa_raw 0 rfl rfl ?_
  refine TR.pa_cons ?_
  refine TR.pd_add ?_
  refine TR.pd_name 2 rfl rfl ?_
  refine TR.pd_int ?_
  refine TR.pa_nil ?_
  refine ⟨n + 1, rfl, by omega, fun r r0 r1 => ?_⟩
  refine TR.pa_cons ?_
  refine TR.pd_div ?_
  refine TR.pd_name 2 rfl rfl ?_
  refine TR.pd_int ?_
  refine ⟨wide_div (b := 62) (by decide) (by decide) (by decide) (by decide), ?_⟩
  refine TR.pa_nil ?_
  refine ⟨by simp, ?_⟩
  refine TR.pa_nil ?_
  refine ⟨_, rfl, by simp, fun da hda => ?_⟩
  obtain ⟨a, rfl, a0, a1⟩ : ∃ a : Int, da = .int a ∧ 0 ≤ a ∧ a ≤ n := by
    simp only [List.mem_cons, List.not_mem_nil, or_false] at hda
    rcases hda with rfl | rfl | rfl | rfl <;> exact ⟨_, rfl, by omega, by omega⟩
  clear hda
  refine TR.pa_cons ?_
  refine TR.pd_call h__law_pick rfl (hr.mono (by decide)) rfl tk ?_
  refine TR.pa_raw 0 rfl rfl ?_
  refine TR.pa_cons ?_
  refine TR.pd_ofN ?_
  refine TR.pn_list ?_
  refine TR.pa_cons ?_
  refine TR.pd_int ?_
  refine TR.pa_cons ?_
  refine TR.pd_name 2 rfl rfl ?_
  refine TR.pa_cons ?_
  refine TR.pd_add ?_
  refine TR.pd_int ?_
  refine TR.pd_call h__law_draw rfl (hr.mono (by decide)) rfl tk ?_
  refine TR.pa_raw 0 rfl rfl ?_
  refine TR.pa_cons ?_
  refine TR.pd_name 2 rfl rfl ?_
  refine TR.pa_nil ?_
  refine ⟨n, rfl, by omega, fun r r0 r1 => ?_⟩
  refine TR.pa_nil ?_
  refine ⟨by simp, ?_⟩
  refine TR.pa_nil ?_
  refine ⟨_, rfl, by simp, fun dm hdm => ?_⟩
  obtain ⟨m, rfl, m0, m1⟩ : ∃ m : Int, dm = .int m ∧ 1 ≤ m ∧ m ≤ n := by
    simp only [List.mem_cons, List.not_mem_nil, or_false] at hdm
    rcases hdm with rfl | rfl | rfl <;> exact ⟨_, rfl, by omega, by omega⟩
  clear hdm
  refine TR.pa_cons ?_
  refine TR.pd_call h__law_pick rfl (hr.mono (by decide)) rfl tk ?_
  refine TR.pa_raw 0 rfl rfl ?_
  refine TR.pa_cons ?_
  refine TR.pd_ofN ?_
  refine TR.pn_list ?_
  refine TR.pa_cons ?_
  refine TR.pd_int ?_
  refine TR.pa_cons ?_
  refine TR.pd_int ?_
  refine TR.pa_cons ?_
  refine TR.pd_int ?_
  refine TR.pa_cons ?_
  refine TR.pd_div ?_
  refine TR.pd_name 2 rfl rfl ?_
  refine TR.pd_int ?_
  refine ⟨wide_div (b := 62) (by decide) (by decide) (by decide) (by decide), ?_⟩
  refine TR.pa_cons ?_
  refine TR.pd_int ?_
  refine TR.pa_nil ?_
  refine ⟨by simp, ?_⟩
  refine TR.pa_nil ?_
  refine ⟨_, rfl, by simp, fun de hde => ?_⟩
  obtain ⟨e, rfl, e0, e1⟩ : ∃ e : Int, de = .int e ∧ 0 ≤ e ∧ e ≤ 60 := by
    simp only [List.mem_cons, List.not_mem_nil, or_false] at hde
    rcases hde with rfl | rfl | rfl | rfl | rfl <;> exact ⟨_, rfl, by omega, by omega⟩
  clear hde
  refine TR.pa_nil ?_
  refine ⟨by simp, ?_⟩
  refine ⟨_, rfl, ?_⟩
  refine TR.psd_eq (ρ' := [_, _, _, _, _, _, _, _, _, _, _, _, _, _]) rfl ?_
  refine TR.psd_cons ?_
  -- due = [_law_misled(rows, n, a, m, it) for it in (e, min(60, e + 1))]
  refine TR.psd_lcN 3 (.nm 13) (own := [("it", 13)]) rfl sc_law_are_misled_right.nd rfl rfl (sw_true rfl rfl rfl (by decide +kernel)) (blkOk_by rfl) (fun _ _ _ _ _ => (pg_name (i := 13) sc_law_are_misled_right.nd rfl (.inl rfl) (.inr rfl))) (by decide) ?_
  refine TR.pid_tup rfl ?_
  refine TR.pd_tuple ?_
  refine TR.pa_cons ?_
  refine TR.pd_name 8 rfl rfl ?_
  refine TR.pa_cons ?_
  refine TR.pd_min2 rfl M.z_min ?_
  refine TR.pa_cons ?_
  refine TR.pd_int ?_
  refine TR.pa_cons ?_
  refine TR.pd_add ?_
  refine TR.pd_name 8 rfl rfl ?_
  refine TR.pd_int ?_
  refine TR.pa_nil ?_
  refine TR.pa_nil ?_
  refine ⟨by simp, ?_⟩
  have hmin : ∀ q : Int, q = (if e + 1 < 60 then e + 1 else 60) → e ≤ q ∧ 0 ≤ q ∧ q ≤ 60 := by intro q h; subst h; split <;> omega
  generalize hq : (if e + 1 < 60 then e + 1 else 60) = q at *
  have hmin := hmin q rfl
  refine lcw_map (muF n a m) (by simp) (fun i d hd => ?_) ?_
  · have hd2 : d = .int e ∨ d = .int q := by
      have := List.mem_of_getElem? hd
      simpa using this
    obtain ⟨it, rfl, i0, i1⟩ : ∃ it : Int, d = .int it ∧ 0 ≤ it ∧ it ≤ 60 := by
      rcases hd2 with rfl | rfl <;> exact ⟨_, rfl, by omega, by omega⟩
    refine ⟨_, rfl, fun s H C cl fp => ?_⟩
    refine TR.pd_call h__law_misled rfl (hr.mono (by decide)) rfl tkNo ?_
    refine TR.pa_cons ?_
    refine TR.pd_name 1 rfl rfl ?_
    refine TR.pa_cons ?_
    refine TR.pd_name 2 rfl rfl ?_
    refine TR.pa_cons ?_
    refine TR.pd_name 6 rfl rfl ?_
    refine TR.pa_cons ?_
    refine TR.pd_name 7 rfl rfl ?_
    refine TR.pa_cons ?_
    refine TR.pd_name 13 rfl rfl ?_
    refine TR.pa_nil ?_
    refine ⟨_, _, _, _, rfl, by omega, ?_⟩
    rfl
  · have hmul := mis_mono (n := n) (a := a) (m := m) (e := e) (e' := q) (by omega) hmin.1
    refine TR.psd_eq (ρ' := [_, _, _, _, _, _, _, _, _, _, _, _, _, _]) rfl ?_
    refine TR.psd_cons ?_
    -- told = [misled(n, a, m, e), misled(e=e, m=m, a=a, n=n), misled(n, n - a, m, e), misled(n, a, m, min(60, e + 1)), misled(n, a, n, 0)]
    refine TR.psd_asgN 4 sc_law_are_misled_right.nd rfl ?_
    refine TR.pn_list ?_
    refine TR.pa_cons ?_
    refine TR.pd_call h_misled rfl (hr.mono (by decide)) rfl tk ?_
    refine TR.pa_cons ?_
    refine TR.pd_name 2 rfl rfl ?_
    refine TR.pa_cons ?_
    refine TR.pd_name 6 rfl rfl ?_
    refine TR.pa_cons ?_
    refine TR.pd_name 7 rfl rfl ?_
    refine TR.pa_cons ?_
    refine TR.pd_name 8 rfl rfl ?_
    refine TR.pa_nil ?_
    refine ⟨_, _, _, _, rfl, need_pos (by omega) (by omega) (need_pos (by omega) (by omega) (need_pos (by omega) (by omega) (need_pos (by omega) (by omega) ?_)))⟩
    refine TR.pa_cons ?_
    refine TR.pd_callK [3, 2, 1, 0] ["e", "m", "a", "n"] h_misled rfl (hr.mono (by decide)) rfl tk (fun _ _ _ _ _ _ ws hl => match ws, hl with | [_, _, _, _], _ => rfl) ?_
    refine TR.pk_consD ?_
    refine TR.pd_name 8 rfl rfl ?_
    refine TR.pk_consD ?_
    refine TR.pd_name 7 rfl rfl ?_
    refine TR.pk_consD ?_
    refine TR.pd_name 6 rfl rfl ?_
    refine TR.pk_consD ?_
    refine TR.pd_name 2 rfl rfl ?_
    refine TR.pk_nilD ?_
    refine ⟨rfl, ?_⟩
    refine ⟨_, _, _, _, rfl, need_pos (by omega) (by omega) (need_pos (by omega) (by omega) (need_pos (by omega) (by omega) (need_pos (by omega) (by omega) ?_)))⟩
    refine TR.pa_cons ?_
    refine TR.pd_call h_misled rfl (hr.mono (by decide)) rfl tk ?_
    refine TR.pa_cons ?_
    refine TR.pd_name 2 rfl rfl ?_
    refine TR.pa_cons ?_
    refine TR.pd_sub ?_
    refine TR.pd_name 2 rfl rfl ?_
    refine TR.pd_name 6 rfl rfl ?_
    refine TR.pa_cons ?_
    refine TR.pd_name 7 rfl rfl ?_
    refine TR.pa_cons ?_
    refine TR.pd_name 8 rfl rfl ?_
    refine TR.pa_nil ?_
    refine ⟨_, _, _, _, rfl, need_pos (by omega) (by omega) (need_pos (by omega) (by omega) (need_pos (by omega) (by omega) (need_pos (by omega) (by omega) ?_)))⟩
    rw [mis_sym (by omega)]
    refine TR.pa_cons ?_
    refine TR.pd_call h_misled rfl (hr.mono (by decide)) rfl tk ?_
    refine TR.pa_cons ?_
    refine TR.pd_name 2 rfl rfl ?_
    refine TR.pa_cons ?_
    refine TR.pd_name 6 rfl rfl ?_
    refine TR.pa_cons ?_
    refine TR.pd_name 7 rfl rfl ?_
    refine TR.pa_cons ?_
    refine TR.pd_min2 rfl M.z_min ?_
    refine TR.pa_cons ?_
    refine TR.pd_int ?_
    refine TR.pa_cons ?_
    refine TR.pd_add ?_
    refine TR.pd_name 8 rfl rfl ?_
    refine TR.pd_int ?_
    refine TR.pa_nil ?_
    refine TR.pa_nil ?_
    refine ⟨_, _, _, _, rfl, need_pos (by omega) (by omega) (need_pos (by omega) (by omega) (need_pos (by omega) (by omega) (need_pos (by omega) (by omega) ?_)))⟩
    rw [hq]
    refine TR.pa_cons ?_
    refine TR.pd_call h_misled rfl (hr.mono (by decide)) rfl tk ?_
    refine TR.pa_cons ?_
    refine TR.pd_name 2 rfl rfl ?_
    refine TR.pa_cons ?_
    refine TR.pd_name 6 rfl rfl ?_
    refine TR.pa_cons ?_
    refine TR.pd_name 2 rfl rfl ?_
    refine TR.pa_cons ?_
    refine TR.pd_int ?_
    refine TR.pa_nil ?_
    refine ⟨_, _, _, _, rfl, need_pos (by omega) (by omega) (need_pos (by omega) (by omega) (need_pos (by omega) (by omega) (need_pos (by omega) (by omega) ?_)))⟩
    refine TR.pa_nil ?_
    refine ⟨by simp, ?_⟩
    refine TR.psd_eq (ρ' := [_, _, _, _, _, _, _, _, _, _, _, _, _, _]) rfl ?_
    refine TR.psd_freeze 4 rfl ?_
    refine TR.psd_freeze 3 rfl ?_
    refine TR.psd_cons ?_
    -- if not _law_same(told, [due[0], due[0], due[0], due[1], 0]) or due[1] > due[0]:
    refine TR.psd_if ?_
    refine TR.PTd.mono (Φ := fun k => k = false) ?_ ?_
    · refine TR.pt_pw ?_
      refine TR.pw_or ?_
      refine TR.pt_not ?_
      refine TR.pt_val ?_
      refine TR.pd_call (h__law_same 4) rfl (hr.mono (by decide)) rfl tk ?_
      refine TR.pa_cons ?_
      refine TR.pd_name 4 rfl rfl ?_
      refine TR.pa_cons ?_
      refine TR.pd_ofN ?_
      refine TR.pn_list ?_
      refine TR.pa_cons ?_
      refine TR.pd_ix rfl ?_
      refine TR.pd_name 3 rfl rfl ?_
      refine TR.pd_int ?_
      refine ⟨_, rfl, ?_⟩
      refine TR.pa_cons ?_
      refine TR.pd_ix rfl ?_
      refine TR.pd_name 3 rfl rfl ?_
      refine TR.pd_int ?_
      refine ⟨_, rfl, ?_⟩
      refine TR.pa_cons ?_
      refine TR.pd_ix rfl ?_
      refine TR.pd_name 3 rfl rfl ?_
      refine TR.pd_int ?_
      refine ⟨_, rfl, ?_⟩
      refine TR.pa_cons ?_
      refine TR.pd_ix rfl ?_
      refine TR.pd_name 3 rfl rfl ?_
      refine TR.pd_int ?_
      refine ⟨_, rfl, ?_⟩
      refine TR.pa_cons ?_
      refine TR.pd_int ?_
      refine TR.pa_nil ?_
      refine ⟨by simp, ?_⟩
      refine TR.pa_nil ?_
      refine ⟨_, by rw [mis_all a0 a1]; rfl, ⟨?_, ?_, ?_⟩, ?_⟩
      · simp only [lay_list, lay_cons, lay_nil, lay_int, Bool.and_true]
      · simp only [dep_list, dep_cons, dep_nil, dep_int]; decide
      · simp only [nd_list, nds_cons, nds_nil, nd_int]; decide
      refine ⟨fun h => ?_, fun h => ?_⟩
      · exact Bool.noConfusion h
      · skip
        refine TR.pw_or1 ?_
        refine TR.pt_gt ?_
        refine TR.pd_ix rfl ?_
        refine TR.pd_name 3 rfl rfl ?_
        refine TR.pd_int ?_
        refine ⟨_, rfl, ?_⟩
        refine TR.pd_ix rfl ?_
        refine TR.pd_name 3 rfl rfl ?_
        refine TR.pd_int ?_
        refine ⟨_, rfl, ?_⟩
        exact decide_eq_false (by omega)
    · intro k hk
      subst hk
      refine ⟨fun h => Bool.noConfusion h, fun h => ?_⟩
      · skip
        refine TR.psd_nil ?_
        refine TR.psd_cons ?_
        -- if n < 11 and (not _law_same(due[0], _law_listed(n, a, m, e))):
        refine TR.psd_if ?_
        refine TR.PTd.mono (Φ := fun k => k = false) ?_ ?_
        · refine TR.pt_pw ?_
          refine TR.pw_and ?_
          refine TR.pt_lt ?_
          refine TR.pd_name 2 rfl rfl ?_
          refine TR.pd_int ?_
          refine ⟨fun h => ?_, fun h => ?_⟩
          · skip
            refine TR.pw_and1 ?_
            refine TR.pt_not ?_
            refine TR.pt_val ?_
            refine TR.pd_call (h__law_same 4) rfl (hr.mono (by decide)) rfl tk ?_
            refine TR.pa_cons ?_
            refine TR.pd_ix rfl ?_
            refine TR.pd_name 3 rfl rfl ?_
            refine TR.pd_int ?_
            refine ⟨_, rfl, ?_⟩
            refine TR.pa_cons ?_
            refine TR.pd_call h__law_listed rfl (hr.mono (by decide)) rfl tk ?_
            refine TR.pa_cons ?_
            refine TR.pd_name 2 rfl rfl ?_
            refine TR.pa_cons ?_
            refine TR.pd_name 6 rfl rfl ?_
            refine TR.pa_cons ?_
            refine TR.pd_name 7 rfl rfl ?_
            refine TR.pa_cons ?_
            refine TR.pd_name 8 rfl rfl ?_
            refine TR.pa_nil ?_
            have hn := of_decide_eq_true h
            refine ⟨_, _, _, _, rfl, by omega, ?_⟩
            refine TR.pa_nil ?_
            refine ⟨_, rfl, ⟨?_, ?_, ?_⟩, ?_⟩
            · exact lay_int _
            · show (PyData.int (misBy n a m e)).depth ≤ 4
              rw [dep_int]; decide
            · show nd (.int (misBy n a m e)) ≤ 100000
              rw [nd_int]; decide
            rfl
          · rfl
        · intro k hk
          subst hk
          refine ⟨fun h => Bool.noConfusion h, fun h => ?_⟩
          · skip
            refine TR.psd_nil ?_
            refine TR.psd_cons ?_
            -- bad, odd, none, far = (_law_pick(deck, [0, 61, True, None]), _law_pick(deck, [-1, n + 1, True, None]), _law_pick(deck, [0, n + 1, True, None]), _law_pick(deck, [-1, 61, True, None]))
            refine TR.psd_asgT (.tp [(.nm 9), (.nm 10), (.nm 11), (.nm 12)]) rfl (pg_tup rfl (pgs_cons (pg_name (i := 9) sc_law_are_misled_right.nd rfl (by first | exact .inl rfl | exact .inr rfl)) (pgs_cons (pg_name (i := 10) sc_law_are_misled_right.nd rfl (by first | exact .inl rfl | exact .inr rfl)) (pgs_cons (pg_name (i := 11) sc_law_are_misled_right.nd rfl (by first | exact .inl rfl | exact .inr rfl)) (pgs_cons (pg_name (i := 12) sc_law_are_misled_right.nd rfl (by first | exact .inl rfl | exact .inr rfl)) pgs_nil))))) ?_
            refine TR.pd_tuple ?_
            refine TR.pa_cons ?_
            refine TR.pd_call h__law_pick rfl (hr.mono (by decide)) rfl tk ?_
            refine TR.pa_raw 0 rfl rfl ?_
            refine TR.pa_cons ?_
            refine TR.pd_ofN ?_
            refine TR.pn_list ?_
            refine TR.pa_cons ?_
            refine TR.pd_int ?_
            refine TR.pa_cons ?_
            refine TR.pd_int ?_
            refine TR.pa_cons ?_
            refine TR.pd_bool ?_
            refine TR.pa_cons ?_
            refine TR.pd_none ?_
            refine TR.pa_nil ?_
            refine ⟨by simp, ?_⟩
            refine TR.pa_nil ?_
            refine ⟨_, rfl, by simp, fun bad hbad => ?_⟩
            replace hbad : Bd bad 1 60 := by
              simp only [List.mem_cons, List.not_mem_nil, or_false] at hbad
              rcases hbad with rfl | rfl | rfl | rfl
              · exact .int (by omega)
              · exact .int (by omega)
              · exact .tru
              · exact .non
            refine TR.pa_cons ?_
            refine TR.pd_call h__law_pick rfl (hr.mono (by decide)) rfl tk ?_
            refine TR.pa_raw 0 rfl rfl ?_
            refine TR.pa_cons ?_
            refine TR.pd_ofN ?_
            refine TR.pn_list ?_
            refine TR.pa_cons ?_
            refine TR.pd_neg ?_
            refine TR.pd_int ?_
            refine TR.pa_cons ?_
            refine TR.pd_add ?_
            refine TR.pd_name 2 rfl rfl ?_
            refine TR.pd_int ?_
            refine TR.pa_cons ?_
            refine TR.pd_bool ?_
            refine TR.pa_cons ?_
            refine TR.pd_none ?_
            refine TR.pa_nil ?_
            refine ⟨by simp, ?_⟩
            refine TR.pa_nil ?_
            refine ⟨_, rfl, by simp, fun odd hodd => ?_⟩
            replace hodd : Bd odd 0 n := by
              simp only [List.mem_cons, List.not_mem_nil, or_false] at hodd
              rcases hodd with rfl | rfl | rfl | rfl
              · exact .int (by omega)
              · exact .int (by omega)
              · exact .tru
              · exact .non
            refine TR.pa_cons ?_
            refine TR.pd_call h__law_pick rfl (hr.mono (by decide)) rfl tk ?_
            refine TR.pa_raw 0 rfl rfl ?_
            refine TR.pa_cons ?_
            refine TR.pd_ofN ?_
            refine TR.pn_list ?_
            refine TR.pa_cons ?_
            refine TR.pd_int ?_
            refine TR.pa_cons ?_
            refine TR.pd_add ?_
            refine TR.pd_name 2 rfl rfl ?_
            refine TR.pd_int ?_
            refine TR.pa_cons ?_
            refine TR.pd_bool ?_
            refine TR.pa_cons ?_
            refine TR.pd_none ?_
            refine TR.pa_nil ?_
            refine ⟨by simp, ?_⟩
            refine TR.pa_nil ?_
            refine ⟨_, rfl, by simp, fun none hnone => ?_⟩
            replace hnone : Bd none 1 n := by
              simp only [List.mem_cons, List.not_mem_nil, or_false] at hnone
              rcases hnone with rfl | rfl | rfl | rfl
              · exact .int (by omega)
              · exact .int (by omega)
              · exact .tru
              · exact .non
            refine TR.pa_cons ?_
            refine TR.pd_call h__law_pick rfl (hr.mono (by decide)) rfl tk ?_
            refine TR.pa_raw 0 rfl rfl ?_
            refine TR.pa_cons ?_
            refine TR.pd_ofN ?_
            refine TR.pn_list ?_
            refine TR.pa_cons ?_
            refine TR.pd_neg ?_
            refine TR.pd_int ?_
            refine TR.pa_cons ?_
            refine TR.pd_int ?_
            refine TR.pa_cons ?_
            refine TR.pd_bool ?_
            refine TR.pa_cons ?_
            refine TR.pd_none ?_
            refine TR.pa_nil ?_
            refine ⟨by simp, ?_⟩
            refine TR.pa_nil ?_
            refine ⟨_, rfl, by simp, fun far hfar => ?_⟩
            replace hfar : Bd far 0 60 := by
              simp only [List.mem_cons, List.not_mem_nil, or_false] at hfar
              rcases hfar with rfl | rfl | rfl | rfl
              · exact .int (by omega)
              · exact .int (by omega)
              · exact .tru
              · exact .non
            refine TR.pa_nil ?_
            refine ⟨by simp, ?_⟩
            refine ⟨_, rfl, ?_⟩
            refine TR.psd_eq (ρ' := [_, _, _, _, _, _, _, _, _, _, _, _, _, _]) rfl ?_
            refine TR.psd_cons ?_
            -- heard = [_law_heard(lambda: misled(bad, odd, none, far))]
            refine TR.psd_asgN 5 sc_law_are_misled_right.nd rfl ?_
            refine TR.pn_list ?_
            refine TR.pa_cons ?_
            refine hd33 M HD (k := 8) L0 rfl (hr.mono (by decide)) (LamX.lamS_by (by decide +kernel)) rfl (fun _ _ _ _ _ => rfl) (fun A2 outer2 s2 H2 F2 H02 E2 f2 c2 hrL tkL => ?_)
            refine TR.pd_call h_misled rfl (hrL.mono (by decide)) rfl tkL ?_
            refine TR.pa_cons ?_
            refine TR.pd_name 9 rfl rfl ?_
            refine TR.pa_cons ?_
            refine TR.pd_name 10 rfl rfl ?_
            refine TR.pa_cons ?_
            refine TR.pd_name 11 rfl rfl ?_
            refine TR.pa_cons ?_
            refine TR.pd_name 12 rfl rfl ?_
            refine TR.pa_nil ?_
            refine ⟨_, _, _, _, rfl, (need_neg hbad.no ⟨"many", if_pos rfl, ?_⟩)⟩
            refine TR.pa_nil ?_
            refine ⟨by simp, ?_⟩
            refine TR.psd_eq (ρ' := [_, _, _, _, _, _, _, _, _, _, _, _, _, _]) rfl ?_
            refine TR.psd_cons ?_
            -- heard.append(_law_heard(lambda: misled(n, odd, none, far)))
            refine TR.psd_append 5 rfl rfl rfl ?_
            refine hd33 M HD (k := 8) L0 rfl (hr.mono (by decide)) (LamX.lamS_by (by decide +kernel)) rfl (fun _ _ _ _ _ => rfl) (fun A2 outer2 s2 H2 F2 H02 E2 f2 c2 hrL tkL => ?_)
            refine TR.pd_call h_misled rfl (hrL.mono (by decide)) rfl tkL ?_
            refine TR.pa_cons ?_
            refine TR.pd_name 2 rfl rfl ?_
            refine TR.pa_cons ?_
            refine TR.pd_name 10 rfl rfl ?_
            refine TR.pa_cons ?_
            refine TR.pd_name 11 rfl rfl ?_
            refine TR.pa_cons ?_
            refine TR.pd_name 12 rfl rfl ?_
            refine TR.pa_nil ?_
            refine ⟨_, _, _, _, rfl, (need_pos (by omega) (by omega) (need_neg hodd.no ⟨"many", if_pos rfl, ?_⟩))⟩
            refine ⟨by simp, ?_⟩
            refine TR.psd_cons ?_
            -- heard.append(_law_heard(lambda: misled(e=far, m=none, a=a, n=n)))
            refine TR.psd_append 5 rfl rfl rfl ?_
            refine hd33 M HD (k := 8) L0 rfl (hr.mono (by decide)) (LamX.lamS_by (by decide +kernel)) rfl (fun _ _ _ _ _ => rfl) (fun A2 outer2 s2 H2 F2 H02 E2 f2 c2 hrL tkL => ?_)
            refine TR.pd_callK [3, 2, 1, 0] ["e", "m", "a", "n"] h_misled rfl (hrL.mono (by decide)) rfl tkL (fun _ _ _ _ _ _ ws hl => match ws, hl with | [_, _, _, _], _ => rfl) ?_
            refine TR.pk_consD ?_
            refine TR.pd_name 12 rfl rfl ?_
            refine TR.pk_consD ?_
            refine TR.pd_name 11 rfl rfl ?_
            refine TR.pk_consD ?_
            refine TR.pd_name 6 rfl rfl ?_
            refine TR.pk_consD ?_
            refine TR.pd_name 2 rfl rfl ?_
            refine TR.pk_nilD ?_
            refine ⟨rfl, ?_⟩
            refine ⟨_, _, _, _, rfl, (need_pos (by omega) (by omega) (need_pos (by omega) (by omega) (need_neg hnone.no ⟨"many", if_pos rfl, ?_⟩)))⟩
            refine ⟨by simp, ?_⟩
            refine TR.psd_cons ?_
            -- heard.append(_law_heard(lambda: misled(n, a, m, far)))
            refine TR.psd_append 5 rfl rfl rfl ?_
            refine hd33 M HD (k := 8) L0 rfl (hr.mono (by decide)) (LamX.lamS_by (by decide +kernel)) rfl (fun _ _ _ _ _ => rfl) (fun A2 outer2 s2 H2 F2 H02 E2 f2 c2 hrL tkL => ?_)
            refine TR.pd_call h_misled rfl (hrL.mono (by decide)) rfl tkL ?_
            refine TR.pa_cons ?_
            refine TR.pd_name 2 rfl rfl ?_
            refine TR.pa_cons ?_
            refine TR.pd_name 6 rfl rfl ?_
            refine TR.pa_cons ?_
            refine TR.pd_name 7 rfl rfl ?_
            refine TR.pa_cons ?_
            refine TR.pd_name 12 rfl rfl ?_
            refine TR.pa_nil ?_
            refine ⟨_, _, _, _, rfl, (need_pos (by omega) (by omega) (need_pos (by omega) (by omega) (need_pos (by omega) (by omega) (need_neg hfar.no ⟨"many", if_pos rfl, ?_⟩))))⟩
            refine ⟨by simp, ?_⟩
            refine TR.psd_freeze 5 rfl ?_
            refine TR.psd_cons ?_
            -- return _law_same(heard, [('many', bad), ('many', odd), ('many', none), ('many', far)])
            refine TR.psd_ret ?_
            refine TR.pd_call (h__law_same 4) rfl (hr.mono (by decide)) rfl tk ?_
            refine TR.pa_cons ?_
            refine TR.pd_name 5 rfl rfl ?_
            refine TR.pa_cons ?_
            refine TR.pd_ofN ?_
            refine TR.pn_list ?_
            refine TR.pa_cons ?_
            refine TR.pd_tuple ?_
            refine TR.pa_cons ?_
            refine TR.pd_str ?_
            refine TR.pa_cons ?_
            refine TR.pd_name 9 rfl rfl ?_
            refine TR.pa_nil ?_
            refine ⟨by simp, ?_⟩
            refine TR.pa_cons ?_
            refine TR.pd_tuple ?_
            refine TR.pa_cons ?_
            refine TR.pd_str ?_
            refine TR.pa_cons ?_
            refine TR.pd_name 10 rfl rfl ?_
            refine TR.pa_nil ?_
            refine ⟨by simp, ?_⟩
            refine TR.pa_cons ?_
            refine TR.pd_tuple ?_
            refine TR.pa_cons ?_
            refine TR.pd_str ?_
            refine TR.pa_cons ?_
            refine TR.pd_name 11 rfl rfl ?_
            refine TR.pa_nil ?_
            refine ⟨by simp, ?_⟩
            refine TR.pa_cons ?_
            refine TR.pd_tuple ?_
            refine TR.pa_cons ?_
            refine TR.pd_str ?_
            refine TR.pa_cons ?_
            refine TR.pd_name 12 rfl rfl ?_
            refine TR.pa_nil ?_
            refine ⟨by simp, ?_⟩
            refine TR.pa_nil ?_
            refine ⟨by simp, ?_⟩
            refine TR.pa_nil ?_
            have bad_1 := hbad.lay
            have bad_2 := hbad.dep
            have bad_3 := hbad.ndo
            have odd_1 := hodd.lay
            have odd_2 := hodd.dep
            have odd_3 := hodd.ndo
            have none_1 := hnone.lay
            have none_2 := hnone.dep
            have none_3 := hnone.ndo
            have far_1 := hfar.lay
            have far_2 := hfar.dep
            have far_3 := hfar.ndo
            refine ⟨_, rfl, ⟨?_, ?_, ?_⟩, hp⟩
            · simp only [List.cons_append, List.nil_append, lay_list, lay_tuple, lay_cons, lay_nil, lay_str, ok_many, bad_1, odd_1, none_1, far_1, Bool.and_true, Bool.and_self]
            · simp only [List.cons_append, List.nil_append, dep_list, dep_tuple, dep_cons, dep_nil, dep_str]; omega
            · simp only [List.cons_append, List.nil_append, nd_list, nd_tuple, nds_cons, nds_nil, nd_str]; omega


end
end K33

set_option maxRecDepth 100000
set_option maxHeartbeats 4000000
namespace K33
open PySem PySem.Spec PyProof.Rows L2 TR
theorem mis_alle {n a e : Int} (h0 : 0 ≤ a) (h1 : a ≤ n) (he : 0 ≤ e) : misBy n a n e = 0 := by
  rw [misBy_sum]
  apply sum_zero
  intro j _
  by_cases h : j = a
  · subst h
    unfold term
    have : oddB n j n e j = false := by
      unfold oddB
      rw [Int.mul_comm j n, Int.sub_self]
      have : 0 ≤ e * n := Int.mul_nonneg he (by omega)
      exact decide_eq_false (by simp; omega)
    rw [this]
    rfl
  · exact term_out (by omega)
theorem enough_n {n low high e p q : Int} (h0 : 0 ≤ low) (h1 : high ≤ n) (h2 : 1 ≤ n ∧ n ≤ 60) (he : 0 ≤ e) (hp : 0 ≤ p) : isEnough n low high n e p q = true := by
  unfold isEnough
  rw [List.all_eq_true]
  intro a ha
  have ha := mem_rangeI.mp ha
  rw [mis_alle (by omega) (by omega) he, Int.mul_zero]
  have c := choose_b (n := n) (m := n) (by omega) (by omega) (by omega)
  exact decide_eq_true (Int.mul_nonneg hp c.1)
theorem first_of {f : Int → Bool} : ∀ N : Nat, ((rangeI 1 N).filter f = [] ∧ ∀ m : Int, 1 ≤ m → m ≤ N → f m = false) ∨ ∃ (m0 : Int) (rest : List Int), (rangeI 1 N).filter f = m0 :: rest ∧ 1 ≤ m0 ∧ m0 ≤ N ∧ f m0 = true ∧ ∀ m : Int, 1 ≤ m → m < m0 → f m = false
  | 0 => .inl ⟨rfl, fun m h1 h2 => by omega⟩
  | N + 1 => by
    rw [rangeI_succ, List.filter_append]
    rcases first_of (f := f) N with ⟨h1, h2⟩ | ⟨m0, rest, h1, h2, h3, h4, h5⟩
    · rw [h1]
      by_cases hf : f (1 + (N : Int)) = true
      · refine .inr ⟨1 + (N : Int), [], by simp [hf], by omega, by omega, hf, fun m a b => h2 m a (by omega)⟩
      · have hf : f (1 + (N : Int)) = false := by simpa using hf
        refine .inl ⟨by simp [hf], fun m a b => ?_⟩
        by_cases q : m = 1 + (N : Int)
        · rw [q]; exact hf
        · exact h2 m a (by omega)
    · rw [h1]
      exact .inr ⟨m0, rest ++ [1 + (N : Int)].filter f, rfl, h2, by omega, h4, h5⟩
def badA (n m e p q a : Int) : Bool := decide (p * chooseBy n m < q * misBy n a m e)
theorem eqv_nil (L : List D) : PyData.eqv (.list L) (.list []) = L.isEmpty := by
  cases L with
  | nil => simp [PyData.eqv, PyData.eqvAll]
  | cons a t => simp [PyData.eqv, PyData.eqvAll]
theorem enough_eq (n low high m e p q : Int) : PyData.eqv (.list ((((rangeI low (high + 1 - low).toNat).filter (badA n m e p q)).map fun _ => (1 : Int)).map PyData.int)) (.list []) = isEnough n low high m e p q := by
  rw [eqv_nil]
  unfold isEnough
  generalize rangeI low (high + 1 - low).toNat = L
  induction L with
  | nil => rfl
  | cons a L ih =>
    rw [List.filter_cons, List.all_cons]
    by_cases h : badA n m e p q a = true
    · have h' := of_decide_eq_true h
      rw [if_pos h, decide_eq_false (show ¬ (q * misBy n a m e ≤ p * chooseBy n m) by omega)]
      rfl
    · have h' := of_decide_eq_false (show badA n m e p q a = false by simpa using h)
      rw [if_neg h, decide_eq_true (show q * misBy n a m e ≤ p * chooseBy n m by omega), ih]
      rfl
def badF (n m e p q : Int) : D → Bool | .int a => badA n m e p q a | _ => false
def enF (n low high e p q : Int) : D → Bool | .int m => isEnough n low high m e p q | _ => false
theorem map_one (L : List Int) : (L.map PyData.int).map (fun _ => PyData.int 1) = (L.map fun _ => (1 : Int)).map PyData.int := by rw [List.map_map, List.map_map]; rfl
end K33

set_option maxRecDepth 100000
set_option maxHeartbeats 4000000
namespace K33
open PySem PySem.Spec PyProof.Rows L2 TR
section
variable {P : Program} {w : World} {K : PySem.W.Frag} {mg : Str → Option Value} {base : Heap} {rs : Rs} {cM cR cT fI : Addr} (M : Ms K mg cM cR cT fI) (HD : Hd K mg cM cR)
include M HD
abbrev s_law_is_least_right : Stmt := topS 30
omit M HD in
theorem sc_law_is_least_right : FnScope ["deck", "rows", "n", "low", "due", "heard", "high", "e", "p", "q", "bad", "odd", "none", "far", "none_p", "none_q", "m", "a"] ["deck", "rows"] (defScope s_law_is_least_right) := ⟨rfl, rfl, rfl, by decide +kernel, rfl, by decide +kernel, by decide +kernel⟩
theorem ok_law_is_least_right {f : Addr} {fd : FuncData} (hm : mg "_law_is_least_right" = some (.ref f))
    {ad al : Addr} (hd : rs.deck = some (ad, al)) {c T : Addr} (F : FunL K "_law_is_least_right" s_law_is_least_right f fd c) (L0 : Lm mg base rs "_law_is_least_right" c T)
    (h__law_draw : Fd P w K mg base rs 2 "_law_draw" s_law_draw ["deck", "many"] (P_law_draw ad))
    (h__law_pick : Fd P w K mg base rs 3 "_law_pick" s_law_pick ["deck", "some"] (P_law_pick ad))
    (h__law_same : ∀ k, Fd P w K mg base rs (k + 1) "_law_same" s_law_same ["given", "due"] (P_law_same k))
    (h_least_draw : Fd P w K mg base rs 4 "least_draw" sleast_draw ["n", "low", "high", "e", "p", "q"] (Pleast_draw cM cR))
    (h__law_misled : Fd P w K mg base rs 1 "_law_misled" s_law_misled ["rows", "n", "a", "m", "e"] P_law_misled) :
    Fd P w K mg base rs 13 "_law_is_least_right" s_law_is_least_right ["deck", "rows"] (P_right ad) := by
  refine fd_mkL F hm sc_law_is_least_right (fun _ _ _ _ _ _ us hl => match us, hl with | [_, _], _ => rfl) (fun ens Φ ⟨e, _⟩ => by rw [e]; rfl) fun A outer s H F0 E ens Φ hr hp tk => ?_
  obtain ⟨rfl, hp⟩ := hp
  have hu : A.units + 3 + 64 < cLine := by have h1 : A.units + 3 + 16 * 12 + 200 < cLine := hr.un; omega
  refine TR.psd_cons ?_
  -- n = _law_pick(deck, [1, 2, 6, 13, 40, 1 + _law_draw(deck, 40)])
  refine TR.psd_asg 2 sc_law_is_least_right.nd rfl ?_
  refine TR.pd_call h__law_pick rfl (hr.mono (by decide)) rfl tk ?_
  refine TR.pa_raw 0 rfl rfl ?_
  refine TR.pa_cons ?_
  refine TR.pd_ofN ?_
  refine TR.pn_list ?_
  refine TR.pa_cons ?_
  refine TR.pd_int ?_
  refine TR.pa_cons ?_
  refine TR.pd_int ?_
  refine TR.pa_cons ?_
  refine TR.pd_int ?_
  refine TR.pa_cons ?_
  refine TR.pd_int ?_
  refine TR.pa_cons ?_
  refine TR.pd_int ?_
  refine TR.pa_cons ?_
  refine TR.pd_add ?_
  refine TR.pd_int ?_
  refine TR.pd_call h__law_draw rfl (hr.mono (by decide)) rfl tk ?_
  refine TR.pa_raw 0 rfl rfl ?_
  refine TR.pa_cons ?_
  refine TR.pd_int ?_
  refine TR.pa_nil ?_
  refine ⟨40, rfl, by decide, fun r r0 r1 => ?_⟩
  refine TR.pa_nil ?_
  refine ⟨by simp, ?_⟩
  refine TR.pa_nil ?_
  refine ⟨_, rfl, by simp, fun dn hdn => ?_⟩
  obtain ⟨n, rfl, n0, n1⟩ : ∃ n : Int, dn = .int n ∧ 1 ≤ n ∧ n ≤ 60 := by
    simp only [List.mem_cons, List.not_mem_nil, or_false] at hdn
    rcases hdn with rfl | rfl | rfl | rfl | rfl | rfl <;> exact ⟨_, rfl, by omega, by omega⟩
  clear hdn
  refine TR.psd_eq (ρ' := [_, _, _, _, _, _, _, _, _, _, _, _, _, _, _, _, _, _]) rfl ?_
  refine TR.psd_cons ?_
  -- low = _law_draw(deck, n + 1)
  refine TR.psd_asg 3 sc_law_is_least_right.nd rfl ?_
  refine TR.pd_call h__law_draw rfl (hr.mono (by decide)) rfl tk ?_
  refine TR.pa_raw 0 rfl rfl ?_
  refine TR.pa_cons ?_
  refine TR.pd_add ?_
  refine TR.pd_name 2 rfl rfl ?_
  refine TR.pd_int ?_
  refine TR.pa_nil ?_
  refine ⟨n + 1, rfl, by omega, fun low l0 l1 => ?_⟩
  refine TR.psd_eq (ρ' := [_, _, _, _, _, _, _, _, _, _, _, _, _, _, _, _, _, _]) rfl ?_
  refine TR.psd_cons ?_
  -- high, e = (_law_pick(deck, [low, n, low + _law_draw(deck, n - low + 1)]), _law_pick(deck, [0, 0, 1, 2, n // 4, 60]))
  refine TR.psd_asgT (.tp [(.nm 6), (.nm 7)]) rfl (pg_tup rfl (pgs_cons (pg_name (i := 6) sc_law_is_least_right.nd rfl (by first | exact .inl rfl | exact .inr rfl)) (pgs_cons (pg_name (i := 7) sc_law_is_least_right.nd rfl (by first | exact .inl rfl | exact .inr rfl)) pgs_nil))) ?_
  refine TR.pd_tuple ?_
  refine TR.pa_cons ?_
  refine TR.pd_call h__law_pick rfl (hr.mono (by decide)) rfl tk ?_
  refine TR.pa_raw 0 rfl rfl ?_
  refine TR.pa_cons ?_
  refine TR.pd_ofN ?_
  refine TR.pn_list ?_
  refine TR.pa_cons ?_
  refine TR.pd_name 3 rfl rfl ?_
  refine TR.pa_cons ?_
  refine TR.pd_name 2 rfl rfl ?_
  refine TR.pa_cons ?_
  refine TR.pd_add ?_
  refine TR.pd_name 3 rfl rfl ?_
  refine TR.pd_call h__law_draw rfl (hr.mono (by decide)) rfl tk ?_
  refine TR.pa_raw 0 rfl rfl ?_
  refine TR.pa_cons ?_
  refine TR.pd_add ?_
  refine TR.pd_sub ?_
  refine TR.pd_name 2 rfl rfl ?_
  refine TR.pd_name 3 rfl rfl ?_
  refine TR.pd_int ?_
  refine TR.pa_nil ?_
  refine ⟨n - low + 1, rfl, by omega, fun r r0 r1 => ?_⟩
  refine TR.pa_nil ?_
  refine ⟨by simp, ?_⟩
  refine TR.pa_nil ?_
  refine ⟨_, rfl, by simp, fun dhigh hdhigh => ?_⟩
  obtain ⟨high, rfl, high0, high1⟩ : ∃ high : Int, dhigh = .int high ∧ low ≤ high ∧ high ≤ n := by
    simp only [List.mem_cons, List.not_mem_nil, or_false] at hdhigh
    rcases hdhigh with rfl | rfl | rfl <;> exact ⟨_, rfl, by omega, by omega⟩
  clear hdhigh
  refine TR.pa_cons ?_
  refine TR.pd_call h__law_pick rfl (hr.mono (by decide)) rfl tk ?_
  refine TR.pa_raw 0 rfl rfl ?_
  refine TR.pa_cons ?_
  refine TR.pd_ofN ?_
  refine TR.pn_list ?_
  refine TR.pa_cons ?_
  refine TR.pd_int ?_
  refine TR.pa_cons ?_
  refine TR.pd_int ?_
  refine TR.pa_cons ?_
  refine TR.pd_int ?_
  refine TR.pa_cons ?_
  refine TR.pd_int ?_
  refine TR.pa_cons ?_
  refine TR.pd_div ?_
  refine TR.pd_name 2 rfl rfl ?_
  refine TR.pd_int ?_
  refine ⟨wide_div (b := 62) (by decide) (by decide) (by decide) (by decide), ?_⟩
  refine TR.pa_cons ?_
  refine TR.pd_int ?_
  refine TR.pa_nil ?_
  refine ⟨by simp, ?_⟩
  refine TR.pa_nil ?_
  refine ⟨_, rfl, by simp, fun de hde => ?_⟩
  obtain ⟨e, rfl, e0, e1⟩ : ∃ e : Int, de = .int e ∧ 0 ≤ e ∧ e ≤ 60 := by
    simp only [List.mem_cons, List.not_mem_nil, or_false] at hde
    rcases hde with rfl | rfl | rfl | rfl | rfl | rfl <;> exact ⟨_, rfl, by omega, by omega⟩
  clear hde
  refine TR.pa_nil ?_
  refine ⟨by simp, ?_⟩
  refine ⟨_, rfl, ?_⟩
  refine TR.psd_eq (ρ' := [_, _, _, _, _, _, _, _, _, _, _, _, _, _, _, _, _, _]) rfl ?_
  refine TR.psd_cons ?_
  -- p, q = _law_pick(deck, [(0, 1), (1, 10), (1, 3), (1, 2), (999999, 10 ** 6), (1, 1), (7, 3), (1, 10 ** 6), (10 ** 6, 10 ** 6)])
  refine TR.psd_asgT (.tp [(.nm 8), (.nm 9)]) rfl (pg_tup rfl (pgs_cons (pg_name (i := 8) sc_law_is_least_right.nd rfl (by first | exact .inl rfl | exact .inr rfl)) (pgs_cons (pg_name (i := 9) sc_law_is_least_right.nd rfl (by first | exact .inl rfl | exact .inr rfl)) pgs_nil))) ?_
  refine TR.pd_call h__law_pick rfl (hr.mono (by decide)) rfl tk ?_
  refine TR.pa_raw 0 rfl rfl ?_
  refine TR.pa_cons ?_
  refine TR.pd_ofN ?_
  refine TR.pn_list ?_
  refine TR.pa_cons ?_
  refine TR.pd_tuple ?_
  refine TR.pa_cons ?_
  refine TR.pd_int ?_
  refine TR.pa_cons ?_
  refine TR.pd_int ?_
  refine TR.pa_nil ?_
  refine ⟨by simp, ?_⟩
  refine TR.pa_cons ?_
  refine TR.pd_tuple ?_
  refine TR.pa_cons ?_
  refine TR.pd_int ?_
  refine TR.pa_cons ?_
  refine TR.pd_int ?_
  refine TR.pa_nil ?_
  refine ⟨by simp, ?_⟩
  refine TR.pa_cons ?_
  refine TR.pd_tuple ?_
  refine TR.pa_cons ?_
  refine TR.pd_int ?_
  refine TR.pa_cons ?_
  refine TR.pd_int ?_
  refine TR.pa_nil ?_
  refine ⟨by simp, ?_⟩
  refine TR.pa_cons ?_
  refine TR.pd_tuple ?_
  refine TR.pa_cons ?_
  refine TR.pd_int ?_
  refine TR.pa_cons ?_
  refine TR.pd_int ?_
  refine TR.pa_nil ?_
  refine ⟨by simp, ?_⟩
  refine TR.pa_cons ?_
  refine TR.pd_tuple ?_
  refine TR.pa_cons ?_
  refine TR.pd_int ?_
  refine TR.pa_cons ?_
  refine TR.pd_pow ?_
  refine TR.pd_int ?_
  refine TR.pd_int ?_
  refine ⟨⟨by decide, by decide, by decide⟩, ?_⟩
  refine TR.pa_nil ?_
  refine ⟨by simp, ?_⟩
  refine TR.pa_cons ?_
  refine TR.pd_tuple ?_
  refine TR.pa_cons ?_
  refine TR.pd_int ?_
  refine TR.pa_cons ?_
  refine TR.pd_int ?_
  refine TR.pa_nil ?_
  refine ⟨by simp, ?_⟩
  refine TR.pa_cons ?_
  refine TR.pd_tuple ?_
  refine TR.pa_cons ?_
  refine TR.pd_int ?_
  refine TR.pa_cons ?_
  refine TR.pd_int ?_
  refine TR.pa_nil ?_
  refine ⟨by simp, ?_⟩
  refine TR.pa_cons ?_
  refine TR.pd_tuple ?_
  refine TR.pa_cons ?_
  refine TR.pd_int ?_
  refine TR.pa_cons ?_
  refine TR.pd_pow ?_
  refine TR.pd_int ?_
  refine TR.pd_int ?_
  refine ⟨⟨by decide, by decide, by decide⟩, ?_⟩
  refine TR.pa_nil ?_
  refine ⟨by simp, ?_⟩
  refine TR.pa_cons ?_
  refine TR.pd_tuple ?_
  refine TR.pa_cons ?_
  refine TR.pd_pow ?_
  refine TR.pd_int ?_
  refine TR.pd_int ?_
  refine ⟨⟨by decide, by decide, by decide⟩, ?_⟩
  refine TR.pa_cons ?_
  refine TR.pd_pow ?_
  refine TR.pd_int ?_
  refine TR.pd_int ?_
  refine ⟨⟨by decide, by decide, by decide⟩, ?_⟩
  refine TR.pa_nil ?_
  refine ⟨by simp, ?_⟩
  refine TR.pa_nil ?_
  refine ⟨by simp, ?_⟩
  refine TR.pa_nil ?_
  refine ⟨_, rfl, by simp, fun dpq hdpq => ?_⟩
  obtain ⟨p, q, rfl, hpq⟩ : ∃ p q : Int, dpq = .tuple [.int p, .int q] ∧ 0 ≤ p ∧ p ≤ 1000000 ∧ 1 ≤ q ∧ q ≤ 1000000 := by
    simp only [List.mem_cons, List.not_mem_nil, or_false] at hdpq
    rcases hdpq with rfl | rfl | rfl | rfl | rfl | rfl | rfl | rfl | rfl <;> exact ⟨_, _, rfl, by decide⟩
  clear hdpq
  refine ⟨_, rfl, ?_⟩
  refine TR.psd_eq (ρ' := [_, _, _, _, _, _, _, _, _, _, _, _, _, _, _, _, _, _]) rfl ?_
  refine TR.psd_cons ?_
  -- due = [m for m in range(1, n + 1) if [1 for a in range(low, high + 1) if q * _law_misled(rows, n, a, m, e) > p * rows[n][m]] == []][0]
  refine TR.psd_asg 4 sc_law_is_least_right.nd rfl ?_
  refine TR.pd_ix rfl ?_
  refine TR.pd_ofN ?_
  refine TR.pn_lcIf (.nm 16) (own := [("m", 16)]) rfl sc_law_is_least_right.nd (blkOk_by rfl) (fun _ _ _ _ _ => (pg_name (i := 16) sc_law_is_least_right.nd rfl (.inr rfl) (.inl rfl))) (by decide) ?_
  refine TR.pid_range2 M.z_range ?_
  refine TR.pa_cons ?_
  refine TR.pd_int ?_
  refine TR.pa_cons ?_
  refine TR.pd_add ?_
  refine TR.pd_name 2 rfl rfl ?_
  refine TR.pd_int ?_
  refine TR.pa_nil ?_
  refine ⟨by omega, ?_⟩
  refine lcw_if (enF n low high e p q) id (by rw [rangeD_length]; omega) (fun i d hd => ?_) ?_
  · obtain ⟨hi, rfl⟩ := rangeD_inv hd
    have hm : 1 ≤ 1 + (i : Int) ∧ 1 + (i : Int) ≤ n := by omega
    generalize 1 + (i : Int) = m at *
    refine ⟨_, rfl, fun s H C cl fp => ?_, fun _ s H C cl fp => ?_⟩
    · refine TR.pt_eq rfl hu ?_
      refine TR.pd_ofN ?_
      refine TR.pn_lcIf (.nm 17) (own := [("a", 17)]) rfl sc_law_is_least_right.nd (blkOk_by rfl) (fun _ _ _ _ _ => (pg_name (i := 17) sc_law_is_least_right.nd rfl (.inl rfl) (.inr rfl))) (by decide) ?_
      refine TR.pid_range2 M.z_range ?_
      refine TR.pa_cons ?_
      refine TR.pd_name 3 rfl rfl ?_
      refine TR.pa_cons ?_
      refine TR.pd_add ?_
      refine TR.pd_name 6 rfl rfl ?_
      refine TR.pd_int ?_
      refine TR.pa_nil ?_
      refine ⟨by omega, ?_⟩
      refine lcw_if (badF n m e p q) (fun _ => .int 1) (by rw [rangeD_length]; omega) (fun j d hd => ?_) ?_
      · obtain ⟨hj, rfl⟩ := rangeD_inv hd
        have ha : low ≤ low + (j : Int) ∧ low + (j : Int) ≤ high := by omega
        generalize low + (j : Int) = a at *
        refine ⟨_, rfl, fun s H C cl fp => ?_, fun _ s H C cl fp => ?_⟩
        · refine TR.pt_gt ?_
          refine TR.pd_mul ?_
          refine TR.pd_name 9 rfl rfl ?_
          refine TR.pd_call h__law_misled rfl (hr.mono (by decide)) rfl tkNo ?_
          refine TR.pa_cons ?_
          refine TR.pd_name 1 rfl rfl ?_
          refine TR.pa_cons ?_
          refine TR.pd_name 2 rfl rfl ?_
          refine TR.pa_cons ?_
          refine TR.pd_name 17 rfl rfl ?_
          refine TR.pa_cons ?_
          refine TR.pd_name 16 rfl rfl ?_
          refine TR.pa_cons ?_
          refine TR.pd_name 7 rfl rfl ?_
          refine TR.pa_nil ?_
          refine ⟨_, _, _, _, rfl, by omega, ?_⟩
          refine ⟨cm (by omega) (by omega), ?_⟩
          refine TR.pd_mul ?_
          refine TR.pd_name 8 rfl rfl ?_
          refine TR.pd_ix rfl ?_
          refine TR.pd_ix rfl ?_
          refine TR.pd_name 1 rfl rfl ?_
          refine TR.pd_name 2 rfl rfl ?_
          refine ⟨_, at_rows (by omega) n1, ?_⟩
          refine TR.pd_name 16 rfl rfl ?_
          refine ⟨_, at_row (n := n.toNat) (by omega) (by omega), ?_⟩
          refine ⟨cm (by omega) (by omega), ?_⟩
          show decide (p * chooseBy ((n.toNat : Nat) : Int) m < q * misBy n a m e) = badA n m e p q a
          rw [Int.toNat_of_nonneg (by omega)]
          rfl
        · refine TR.pd_int ?_
          rfl
      · refine TR.pd_ofN ?_
        refine TR.pn_list ?_
        refine TR.pa_nil ?_
        refine ⟨by simp, ?_⟩
        rw [rangeD_eq, filter_ints _ _ (badA n m e p q) (fun i _ => rfl), map_one]
        exact ⟨⟨shaped_ints _, by decide⟩, enough_eq n low high m e p q⟩
    · refine TR.pd_name 16 rfl rfl ?_
      rfl
  · rw [rangeD_eq, filter_ints _ _ (fun m => isEnough n low high m e p q) (fun i _ => rfl), List.map_id]
    refine TR.pd_int ?_
    obtain ⟨m0, rest, hfil, g1, g2, g3, g4⟩ : ∃ m0 rest, (rangeI 1 (n + 1 - 1).toNat).filter (fun m => isEnough n low high m e p q) = m0 :: rest ∧ 1 ≤ m0 ∧ m0 ≤ n ∧ isEnough n low high m0 e p q = true ∧ ∀ m, 1 ≤ m → m < m0 → isEnough n low high m e p q = false := by
      rcases first_of (f := fun m => isEnough n low high m e p q) (n + 1 - 1).toNat with ⟨z1, z2⟩ | ⟨m0, rest, z1, z2, z3, z4, z5⟩
      · have := z2 n n0 (by omega)
        rw [enough_n (by omega) high1 ⟨n0, n1⟩ e0 hpq.1] at this
        cases this
      · exact ⟨m0, rest, z1, z2, by omega, z4, z5⟩
    rw [hfil]
    refine ⟨.int m0, atI_nn (k := 0) rfl, ?_⟩
    refine TR.psd_eq (ρ' := [_, _, _, _, _, _, _, _, _, _, _, _, _, _, _, _, _, _]) rfl ?_
    refine TR.psd_cons ?_
    -- if not _law_same([least_draw(n, low, high, e, p, q), least_draw(q=q, p=p, e=e, high=high, low=low, n=n)], [due, due]):
    refine TR.psd_if ?_
    refine TR.pt_not ?_
    refine TR.pt_val ?_
    refine TR.pd_call (h__law_same 4) rfl (hr.mono (by decide)) rfl tk ?_
    refine TR.pa_cons ?_
    refine TR.pd_ofN ?_
    refine TR.pn_list ?_
    refine TR.pa_cons ?_
    refine TR.pd_call h_least_draw rfl (hr.mono (by decide)) rfl tk ?_
    refine TR.pa_cons ?_
    refine TR.pd_name 2 rfl rfl ?_
    refine TR.pa_cons ?_
    refine TR.pd_name 3 rfl rfl ?_
    refine TR.pa_cons ?_
    refine TR.pd_name 6 rfl rfl ?_
    refine TR.pa_cons ?_
    refine TR.pd_name 7 rfl rfl ?_
    refine TR.pa_cons ?_
    refine TR.pd_name 8 rfl rfl ?_
    refine TR.pa_cons ?_
    refine TR.pd_name 9 rfl rfl ?_
    refine TR.pa_nil ?_
    refine ⟨_, _, _, _, _, _, rfl, need_pos (by omega) (by omega) (need_pos (by omega) (by omega) (need_pos (by omega) (by omega) (need_pos (by omega) (by omega) (need_pos (by omega) (by omega) (need_pos (by omega) (by omega) ⟨m0, g1, g2, g3, g4, ?_⟩)))))⟩
    refine TR.pa_cons ?_
    refine TR.pd_callK [5, 4, 3, 2, 1, 0] ["q", "p", "e", "high", "low", "n"] h_least_draw rfl (hr.mono (by decide)) rfl tk (fun _ _ _ _ _ _ ws hl => match ws, hl with | [_, _, _, _, _, _], _ => rfl) ?_
    refine TR.pk_consD ?_
    refine TR.pd_name 9 rfl rfl ?_
    refine TR.pk_consD ?_
    refine TR.pd_name 8 rfl rfl ?_
    refine TR.pk_consD ?_
    refine TR.pd_name 7 rfl rfl ?_
    refine TR.pk_consD ?_
    refine TR.pd_name 6 rfl rfl ?_
    refine TR.pk_consD ?_
    refine TR.pd_name 3 rfl rfl ?_
    refine TR.pk_consD ?_
    refine TR.pd_name 2 rfl rfl ?_
    refine TR.pk_nilD ?_
    refine ⟨rfl, ?_⟩
    refine ⟨_, _, _, _, _, _, rfl, need_pos (by omega) (by omega) (need_pos (by omega) (by omega) (need_pos (by omega) (by omega) (need_pos (by omega) (by omega) (need_pos (by omega) (by omega) (need_pos (by omega) (by omega) ⟨m0, g1, g2, g3, g4, ?_⟩)))))⟩
    refine TR.pa_nil ?_
    refine ⟨by simp, ?_⟩
    refine TR.pa_cons ?_
    refine TR.pd_ofN ?_
    refine TR.pn_list ?_
    refine TR.pa_cons ?_
    refine TR.pd_name 4 rfl rfl ?_
    refine TR.pa_cons ?_
    refine TR.pd_name 4 rfl rfl ?_
    refine TR.pa_nil ?_
    refine ⟨by simp, ?_⟩
    refine TR.pa_nil ?_
    refine ⟨_, rfl, ⟨?_, ?_, ?_⟩, ?_⟩
    · simp only [lay_list, lay_cons, lay_nil, lay_int, Bool.and_true]
    · simp only [dep_list, dep_cons, dep_nil, dep_int]; decide
    · simp only [nd_list, nds_cons, nds_nil, nd_int]; decide
    refine ⟨fun h => Bool.noConfusion h, fun h => ?_⟩
    · skip
      refine TR.psd_nil ?_
      refine TR.psd_cons ?_
      -- bad, odd, none = (_law_pick(deck, [0, 61, True, None]), _law_pick(deck, [-1, n + 1, True, None]), _law_pick(deck, [low - 1, n + 1, True, None]))
      refine TR.psd_asgT (.tp [(.nm 10), (.nm 11), (.nm 12)]) rfl (pg_tup rfl (pgs_cons (pg_name (i := 10) sc_law_is_least_right.nd rfl (by first | exact .inl rfl | exact .inr rfl)) (pgs_cons (pg_name (i := 11) sc_law_is_least_right.nd rfl (by first | exact .inl rfl | exact .inr rfl)) (pgs_cons (pg_name (i := 12) sc_law_is_least_right.nd rfl (by first | exact .inl rfl | exact .inr rfl)) pgs_nil)))) ?_
      refine TR.pd_tuple ?_
      refine TR.pa_cons ?_
      refine TR.pd_call h__law_pick rfl (hr.mono (by decide)) rfl tk ?_
      refine TR.pa_raw 0 rfl rfl ?_
      refine TR.pa_cons ?_
      refine TR.pd_ofN ?_
      refine TR.pn_list ?_
      refine TR.pa_cons ?_
      refine TR.pd_int ?_
      refine TR.pa_cons ?_
      refine TR.pd_int ?_
      refine TR.pa_cons ?_
      refine TR.pd_bool ?_
      refine TR.pa_cons ?_
      refine TR.pd_none ?_
      refine TR.pa_nil ?_
      refine ⟨by simp, ?_⟩
      refine TR.pa_nil ?_
      refine ⟨_, rfl, by simp, fun bad hbad => ?_⟩
      replace hbad : Bd bad 1 60 := by
        simp only [List.mem_cons, List.not_mem_nil, or_false] at hbad
        rcases hbad with rfl | rfl | rfl | rfl
        · exact .int (by first | omega | decide)
        · exact .int (by first | omega | decide)
        · exact .tru
        · exact .non
      refine TR.pa_cons ?_
      refine TR.pd_call h__law_pick rfl (hr.mono (by decide)) rfl tk ?_
      refine TR.pa_raw 0 rfl rfl ?_
      refine TR.pa_cons ?_
      refine TR.pd_ofN ?_
      refine TR.pn_list ?_
      refine TR.pa_cons ?_
      refine TR.pd_neg ?_
      refine TR.pd_int ?_
      refine TR.pa_cons ?_
      refine TR.pd_add ?_
      refine TR.pd_name 2 rfl rfl ?_
      refine TR.pd_int ?_
      refine TR.pa_cons ?_
      refine TR.pd_bool ?_
      refine TR.pa_cons ?_
      refine TR.pd_none ?_
      refine TR.pa_nil ?_
      refine ⟨by simp, ?_⟩
      refine TR.pa_nil ?_
      refine ⟨_, rfl, by simp, fun odd hodd => ?_⟩
      replace hodd : Bd odd 0 n := by
        simp only [List.mem_cons, List.not_mem_nil, or_false] at hodd
        rcases hodd with rfl | rfl | rfl | rfl
        · exact .int (by first | omega | decide)
        · exact .int (by first | omega | decide)
        · exact .tru
        · exact .non
      refine TR.pa_cons ?_
      refine TR.pd_call h__law_pick rfl (hr.mono (by decide)) rfl tk ?_
      refine TR.pa_raw 0 rfl rfl ?_
      refine TR.pa_cons ?_
      refine TR.pd_ofN ?_
      refine TR.pn_list ?_
      refine TR.pa_cons ?_
      refine TR.pd_sub ?_
      refine TR.pd_name 3 rfl rfl ?_
      refine TR.pd_int ?_
      refine TR.pa_cons ?_
      refine TR.pd_add ?_
      refine TR.pd_name 2 rfl rfl ?_
      refine TR.pd_int ?_
      refine TR.pa_cons ?_
      refine TR.pd_bool ?_
      refine TR.pa_cons ?_
      refine TR.pd_none ?_
      refine TR.pa_nil ?_
      refine ⟨by simp, ?_⟩
      refine TR.pa_nil ?_
      refine ⟨_, rfl, by simp, fun none hnone => ?_⟩
      replace hnone : Bd none low n := by
        simp only [List.mem_cons, List.not_mem_nil, or_false] at hnone
        rcases hnone with rfl | rfl | rfl | rfl
        · exact .int (by first | omega | decide)
        · exact .int (by first | omega | decide)
        · exact .tru
        · exact .non
      refine TR.pa_nil ?_
      refine ⟨by simp, ?_⟩
      refine ⟨_, rfl, ?_⟩
      refine TR.psd_eq (ρ' := [_, _, _, _, _, _, _, _, _, _, _, _, _, _, _, _, _, _]) rfl ?_
      refine TR.psd_cons ?_
      -- far, none_p, none_q = (_law_pick(deck, [-1, 61, True, None]), _law_pick(deck, [-1, 10 ** 6 + 1, True, None]), _law_pick(deck, [0, 10 ** 6 + 1, True, None]))
      refine TR.psd_asgT (.tp [(.nm 13), (.nm 14), (.nm 15)]) rfl (pg_tup rfl (pgs_cons (pg_name (i := 13) sc_law_is_least_right.nd rfl (by first | exact .inl rfl | exact .inr rfl)) (pgs_cons (pg_name (i := 14) sc_law_is_least_right.nd rfl (by first | exact .inl rfl | exact .inr rfl)) (pgs_cons (pg_name (i := 15) sc_law_is_least_right.nd rfl (by first | exact .inl rfl | exact .inr rfl)) pgs_nil)))) ?_
      refine TR.pd_tuple ?_
      refine TR.pa_cons ?_
      refine TR.pd_call h__law_pick rfl (hr.mono (by decide)) rfl tk ?_
      refine TR.pa_raw 0 rfl rfl ?_
      refine TR.pa_cons ?_
      refine TR.pd_ofN ?_
      refine TR.pn_list ?_
      refine TR.pa_cons ?_
      refine TR.pd_neg ?_
      refine TR.pd_int ?_
      refine TR.pa_cons ?_
      refine TR.pd_int ?_
      refine TR.pa_cons ?_
      refine TR.pd_bool ?_
      refine TR.pa_cons ?_
      refine TR.pd_none ?_
      refine TR.pa_nil ?_
      refine ⟨by simp, ?_⟩
      refine TR.pa_nil ?_
      refine ⟨_, rfl, by simp, fun far hfar => ?_⟩
      replace hfar : Bd far 0 60 := by
        simp only [List.mem_cons, List.not_mem_nil, or_false] at hfar
        rcases hfar with rfl | rfl | rfl | rfl
        · exact .int (by first | omega | decide)
        · exact .int (by first | omega | decide)
        · exact .tru
        · exact .non
      refine TR.pa_cons ?_
      refine TR.pd_call h__law_pick rfl (hr.mono (by decide)) rfl tk ?_
      refine TR.pa_raw 0 rfl rfl ?_
      refine TR.pa_cons ?_
      refine TR.pd_ofN ?_
      refine TR.pn_list ?_
      refine TR.pa_cons ?_
      refine TR.pd_neg ?_
      refine TR.pd_int ?_
      refine TR.pa_cons ?_
      refine TR.pd_add ?_
      refine TR.pd_pow ?_
      refine TR.pd_int ?_
      refine TR.pd_int ?_
      refine ⟨⟨by decide, by decide, by decide⟩, ?_⟩
      refine TR.pd_int ?_
      refine TR.pa_cons ?_
      refine TR.pd_bool ?_
      refine TR.pa_cons ?_
      refine TR.pd_none ?_
      refine TR.pa_nil ?_
      refine ⟨by simp, ?_⟩
      refine TR.pa_nil ?_
      refine ⟨_, rfl, by simp, fun none_p hnone_p => ?_⟩
      replace hnone_p : Bd none_p 0 1000000 := by
        simp only [List.mem_cons, List.not_mem_nil, or_false] at hnone_p
        rcases hnone_p with rfl | rfl | rfl | rfl
        · exact .int (by first | omega | decide)
        · exact .int (by first | omega | decide)
        · exact .tru
        · exact .non
      refine TR.pa_cons ?_
      refine TR.pd_call h__law_pick rfl (hr.mono (by decide)) rfl tk ?_
      refine TR.pa_raw 0 rfl rfl ?_
      refine TR.pa_cons ?_
      refine TR.pd_ofN ?_
      refine TR.pn_list ?_
      refine TR.pa_cons ?_
      refine TR.pd_int ?_
      refine TR.pa_cons ?_
      refine TR.pd_add ?_
      refine TR.pd_pow ?_
      refine TR.pd_int ?_
      refine TR.pd_int ?_
      refine ⟨⟨by decide, by decide, by decide⟩, ?_⟩
      refine TR.pd_int ?_
      refine TR.pa_cons ?_
      refine TR.pd_bool ?_
      refine TR.pa_cons ?_
      refine TR.pd_none ?_
      refine TR.pa_nil ?_
      refine ⟨by simp, ?_⟩
      refine TR.pa_nil ?_
      refine ⟨_, rfl, by simp, fun none_q hnone_q => ?_⟩
      replace hnone_q : Bd none_q 1 1000000 := by
        simp only [List.mem_cons, List.not_mem_nil, or_false] at hnone_q
        rcases hnone_q with rfl | rfl | rfl | rfl
        · exact .int (by first | omega | decide)
        · exact .int (by first | omega | decide)
        · exact .tru
        · exact .non
      refine TR.pa_nil ?_
      refine ⟨by simp, ?_⟩
      refine ⟨_, rfl, ?_⟩
      refine TR.psd_eq (ρ' := [_, _, _, _, _, _, _, _, _, _, _, _, _, _, _, _, _, _]) rfl ?_
      refine TR.psd_cons ?_
      -- heard = [_law_heard(lambda: least_draw(bad, odd, none, far, none_p, none_q))]
      refine TR.psd_asgN 5 sc_law_is_least_right.nd rfl ?_
      refine TR.pn_list ?_
      refine TR.pa_cons ?_
      refine hd33 M HD (k := 8) L0 rfl (hr.mono (by decide)) (LamX.lamS_by (by decide +kernel)) rfl (fun _ _ _ _ _ => rfl) (fun A2 outer2 s2 H2 F2 H02 E2 f2 c2 hrL tkL => ?_)
      refine TR.pd_call h_least_draw rfl (hrL.mono (by decide)) rfl tkL ?_
      refine TR.pa_cons ?_
      refine TR.pd_name 10 rfl rfl ?_
      refine TR.pa_cons ?_
      refine TR.pd_name 11 rfl rfl ?_
      refine TR.pa_cons ?_
      refine TR.pd_name 12 rfl rfl ?_
      refine TR.pa_cons ?_
      refine TR.pd_name 13 rfl rfl ?_
      refine TR.pa_cons ?_
      refine TR.pd_name 14 rfl rfl ?_
      refine TR.pa_cons ?_
      refine TR.pd_name 15 rfl rfl ?_
      refine TR.pa_nil ?_
      refine ⟨_, _, _, _, _, _, rfl, (need_neg hbad.no ⟨"many", if_pos rfl, ?_⟩)⟩
      refine TR.pa_nil ?_
      refine ⟨by simp, ?_⟩
      refine TR.psd_eq (ρ' := [_, _, _, _, _, _, _, _, _, _, _, _, _, _, _, _, _, _]) rfl ?_
      refine TR.psd_cons ?_
      -- heard.append(_law_heard(lambda: least_draw(n, odd, none, far, none_p, none_q)))
      refine TR.psd_append 5 rfl rfl rfl ?_
      refine hd33 M HD (k := 8) L0 rfl (hr.mono (by decide)) (LamX.lamS_by (by decide +kernel)) rfl (fun _ _ _ _ _ => rfl) (fun A2 outer2 s2 H2 F2 H02 E2 f2 c2 hrL tkL => ?_)
      refine TR.pd_call h_least_draw rfl (hrL.mono (by decide)) rfl tkL ?_
      refine TR.pa_cons ?_
      refine TR.pd_name 2 rfl rfl ?_
      refine TR.pa_cons ?_
      refine TR.pd_name 11 rfl rfl ?_
      refine TR.pa_cons ?_
      refine TR.pd_name 12 rfl rfl ?_
      refine TR.pa_cons ?_
      refine TR.pd_name 13 rfl rfl ?_
      refine TR.pa_cons ?_
      refine TR.pd_name 14 rfl rfl ?_
      refine TR.pa_cons ?_
      refine TR.pd_name 15 rfl rfl ?_
      refine TR.pa_nil ?_
      refine ⟨_, _, _, _, _, _, rfl, (need_pos (by omega) (by omega) (need_neg hodd.no ⟨"range", (if_neg HD.ne).trans (if_pos rfl), ?_⟩))⟩
      refine ⟨by simp, ?_⟩
      refine TR.psd_cons ?_
      -- heard.append(_law_heard(lambda: least_draw(n, low, none, far, none_p, none_q)))
      refine TR.psd_append 5 rfl rfl rfl ?_
      refine hd33 M HD (k := 8) L0 rfl (hr.mono (by decide)) (LamX.lamS_by (by decide +kernel)) rfl (fun _ _ _ _ _ => rfl) (fun A2 outer2 s2 H2 F2 H02 E2 f2 c2 hrL tkL => ?_)
      refine TR.pd_call h_least_draw rfl (hrL.mono (by decide)) rfl tkL ?_
      refine TR.pa_cons ?_
      refine TR.pd_name 2 rfl rfl ?_
      refine TR.pa_cons ?_
      refine TR.pd_name 3 rfl rfl ?_
      refine TR.pa_cons ?_
      refine TR.pd_name 12 rfl rfl ?_
      refine TR.pa_cons ?_
      refine TR.pd_name 13 rfl rfl ?_
      refine TR.pa_cons ?_
      refine TR.pd_name 14 rfl rfl ?_
      refine TR.pa_cons ?_
      refine TR.pd_name 15 rfl rfl ?_
      refine TR.pa_nil ?_
      refine ⟨_, _, _, _, _, _, rfl, (need_pos (by omega) (by omega) (need_pos (by omega) (by omega) (need_neg hnone.no ⟨"range", (if_neg HD.ne).trans (if_pos rfl), ?_⟩)))⟩
      refine ⟨by simp, ?_⟩
      refine TR.psd_cons ?_
      -- heard.append(_law_heard(lambda: least_draw(n, low, high, far, none_p, none_q)))
      refine TR.psd_append 5 rfl rfl rfl ?_
      refine hd33 M HD (k := 8) L0 rfl (hr.mono (by decide)) (LamX.lamS_by (by decide +kernel)) rfl (fun _ _ _ _ _ => rfl) (fun A2 outer2 s2 H2 F2 H02 E2 f2 c2 hrL tkL => ?_)
      refine TR.pd_call h_least_draw rfl (hrL.mono (by decide)) rfl tkL ?_
      refine TR.pa_cons ?_
      refine TR.pd_name 2 rfl rfl ?_
      refine TR.pa_cons ?_
      refine TR.pd_name 3 rfl rfl ?_
      refine TR.pa_cons ?_
      refine TR.pd_name 6 rfl rfl ?_
      refine TR.pa_cons ?_
      refine TR.pd_name 13 rfl rfl ?_
      refine TR.pa_cons ?_
      refine TR.pd_name 14 rfl rfl ?_
      refine TR.pa_cons ?_
      refine TR.pd_name 15 rfl rfl ?_
      refine TR.pa_nil ?_
      refine ⟨_, _, _, _, _, _, rfl, (need_pos (by omega) (by omega) (need_pos (by omega) (by omega) (need_pos (by omega) (by omega) (need_neg hfar.no ⟨"many", if_pos rfl, ?_⟩))))⟩
      refine ⟨by simp, ?_⟩
      refine TR.psd_cons ?_
      -- heard.append(_law_heard(lambda: least_draw(n, low, high, e, none_p, none_q)))
      refine TR.psd_append 5 rfl rfl rfl ?_
      refine hd33 M HD (k := 8) L0 rfl (hr.mono (by decide)) (LamX.lamS_by (by decide +kernel)) rfl (fun _ _ _ _ _ => rfl) (fun A2 outer2 s2 H2 F2 H02 E2 f2 c2 hrL tkL => ?_)
      refine TR.pd_call h_least_draw rfl (hrL.mono (by decide)) rfl tkL ?_
      refine TR.pa_cons ?_
      refine TR.pd_name 2 rfl rfl ?_
      refine TR.pa_cons ?_
      refine TR.pd_name 3 rfl rfl ?_
      refine TR.pa_cons ?_
      refine TR.pd_name 6 rfl rfl ?_
      refine TR.pa_cons ?_
      refine TR.pd_name 7 rfl rfl ?_
      refine TR.pa_cons ?_
      refine TR.pd_name 14 rfl rfl ?_
      refine TR.pa_cons ?_
      refine TR.pd_name 15 rfl rfl ?_
      refine TR.pa_nil ?_
      refine ⟨_, _, _, _, _, _, rfl, (need_pos (by omega) (by omega) (need_pos (by omega) (by omega) (need_pos (by omega) (by omega) (need_pos (by omega) (by omega) (need_neg hnone_p.no ⟨"many", if_pos rfl, ?_⟩)))))⟩
      refine ⟨by simp, ?_⟩
      refine TR.psd_cons ?_
      -- heard.append(_law_heard(lambda: least_draw(q=none_q, p=p, e=e, high=high, low=low, n=n)))
      refine TR.psd_append 5 rfl rfl rfl ?_
      refine hd33 M HD (k := 8) L0 rfl (hr.mono (by decide)) (LamX.lamS_by (by decide +kernel)) rfl (fun _ _ _ _ _ => rfl) (fun A2 outer2 s2 H2 F2 H02 E2 f2 c2 hrL tkL => ?_)
      refine TR.pd_callK [5, 4, 3, 2, 1, 0] ["q", "p", "e", "high", "low", "n"] h_least_draw rfl (hrL.mono (by decide)) rfl tkL (fun _ _ _ _ _ _ ws hl => match ws, hl with | [_, _, _, _, _, _], _ => rfl) ?_
      refine TR.pk_consD ?_
      refine TR.pd_name 15 rfl rfl ?_
      refine TR.pk_consD ?_
      refine TR.pd_name 8 rfl rfl ?_
      refine TR.pk_consD ?_
      refine TR.pd_name 7 rfl rfl ?_
      refine TR.pk_consD ?_
      refine TR.pd_name 6 rfl rfl ?_
      refine TR.pk_consD ?_
      refine TR.pd_name 3 rfl rfl ?_
      refine TR.pk_consD ?_
      refine TR.pd_name 2 rfl rfl ?_
      refine TR.pk_nilD ?_
      refine ⟨rfl, ?_⟩
      refine ⟨_, _, _, _, _, _, rfl, (need_pos (by omega) (by omega) (need_pos (by omega) (by omega) (need_pos (by omega) (by omega) (need_pos (by omega) (by omega) (need_pos (by omega) (by omega) (need_neg hnone_q.no ⟨"many", if_pos rfl, ?_⟩))))))⟩
      refine ⟨by simp, ?_⟩
      refine TR.psd_freeze 5 rfl ?_
      refine TR.psd_cons ?_
      -- return _law_same(heard, [('many', bad), ('range', odd), ('range', none), ('many', far), ('many', none_p), ('many', none_q)])
      refine TR.psd_ret ?_
      refine TR.pd_call (h__law_same 4) rfl (hr.mono (by decide)) rfl tk ?_
      refine TR.pa_cons ?_
      refine TR.pd_name 5 rfl rfl ?_
      refine TR.pa_cons ?_
      refine TR.pd_ofN ?_
      refine TR.pn_list ?_
      refine TR.pa_cons ?_
      refine TR.pd_tuple ?_
      refine TR.pa_cons ?_
      refine TR.pd_str ?_
      refine TR.pa_cons ?_
      refine TR.pd_name 10 rfl rfl ?_
      refine TR.pa_nil ?_
      refine ⟨by simp, ?_⟩
      refine TR.pa_cons ?_
      refine TR.pd_tuple ?_
      refine TR.pa_cons ?_
      refine TR.pd_str ?_
      refine TR.pa_cons ?_
      refine TR.pd_name 11 rfl rfl ?_
      refine TR.pa_nil ?_
      refine ⟨by simp, ?_⟩
      refine TR.pa_cons ?_
      refine TR.pd_tuple ?_
      refine TR.pa_cons ?_
      refine TR.pd_str ?_
      refine TR.pa_cons ?_
      refine TR.pd_name 12 rfl rfl ?_
      refine TR.pa_nil ?_
      refine ⟨by simp, ?_⟩
      refine TR.pa_cons ?_
      refine TR.pd_tuple ?_
      refine TR.pa_cons ?_
      refine TR.pd_str ?_
      refine TR.pa_cons ?_
      refine TR.pd_name 13 rfl rfl ?_
      refine TR.pa_nil ?_
      refine ⟨by simp, ?_⟩
      refine TR.pa_cons ?_
      refine TR.pd_tuple ?_
      refine TR.pa_cons ?_
      refine TR.pd_str ?_
      refine TR.pa_cons ?_
      refine TR.pd_name 14 rfl rfl ?_
      refine TR.pa_nil ?_
      refine ⟨by simp, ?_⟩
      refine TR.pa_cons ?_
      refine TR.pd_tuple ?_
      refine TR.pa_cons ?_
      refine TR.pd_str ?_
      refine TR.pa_cons ?_
      refine TR.pd_name 15 rfl rfl ?_
      refine TR.pa_nil ?_
      refine ⟨by simp, ?_⟩
      refine TR.pa_nil ?_
      refine ⟨by simp, ?_⟩
      refine TR.pa_nil ?_
      have bad_1 := hbad.lay
      have bad_2 := hbad.dep
      have bad_3 := hbad.ndo
      have odd_1 := hodd.lay
      have odd_2 := hodd.dep
      have odd_3 := hodd.ndo
      have none_1 := hnone.lay
      have none_2 := hnone.dep
      have none_3 := hnone.ndo
      have far_1 := hfar.lay
      have far_2 := hfar.dep
      have far_3 := hfar.ndo
      have none_p_1 := hnone_p.lay
      have none_p_2 := hnone_p.dep
      have none_p_3 := hnone_p.ndo
      have none_q_1 := hnone_q.lay
      have none_q_2 := hnone_q.dep
      have none_q_3 := hnone_q.ndo
      refine ⟨_, rfl, ⟨?_, ?_, ?_⟩, hp⟩
      · simp only [List.cons_append, List.nil_append, lay_list, lay_tuple, lay_cons, lay_nil, lay_str, ok_many, ok_range, bad_1, odd_1, none_1, far_1, none_p_1, none_q_1, Bool.and_true, Bool.and_self]
      · simp only [List.cons_append, List.nil_append, dep_list, dep_tuple, dep_cons, dep_nil, dep_str]; omega
      · simp only [List.cons_append, List.nil_append, nd_list, nd_tuple, nds_cons, nds_nil, nd_str]; omega


end
end K33

set_option maxRecDepth 100000
set_option maxHeartbeats 4000000
namespace K33
open PySem PySem.Spec PyProof.Rows L2 TR
section
variable {P : Program} {w : World} {K : PySem.W.Frag} {mg : Str → Option Value} {base : Heap} {rs : Rs} {cM cR cT fI : Addr} (M : Ms K mg cM cR cT fI) (HD : Hd K mg cM cR)
include M HD
abbrev s_law_is_all_right : Stmt := topS 31
omit M HD in
theorem sc_law_is_all_right : FnScope ["deck", "rows", "go"] ["deck"] (defScope s_law_is_all_right) := ⟨rfl, rfl, rfl, by decide +kernel, rfl, by decide +kernel, by decide +kernel⟩
theorem ok_law_is_all_right {f : Addr} {fd : FuncData} (F : Fun K "_law_is_all_right" "_law_is_all_right" s_law_is_all_right f fd) (hm : mg "_law_is_all_right" = some (.ref f))
    {ad al : Addr} (hd : rs.deck = some (ad, al))
    (h__law_rows_of : Fd P w K mg base rs 1 "_law_rows_of" s_law_rows_of ["most"] P_law_rows_of)
    (h__law_are_choices_right : Fd P w K mg base rs 13 "_law_are_choices_right" s_law_are_choices_right ["deck", "rows"] (P_right ad))
    (h__law_are_misled_right : Fd P w K mg base rs 13 "_law_are_misled_right" s_law_are_misled_right ["deck", "rows"] (P_right ad))
    (h__law_is_least_right : Fd P w K mg base rs 13 "_law_is_least_right" s_law_is_least_right ["deck", "rows"] (P_right ad)) :
    Fd P w K mg base rs 14 "_law_is_all_right" s_law_is_all_right ["deck"] (fun ens Φ => ens = [.raw (.ref ad)] ∧ Φ (.val (.bool true))) := by
  refine fd_mk F hm sc_law_is_all_right (fun _ _ _ _ _ _ us hl => match us, hl with | [_], _ => rfl) (fun ens Φ ⟨e, _⟩ => by rw [e]; rfl) fun cdv A outer s H F0 E ens Φ hr hp tk => ?_
  obtain ⟨rfl, hp⟩ := hp
  refine TR.psd_cons ?_
  -- rows = _law_rows_of(60)
  refine TR.psd_asg 1 sc_law_is_all_right.nd rfl ?_
  refine TR.pd_call h__law_rows_of rfl (hr.mono (by decide)) rfl tk ?_
  refine TR.pa_cons ?_
  refine TR.pd_int ?_
  refine TR.pa_nil ?_
  refine ⟨rfl, ?_⟩
  refine TR.psd_eq (ρ' := [_, _, _]) rfl ?_
  refine TR.psd_cons ?_
  -- for go in range(4):
  refine TR.psd_for (.nm 2) rfl rfl (passes_of rfl) (pg_name (i := 2) sc_law_is_all_right.nd rfl (by first | exact .inl rfl | exact .inr rfl)) ?_
  refine TR.pid_range1 M.z_range ?_
  refine TR.pa_cons ?_
  refine TR.pd_int ?_
  refine TR.pa_nil ?_
  refine ⟨by decide, ?_⟩
  refine ⟨fun i ρ => ∃ o, ρ = [some (.raw (.ref ad)), some (.dat (.list rowsD)), o], ⟨_, rfl⟩, ?_, ?_⟩
  · intro i d ρ1 hd hI
    obtain ⟨o, rfl⟩ := hI
    refine ⟨_, rfl, ?_⟩
    refine TR.psd_cons ?_
    -- if not _law_are_choices_right(deck, rows) or not _law_are_misled_right(deck, rows) or (not _law_is_least_right(deck, rows)):
    refine TR.psd_if ?_
    refine TR.PTd.mono (Φ := fun k => k = false) ?_ ?_
    · refine TR.pt_pw ?_
      refine TR.pw_or ?_
      refine TR.pt_not ?_
      refine TR.pt_val ?_
      refine TR.pd_call h__law_are_choices_right rfl (hr.mono (by decide)) rfl tk ?_
      refine TR.pa_raw 0 rfl rfl ?_
      refine TR.pa_cons ?_
      refine TR.pd_name 1 rfl rfl ?_
      refine TR.pa_nil ?_
      refine ⟨rfl, ?_⟩
      refine ⟨fun h => ?_, fun h => ?_⟩
      · exact Bool.noConfusion h
      · skip
        refine TR.pw_or ?_
        refine TR.pt_not ?_
        refine TR.pt_val ?_
        refine TR.pd_call h__law_are_misled_right rfl (hr.mono (by decide)) rfl tk ?_
        refine TR.pa_raw 0 rfl rfl ?_
        refine TR.pa_cons ?_
        refine TR.pd_name 1 rfl rfl ?_
        refine TR.pa_nil ?_
        refine ⟨rfl, ?_⟩
        refine ⟨fun h => ?_, fun h => ?_⟩
        · exact Bool.noConfusion h
        · skip
          refine TR.pw_or1 ?_
          refine TR.pt_not ?_
          refine TR.pt_val ?_
          refine TR.pd_call h__law_is_least_right rfl (hr.mono (by decide)) rfl tk ?_
          refine TR.pa_raw 0 rfl rfl ?_
          refine TR.pa_cons ?_
          refine TR.pd_name 1 rfl rfl ?_
          refine TR.pa_nil ?_
          refine ⟨rfl, ?_⟩
          rfl
    · intro k hk
      subst hk
      refine ⟨fun h => Bool.noConfusion h, fun h => ?_⟩
      · skip
        refine TR.psd_nil ?_
        refine TR.psd_nil ?_
        exact ⟨_, rfl⟩
  · intro ρ1 hI
    obtain ⟨o, rfl⟩ := hI
    refine TR.psd_cons ?_
    -- return True
    refine TR.psd_ret ?_
    refine TR.pd_bool ?_
    exact hp


end
end K33

set_option maxRecDepth 100000
set_option maxHeartbeats 4000000
namespace K33
open PySem PySem.Spec PyProof.Rows L2 TR
section
variable {P : Program} {w : World} {K : PySem.W.Frag} {mg : Str → Option Value} {base : Heap} {cM cR cT fI : Addr} (M : Ms K mg cM cR cT fI) (HD : Hd K mg cM cR) {tabs : List (Addr × Str)}
abbrev s_law_deck : Stmt := topS 20
theorem sc_law_deck : FnScope ["script", "number", "blend", "cell"] ["script", "number"] (defScope s_law_deck) := ⟨rfl, rfl, rfl, by decide +kernel, rfl, by decide +kernel, by decide +kernel⟩
def spDeck (K : PySem.W.Frag) (tabs : List (Addr × Str)) : Sp := fun vs H Q E => ∃ (F : Hp) (ns : List Int) (nn : Int), Stp ⟨none, tabs⟩ F H F H ∧ EnsR K F vs [.dat (.list (ns.map .int)), .dat (.int nn)] ∧ ns.length ≤ 63 ∧ ∀ F' H' ad al, DeckNew tabs F H F' H' ad al → Q (.ref ad) H'
include M
theorem ok_law_deck {f : Addr} {fd : FuncData} (F : Fun K "_law_deck" "_law_deck" s_law_deck f fd)
    (h__law_modulo : Fd P w K mg base ⟨none, tabs⟩ 1 "_law_modulo" s_law_modulo ["number", "by"] P_law_modulo) : FnOk P w K mg base (L2.CX P w) 3 f fd ["script", "number"] (spDeck K tabs) := by
  refine F.okX sc_law_deck (fun vs H Q E ⟨F0, ns, nn, _, r, _⟩ => by rw [r.len]; rfl) fun cdv A outer s H vs Q E hr ⟨F0, ns, nn, st0, r, hns, kv⟩ => ?_
  have hr0 : Room 2 (bCx P w K mg base ["script", "number", "blend", "cell"] "_law_deck" s_law_deck f cdv A outer s H E).A := hr
  have g0 : Good ⟨⟨none, tabs⟩, K, F0, H⟩ F0 H (L2.start ["script", "number", "blend", "cell"] vs) (rho0 ["script", "number", "blend", "cell"] [.dat (.list (ns.map .int)), .dat (.int nn)]) := good0 st0 r
  have h1 : PSd (bCx P w K mg base ["script", "number", "blend", "cell"] "_law_deck" s_law_deck f cdv A outer s H E) ⟨⟨none, tabs⟩, K, F0, H⟩ ((defBody s_law_deck).getD 0 (.Pass ⟨0, 0, 0, 0⟩)) [some (.dat (.list (ns.map .int))), some (.dat (.int nn)), none, none]
      { nx := fun ρ => ρ = [some (.dat (.list (ns.map .int))), some (.dat (.int nn)), some (.dat (.int nn)), none], rt := fun _ => False } := by
    refine TR.psd_asg 2 sc_law_deck.nd rfl ?_
    refine TR.pd_name 1 rfl rfl ?_
    rfl
  have h2 : PSd (bCx P w K mg base ["script", "number", "blend", "cell"] "_law_deck" s_law_deck f cdv A outer s H E) ⟨⟨none, tabs⟩, K, F0, H⟩ ((defBody s_law_deck).getD 1 (.Pass ⟨0, 0, 0, 0⟩)) [some (.dat (.list (ns.map .int))), some (.dat (.int nn)), some (.dat (.int nn)), none]
      { nx := fun ρ => ∃ (b : Int) (o : Option En), ρ = [some (.dat (.list (ns.map .int))), some (.dat (.int nn)), some (.dat (.int b)), o], rt := fun _ => False } := by
    refine TR.psd_for (.nm 3) rfl rfl (passes_of rfl) (pg_name (i := 3) sc_law_deck.nd rfl (.inl rfl)) ?_
    refine TR.pid_list rfl ?_
    refine TR.pd_ofN ?_
    refine TR.pn_take (k := 63) rfl rfl ?_
    refine TR.pd_name 0 rfl rfl ?_
    refine ⟨fun i ρ => ∃ (b : Int) (o : Option En), ρ = [some (.dat (.list (ns.map .int))), some (.dat (.int nn)), some (.dat (.int b)), o], ⟨_, _, rfl⟩, ?_, fun ρ1 h => h⟩
    intro i d ρ1 hd hI
    replace hd : (List.take 63 (ns.map PyData.int))[i]? = some d := hd
    rw [← List.map_take] at hd
    obtain ⟨c, _, _, rfl⟩ := ints_inv hd
    obtain ⟨b, o, rfl⟩ := hI
    refine ⟨_, rfl, ?_⟩
    refine TR.psd_cons ?_
    refine TR.psd_asg 2 sc_law_deck.nd rfl ?_
    refine TR.pd_call h__law_modulo rfl (hr0.mono (by decide)) rfl tkNo ?_
    refine TR.pa_cons ?_
    refine TR.pd_intOf M.z_int ?_
    refine TR.pa_cons ?_
    refine TR.pd_add ?_
    refine TR.pd_add ?_
    refine TR.pd_mul ?_
    refine TR.pd_name 2 rfl rfl ?_
    refine TR.pd_int ?_
    refine ⟨.inr ⟨by decide, by decide⟩, ?_⟩
    refine TR.pd_call h__law_modulo rfl (hr0.mono (by decide)) rfl tkNo ?_
    refine TR.pa_cons ?_
    refine TR.pd_intOf M.z_int ?_
    refine TR.pa_cons ?_
    refine TR.pd_name 3 rfl rfl ?_
    refine TR.pa_nil ?_
    refine TR.pa_cons ?_
    refine TR.pd_int ?_
    refine TR.pa_nil ?_
    refine ⟨_, _, rfl, by decide, ?_⟩
    refine TR.pd_int ?_
    refine TR.pa_nil ?_
    refine TR.pa_cons ?_
    refine TR.pd_int ?_
    refine TR.pa_nil ?_
    refine ⟨_, _, rfl, by decide, ?_⟩
    refine TR.psd_nil ?_
    exact ⟨_, _, rfl⟩
  have h3 : ∀ (b : Int) (o : Option En), ∀ e, (match (defBody s_law_deck).getD 2 (.Pass ⟨0, 0, 0, 0⟩) with | .Return (some e) _ => e | _ => .Constant .none 0 ⟨0, 0, 0, 0⟩) = e →
      PE (bCx P w K mg base ["script", "number", "blend", "cell"] "_law_deck" s_law_deck f cdv A outer s H E) e (tDeckNew tabs K F0 H [some (.dat (.list (ns.map .int))), some (.dat (.int nn)), some (.dat (.int b)), o]) := by
    intro b o e he
    subst he
    refine pe_deckNew ?_
    refine TR.pn_rev rfl ?_
    refine TR.pd_ofN ?_
    refine TR.pn_lc (.nm 3) (own := [("cell", 3)]) rfl sc_law_deck.nd (blkOk_by rfl) (fun _ _ _ _ _ => (pg_name (i := 3) sc_law_deck.nd rfl (.inl rfl) (.inr rfl))) (by decide) ?_
    refine TR.pid_list rfl ?_
    refine TR.pd_ofN ?_
    refine TR.pn_take (k := 63) rfl rfl ?_
    refine TR.pd_name 0 rfl rfl ?_
    refine lcw_map id (by simp; omega) (fun i d hd => ?_) ?_
    · replace hd : (List.take 63 (ns.map PyData.int))[i]? = some d := hd
      rw [← List.map_take] at hd
      obtain ⟨c, _, _, rfl⟩ := ints_inv hd
      refine ⟨_, rfl, fun s H C cl fp => ?_⟩
      refine TR.pd_intOf M.z_int ?_
      refine TR.pa_cons ?_
      refine TR.pd_name 3 rfl rfl ?_
      refine TR.pa_nil ?_
      rfl
    · refine ⟨⟨(ns.take 63).reverse, by rw [List.map_id, ← List.map_take, List.map_reverse], by simp; omega⟩, ?_⟩
      refine TR.pd_name 2 rfl rfl ?_
      refine ⟨⟨_, rfl⟩, ?_⟩
      refine TR.pd_int ?_
      exact ⟨_, rfl⟩
  refine ⟨_, pss_cons (PS.univ _ _) (PSs.univ _ _), _, h1, F0, g0, fun F1 H1 σ1 ρ1 g1 _ q1 => ?_, fun _ _ _ _ _ _ z => z.elim, fun _ _ _ _ _ _ z => z.elim, fun _ _ _ _ _ _ z => z.elim⟩
  subst q1
  refine ⟨_, pss_cons (PS.univ _ _) (PSs.univ _ _), _, h2, F1, g1, fun F2 H2 σ2 ρ2 g2 _ q2 => ?_, fun _ _ _ _ _ _ z => z.elim, fun _ _ _ _ _ _ z => z.elim, fun _ _ _ _ _ _ z => z.elim⟩
  obtain ⟨b, o, rfl⟩ := q2
  refine ⟨_, pss_one (ps_ret (h3 b o _ rfl)), F2, g2, fun F' H' ad al dn => ?_⟩
  exact kv F' H' ad al ⟨g2.st.trans dn.st, dn.nw⟩
end
end K33

set_option maxRecDepth 100000
set_option maxHeartbeats 4000000
namespace TR
open PySem PySem.Spec PyProof.Rows L2
/-- all but the tables -/
noncomputable def noTbl (H : Hp) : Hp := fun b => match H b with | some (.tbl _) => none | x => x
theorem noTbl_some {H : Hp} {b : Addr} {o : HO} (h : noTbl H b = some o) : H b = some o ∧ ∀ ps, o ≠ .tbl ps := by
  unfold noTbl at h
  split at h
  · cases h
  · rename_i x hx
    exact ⟨h, fun ps z => hx ps (by rw [h, z])⟩
theorem noTbl_of {H : Hp} {b : Addr} {o : HO} (h : H b = some o) (n : ∀ ps, o ≠ .tbl ps) : noTbl H b = some o := by
  unfold noTbl
  split
  · rename_i ps hx
    rw [h] at hx
    exact (n ps (Option.some.inj hx)).elim
  · exact h
theorem stp_start {tabs : List (Addr × Str)} {H : Hp} (hT : ∀ p ∈ tabs, H p.1 = some (.tbl #[])) : Stp ⟨none, tabs⟩ (noTbl H) H (noTbl H) H where
  ex := fun b o h => (noTbl_some h).1
  old := fun _ _ h => h
  keep := fun _ _ h _ _ => h
  new := fun _ _ h => .inl h
  fdk := fun b hb => by
    have hb' : b ∈ tabs.map (·.1) := by simpa [Rs.dk] using hb
    obtain ⟨p, hp, rfl⟩ := List.mem_map.mp hb'
    unfold noTbl
    rw [hT p hp]
  dal := fun b hb => by
    have hb' : b ∈ tabs.map (·.1) := by simpa [Rs.dk] using hb
    obtain ⟨p, hp, rfl⟩ := List.mem_map.mp hb'
    rw [hT p hp]; simp
  fnt := fun b o h => (noTbl_some h).2
  dw := ⟨fun _ _ h => (by cases h), fun p hp => LamX.TabS.nil (hT p hp)⟩
theorem script_dp {K : PySem.W.Frag} {H : Hp} {a : Addr} {ns : List Int} (h : SqL K H a (ns.map V.int)) : Dp K (noTbl H) (.ref a) (.list (ns.map .int)) := by
  refine .lst ?_ (dpAll_ints ns)
  rcases h with (h | ⟨o, h⟩) | h
  · exact .inl (.inl (noTbl_of h fun _ z => by cases z))
  · exact .inl (.inr ⟨o, noTbl_of h fun _ z => by cases z⟩)
  · exact .inr h
section
variable {P : Program} {w : World} {K : PySem.W.Frag} {mg : Str → Option Value} {base : Heap} {tabs : List (Addr × Str)}
/-- a def that knows the deck, whatever the deck -/
theorem fn_deck {k : Nat} {x : Str} {st : Stmt} {ps : List Str} {Pr : Addr → Pf} (h : ∀ ad al, Fd P w K mg base ⟨some (ad, al), tabs⟩ k x st ps (Pr ad)) :
    ∃ f fd, mg x = some (.ref f) ∧ Fun K x x st f fd ∧ (∀ us : List Value, us.length = ps.length → bindArgs fd ⟨us, []⟩ = pure (ps.zip us)) ∧ FnOk P w K mg base (L2.CX P w) k f fd ps (fun vs H Q E => ∃ ad al, spD K ⟨some (ad, al), tabs⟩ (Pr ad) vs H Q E) := by
  obtain ⟨f, fd, hm, hf, hb, F⟩ := (h 0 0).ex
  have key : ∀ ad al, FnOk P w K mg base (L2.CX P w) k f fd ps (spD K ⟨some (ad, al), tabs⟩ (Pr ad)) := fun ad al => by
    obtain ⟨f', fd', hm', hf', hb', F'⟩ := (h ad al).ex
    rw [hm] at hm'
    cases hm'
    obtain ⟨_, _, _, _, _, _, _, _, _, _, l1, _⟩ := hf.ex
    obtain ⟨_, _, _, _, _, _, _, _, _, _, l2, _⟩ := hf'.ex
    rw [l1] at l2
    cases l2
    exact F'
  exact ⟨f, fd, hm, hf, hb, ⟨fun vs H Q E ⟨ad, al, q⟩ => (key ad al).len _ _ _ _ q, fun A outer s H args us vs Q E hr e0 hb hv ⟨ad, al, q⟩ => (key ad al).run A outer s H args us vs Q E hr e0 hb hv q⟩⟩
def spLaw (K : PySem.W.Frag) (tabs : List (Addr × Str)) : Sp := fun vs H Q E => ∃ (a : Addr) (ns : List Int), vs = [.ref a] ∧ SqL K H a (ns.map V.int) ∧ ns.length ≤ 63 ∧ (∀ p ∈ tabs, H p.1 = some (.tbl #[])) ∧ ∀ H', Q (.bl true) H'
end
/-- the end of a law, with what the loose names mean -/
theorem walkT {l : PySem.W.OpenLaw} {n k : Nat} {q : Program} {loose : List Str} {XP : (Str → Option Value) → Heap → Prop} {YP : World → Heap → Prop} {d : DefRec} {K : Params → PySem.W.Frag} {CX : World → CXT} {x : Str}
    (hn : l.most = some n) (hn2 : n ≤ sizeLine) (hdf : d.params.defaults = []) (hr : Room k callerA) (hY : ∀ (w : World) (h : Heap), YP w h → (K w.params).In h)
    (F : ∀ (w : World) (mg : Str → Option Value) (fa : Addr) (h : Heap), XP mg h → YP w h → (K w.params).In h → h.Ns mainGlobals mg → mg d.name = some (.ref fa) → LamX.LawAtS l w (K w.params) (CX w) k n x mg fa h)
    (hCX : ∀ (w : World) (H : Hp) (s : Shared) (e : Value) (s' : Shared), CX w [] H s (fun _ _ _ => False) e s' → False) :
    PySem.W.WalkO q loose XP YP l.row.toRowW d [] (fun f vs => PySem.call f vs) := by
  refine Att.attach_callB hn hdf fun w s₀ s₁ mg mb fa o pm cd doc a vs ns G Y ho hd hcd hmg hobj hints hlen hbits hg => ?_
  have KX := hY w _ Y
  obtain ⟨fd, cs, sp, hT, nT, C, hb, hsp, hF⟩ := F w mg fa _ G.X Y KX G.T.g hmg
  exact LamX.law_callTs KX G.T.g G.T.b G.T.builtins G.T.nolimit hg hT nT C G.T.bmain hobj hints (Nat.le_trans hlen hn2) hr hF hb (fun H hH hS => hsp H a ns hlen hbits hH hS) fun H e s' => hCX w H s₁ e s'
end TR
namespace K33
open PySem PySem.Spec PyProof.Rows L2 TR
section
variable {P : Program} {w : World} {K : PySem.W.Frag} {mg : Str → Option Value} {base : Heap} {tabs : List (Addr × Str)}
abbrev s_law : Stmt := topS 32
theorem sc_law : FnScope ["script"] ["script"] (defScope s_law) := ⟨rfl, rfl, rfl, by decide +kernel, rfl, by decide +kernel, by decide +kernel⟩
theorem ok_law {f fD : Addr} {fd fdD : FuncData} (F : Fun K "law" "law" s_law f fd) (mD : mg "_law_deck" = some (.ref fD)) (FD : Fun K "_law_deck" "_law_deck" s_law_deck fD fdD)
    (bD : ∀ us : List Value, us.length = (["script", "number"] : List Str).length → bindArgs fdD ⟨us, []⟩ = pure ((["script", "number"] : List Str).zip us)) (oD : FnOk P w K mg base (L2.CX P w) 3 fD fdD ["script", "number"] (spDeck K tabs))
    (hA : ∀ ad al, Fd P w K mg base ⟨some (ad, al), tabs⟩ 14 "_law_is_all_right" s_law_is_all_right ["deck"] (fun ens Φ => ens = [.raw (.ref ad)] ∧ Φ (.val (.bool true)))) : FnOk P w K mg base CX0 16 f fd ["script"] (spLaw K tabs) := by
  obtain ⟨fA, fdA, mA, FA, bA, oA⟩ := fn_deck (Pr := fun ad ens Φ => ens = [.raw (.ref ad)] ∧ Φ (.val (.bool true))) hA
  refine F.ok sc_law (fun vs H Q E ⟨a, ns, e, _⟩ => by rw [e]; rfl) fun cdv A outer s H vs Q E hr ⟨a, ns, e, hS, hns, hT, k⟩ => ?_
  subst e
  have hr1 : Room 15 (cxOf CX0 P w K mg base ["script"] "law" (defScope s_law) f cdv A outer s H E).nox.A := hr
  refine ⟨_, pss_one (ps_try_thru0 (pss_one (ps_ret (pe_call (CX := L2.CX P w) (E := fun _ _ _ => False) oA (hr1.mono (by decide)) rfl mA FA.kp (.all bA) .nil (passes_call takes0 fun _ _ _ _ h => h)
    (L2.pa_cons (pe_call (CX := L2.CX P w) (E := fun _ _ _ => False) oD (hr1.mono (by decide)) rfl mD FD.kp (.all bD) .nil (passes_call takes0 fun _ _ _ _ h => h) (L2.pa_cons (pe_var (i := 0) rfl (.inl rfl) (by decide) (by decide)) (L2.pa_cons pe_int L2.pa_nil)) (by decide)) L2.pa_nil) (by decide))))), ?_⟩
  refine ⟨.ref a, rfl, ?_⟩
  refine ⟨noTbl H, ns, 2413733, stp_start hT, .cons (e := .dat (.list (ns.map .int))) (script_dp hS) (.cons (e := .dat (.int 2413733)) (.int _) .nil), hns, fun F' H' ad al dn => ?_⟩
  refine ⟨ad, al, F', [.raw (.ref ad)], fun o => o = .val (.bool true), dn.nw, .cons (e := .raw (.ref ad)) rfl .nil, ⟨rfl, rfl⟩, fun F2 H2 v d _ rv hd => ?_, fun F2 H2 C d0 v d _ _ _ hd => by cases hd⟩
  cases hd
  rw [bool_inv rv]
  exact k H2
end
end K33

set_option maxRecDepth 100000
set_option maxHeartbeats 4000000
namespace K33
open PySem PySem.Spec PyProof.Rows L2 TR
theorem exmAny2 {K : PySem.W.Frag} {cls c1 c2 : Value} {b1 b2 : Bool} (h1 : PySem.W.exmOne K cls c1 = some b1) (h2 : PySem.W.exmOne K cls c2 = some b2) : PySem.W.exmAny K cls [c1, c2] = some (b1 || b2) := by
  simp [PySem.W.exmAny, h1, h2]
theorem all_mk {P : Program} {w : World} {K : PySem.W.Frag} {h : Heap} {mg : Str → Option Value} {fa : Addr}
    {tB tR : Tok}
    {cM cR cT fI : Addr}
    {nmcM qcM : Str}{NcM : Addr} {bscM : List Value} {sncM : List Str} {subcM : List Value} {abcM : Bool} {colcM : Option Bool} {ddcM : Option Addr} {m0cM m1cM m2cM m3cM m5cM : Option Value}
    {nmcR qcR : Str}{NcR : Addr} {bscR : List Value} {sncR : List Str} {subcR : List Value} {abcR : Bool} {colcR : Option Bool} {ddcR : Option Addr} {m0cR m1cR m2cR m3cR m5cR : Option Value}
    {ocI docI pmI cdI ctI : Value} {odI anI : Option Addr} {slI : Array (Option Value)} {p1 p2 q1 q2 q3 q4 : Pos}
    {f2 : Addr} {oc2 kV2 dc2 pm2 ct2 : Value} {od2 an2 : Option Addr} {sl2 : Array (Option Value)}
    {cd2 : Value}
    {f3 : Addr} {oc3 kV3 dc3 pm3 ct3 : Value} {od3 an3 : Option Addr} {sl3 : Array (Option Value)}
    {cd3 : Value}
    {f11 : Addr} {oc11 kV11 dc11 pm11 ct11 : Value} {od11 an11 : Option Addr} {sl11 : Array (Option Value)}
    {cd11 : Value}
    {f12 : Addr} {oc12 kV12 dc12 pm12 ct12 : Value} {od12 an12 : Option Addr} {sl12 : Array (Option Value)}
    {cd12 : Value}
    {f13 : Addr} {oc13 kV13 dc13 pm13 ct13 : Value} {od13 an13 : Option Addr} {sl13 : Array (Option Value)}
    {cd13 : Value}
    {f14 : Addr} {oc14 kV14 dc14 pm14 ct14 : Value} {od14 an14 : Option Addr} {sl14 : Array (Option Value)}
    {cd14 : Value}
    {f15 : Addr} {oc15 kV15 dc15 pm15 ct15 : Value} {od15 an15 : Option Addr} {sl15 : Array (Option Value)}
    {cd15 : Value}
    {f16 : Addr} {oc16 kV16 dc16 pm16 ct16 : Value} {od16 an16 : Option Addr} {sl16 : Array (Option Value)}
    {cd16 : Value}
    {f17 : Addr} {oc17 kV17 dc17 pm17 ct17 : Value} {od17 an17 : Option Addr} {sl17 : Array (Option Value)}
    {cd17 : Value}
    {f19 : Addr} {oc19 kV19 dc19 pm19 ct19 : Value} {od19 an19 : Option Addr} {sl19 : Array (Option Value)}
    {cd19 : Value}
    {f20 : Addr} {oc20 kV20 dc20 pm20 ct20 : Value} {od20 an20 : Option Addr} {sl20 : Array (Option Value)}
    {cd20 : Value}
    {f21 : Addr} {oc21 kV21 dc21 pm21 ct21 : Value} {od21 an21 : Option Addr} {sl21 : Array (Option Value)}
    {cd21 : Value}
    {f22 : Addr} {oc22 kV22 dc22 pm22 ct22 : Value} {od22 an22 : Option Addr} {sl22 : Array (Option Value)}
    {cd22 : Value}
    {f23 : Addr} {oc23 kV23 dc23 pm23 ct23 : Value} {od23 an23 : Option Addr} {sl23 : Array (Option Value)}
    {cd23 : Value}
    {f24 : Addr} {oc24 kV24 dc24 pm24 ct24 : Value} {od24 an24 : Option Addr} {sl24 : Array (Option Value)}
    {cd24 : Value}
    {f25 : Addr} {oc25 kV25 dc25 pm25 ct25 : Value} {od25 an25 : Option Addr} {sl25 : Array (Option Value)}
    {cd25 : Value}
    {f26 : Addr} {oc26 kV26 dc26 pm26 ct26 : Value} {od26 an26 : Option Addr} {sl26 : Array (Option Value)}
    {cd26 : Value}
    {f27 : Addr} {oc27 kV27 dc27 pm27 ct27 : Value} {od27 an27 : Option Addr} {sl27 : Array (Option Value)}
    {cd27 : Value}
    {f28 : Addr} {oc28 kV28 dc28 pm28 ct28 : Value} {od28 an28 : Option Addr} {sl28 : Array (Option Value)}
    {cc28 T28 : Addr} {ov28 : Option Addr} {vs28 : Array Value} {sv28 : Array (Option Value)}
    {f29 : Addr} {oc29 kV29 dc29 pm29 ct29 : Value} {od29 an29 : Option Addr} {sl29 : Array (Option Value)}
    {cc29 T29 : Addr} {ov29 : Option Addr} {vs29 : Array Value} {sv29 : Array (Option Value)}
    {f30 : Addr} {oc30 kV30 dc30 pm30 ct30 : Value} {od30 an30 : Option Addr} {sl30 : Array (Option Value)}
    {cc30 T30 : Addr} {ov30 : Option Addr} {vs30 : Array Value} {sv30 : Array (Option Value)}
    {f31 : Addr} {oc31 kV31 dc31 pm31 ct31 : Value} {od31 an31 : Option Addr} {sl31 : Array (Option Value)}
    {cd31 : Value}
    {f32 : Addr} {oc32 kV32 dc32 pm32 ct32 : Value} {od32 an32 : Option Addr} {sl32 : Array (Option Value)}
    {cd32 : Value}
    (X : K.In h) (G : h.Ns mainGlobals mg) (hfa : mg "law" = some (.ref fa)) (hSh : ∃ t, mg "MOST_SHARE" = some (.int 1000000 t))
    (zrange : PySem.W.nsIn K mainGlobals "range" = some none)
    (zlen : PySem.W.nsIn K mainGlobals "len" = some none)
    (zint : PySem.W.nsIn K mainGlobals "int" = some none)
    (zbool : PySem.W.nsIn K mainGlobals "bool" = some none)
    (zstr : PySem.W.nsIn K mainGlobals "str" = some none)
    (zlist : PySem.W.nsIn K mainGlobals "list" = some none)
    (ztuple : PySem.W.nsIn K mainGlobals "tuple" = some none)
    (zisinstance : PySem.W.nsIn K mainGlobals "isinstance" = some none)
    (zabs : PySem.W.nsIn K mainGlobals "abs" = some none)
    (zsum : PySem.W.nsIn K mainGlobals "sum" = some none)
    (zall : PySem.W.nsIn K mainGlobals "all" = some none)
    (zmin : PySem.W.nsIn K mainGlobals "min" = some none)
    (zmax : PySem.W.nsIn K mainGlobals "max" = some none)
    (zzip : PySem.W.nsIn K mainGlobals "zip" = some none)
    (gB : PySem.W.nsIn K mainGlobals "MOST_BITS" = some (some (.int 1400 tB)))
    (gR : PySem.W.nsIn K mainGlobals "MOST_ROWS" = some (some (.int 60 tR)))
    (acM : PySem.W.nsIn K mainGlobals "BadMany" = some (some (.ref cM)))
    (xcM : K.lookup cM = some (excClassObj nmcM qcM cM NcM bscM (.ref cT :: exTl) true sncM subcM abcM colcM ddcM m0cM m1cM m2cM m3cM m5cM "Exception.__new__"))
    (sacM : PySem.W.findIn K (.ref cM) "__setattr__" = some (some (.builtin "object.__setattr__")))
    (nocM : PySem.W.findIn K (.ref cM) "thing" = some none)
    (iccM : PySem.W.findIn K (.ref cM) "__init__" = some (some (.ref fI)))
    (kccM : PySem.W.keepIn K (.ref cM) = true)
    (excM : PySem.W.subIn K (.ref cM) (.type "BaseException") = some true)
    (tycM : PySem.W.typeIn K (.ref cM) = some (.type "type"))
    (gacM : PySem.W.findIn K (.ref cM) "__getattribute__" = some (some (.builtin "BaseException.__getattribute__")))
    (ggcM : PySem.W.findIn K (.ref cM) "__getattr__" = some none)
    (hdcM : PySem.W.hasDictIn K cM = true)
    (hacM : PySem.W.findIn K (.ref cM) "__class__" = some (some (.builtin "object.__class__")))
    (hmcM : PySem.W.mroIn K cM (.type "object") = some true)
    (smcM : PySem.W.subIn K (.ref cM) (.ref cM) = some true)
    (acR : PySem.W.nsIn K mainGlobals "BadRange" = some (some (.ref cR)))
    (xcR : K.lookup cR = some (excClassObj nmcR qcR cR NcR bscR (.ref cT :: exTl) true sncR subcR abcR colcR ddcR m0cR m1cR m2cR m3cR m5cR "Exception.__new__"))
    (sacR : PySem.W.findIn K (.ref cR) "__setattr__" = some (some (.builtin "object.__setattr__")))
    (nocR : PySem.W.findIn K (.ref cR) "thing" = some none)
    (iccR : PySem.W.findIn K (.ref cR) "__init__" = some (some (.ref fI)))
    (kccR : PySem.W.keepIn K (.ref cR) = true)
    (excR : PySem.W.subIn K (.ref cR) (.type "BaseException") = some true)
    (tycR : PySem.W.typeIn K (.ref cR) = some (.type "type"))
    (gacR : PySem.W.findIn K (.ref cR) "__getattribute__" = some (some (.builtin "BaseException.__getattribute__")))
    (ggcR : PySem.W.findIn K (.ref cR) "__getattr__" = some none)
    (hdcR : PySem.W.hasDictIn K cR = true)
    (hacR : PySem.W.findIn K (.ref cR) "__class__" = some (some (.builtin "object.__class__")))
    (hmcR : PySem.W.mroIn K cR (.type "object") = some true)
    (smcR : PySem.W.subIn K (.ref cR) (.ref cM) = some false)
    (srcR : PySem.W.subIn K (.ref cR) (.ref cR) = some true)
    (tI : PySem.W.typeIn K (.ref fI) = some (.type "function"))
    (lI : K.lookup fI = some ⟨ocI, odI, .func (PySem.W.fnOf "__init__" "ToldError.__init__" (iA p1 p2) (iB q1 q2 q3 q4) iS .none .none docI pmI anI cdI ctI), slI⟩)
    (cI : PySem.W.codeIn K cdI "ToldError.__init__" = true)
    (hn : PySem.W.specialIn K (.builtin "object.__class__") "__get__" = some (some (.builtin "getset_descriptor.__get__")))
    (ht : PySem.W.takesIn K (.builtin "object.__class__") = some true)
    (ne : cR ≠ cM)
    (kR : PySem.W.kitOne K (.ref cR) (.ref cM) = some false)
    (a2 : PySem.W.nsIn K mainGlobals "is_whole" = some (some (.ref f2)))
    (l2 : K.lookup f2 = some ⟨oc2, od2, .func (PySem.W.fnOf "is_whole" "is_whole" (defArgs (topS 2)) (defBody (topS 2)) (defScope (topS 2)) .none kV2 dc2 pm2 an2 cd2 ct2), sl2⟩)
    (c2 : PySem.W.codeIn K cd2 "is_whole" = true)
    (k2 : PySem.W.keepIn K (.ref f2) = true)
    (a3 : PySem.W.nsIn K mainGlobals "is_whole_between" = some (some (.ref f3)))
    (l3 : K.lookup f3 = some ⟨oc3, od3, .func (PySem.W.fnOf "is_whole_between" "is_whole_between" (defArgs (topS 3)) (defBody (topS 3)) (defScope (topS 3)) .none kV3 dc3 pm3 an3 cd3 ct3), sl3⟩)
    (c3 : PySem.W.codeIn K cd3 "is_whole_between" = true)
    (k3 : PySem.W.keepIn K (.ref f3) = true)
    (a11 : PySem.W.nsIn K mainGlobals "need_between" = some (some (.ref f11)))
    (l11 : K.lookup f11 = some ⟨oc11, od11, .func (PySem.W.fnOf "need_between" "need_between" (defArgs (topS 11)) (defBody (topS 11)) (defScope (topS 11)) .none kV11 dc11 pm11 an11 cd11 ct11), sl11⟩)
    (c11 : PySem.W.codeIn K cd11 "need_between" = true)
    (k11 : PySem.W.keepIn K (.ref f11) = true)
    (a12 : PySem.W.nsIn K mainGlobals "choices_by" = some (some (.ref f12)))
    (l12 : K.lookup f12 = some ⟨oc12, od12, .func (PySem.W.fnOf "choices_by" "choices_by" (defArgs (topS 12)) (defBody (topS 12)) (defScope (topS 12)) .none kV12 dc12 pm12 an12 cd12 ct12), sl12⟩)
    (c12 : PySem.W.codeIn K cd12 "choices_by" = true)
    (k12 : PySem.W.keepIn K (.ref f12) = true)
    (a13 : PySem.W.nsIn K mainGlobals "misled_by" = some (some (.ref f13)))
    (l13 : K.lookup f13 = some ⟨oc13, od13, .func (PySem.W.fnOf "misled_by" "misled_by" (defArgs (topS 13)) (defBody (topS 13)) (defScope (topS 13)) .none kV13 dc13 pm13 an13 cd13 ct13), sl13⟩)
    (c13 : PySem.W.codeIn K cd13 "misled_by" = true)
    (k13 : PySem.W.keepIn K (.ref f13) = true)
    (a14 : PySem.W.nsIn K mainGlobals "is_enough" = some (some (.ref f14)))
    (l14 : K.lookup f14 = some ⟨oc14, od14, .func (PySem.W.fnOf "is_enough" "is_enough" (defArgs (topS 14)) (defBody (topS 14)) (defScope (topS 14)) .none kV14 dc14 pm14 an14 cd14 ct14), sl14⟩)
    (c14 : PySem.W.codeIn K cd14 "is_enough" = true)
    (k14 : PySem.W.keepIn K (.ref f14) = true)
    (a15 : PySem.W.nsIn K mainGlobals "choices" = some (some (.ref f15)))
    (l15 : K.lookup f15 = some ⟨oc15, od15, .func (PySem.W.fnOf "choices" "choices" (defArgs (topS 15)) (defBody (topS 15)) (defScope (topS 15)) .none kV15 dc15 pm15 an15 cd15 ct15), sl15⟩)
    (c15 : PySem.W.codeIn K cd15 "choices" = true)
    (k15 : PySem.W.keepIn K (.ref f15) = true)
    (a16 : PySem.W.nsIn K mainGlobals "misled" = some (some (.ref f16)))
    (l16 : K.lookup f16 = some ⟨oc16, od16, .func (PySem.W.fnOf "misled" "misled" (defArgs (topS 16)) (defBody (topS 16)) (defScope (topS 16)) .none kV16 dc16 pm16 an16 cd16 ct16), sl16⟩)
    (c16 : PySem.W.codeIn K cd16 "misled" = true)
    (k16 : PySem.W.keepIn K (.ref f16) = true)
    (a17 : PySem.W.nsIn K mainGlobals "least_draw" = some (some (.ref f17)))
    (l17 : K.lookup f17 = some ⟨oc17, od17, .func (PySem.W.fnOf "least_draw" "least_draw" (defArgs (topS 17)) (defBody (topS 17)) (defScope (topS 17)) .none kV17 dc17 pm17 an17 cd17 ct17), sl17⟩)
    (c17 : PySem.W.codeIn K cd17 "least_draw" = true)
    (k17 : PySem.W.keepIn K (.ref f17) = true)
    (a19 : PySem.W.nsIn K mainGlobals "_law_modulo" = some (some (.ref f19)))
    (l19 : K.lookup f19 = some ⟨oc19, od19, .func (PySem.W.fnOf "_law_modulo" "_law_modulo" (defArgs (topS 19)) (defBody (topS 19)) (defScope (topS 19)) .none kV19 dc19 pm19 an19 cd19 ct19), sl19⟩)
    (c19 : PySem.W.codeIn K cd19 "_law_modulo" = true)
    (k19 : PySem.W.keepIn K (.ref f19) = true)
    (a20 : PySem.W.nsIn K mainGlobals "_law_deck" = some (some (.ref f20)))
    (l20 : K.lookup f20 = some ⟨oc20, od20, .func (PySem.W.fnOf "_law_deck" "_law_deck" (defArgs (topS 20)) (defBody (topS 20)) (defScope (topS 20)) .none kV20 dc20 pm20 an20 cd20 ct20), sl20⟩)
    (c20 : PySem.W.codeIn K cd20 "_law_deck" = true)
    (k20 : PySem.W.keepIn K (.ref f20) = true)
    (a21 : PySem.W.nsIn K mainGlobals "_law_draw" = some (some (.ref f21)))
    (l21 : K.lookup f21 = some ⟨oc21, od21, .func (PySem.W.fnOf "_law_draw" "_law_draw" (defArgs (topS 21)) (defBody (topS 21)) (defScope (topS 21)) .none kV21 dc21 pm21 an21 cd21 ct21), sl21⟩)
    (c21 : PySem.W.codeIn K cd21 "_law_draw" = true)
    (k21 : PySem.W.keepIn K (.ref f21) = true)
    (a22 : PySem.W.nsIn K mainGlobals "_law_pick" = some (some (.ref f22)))
    (l22 : K.lookup f22 = some ⟨oc22, od22, .func (PySem.W.fnOf "_law_pick" "_law_pick" (defArgs (topS 22)) (defBody (topS 22)) (defScope (topS 22)) .none kV22 dc22 pm22 an22 cd22 ct22), sl22⟩)
    (c22 : PySem.W.codeIn K cd22 "_law_pick" = true)
    (k22 : PySem.W.keepIn K (.ref f22) = true)
    (a23 : PySem.W.nsIn K mainGlobals "_law_same" = some (some (.ref f23)))
    (l23 : K.lookup f23 = some ⟨oc23, od23, .func (PySem.W.fnOf "_law_same" "_law_same" (defArgs (topS 23)) (defBody (topS 23)) (defScope (topS 23)) .none kV23 dc23 pm23 an23 cd23 ct23), sl23⟩)
    (c23 : PySem.W.codeIn K cd23 "_law_same" = true)
    (k23 : PySem.W.keepIn K (.ref f23) = true)
    (a24 : PySem.W.nsIn K mainGlobals "_law_heard" = some (some (.ref f24)))
    (l24 : K.lookup f24 = some ⟨oc24, od24, .func (PySem.W.fnOf "_law_heard" "_law_heard" (defArgs (topS 24)) (defBody (topS 24)) (defScope (topS 24)) .none kV24 dc24 pm24 an24 cd24 ct24), sl24⟩)
    (c24 : PySem.W.codeIn K cd24 "_law_heard" = true)
    (k24 : PySem.W.keepIn K (.ref f24) = true)
    (a25 : PySem.W.nsIn K mainGlobals "_law_rows_of" = some (some (.ref f25)))
    (l25 : K.lookup f25 = some ⟨oc25, od25, .func (PySem.W.fnOf "_law_rows_of" "_law_rows_of" (defArgs (topS 25)) (defBody (topS 25)) (defScope (topS 25)) .none kV25 dc25 pm25 an25 cd25 ct25), sl25⟩)
    (c25 : PySem.W.codeIn K cd25 "_law_rows_of" = true)
    (k25 : PySem.W.keepIn K (.ref f25) = true)
    (a26 : PySem.W.nsIn K mainGlobals "_law_misled" = some (some (.ref f26)))
    (l26 : K.lookup f26 = some ⟨oc26, od26, .func (PySem.W.fnOf "_law_misled" "_law_misled" (defArgs (topS 26)) (defBody (topS 26)) (defScope (topS 26)) .none kV26 dc26 pm26 an26 cd26 ct26), sl26⟩)
    (c26 : PySem.W.codeIn K cd26 "_law_misled" = true)
    (k26 : PySem.W.keepIn K (.ref f26) = true)
    (a27 : PySem.W.nsIn K mainGlobals "_law_listed" = some (some (.ref f27)))
    (l27 : K.lookup f27 = some ⟨oc27, od27, .func (PySem.W.fnOf "_law_listed" "_law_listed" (defArgs (topS 27)) (defBody (topS 27)) (defScope (topS 27)) .none kV27 dc27 pm27 an27 cd27 ct27), sl27⟩)
    (c27 : PySem.W.codeIn K cd27 "_law_listed" = true)
    (k27 : PySem.W.keepIn K (.ref f27) = true)
    (a28 : PySem.W.nsIn K mainGlobals "_law_are_choices_right" = some (some (.ref f28)))
    (l28 : K.lookup f28 = some ⟨oc28, od28, .func (PySem.W.fnOf "_law_are_choices_right" "_law_are_choices_right" (defArgs (topS 28)) (defBody (topS 28)) (defScope (topS 28)) .none kV28 dc28 pm28 an28 (.ref cc28) ct28), sl28⟩)
    (c28 : PySem.W.codeIn K (.ref cc28) "_law_are_choices_right" = true)
    (k28 : PySem.W.keepIn K (.ref f28) = true)
    (v28 : K.lookup cc28 = some ⟨.type "code", ov28, .fields vs28, sv28⟩)
    (t28 : vs28[11]? = some (.ref T28))
    (e28 : PySem.W.codeHdIn K cc28 T28 = true)
    (n28 : K.lookup T28 = none)
    (h28 : h.get? T28 = some { cls := .none, data := .fields #[] })
    (a29 : PySem.W.nsIn K mainGlobals "_law_are_misled_right" = some (some (.ref f29)))
    (l29 : K.lookup f29 = some ⟨oc29, od29, .func (PySem.W.fnOf "_law_are_misled_right" "_law_are_misled_right" (defArgs (topS 29)) (defBody (topS 29)) (defScope (topS 29)) .none kV29 dc29 pm29 an29 (.ref cc29) ct29), sl29⟩)
    (c29 : PySem.W.codeIn K (.ref cc29) "_law_are_misled_right" = true)
    (k29 : PySem.W.keepIn K (.ref f29) = true)
    (v29 : K.lookup cc29 = some ⟨.type "code", ov29, .fields vs29, sv29⟩)
    (t29 : vs29[11]? = some (.ref T29))
    (e29 : PySem.W.codeHdIn K cc29 T29 = true)
    (n29 : K.lookup T29 = none)
    (h29 : h.get? T29 = some { cls := .none, data := .fields #[] })
    (a30 : PySem.W.nsIn K mainGlobals "_law_is_least_right" = some (some (.ref f30)))
    (l30 : K.lookup f30 = some ⟨oc30, od30, .func (PySem.W.fnOf "_law_is_least_right" "_law_is_least_right" (defArgs (topS 30)) (defBody (topS 30)) (defScope (topS 30)) .none kV30 dc30 pm30 an30 (.ref cc30) ct30), sl30⟩)
    (c30 : PySem.W.codeIn K (.ref cc30) "_law_is_least_right" = true)
    (k30 : PySem.W.keepIn K (.ref f30) = true)
    (v30 : K.lookup cc30 = some ⟨.type "code", ov30, .fields vs30, sv30⟩)
    (t30 : vs30[11]? = some (.ref T30))
    (e30 : PySem.W.codeHdIn K cc30 T30 = true)
    (n30 : K.lookup T30 = none)
    (h30 : h.get? T30 = some { cls := .none, data := .fields #[] })
    (a31 : PySem.W.nsIn K mainGlobals "_law_is_all_right" = some (some (.ref f31)))
    (l31 : K.lookup f31 = some ⟨oc31, od31, .func (PySem.W.fnOf "_law_is_all_right" "_law_is_all_right" (defArgs (topS 31)) (defBody (topS 31)) (defScope (topS 31)) .none kV31 dc31 pm31 an31 cd31 ct31), sl31⟩)
    (c31 : PySem.W.codeIn K cd31 "_law_is_all_right" = true)
    (k31 : PySem.W.keepIn K (.ref f31) = true)
    (a32 : PySem.W.nsIn K mainGlobals "law" = some (some (.ref f32)))
    (l32 : K.lookup f32 = some ⟨oc32, od32, .func (PySem.W.fnOf "law" "law" (defArgs (topS 32)) (defBody (topS 32)) (defScope (topS 32)) .none kV32 dc32 pm32 an32 cd32 ct32), sl32⟩)
    (c32 : PySem.W.codeIn K cd32 "law" = true)
    (k32 : PySem.W.keepIn K (.ref f32) = true)
    (smr : ∃ b, PySem.W.subIn K (.ref cM) (.ref cR) = some b)
    (nT : T28 ≠ T29 ∧ T28 ≠ T30 ∧ T29 ≠ T30) :
    ∃ (fd : FuncData) (cs : List (Addr × Addr)) (sp : Sp), (∀ p ∈ cs, h.get? p.2 = some { cls := .none, data := .fields #[] }) ∧ (∀ p ∈ cs, K.lookup p.2 = none) ∧ (∀ p ∈ cs, PySem.W.CodeHd h p.1 p.2) ∧ (∀ (s : Shared) (u : Value), BindsTo s fd ⟨[u], []⟩ [("script", u)]) ∧
      (∀ (H : Hp) (a : Addr) (ns : List Int), ns.length ≤ 63 → (∀ z ∈ ns, Builtin.Int.intBits z ≤ 1048576) → (∀ p ∈ cs, H p.2 = some (.tbl #[])) → SqL K H a (ns.map V.int) → sp [.ref a] H (fun v _ => v = .bl true) fun _ _ _ => False) ∧
      ∀ base : Heap, K.In base → base.Ns mainGlobals mg → (∀ p ∈ cs, LamX.TabB base mg p.1 p.2) → FnOk P w K mg base CX0 16 fa fd ["script"] sp := by
  have e := hfa.symm.trans (PySem.W.mg_of X G a32)
  cases e
  have M : Ms K mg cM cR cT fI := {
z_range := PySem.W.mg_none_of X G zrange,
    z_len := PySem.W.mg_none_of X G zlen,
    z_int := PySem.W.mg_none_of X G zint,
    z_bool := PySem.W.mg_none_of X G zbool,
    z_str := PySem.W.mg_none_of X G zstr,
    z_list := PySem.W.mg_none_of X G zlist,
    z_tuple := PySem.W.mg_none_of X G ztuple,
    z_isinstance := PySem.W.mg_none_of X G zisinstance,
    z_abs := PySem.W.mg_none_of X G zabs,
    z_sum := PySem.W.mg_none_of X G zsum,
    z_all := PySem.W.mg_none_of X G zall,
    z_min := PySem.W.mg_none_of X G zmin,
    z_max := PySem.W.mg_none_of X G zmax,
    z_zip := PySem.W.mg_none_of X G zzip,
    g_MOST_BITS := ⟨_, PySem.W.mg_of X G gB⟩,
    g_MOST_ROWS := ⟨_, PySem.W.mg_of X G gR⟩,
    g_MOST_SHARE := hSh,
    g_BadMany := PySem.W.mg_of X G acM,
    g_BadRange := PySem.W.mg_of X G acR,
    T_BadMany := ⟨⟨_, _, _, _, _, _, _, _, _, _, _, _, _, _, xcM⟩, sacM, nocM, iccM, tI, kccM, excM, tycM, ⟨_, _, _, _, _, _, _, _, _, _, _, _, _, _, lI, cI⟩⟩,
    T_BadRange := ⟨⟨_, _, _, _, _, _, _, _, _, _, _, _, _, _, xcR⟩, sacR, nocR, iccR, tI, kccR, excR, tycR, ⟨_, _, _, _, _, _, _, _, _, _, _, _, _, _, lI, cI⟩⟩ }
  have RcM : HrC K cM := ⟨⟨gacM, ggcM, excM, hdcM⟩, ⟨gacM, ggcM, excM, hdcM, hacM, hn, ht, hmcM⟩, nocM⟩
  have RcR : HrC K cR := ⟨⟨gacR, ggcR, excR, hdcR⟩, ⟨gacR, ggcR, excR, hdcR, hacR, hn, ht, hmcR⟩, nocR⟩
  have F2 := fun_mk (st := topS 2) l2 c2 k2
  have m2 := PySem.W.mg_of X G a2
  have F3 := fun_mk (st := topS 3) l3 c3 k3
  have m3 := PySem.W.mg_of X G a3
  have F11 := fun_mk (st := topS 11) l11 c11 k11
  have m11 := PySem.W.mg_of X G a11
  have F12 := fun_mk (st := topS 12) l12 c12 k12
  have m12 := PySem.W.mg_of X G a12
  have F13 := fun_mk (st := topS 13) l13 c13 k13
  have m13 := PySem.W.mg_of X G a13
  have F14 := fun_mk (st := topS 14) l14 c14 k14
  have m14 := PySem.W.mg_of X G a14
  have F15 := fun_mk (st := topS 15) l15 c15 k15
  have m15 := PySem.W.mg_of X G a15
  have F16 := fun_mk (st := topS 16) l16 c16 k16
  have m16 := PySem.W.mg_of X G a16
  have F17 := fun_mk (st := topS 17) l17 c17 k17
  have m17 := PySem.W.mg_of X G a17
  have F19 := fun_mk (st := topS 19) l19 c19 k19
  have m19 := PySem.W.mg_of X G a19
  have F20 := fun_mk (st := topS 20) l20 c20 k20
  have m20 := PySem.W.mg_of X G a20
  have F21 := fun_mk (st := topS 21) l21 c21 k21
  have m21 := PySem.W.mg_of X G a21
  have F22 := fun_mk (st := topS 22) l22 c22 k22
  have m22 := PySem.W.mg_of X G a22
  have F23 := fun_mk (st := topS 23) l23 c23 k23
  have m23 := PySem.W.mg_of X G a23
  have F24 := fun_mk (st := topS 24) l24 c24 k24
  have m24 := PySem.W.mg_of X G a24
  have F25 := fun_mk (st := topS 25) l25 c25 k25
  have m25 := PySem.W.mg_of X G a25
  have F26 := fun_mk (st := topS 26) l26 c26 k26
  have m26 := PySem.W.mg_of X G a26
  have F27 := fun_mk (st := topS 27) l27 c27 k27
  have m27 := PySem.W.mg_of X G a27
  have F28 : FunL K "_law_are_choices_right" (topS 28) f28 _ cc28 := ⟨⟨_, _, _, _, _, _, _, _, rfl, l28, c28⟩, k28⟩
  have m28 := PySem.W.mg_of X G a28
  have F29 : FunL K "_law_are_misled_right" (topS 29) f29 _ cc29 := ⟨⟨_, _, _, _, _, _, _, _, rfl, l29, c29⟩, k29⟩
  have m29 := PySem.W.mg_of X G a29
  have F30 : FunL K "_law_is_least_right" (topS 30) f30 _ cc30 := ⟨⟨_, _, _, _, _, _, _, _, rfl, l30, c30⟩, k30⟩
  have m30 := PySem.W.mg_of X G a30
  have F31 := fun_mk (st := topS 31) l31 c31 k31
  have m31 := PySem.W.mg_of X G a31
  have F32 := fun_mk (st := topS 32) l32 c32 k32
  have m32 := PySem.W.mg_of X G a32
  have eMM := PySem.W.exm_ref (K := K) (C := cM) (cls := .ref cM) excM hdcM tycM smcM
  have eMR := PySem.W.exm_ref (K := K) (C := cM) (cls := .ref cR) excM hdcM tycM smcR
  have eRR := PySem.W.exm_ref (K := K) (C := cR) (cls := .ref cR) excR hdcR tycR srcR
  obtain ⟨bMR, hMR⟩ := smr
  have eRM := PySem.W.exm_ref (K := K) (C := cR) (cls := .ref cM) excR hdcR tycR hMR
  have HD : Hd K mg cM cR := ⟨⟨_, _, m24, F24⟩, ne, RcM, RcR, exmAny2 eMM eRM, exmAny2 eMR eRR, if_pos (beq_self_eq_true _), kR⟩
  let tabs : List (Addr × Str) := [(T28, "_law_are_choices_right" ++ ".<locals>." ++ "<lambda>"), (T29, "_law_are_misled_right" ++ ".<locals>." ++ "<lambda>"), (T30, "_law_is_least_right" ++ ".<locals>." ++ "<lambda>")]
  refine ⟨PySem.W.fnOf "law" "law" (defArgs (topS 32)) (defBody (topS 32)) (defScope (topS 32)) .none kV32 dc32 pm32 an32 cd32 ct32, [(cc28, T28), (cc29, T29), (cc30, T30)], spLaw K tabs, ?_, ?_, ?_, fun s u => .of_eq rfl, ?_, ?_⟩
  · intro p hp
    rcases List.mem_cons.mp hp with rfl | hp
    · exact h28
    rcases List.mem_cons.mp hp with rfl | hp
    · exact h29
    rcases List.mem_cons.mp hp with rfl | hp
    · exact h30
    · cases hp
  · intro p hp
    rcases List.mem_cons.mp hp with rfl | hp
    · exact n28
    rcases List.mem_cons.mp hp with rfl | hp
    · exact n29
    rcases List.mem_cons.mp hp with rfl | hp
    · exact n30
    · cases hp
  · intro p hp
    rcases List.mem_cons.mp hp with rfl | hp
    · exact PySem.W.codeHd_of_K X e28
    rcases List.mem_cons.mp hp with rfl | hp
    · exact PySem.W.codeHd_of_K X e29
    rcases List.mem_cons.mp hp with rfl | hp
    · exact PySem.W.codeHd_of_K X e30
    · cases hp
  · intro H a ns hl _ hT hS
    refine ⟨a, ns, rfl, hS, hl, fun p hp => ?_, fun _ => rfl⟩
    rcases List.mem_cons.mp hp with rfl | hp
    · exact hT (cc28, T28) (by simp)
    rcases List.mem_cons.mp hp with rfl | hp
    · exact hT (cc29, T29) (by simp)
    rcases List.mem_cons.mp hp with rfl | hp
    · exact hT (cc30, T30) (by simp)
    · cases hp
  · intro base hk hg hT
    have L28 : ∀ d, Lm mg base ⟨d, tabs⟩ "_law_are_choices_right" cc28 T28 := fun d => ⟨hT (cc28, T28) (by simp), List.mem_cons_self, fun p hp e => by
      rcases List.mem_cons.mp hp with rfl | hp
      · rfl
      rcases List.mem_cons.mp hp with rfl | hp
      · exact (nT.1 e.symm).elim
      rcases List.mem_cons.mp hp with rfl | hp
      · exact (nT.2.1 e.symm).elim
      · cases hp⟩
    have L29 : ∀ d, Lm mg base ⟨d, tabs⟩ "_law_are_misled_right" cc29 T29 := fun d => ⟨hT (cc29, T29) (by simp), List.mem_cons_of_mem _ List.mem_cons_self, fun p hp e => by
      rcases List.mem_cons.mp hp with rfl | hp
      · exact (nT.1 e).elim
      rcases List.mem_cons.mp hp with rfl | hp
      · rfl
      rcases List.mem_cons.mp hp with rfl | hp
      · exact (nT.2.2 e.symm).elim
      · cases hp⟩
    have L30 : ∀ d, Lm mg base ⟨d, tabs⟩ "_law_is_least_right" cc30 T30 := fun d => ⟨hT (cc30, T30) (by simp), List.mem_cons_of_mem _ (List.mem_cons_of_mem _ List.mem_cons_self), fun p hp e => by
      rcases List.mem_cons.mp hp with rfl | hp
      · exact (nT.2.1 e).elim
      rcases List.mem_cons.mp hp with rfl | hp
      · exact (nT.2.2 e).elim
      rcases List.mem_cons.mp hp with rfl | hp
      · rfl
      · cases hp⟩
    refine ok_law F32 m20 F20 (fun us hl => match us, hl with | [_, _], _ => rfl) (ok_law_deck M F20 (ok_law_modulo M F19 m19)) fun ad al => ?_
    have hd : (Rs.mk (some (ad, al)) tabs).deck = some (ad, al) := rfl
    have o2 := okis_whole (P := P) (w := w) (base := base) (rs := ⟨some (ad, al), tabs⟩) M F2 m2
    have o3 := okis_whole_between M F3 m3 o2
    have o11 := okneed_between M F11 m11 o3
    have o12 := okchoices_by (P := P) (w := w) (base := base) (rs := ⟨some (ad, al), tabs⟩) M F12 m12
    have o13 := okmisled_by M F13 m13 o12
    have o14 := okis_enough M F14 m14 o12 o13
    have o15 := okchoices M F15 m15 o12 o11
    have o16 := okmisled M F16 m16 o13 o11
    have o17 := okleast_draw M F17 m17 o11 o3 o14
    have o19 := ok_law_modulo (P := P) (w := w) (base := base) (rs := ⟨some (ad, al), tabs⟩) M F19 m19
    have o21 := ok_law_draw M hd F21 m21 o19
    have o22 := ok_law_pick M F22 m22 o21
    have o23 := ok_law_same (P := P) (w := w) (base := base) (rs := ⟨some (ad, al), tabs⟩) M F23 m23
    have o25 := ok_law_rows_of (P := P) (w := w) (base := base) (rs := ⟨some (ad, al), tabs⟩) M F25 m25
    have o26 := ok_law_misled (P := P) (w := w) (base := base) (rs := ⟨some (ad, al), tabs⟩) M F26 m26
    have o27 := ok_law_listed (P := P) (w := w) (base := base) (rs := ⟨some (ad, al), tabs⟩) M F27 m27
    have o28 := ok_law_are_choices_right M HD m28 hd F28 (L28 _) o21 o22 o23 o15
    have o29 := ok_law_are_misled_right M HD m29 hd F29 (L29 _) o21 o22 o23 o16 o26 o27
    have o30 := ok_law_is_least_right M HD m30 hd F30 (L30 _) o21 o22 o23 o17 o26
    exact ok_law_is_all_right M HD F31 m31 hd o25 o28 o29 o30
end K33

open PySem PySem.W PyProof.Rows
set_option maxRecDepth 100000 in
set_option maxHeartbeats 0 in
theorem PySem.Challenge.cw_toldinbounds_k33_choices_that_mislead_holds : PySem.Challenge.rw_toldinbounds_k33_choices_that_mislead.Holds := by
  w_on; o_law; k_head; (case hw => w_witness2)
  k_fill
  refine TR.walkT (l := PySem.Challenge.rw_toldinbounds_k33_choices_that_mislead) (n := 63) (k := 16) (CX := fun _ => L2.CX0) (x := "script") (by decide +kernel) (by decide) rfl ⟨rfl, by decide, by decide⟩ (fun w h Y => PySem.W.km_in_of Y) ?F (fun _ _ _ _ _ z => z)
  case F =>
    intro w mg fa h XP Y KX G hmg
    have hSh : ∃ t, mg "MOST_SHARE" = some (.int 1000000 t) := by
      obtain ⟨v, h1, h2⟩ := XP.2.val _ List.mem_cons_self
      cases h2 with
      | int i t => exact ⟨_, h1⟩
    refine' K33.all_mk KX G hmg hSh ?zrange ?zlen ?zint ?zbool ?zstr ?zlist ?ztuple ?zisinstance ?zabs ?zsum ?zall ?zmin ?zmax ?zzip ?gB ?gR ?acM ?xcM ?sacM ?nocM ?iccM ?kccM ?excM ?tycM ?gacM ?ggcM ?hdcM ?hacM ?hmcM ?smcM ?acR ?xcR ?sacR ?nocR ?iccR ?kccR ?excR ?tycR ?gacR ?ggcR ?hdcR ?hacR ?hmcR ?smcR ?srcR ?tI ?lI ?cI ?hn ?ht ?ne ?kR ?a2 ?l2 ?c2 ?k2 ?a3 ?l3 ?c3 ?k3 ?a11 ?l11 ?c11 ?k11 ?a12 ?l12 ?c12 ?k12 ?a13 ?l13 ?c13 ?k13 ?a14 ?l14 ?c14 ?k14 ?a15 ?l15 ?c15 ?k15 ?a16 ?l16 ?c16 ?k16 ?a17 ?l17 ?c17 ?k17 ?a19 ?l19 ?c19 ?k19 ?a20 ?l20 ?c20 ?k20 ?a21 ?l21 ?c21 ?k21 ?a22 ?l22 ?c22 ?k22 ?a23 ?l23 ?c23 ?k23 ?a24 ?l24 ?c24 ?k24 ?a25 ?l25 ?c25 ?k25 ?a26 ?l26 ?c26 ?k26 ?a27 ?l27 ?c27 ?k27 ?a28 ?l28 ?c28 ?k28 ?v28 ?t28 ?e28 ?n28 ?h28 ?a29 ?l29 ?c29 ?k29 ?v29 ?t29 ?e29 ?n29 ?h29 ?a30 ?l30 ?c30 ?k30 ?v30 ?t30 ?e30 ?n30 ?h30 ?a31 ?l31 ?c31 ?k31 ?a32 ?l32 ?c32 ?k32 ?smr ?nT
    (case zrange => k_is)
    (case zlen => k_is)
    (case zint => k_is)
    (case zbool => k_is)
    (case zstr => k_is)
    (case zlist => k_is)
    (case ztuple => k_is)
    (case zisinstance => k_is)
    (case zabs => k_is)
    (case zsum => k_is)
    (case zall => k_is)
    (case zmin => k_is)
    (case zmax => k_is)
    (case zzip => k_is)
    (case gB => k_is)
    (case gR => k_is)
    (case acM => k_is)
    (case xcM => k_is)
    (case sacM => k_is)
    (case nocM => k_is)
    (case iccM => k_is)
    (case kccM => k_is)
    (case excM => k_is)
    (case tycM => k_is)
    (case gacM => k_is)
    (case ggcM => k_is)
    (case hdcM => k_is)
    (case hacM => k_is)
    (case hmcM => k_is)
    (case smcM => k_is)
    (case acR => k_is)
    (case xcR => k_is)
    (case sacR => k_is)
    (case nocR => k_is)
    (case iccR => k_is)
    (case kccR => k_is)
    (case excR => k_is)
    (case tycR => k_is)
    (case gacR => k_is)
    (case ggcR => k_is)
    (case hdcR => k_is)
    (case hacR => k_is)
    (case hmcR => k_is)
    (case smcR => k_is)
    (case srcR => k_is)
    (case tI => k_is)
    (case lI => k_is)
    (case cI => k_is)
    (case hn => k_is)
    (case ht => k_is)
    (case ne => decide)
    (case kR => kernel_rfl)
    (case a2 => k_is)
    (case l2 => k_is)
    (case c2 => k_is)
    (case k2 => k_is)
    (case a3 => k_is)
    (case l3 => k_is)
    (case c3 => k_is)
    (case k3 => k_is)
    (case a11 => k_is)
    (case l11 => k_is)
    (case c11 => k_is)
    (case k11 => k_is)
    (case a12 => k_is)
    (case l12 => k_is)
    (case c12 => k_is)
    (case k12 => k_is)
    (case a13 => k_is)
    (case l13 => k_is)
    (case c13 => k_is)
    (case k13 => k_is)
    (case a14 => k_is)
    (case l14 => k_is)
    (case c14 => k_is)
    (case k14 => k_is)
    (case a15 => k_is)
    (case l15 => k_is)
    (case c15 => k_is)
    (case k15 => k_is)
    (case a16 => k_is)
    (case l16 => k_is)
    (case c16 => k_is)
    (case k16 => k_is)
    (case a17 => k_is)
    (case l17 => k_is)
    (case c17 => k_is)
    (case k17 => k_is)
    (case a19 => k_is)
    (case l19 => k_is)
    (case c19 => k_is)
    (case k19 => k_is)
    (case a20 => k_is)
    (case l20 => k_is)
    (case c20 => k_is)
    (case k20 => k_is)
    (case a21 => k_is)
    (case l21 => k_is)
    (case c21 => k_is)
    (case k21 => k_is)
    (case a22 => k_is)
    (case l22 => k_is)
    (case c22 => k_is)
    (case k22 => k_is)
    (case a23 => k_is)
    (case l23 => k_is)
    (case c23 => k_is)
    (case k23 => k_is)
    (case a24 => k_is)
    (case l24 => k_is)
    (case c24 => k_is)
    (case k24 => k_is)
    (case a25 => k_is)
    (case l25 => k_is)
    (case c25 => k_is)
    (case k25 => k_is)
    (case a26 => k_is)
    (case l26 => k_is)
    (case c26 => k_is)
    (case k26 => k_is)
    (case a27 => k_is)
    (case l27 => k_is)
    (case c27 => k_is)
    (case k27 => k_is)
    (case a28 => k_is)
    (case l28 => k_is)
    (case c28 => k_is)
    (case k28 => k_is)
    (case v28 => k_is)
    (case t28 => rfl)
    (case e28 => kernel_rfl)
    (case n28 => kernel_rfl)
    (case h28 => exact PySem.W.km_tabs_of Y _ (by decide))
    (case a29 => k_is)
    (case l29 => k_is)
    (case c29 => k_is)
    (case k29 => k_is)
    (case v29 => k_is)
    (case t29 => rfl)
    (case e29 => kernel_rfl)
    (case n29 => kernel_rfl)
    (case h29 => exact PySem.W.km_tabs_of Y _ (by decide))
    (case a30 => k_is)
    (case l30 => k_is)
    (case c30 => k_is)
    (case k30 => k_is)
    (case v30 => k_is)
    (case t30 => rfl)
    (case e30 => kernel_rfl)
    (case n30 => kernel_rfl)
    (case h30 => exact PySem.W.km_tabs_of Y _ (by decide))
    (case a31 => k_is)
    (case l31 => k_is)
    (case c31 => k_is)
    (case k31 => k_is)
    (case a32 => k_is)
    (case l32 => k_is)
    (case c32 => k_is)
    (case k32 => k_is)
    (case smr => exact ⟨_, by k_is⟩)
    (case nT => decide)

