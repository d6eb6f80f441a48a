import PyProof.Rows.All
import Wide.All
import OpenK.AllK
import Wide.FinOn
import HandS.ForMost
import HandS.Codes
import HandS.Defaults
import HandS.Conv
import HandS.Zip
import HandS.Deep
import HandS.NoneIn
import HandS.TupSets
import HandS.DictComp
import HandS.SetKeys
import HandS.IsInst
import HandS.Gcd
import HandS.Star
import HandS.Flow
import KE.DataMinMax
import KE.SortData
import PySem.PyData
import HandS.HeadHook1
import HandS.HeadHook2
import PySem.Challenge.RW_turnprimes_k84_whole_lines
import KE.KStateDown
import HandS.Ends
import HandS.More
import HandS.Words
import HandS.WordsExc
import HandS.Head0
import HandS.Head1
import HandS.Head2
import HandS.HeadEnd
set_option Elab.async false
set_option linter.all false
set_option maxRecDepth 100000
-- DL1
/-! A pure Hoare logic over data: what a reading (HandS) does, told by PyData alone. Slots hold data, or lists that the def itself made and still changes. -/
namespace DL
open PySem PySem.Spec PyProof.Rows L2

abbrev D := PyData
mutual
/-- a value that is data, its lists tracked -/
inductive Dq (K : PySem.W.Frag) (H : Hp) : V → PyData → Prop
  | non : Dq K H .non .none
  | bl (b : Bool) : Dq K H (.bl b) (.bool b)
  | int (i : Int) : Dq K H (.int i) (.int i)
  | str (x : Str) : Dq K H (.str x) (.str x)
  | lst {a : Addr} {xs : List V} {ds : List PyData} : SqL K H a xs → DqAll K H xs ds → Dq K H (.ref a) (.list ds)
  | tup {a : Addr} {xs : List V} {ds : List PyData} : SqT K H a xs → DqAll K H xs ds → Dq K H (.ref a) (.tuple ds)
inductive DqAll (K : PySem.W.Frag) (H : Hp) : List V → List PyData → Prop
  | nil : DqAll K H [] []
  | cons {v : V} {vs : List V} {d : PyData} {ds : List PyData} : Dq K H v d → DqAll K H vs ds → DqAll K H (v :: vs) (d :: ds)
end
mutual
theorem Dq.dp {K : PySem.W.Frag} {H : Hp} : ∀ {v : V} {d : PyData}, Dq K H v d → Dp K H v d
  | _, _, .non => .non
  | _, _, .bl b => .bl b
  | _, _, .int i => .int i
  | _, _, .str x => .str x
  | _, _, .lst s a => .lst s (DqAll.dp a)
  | _, _, .tup s a => .tup s (DqAll.dp a)
theorem DqAll.dp {K : PySem.W.Frag} {H : Hp} : ∀ {vs : List V} {ds : List PyData}, DqAll K H vs ds → DpAll K H vs ds
  | _, _, .nil => .nil
  | _, _, .cons a b => .cons (Dq.dp a) (DqAll.dp b)
end
theorem rd_mono {H H' : Hp} {a : Addr} {o : HO} (e : Same H H') (h : Rd H a o) : Rd H' a o := by
  rcases h with h | ⟨u, h⟩
  · exact .inl (e _ _ h)
  · exact .inr ⟨u, e _ _ h⟩
/-! ### heaps without the owned addresses -/
def hide (H : Hp) (O : List Addr) : Hp := fun b => if b ∈ O then none else H b
theorem hide_in {H : Hp} {O : List Addr} {b : Addr} (h : b ∈ O) : hide H O b = none := if_pos h
theorem hide_out {H : Hp} {O : List Addr} {b : Addr} (h : b ∉ O) : hide H O b = H b := if_neg h
theorem hide_same {H : Hp} {O : List Addr} : Same (hide H O) H := fun b o e => by
  unfold hide at e
  split at e
  · cases e
  · exact e
theorem hide_some {H : Hp} {O : List Addr} {b : Addr} {o : HO} (h : hide H O b = some o) : b ∉ O ∧ H b = some o := by
  unfold hide at h
  split at h
  · cases h
  · exact ⟨by assumption, h⟩
theorem Same.hide {H H' : Hp} {O : List Addr} (e : Same H H') : Same (hide H O) (hide H' O) := fun b o h => by
  obtain ⟨h1, h2⟩ := hide_some h
  rw [hide_out h1]
  exact e b o h2
theorem same_upd {H : Hp} {p : Addr} {o : HO} (h : H p = none) : Same H (upd H p o) := fun b x e => by
  rw [upd_ne (ne_of_none e h)]
  exact e
/-- more hidden, where the newly hidden were not there -/
theorem same_more {H H' : Hp} {P O : List Addr} (e : Same H H') (h : ∀ p ∈ P, H p = none) : Same (hide H O) (hide H' (P ++ O)) := fun b o x => by
  obtain ⟨h1, h2⟩ := hide_some x
  have h3 : b ∉ P ++ O := fun z => by
    rcases List.mem_append.mp z with z | z
    · rw [h b z] at h2
      cases h2
    · exact h1 z
  rw [hide_out h3]
  exact e b o h2
theorem same_less {H : Hp} {P O : List Addr} : Same (hide H (P ++ O)) (hide H O) := fun b o x => by
  obtain ⟨h1, h2⟩ := hide_some x
  rw [hide_out fun z => h1 (List.mem_append_right _ z)]
  exact h2
theorem hide_upd_in {H : Hp} {O : List Addr} {p : Addr} {o : HO} (h : p ∈ O) : hide (upd H p o) O = hide H O := by
  funext b
  unfold hide
  by_cases e : b ∈ O
  · rw [if_pos e, if_pos e]
  · rw [if_neg e, if_neg e, upd_ne fun z => e (by rw [z]; exact h)]
/-! ### data in a heap -/
section
variable {K : PySem.W.Frag} {H H' : Hp}
theorem seqT {a : Addr} {xs : List V} (e : Same H H') (h : SqT K H a xs) : SqT K H' a xs := by
  rcases h with (h | ⟨o, h⟩) | h
  · exact .inl (.inl (e _ _ h))
  · exact .inl (.inr ⟨o, e _ _ h⟩)
  · exact .inr h
mutual
theorem Dq.mono (e : Same H H') : ∀ {v : V} {d : D}, Dq K H v d → Dq K H' v d
  | _, _, .non => .non
  | _, _, .bl b => .bl b
  | _, _, .int i => .int i
  | _, _, .str x => .str x
  | _, _, .lst s a => .lst (e.seq s) (DqAll.mono e a)
  | _, _, .tup s a => .tup (seqT e s) (DqAll.mono e a)
theorem DqAll.mono (e : Same H H') : ∀ {vs : List V} {ds : List D}, DqAll K H vs ds → DqAll K H' vs ds
  | _, _, .nil => .nil
  | _, _, .cons a b => .cons (Dq.mono e a) (DqAll.mono e b)
end
theorem DqAll.length : ∀ {vs : List V} {ds : List D}, DqAll K H vs ds → vs.length = ds.length
  | _, _, .nil => rfl
  | _, _, .cons _ t => congrArg (· + 1) (DqAll.length t)
theorem DqAll.get : ∀ {vs : List V} {ds : List D} {i : Nat} {d : D}, DqAll K H vs ds → ds[i]? = some d → ∃ v, vs[i]? = some v ∧ Dq K H v d
  | _, _, _, _, .nil, e => by simp at e
  | _, _, 0, _, .cons r _, e => by simp at e; subst e; exact ⟨_, rfl, r⟩
  | _, _, i + 1, _, .cons _ t, e => by
    obtain ⟨v, h1, h2⟩ := DqAll.get (i := i) t (by simpa using e)
    exact ⟨v, by simpa using h1, h2⟩
theorem DqAll.getv : ∀ {vs : List V} {ds : List D} {i : Nat} {v : V}, DqAll K H vs ds → vs[i]? = some v → ∃ d, ds[i]? = some d ∧ Dq K H v d
  | _, _, _, _, .nil, e => by simp at e
  | _, _, 0, _, .cons r _, e => by simp at e; subst e; exact ⟨_, rfl, r⟩
  | _, _, i + 1, _, .cons _ t, e => by
    obtain ⟨v, h1, h2⟩ := DqAll.getv (i := i) t (by simpa using e)
    exact ⟨v, by simpa using h1, h2⟩
theorem DqAll.append : ∀ {vs ws : List V} {ds es : List D}, DqAll K H vs ds → DqAll K H ws es → DqAll K H (vs ++ ws) (ds ++ es)
  | _, _, _, _, .nil, s => s
  | _, _, _, _, .cons r t, s => .cons r (DqAll.append t s)
theorem DqAll.ints : ∀ {vs : List V} {ns : List Int}, DqAll K H vs (ns.map PyData.int) → vs = ns.map V.int
  | _, [], .nil => rfl
  | _, n :: ns, .cons (.int _) t => by
    rw [DqAll.ints t]
    rfl
theorem DqAll.of_ints : ∀ {ns : List Int}, DqAll K H (ns.map V.int) (ns.map PyData.int)
  | [] => .nil
  | n :: ns => .cons (.int n) DqAll.of_ints
theorem DqAll.bools : ∀ {vs : List V} {ns : List Bool}, DqAll K H vs (ns.map PyData.bool) → vs = ns.map V.bl
  | _, [], .nil => rfl
  | _, n :: ns, .cons (.bl _) t => by
    rw [DqAll.bools t]
    rfl
theorem DqAll.take : ∀ {vs : List V} {ds : List D} (n : Nat), DqAll K H vs ds → DqAll K H (vs.take n) (ds.take n)
  | _, _, 0, _ => .nil
  | _, _, _ + 1, .nil => .nil
  | _, _, n + 1, .cons r t => .cons r (DqAll.take n t)
theorem DqAll.drop : ∀ {vs : List V} {ds : List D} (n : Nat), DqAll K H vs ds → DqAll K H (vs.drop n) (ds.drop n)
  | _, _, 0, r => r
  | _, _, _ + 1, .nil => .nil
  | _, _, n + 1, .cons _ t => DqAll.drop n t
theorem Dq.int_inv {v : V} {i : Int} (h : Dq K H v (.int i)) : v = .int i := by cases h; rfl
theorem Dq.bool_inv {v : V} {b : Bool} (h : Dq K H v (.bool b)) : v = .bl b := by cases h; rfl
theorem Dq.non_inv {v : V} (h : Dq K H v .none) : v = .non := by cases h; rfl
theorem Dq.list_inv {v : V} {ds : List D} (h : Dq K H v (.list ds)) : ∃ a xs, v = .ref a ∧ SqL K H a xs ∧ DqAll K H xs ds := by
  cases h with
  | lst s a => exact ⟨_, _, rfl, s, a⟩
theorem Dq.tup_inv {v : V} {ds : List D} (h : Dq K H v (.tuple ds)) : ∃ a xs, v = .ref a ∧ SqT K H a xs ∧ DqAll K H xs ds := by
  cases h with
  | tup s a => exact ⟨_, _, rfl, s, a⟩
/-- data that are no objects -/
def flatD : D → Bool
  | .none => true
  | .bool _ => true
  | .int _ => true
  | _ => false
theorem Dq.flat {v : V} {d : D} (h : Dq K H v d) (f : flatD d = true) {H' : Hp} : Dq K H' v d := by
  cases h with
  | non => exact .non
  | bl b => exact .bl b
  | int i => exact .int i
  | str x => cases f
  | lst s a => cases f
  | tup s a => cases f
end
/-! ### evaluation of expressions -/
def EnvOk (K : PySem.W.Frag) (H : Hp) (σ : L2.St) (ρ : List (Option D)) : Prop := σ.length = ρ.length ∧ ∀ (i : Nat) (d : D), ρ[i]? = some (some d) → ∃ v, σ[i]? = some (some v) ∧ Dq K H v d
theorem EnvOk.mono {K : PySem.W.Frag} {H H' : Hp} {σ : L2.St} {ρ : List (Option D)} (e : Same H H') (h : EnvOk K H σ ρ) : EnvOk K H' σ ρ :=
  ⟨h.1, fun i d x => let ⟨v, h1, h2⟩ := h.2 i d x; ⟨v, h1, Dq.mono e h2⟩⟩
theorem EnvOk.set {K : PySem.W.Frag} {H : Hp} {σ : L2.St} {ρ : List (Option D)} {i : Nat} {v : V} {d : D} (h : EnvOk K H σ ρ) (hd : Dq K H v d) : EnvOk K H (σ.set i (some v)) (ρ.set i (some d)) := by
  refine ⟨by rw [List.length_set, List.length_set, h.1], fun j e x => ?_⟩
  by_cases hij : i = j
  · subst hij
    have hl : i < ρ.length := by
      have := (List.getElem?_eq_some_iff.mp x).1
      rwa [List.length_set] at this
    rw [List.getElem?_set_self hl] at x
    have e2 : d = e := Option.some.inj (Option.some.inj x)
    subst e2
    exact ⟨v, List.getElem?_set_self (by rw [h.1]; exact hl), hd⟩
  · rw [List.getElem?_set_ne hij] at x ⊢
    exact h.2 j e x
theorem EnvOk.none {K : PySem.W.Frag} {H : Hp} {σ : L2.St} {ρ : List (Option D)} {i : Nat} {o : Option V} (h : EnvOk K H σ ρ) : EnvOk K H (σ.set i o) (ρ.set i none) := by
  refine ⟨by rw [List.length_set, List.length_set, h.1], fun j e x => ?_⟩
  by_cases hij : i = j
  · subst hij
    have hl : i < ρ.length := by
      have := (List.getElem?_eq_some_iff.mp x).1
      rwa [List.length_set] at this
    rw [List.getElem?_set_self hl] at x
    cases Option.some.inj x
  · rw [List.getElem?_set_ne hij] at x ⊢
    exact h.2 j e x
def Known (H : Hp) (O : List Addr) : Prop := ∀ p ∈ O, H p ≠ none
theorem Known.mono {H H' : Hp} {O : List Addr} (e : Same H H') (h : Known H O) : Known H' O := fun p hp z => by
  cases q : H p with
  | none => exact h p hp q
  | some o =>
    rw [e p o q] at z
    cases z
theorem Known.new {H : Hp} {O : List Addr} (h : Known H O) {p : Addr} (n : H p = none) : p ∉ O := fun z => h p z n
theorem Known.cons {H : Hp} {O : List Addr} (h : Known H O) {p : Addr} {o : HO} (n : H p = none) : Known (upd H p o) (p :: O) := fun q hq z => by
  rcases List.mem_cons.mp hq with rfl | hq
  · rw [upd_same] at z
    cases z
  · exact Known.mono (same_upd n) h q hq z
/-- a new object lies beside what is hidden -/
theorem hide_new {H : Hp} {O : List Addr} {p : Addr} {o : HO} (h : Known H O) (n : H p = none) : hide (upd H p o) O p = some o := by
  rw [hide_out (h.new n), upd_same]

def Evd (K : PySem.W.Frag) (te : TE) (ρ : List (Option D)) (d : D) : Prop := ∀ (O : List Addr) (σ : L2.St) (H : Hp), Known H O → EnvOk K (hide H O) σ ρ → ∀ Q : VK, (∀ v H', Same H H' → Dq K (hide H' O) v d → Q v H') → te σ H Q
def EvT (K : PySem.W.Frag) (tt : TT) (ρ : List (Option D)) (b : Bool) : Prop := ∀ (O : List Addr) (σ : L2.St) (H : Hp), Known H O → EnvOk K (hide H O) σ ρ → ∀ Q : Bool → Hp → Prop, (∀ H', Same H H' → Q b H') → tt σ H Q
def EvA (K : PySem.W.Frag) (ta : TA) (ρ : List (Option D)) (ds : List D) : Prop := ∀ (O : List Addr) (σ : L2.St) (H : Hp), Known H O → EnvOk K (hide H O) σ ρ → ∀ Q : List V → Hp → Prop, (∀ vs H', Same H H' → DqAll K (hide H' O) vs ds → Q vs H') → ta σ H Q
section
variable {K : PySem.W.Frag} {ρ : List (Option D)} {ta tb tc te : TE} {t u : TT} {d d' e : D}
theorem Evd.to (h : Evd K te ρ d) (q : d = e) : Evd K te ρ e := q ▸ h
theorem EvT.to {b c : Bool} (h : EvT K t ρ b) (q : b = c) : EvT K t ρ c := q ▸ h
theorem ev_var {i : Nat} (h : ρ[i]? = some (some d)) : Evd K (tVar i) ρ d := fun O σ H k ok Q q => by
  obtain ⟨v, h1, h2⟩ := ok.2 i d h
  exact ⟨v, h1, q v H (Same.refl H) h2⟩
theorem ev_int {i : Int} : Evd K (tC (.int i)) ρ (.int i) := fun O σ H k ok Q q => q _ H (Same.refl H) (.int i)
theorem ev_bl {b : Bool} : Evd K (tC (.bl b)) ρ (.bool b) := fun O σ H k ok Q q => q _ H (Same.refl H) (.bl b)
theorem ev_non : Evd K (tC .non) ρ .none := fun O σ H k ok Q q => q _ H (Same.refl H) .non
/-- a tuple of the module's own -/
theorem ev_ktup {a : Addr} {xs : List V} {ds : List D} (h : ∀ H, SqT K H a xs) (h2 : ∀ H, DqAll K H xs ds) : Evd K (tC (.ref a)) ρ (.tuple ds) := fun O σ H k ok Q q => q _ H (Same.refl H) (.tup (h _) (h2 _))
theorem ev_tup {ts : TA} {ds : List D} (h : EvA K ts ρ ds) (hl : ds.length ≤ sizeLine) : Evd K (tTup ts) ρ (.tuple ds) := fun O σ H k ok Q q =>
  h O σ H k ok _ fun vs H' s dv => ⟨by rw [DqAll.length dv]; exact hl, fun p np => q _ _ (s.trans (same_upd np)) (.tup (SqT.of (hide_new (k.mono s) np)) (DqAll.mono (Same.hide (same_upd np)) dv))⟩
theorem ev_lst {ts : TA} {ds : List D} (h : EvA K ts ρ ds) (hl : ds.length ≤ sizeLine) : Evd K (tLst ts) ρ (.list ds) := fun O σ H k ok Q q =>
  h O σ H k ok _ fun vs H' s dv => ⟨by rw [DqAll.length dv]; exact hl, fun p np => q _ _ (s.trans (same_upd np)) (.lst (SqL.of (hide_new (k.mono s) np)) (DqAll.mono (Same.hide (same_upd np)) dv))⟩
theorem ea_nil : EvA K tNil ρ [] := fun O σ H k ok Q q => q _ H (Same.refl H) .nil
theorem ea_cons {ts : TA} {ds : List D} (h : Evd K te ρ d) (hs : EvA K ts ρ ds) : EvA K (tCons te ts) ρ (d :: ds) := fun O σ H k ok Q q =>
  h O σ H k ok _ fun v H1 s1 d1 => hs O σ H1 (k.mono s1) (ok.mono (Same.hide s1)) _ fun vs H2 s2 d2 => q _ H2 (s1.trans s2) (.cons (Dq.mono (Same.hide s2) d1) d2)
theorem EvA.to {ts : TA} {ds es : List D} (h : EvA K ts ρ ds) (q : ds = es) : EvA K ts ρ es := q ▸ h
/-- the general two-place operation -/
theorem ev_opG {r : R2} (ha : Evd K ta ρ d) (hb : Evd K tb ρ d') (hr : ∀ (O : List Addr) (H : Hp) (x y : V) (Q : VK), Known H O → Dq K (hide H O) x d → Dq K (hide H O) y d' → (∀ v H', Same H H' → Dq K (hide H' O) v e → Q v H') → r x y H Q) : Evd K (tOp r ta tb) ρ e := fun O σ H k ok Q q =>
  ha O σ H k ok _ fun x H1 s1 d1 => hb O σ H1 (k.mono s1) (ok.mono (Same.hide s1)) _ fun y H2 s2 d2 =>
    hr O H2 x y Q (k.mono (s1.trans s2)) (Dq.mono (Same.hide s2) d1) d2 fun v H3 s3 d3 => q v H3 ((s1.trans s2).trans s3) d3
theorem ev_I0 {g : Int → Int → V} {i j k : Int} (ha : Evd K ta ρ (.int i)) (hb : Evd K tb ρ (.int j)) (hg : g i j = .int k := by rfl) : Evd K (tOp (rI0 g) ta tb) ρ (.int k) :=
  ev_opG ha hb fun O H x y Q kn dx dy q => ⟨i, j, dx.int_inv, dy.int_inv, q _ H (Same.refl H) (by rw [hg]; exact .int k)⟩
theorem ev_B0 {g : Int → Int → V} {i j : Int} {b : Bool} (ha : Evd K ta ρ (.int i)) (hb : Evd K tb ρ (.int j)) (hg : g i j = .bl b := by rfl) : Evd K (tOp (rI0 g) ta tb) ρ (.bool b) :=
  ev_opG ha hb fun O H x y Q kn dx dy q => ⟨i, j, dx.int_inv, dy.int_inv, q _ H (Same.refl H) (by rw [hg]; exact .bl b)⟩
theorem ev_I {C : Int → Int → Prop} {g : Int → Int → V} {i j k : Int} (ha : Evd K ta ρ (.int i)) (hb : Evd K tb ρ (.int j)) (hc : C i j) (hg : g i j = .int k := by rfl) : Evd K (tOp (rI C g) ta tb) ρ (.int k) :=
  ev_opG ha hb fun O H x y Q kn dx dy q => ⟨i, j, dx.int_inv, dy.int_inv, hc, q _ H (Same.refl H) (by rw [hg]; exact .int k)⟩
theorem ev_neg {i : Int} (ha : Evd K ta ρ (.int i)) : Evd K (tUn (rU fun i => .int (-i)) ta) ρ (.int (-i)) := fun O σ H k ok Q q =>
  ha O σ H k ok _ fun x H1 s1 d1 => ⟨i, d1.int_inv, q _ H1 s1 (.int _)⟩
theorem ev_eqI {i j : Int} (ha : Evd K ta ρ (.int i)) (hb : Evd K tb ρ (.int j)) : Evd K (tOp rEq ta tb) ρ (.bool (i == j)) :=
  ev_opG ha hb fun O H x y Q kn dx dy q => by
    rw [dx.int_inv, dy.int_inv]
    refine ⟨rfl, ?_⟩
    rw [dec_int]
    exact q _ H (Same.refl H) (.bl _)
theorem ev_neI {i j : Int} (ha : Evd K ta ρ (.int i)) (hb : Evd K tb ρ (.int j)) : Evd K (tOp rNe ta tb) ρ (.bool (!(i == j))) :=
  ev_opG ha hb fun O H x y Q kn dx dy q => by
    rw [dx.int_inv, dy.int_inv]
    refine ⟨rfl, ?_⟩
    rw [dec_int]
    exact q _ H (Same.refl H) (.bl _)
theorem ev_eqD (ha : Evd K ta ρ d) (hb : Evd K tb ρ d') (h1 : SeqAt.shaped d = true) (h2 : SeqAt.shaped d' = true) : Evd K (tOp (rEqD K) ta tb) ρ (.bool (PyData.eqv d d')) :=
  ev_opG ha hb fun O H x y Q kn dx dy q => ⟨d, d', (Dq.mono hide_same dx).dp, (Dq.mono hide_same dy).dp, h1, h2, q _ H (Same.refl H) (.bl _)⟩
theorem ev_neD (ha : Evd K ta ρ d) (hb : Evd K tb ρ d') (h1 : SeqAt.shaped d = true) (h2 : SeqAt.shaped d' = true) : Evd K (tOp (rNeD K) ta tb) ρ (.bool (!PyData.eqv d d')) :=
  ev_opG ha hb fun O H x y Q kn dx dy q => ⟨d, d', (Dq.mono hide_same dx).dp, (Dq.mono hide_same dy).dp, h1, h2, q _ H (Same.refl H) (.bl _)⟩
theorem ev_inD {ds : List D} (ha : Evd K ta ρ d) (hb : Evd K tb ρ (.list ds)) (h1 : SeqAt.shaped d = true) (h2 : SeqAt.shaped (.list ds) = true) : Evd K (tOp (rInD K) ta tb) ρ (.bool (ds.any fun z => PyData.eqv z d)) :=
  ev_opG ha hb fun O H x y Q kn dx dy q => ⟨d, ds, (Dq.mono hide_same dx).dp, (Dq.mono hide_same dy).dp, h1, h2, q _ H (Same.refl H) (.bl _)⟩
theorem ev_notInD {ds : List D} (ha : Evd K ta ρ d) (hb : Evd K tb ρ (.list ds)) (h1 : SeqAt.shaped d = true) (h2 : SeqAt.shaped (.list ds) = true) : Evd K (tOp (rNotInD K) ta tb) ρ (.bool (!ds.any fun z => PyData.eqv z d)) :=
  ev_opG ha hb fun O H x y Q kn dx dy q => ⟨d, ds, (Dq.mono hide_same dx).dp, (Dq.mono hide_same dy).dp, h1, h2, q _ H (Same.refl H) (.bl _)⟩
/-- a < b < c of ints -/
theorem ev_chain {g g' : Int → Int → V} {i j k : Int} {b c : Bool} (ha : Evd K ta ρ (.int i)) (hb : Evd K tb ρ (.int j)) (hc : Evd K tc ρ (.int k)) (hg : g i j = .bl b := by rfl) (hg' : g' j k = .bl c := by rfl) :
    Evd K (tChain (rI0 g) (rI0 g') ta tb tc) ρ (.bool (b && c)) := fun O σ H kn ok Q q =>
  ha O σ H kn ok _ fun x H1 s1 d1 => hb O σ H1 (kn.mono s1) (ok.mono (Same.hide s1)) _ fun y H2 s2 d2 => ⟨i, j, d1.int_inv, d2.int_inv, b, hg, by
    cases b with
    | false => exact iteF (q _ H2 (s1.trans s2) (.bl false))
    | true =>
      refine iteT (hc O σ H2 (kn.mono (s1.trans s2)) (ok.mono (Same.hide (s1.trans s2))) _ fun z H3 s3 d3 => ⟨j, k, d2.int_inv, d3.int_inv, ?_⟩)
      rw [hg']
      exact q _ H3 ((s1.trans s2).trans s3) (.bl c)⟩
/-! ### tests -/
theorem et_test {b : Bool} (h : Evd K te ρ (.bool b)) : EvT K (tTest te) ρ b := fun O σ H k ok Q q => h O σ H k ok _ fun v H1 s d => ⟨b, d.bool_inv, q H1 s⟩
theorem et_B {b : Bool} (h : Evd K te ρ (.bool b)) : EvT K (tB te) ρ b := fun O σ H k ok Q q => h O σ H k ok _ fun v H1 s d => ⟨b, d.bool_inv, q H1 s⟩
theorem et_not {b : Bool} (h : EvT K t ρ b) : EvT K (tNot t) ρ (!b) := fun O σ H k ok Q q => h O σ H k ok _ fun H1 s => q H1 s
theorem et_and {b c : Bool} (h : EvT K t ρ b) (h2 : b = true → EvT K u ρ c) : EvT K (tAnd t u) ρ (b && c) := fun O σ H k ok Q q => h O σ H k ok _ fun H1 s => by
  cases b with
  | false => exact iteF (q H1 s)
  | true => exact iteT (h2 rfl O σ H1 (k.mono s) (ok.mono (Same.hide s)) _ fun H2 s2 => q H2 (s.trans s2))
theorem et_or {b c : Bool} (h : EvT K t ρ b) (h2 : b = false → EvT K u ρ c) : EvT K (tOr t u) ρ (b || c) := fun O σ H k ok Q q => h O σ H k ok _ fun H1 s => by
  cases b with
  | true => exact iteT (q H1 s)
  | false => exact iteF (h2 rfl O σ H1 (k.mono s) (ok.mono (Same.hide s)) _ fun H2 s2 => q H2 (s.trans s2))
theorem ev_andV {b c : Bool} (h : Evd K ta ρ (.bool b)) (h2 : b = true → Evd K tb ρ (.bool c)) : Evd K (tAndV ta tb) ρ (.bool (b && c)) := fun O σ H k ok Q q => h O σ H k ok _ fun v H1 s d => ⟨b, d.bool_inv, by
  cases b with
  | false => exact iteF (q _ H1 s (.bl false))
  | true => exact iteT (h2 rfl O σ H1 (k.mono s) (ok.mono (Same.hide s)) _ fun v H2 s2 d2 => q v H2 (s.trans s2) d2)⟩
theorem ev_orV {b c : Bool} (h : Evd K ta ρ (.bool b)) (h2 : b = false → Evd K tb ρ (.bool c)) : Evd K (tOrV ta tb) ρ (.bool (b || c)) := fun O σ H k ok Q q => h O σ H k ok _ fun v H1 s d => ⟨b, d.bool_inv, by
  cases b with
  | true => exact iteT (q _ H1 s (.bl true))
  | false => exact iteF (h2 rfl O σ H1 (k.mono s) (ok.mono (Same.hide s)) _ fun v H2 s2 d2 => q v H2 (s.trans s2) d2)⟩
theorem ev_notV {b : Bool} (h : Evd K ta ρ (.bool b)) : Evd K (tNotV ta) ρ (.bool (!b)) := fun O σ H k ok Q q => h O σ H k ok _ fun v H1 s d => ⟨b, d.bool_inv, q _ H1 s (.bl _)⟩
theorem ev_if {b : Bool} (h : EvT K t ρ b) (h1 : b = true → Evd K ta ρ d) (h2 : b = false → Evd K tb ρ d) : Evd K (tIf t ta tb) ρ d := fun O σ H k ok Q q => h O σ H k ok _ fun H1 s => by
  cases b with
  | true => exact iteT (h1 rfl O σ H1 (k.mono s) (ok.mono (Same.hide s)) _ fun v H2 s2 d2 => q v H2 (s.trans s2) d2)
  | false => exact iteF (h2 rfl O σ H1 (k.mono s) (ok.mono (Same.hide s)) _ fun v H2 s2 d2 => q v H2 (s.trans s2) d2)
end
end DL

-- DL2
/-! iterators, targets, comprehensions over data -/
namespace DL
open PySem PySem.Spec PyProof.Rows L2
/-! ### what is walked -/
def ItOk (K : PySem.W.Frag) (J : It) (H1 : Hp) (O : List Addr) (ds : List D) : Prop := ∀ (O' : List Addr) (i : Nat) (H2 : Hp), Same (hide H1 O) (hide H2 O') → Known H2 O' →
  (i < ds.length → J.go i H2) ∧ (ds.length ≤ i → J.stop i H2) ∧ ∀ x H3 d, J.yld i H2 x H3 → ds[i]? = some d → Same H2 H3 ∧ Dq K (hide H3 O') x d
def EvI (K : PySem.W.Frag) (wi : TI) (ρ : List (Option D)) (ds : List D) : Prop := ∀ (O : List Addr) (σ : L2.St) (H : Hp), Known H O → EnvOk K (hide H O) σ ρ → ∀ R : It → Hp → Prop, (∀ J H1, Same H H1 → ItOk K J H1 O ds → R J H1) → wi σ H R
section
variable {K : PySem.W.Frag} {ρ : List (Option D)} {te : TE} {ta : TA} {ds es : List D}
theorem EvI.to {wi : TI} (h : EvI K wi ρ ds) (q : ds = es) : EvI K wi ρ es := q ▸ h
theorem ei_list (h : Evd K te ρ (.list ds)) : EvI K (iList K te) ρ ds := fun O σ H k ok R q =>
  h O σ H k ok _ fun v H1 s d => by
    obtain ⟨a, xs, rfl, sq, al⟩ := d.list_inv
    refine ⟨a, rfl, ⟨xs, hide_same.seq sq⟩, q _ H1 s fun O' i H2 e kn => ?_⟩
    have sq2 : SqL K H2 a xs := hide_same.seq (e.seq sq)
    have hl := DqAll.length al
    refine ⟨fun hi => ⟨xs, xs[i], sq2, List.getElem?_eq_getElem (by omega)⟩, fun hi => ⟨xs, sq2, by omega⟩, fun x H3 d y hd => ?_⟩
    obtain ⟨rfl, f⟩ := y
    obtain ⟨v, hv, dv⟩ := DqAll.get al hd
    have e2 : v = x := Option.some.inj (hv.symm.trans (f xs sq2))
    subst e2
    exact ⟨Same.refl _, Dq.mono e dv⟩
theorem ei_tup (h : Evd K te ρ (.tuple ds)) : EvI K (iTup K te) ρ ds := fun O σ H k ok R q =>
  h O σ H k ok _ fun v H1 s d => by
    obtain ⟨a, xs, rfl, sq, al⟩ := d.tup_inv
    refine ⟨a, rfl, ⟨xs, seqT hide_same sq⟩, q _ H1 s fun O' i H2 e kn => ?_⟩
    have sq2 : SqT K H2 a xs := seqT hide_same (seqT e sq)
    have hl := DqAll.length al
    refine ⟨fun hi => ⟨xs, xs[i], sq2, List.getElem?_eq_getElem (by omega)⟩, fun hi => ⟨xs, sq2, by omega⟩, fun x H3 d y hd => ?_⟩
    obtain ⟨rfl, f⟩ := y
    obtain ⟨v, hv, dv⟩ := DqAll.get al hd
    have e2 : v = x := Option.some.inj (hv.symm.trans (f xs sq2))
    subst e2
    exact ⟨Same.refl _, Dq.mono e dv⟩
def rangeD (lo : Int) (n : Nat) : List D := (List.range n).map fun i => .int (lo + (i : Nat))
theorem rangeD_len {lo : Int} {n : Nat} : (rangeD lo n).length = n := by
  unfold rangeD
  rw [List.length_map, List.length_range]
theorem rangeD_get {lo : Int} {n i : Nat} {d : D} (h : (rangeD lo n)[i]? = some d) : d = .int (lo + i) := by
  unfold rangeD at h
  rw [List.getElem?_map] at h
  cases e : (List.range n)[i]? with
  | none =>
    rw [e] at h
    cases h
  | some j =>
    rw [e] at h
    have e2 := (List.getElem?_eq_some_iff.mp e).2
    rw [List.getElem_range] at e2
    rw [← e2] at h
    exact (Option.some.inj h).symm
theorem itr_ok {lo : Int} {n : Nat} {H1 : Hp} {O : List Addr} : ItOk K (Itr lo n) H1 O (rangeD lo n) := fun O' i H2 e kn => by
  refine ⟨fun hi => ?_, fun hi => ?_, fun x H3 d y hd => ?_⟩
  · rw [rangeD_len] at hi
    exact hi
  · rw [rangeD_len] at hi
    exact hi
  · obtain ⟨rfl, rfl⟩ := y
    rw [rangeD_get hd]
    exact ⟨Same.refl _, .int _⟩
theorem ei_rng1 {j : Int} (h : EvA K ta ρ [.int j]) (h1 : -(2 ^ 62) ≤ j) (h2 : j < 2 ^ 62) : EvI K (iRng1 ta) ρ (rangeD 0 j.toNat) := fun O σ H k ok R q =>
  h O σ H k ok _ fun vs H1 s d => by
    have e : vs = [.int j] := DqAll.ints (ns := [j]) d
    exact ⟨j, e, h1, h2, q _ H1 s itr_ok⟩
theorem ei_rng2 {i j : Int} (h : EvA K ta ρ [.int i, .int j]) (h1 : -(2 ^ 62) ≤ i ∧ i < 2 ^ 62 ∧ -(2 ^ 62) ≤ j ∧ j < 2 ^ 62) : EvI K (iRng2 ta) ρ (rangeD i (j - i).toNat) := fun O σ H k ok R q =>
  h O σ H k ok _ fun vs H1 s d => by
    have e : vs = [.int i, .int j] := DqAll.ints (ns := [i, j]) d
    exact ⟨i, j, e, h1, q _ H1 s itr_ok⟩
def zipD (ds es : List D) : List D := (List.zip ds es).map fun p => .tuple [p.1, p.2]
theorem zipD_get {i : Nat} {d : D} (h : (zipD ds es)[i]? = some d) : ∃ a b, ds[i]? = some a ∧ es[i]? = some b ∧ d = .tuple [a, b] := by
  unfold zipD at h
  rw [List.getElem?_map] at h
  cases e : (List.zip ds es)[i]? with
  | none =>
    rw [e] at h
    cases h
  | some p =>
    rw [e] at h
    obtain ⟨a, b⟩ := p
    obtain ⟨h1, h2⟩ := List.getElem?_zip_eq_some.mp e
    exact ⟨a, b, h1, h2, (Option.some.inj h).symm⟩
theorem zipD_len : (zipD ds es).length = min ds.length es.length := by
  unfold zipD
  rw [List.length_map, List.length_zip]
theorem itzT_ok {a b : Addr} {xs ys : List V} {H1 : Hp} {O : List Addr} (s1 : SqT K (hide H1 O) a xs) (s2 : SqT K (hide H1 O) b ys) (d1 : DqAll K (hide H1 O) xs ds) (d2 : DqAll K (hide H1 O) ys es) : ItOk K (RZ.ItzT K a b) H1 O (zipD ds es) := fun O' i H2 e kn => by
  have l1 := DqAll.length d1
  have l2 := DqAll.length d2
  have t1 : SqT K H2 a xs := seqT hide_same (seqT e s1)
  have t2 : SqT K H2 b ys := seqT hide_same (seqT e s2)
  refine ⟨fun hi => ?_, fun hi => ?_, fun x H3 d y hd => ?_⟩
  · rw [zipD_len] at hi
    exact ⟨xs, ys, _, _, t1, t2, List.getElem?_eq_getElem (i := i) (by omega), List.getElem?_eq_getElem (i := i) (by omega)⟩
  · rw [zipD_len] at hi
    exact ⟨xs, ys, t1, t2, by omega⟩
  · obtain ⟨T, x1, x2, rfl, nT, rfl, f1, f2⟩ := y
    obtain ⟨p, q, g1, g2, rfl⟩ := zipD_get hd
    obtain ⟨v1, k1, m1⟩ := DqAll.get d1 g1
    obtain ⟨v2, k2, m2⟩ := DqAll.get d2 g2
    have e1 : v1 = x1 := Option.some.inj (k1.symm.trans (f1 xs t1))
    have e2 : v2 = x2 := Option.some.inj (k2.symm.trans (f2 ys t2))
    subst e1 e2
    have st := same_upd (o := HO.tup [v1, v2]) nT
    exact ⟨st, .tup (SqT.of (hide_new kn nT)) (.cons (Dq.mono (Same.hide st) (Dq.mono e m1)) (.cons (Dq.mono (Same.hide st) (Dq.mono e m2)) .nil))⟩
theorem ei_zipT (h : EvA K ta ρ [.tuple ds, .tuple es]) : EvI K (RZ.iZipA K ta) ρ (zipD ds es) := fun O σ H k ok R q =>
  h O σ H k ok _ fun vs H1 s d => by
    cases d with
    | cons d1 d =>
      cases d with
      | cons d2 d =>
        cases d
        obtain ⟨a, xs, rfl, s1, a1⟩ := d1.tup_inv
        obtain ⟨b, ys, rfl, s2, a2⟩ := d2.tup_inv
        exact ⟨a, b, xs, ys, rfl, .inr ⟨seqT hide_same s1, seqT hide_same s2, q _ H1 s (itzT_ok s1 s2 a1 a2)⟩⟩
end
/-! ### targets -/
/-- storing the data d: only the slots js change -/
def EvG (K : PySem.W.Frag) (g : TG) (js : List Nat) (d : D) (ρ ρ' : List (Option D)) : Prop := ∀ (O : List Addr) (σ : L2.St) (H : Hp) (v : V), EnvOk K (hide H O) σ ρ → Dq K (hide H O) v d → ∀ Q : L2.St → Hp → Prop,
  (∀ σ', EnvOk K (hide H O) σ' ρ' → σ'.length = σ.length → (∀ j, j ∉ js → σ'[j]? = σ[j]?) → Q σ' H) → g v σ H Q
def EvGs (K : PySem.W.Frag) (g : TGs) (js : List Nat) (ds : List D) (ρ ρ' : List (Option D)) : Prop := ∀ (O : List Addr) (σ : L2.St) (H : Hp) (vs : List V), EnvOk K (hide H O) σ ρ → DqAll K (hide H O) vs ds → ∀ Q : L2.St → Hp → Prop,
  (∀ σ', EnvOk K (hide H O) σ' ρ' → σ'.length = σ.length → (∀ j, j ∉ js → σ'[j]? = σ[j]?) → Q σ' H) → g vs σ H Q
section
variable {K : PySem.W.Frag} {ρ ρ1 ρ' : List (Option D)} {d : D} {ds : List D} {js js' : List Nat}
theorem eg_name {i : Nat} : EvG K (gName i) [i] d ρ (ρ.set i (some d)) := fun O σ H v ok dv Q q =>
  q _ (ok.set dv) (List.length_set ..) fun j hj => List.getElem?_set_ne fun z => hj (by rw [z]; exact List.mem_cons_self)
theorem egs_nil : EvGs K gNil [] [] ρ ρ := fun O σ H vs ok dv Q q => by
  cases dv
  exact ⟨rfl, q σ ok rfl fun _ _ => rfl⟩
theorem egs_cons {g : TG} {gs : TGs} (h : EvG K g js d ρ ρ1) (hs : EvGs K gs js' ds ρ1 ρ') : EvGs K (gCons g gs) (js ++ js') (d :: ds) ρ ρ' := fun O σ H vs ok dv Q q => by
  cases dv with
  | cons a b =>
    exact ⟨_, _, rfl, h O σ H _ ok a _ fun σ1 ok1 l1 f1 => hs O σ1 H _ ok1 b Q fun σ2 ok2 l2 f2 => q σ2 ok2 (l2.trans l1) fun j hj =>
      (f2 j fun z => hj (List.mem_append_right _ z)).trans (f1 j fun z => hj (List.mem_append_left _ z))⟩
theorem eg_tup {gs : TGs} {n : Nat} (hs : EvGs K gs js ds ρ ρ') (hn : ds.length = n := by rfl) : EvG K (gTup K n gs) js (.tuple ds) ρ ρ' := fun O σ H v ok dv Q q => by
  obtain ⟨a, xs, rfl, s, al⟩ := dv.tup_inv
  exact ⟨a, xs, rfl, seqT hide_same s, (DqAll.length al).trans hn, hs O σ H xs ok al Q q⟩
theorem eg_unl {gs : TGs} {n : Nat} (hs : EvGs K gs js ds ρ ρ') (hn : ds.length = n := by rfl) : EvG K (gUnl K n gs) js (.list ds) ρ ρ' := fun O σ H v ok dv Q q => by
  obtain ⟨a, xs, rfl, s, al⟩ := dv.list_inv
  exact ⟨a, xs, rfl, hide_same.seq s, (DqAll.length al).trans hn, hs O σ H xs ok al Q q⟩
theorem EvG.to {g : TG} {ρ2 : List (Option D)} (h : EvG K g js d ρ ρ1) (e : ρ1 = ρ2) : EvG K g js d ρ ρ2 := e ▸ h
end
/-! ### comprehensions -/
def wipeD (ρ : List (Option D)) : List Nat → List (Option D)
  | [] => ρ
  | v :: vs => (wipeD ρ vs).set v none
theorem EnvOk.wipe {K : PySem.W.Frag} {H : Hp} {σ : L2.St} {ρ : List (Option D)} (h : EnvOk K H σ ρ) : ∀ vs : List Nat, EnvOk K H (wipe σ vs) (wipeD ρ vs)
  | [] => h
  | v :: vs => (EnvOk.wipe h vs).none
theorem wipe_get : ∀ {vs : List Nat} {σ : L2.St} {j : Nat}, j ∈ vs → (wipe σ vs)[j]? = some none ∨ (wipe σ vs)[j]? = none
  | v :: vs, σ, j, h => by
    show ((wipe σ vs).set v none)[j]? = some none ∨ ((wipe σ vs).set v none)[j]? = none
    by_cases e : v = j
    · subst e
      by_cases hl : v < (wipe σ vs).length
      · exact .inl (List.getElem?_set_self hl)
      · exact .inr (List.getElem?_eq_none (by rw [List.length_set]; omega))
    · rw [List.getElem?_set_ne e]
      rcases List.mem_cons.mp h with z | z
      · exact absurd z.symm e
      · exact wipe_get z
theorem wipe_eq {σ σ' : L2.St} {vs : List Nat} (hl : σ'.length = σ.length) (h : ∀ j, j ∉ vs → σ'[j]? = σ[j]?) : wipe σ' vs = wipe σ vs := by
  refine List.ext_getElem? fun j => ?_
  by_cases hj : j ∈ vs
  · have l1 : (wipe σ' vs).length = (wipe σ vs).length := by rw [wipe_length, wipe_length, hl]
    rcases wipe_get (σ := σ') hj with a | a <;> rcases wipe_get (σ := σ) hj with b | b
    · rw [a, b]
    · have z1 := (List.getElem?_eq_some_iff.mp a).1
      have z2 := List.getElem?_eq_none_iff.mp b
      omega
    · have z1 := (List.getElem?_eq_some_iff.mp b).1
      have z2 := List.getElem?_eq_none_iff.mp a
      omega
    · rw [a, b]
  · rw [wipe_out hj, wipe_out hj, h j hj]
theorem wipe_wipe {σ : L2.St} {vs : List Nat} : wipe (wipe σ vs) vs = wipe σ vs := wipe_eq (wipe_length σ vs) fun j hj => wipe_out hj
section
variable {K : PySem.W.Frag} {ρ : List (Option D)} {wi : TI} {g : TG} {tt : TT} {te : TE} {vs js : List Nat} {ds : List D}
theorem ev_lcF {keep : D → Bool} {f : D → D} (hi : EvI K wi ρ ds) (hjs : ∀ j ∈ js, j ∈ vs) (hlen : ds.length ≤ 100000)
    (turn : ∀ (i : Nat) (d : D), ds[i]? = some d → ∃ ρ', EvG K g js d (wipeD ρ vs) ρ' ∧ EvT K tt ρ' (keep d) ∧ (keep d = true → Evd K te ρ' (f d))) : Evd K (tLc wi g tt te vs) ρ (.list ((ds.filter keep).map f)) := fun O σ H k ok Q q =>
  hi O σ H k ok _ fun J H1 s1 it D hD => by
    have kn1 : Known (upd H1 D (.lst [])) (D :: O) := Known.cons (k.mono s1) hD
    have base : ∀ {H' : Hp}, Same H1 H' → Same (hide H1 O) (hide H' (D :: O)) := fun {H'} e => same_more (P := [D]) e fun p hp => by
      rw [List.mem_singleton.mp hp]
      exact hD
    refine ⟨fun i m H' => m = ds.length - i ∧ i ≤ ds.length ∧ Same H1 H' ∧ ∃ acc, H' D = some (.lst acc) ∧ DqAll K (hide H' (D :: O)) acc (((ds.take i).filter keep).map f), ⟨_, rfl, Nat.zero_le _, same_upd hD, [], upd_same, .nil⟩, fun i m H2 w => ?_⟩
    obtain ⟨rfl, hi2, s2, acc, hacc, dacc⟩ := w
    have kn2 : Known H2 (D :: O) := fun p hp z => by
      rcases List.mem_cons.mp hp with rfl | hp
      · rw [hacc] at z
        cases z
      · exact (k.mono (s1.trans s2)) p hp z
    obtain ⟨go, stop, yl⟩ := it (D :: O) i H2 (base s2) kn2
    by_cases hlt : i < ds.length
    · refine .inr ⟨go hlt, fun H' => Same H1 H' ∧ ∃ acc, H' D = some (.lst acc) ∧ DqAll K (hide H' (D :: O)) acc (((ds.take (i + 1)).filter keep).map f), fun H' h => ⟨_, by omega, rfl, hlt, h⟩, fun x H3 hy => ?_⟩
      have hd : ds[i]? = some ds[i] := List.getElem?_eq_getElem hlt
      obtain ⟨s3, dx⟩ := yl x H3 _ hy hd
      obtain ⟨ρ', eg, et, ev⟩ := turn i _ hd
      have tk : ds.take (i + 1) = ds.take i ++ [ds[i]] := by
        rw [List.take_add_one, hd]
        rfl
      have ok3 : EnvOk K (hide H3 (D :: O)) (wipe σ vs) (wipeD ρ vs) := (EnvOk.wipe (ok.mono ((Same.hide s1).trans (base (s2.trans s3)))) vs)
      refine eg (D :: O) (wipe σ vs) H3 x ok3 dx _ fun σ2 ok2 l2 f2 => ⟨?_, ?_⟩
      · rw [wipe_eq l2 fun j hj => f2 j fun z => hj (hjs j z), wipe_wipe]
      · refine et (D :: O) σ2 H3 (kn2.mono s3) ok2 _ fun H4 s4 => ?_
        have h4 : H4 D = some (.lst acc) := s4 _ _ (s3 _ _ hacc)
        cases e : keep ds[i] with
        | false =>
          refine iteF ⟨s2.trans (s3.trans s4), acc, h4, ?_⟩
          rw [tk, List.filter_append, List.filter_cons, e]
          rw [show (if false = true then ds[i] :: List.filter keep [] else List.filter keep []) = [] from rfl, List.append_nil]
          exact DqAll.mono (Same.hide (s3.trans s4)) dacc
        | true =>
          refine iteT (ev e (D :: O) σ2 H4 (kn2.mono (s3.trans s4)) (ok2.mono (Same.hide s4)) _ fun y H5 s5 dy => ?_)
          have h5 : H5 D = some (.lst acc) := s5 _ _ h4
          have la : acc.length < sizeLine := by
            have l1 := DqAll.length dacc
            rw [List.length_map] at l1
            have l2 := List.length_filter_le keep (ds.take i)
            rw [List.length_take] at l2
            exact Nat.lt_of_le_of_lt (m := 100000) (by omega) (by decide)
          refine ⟨acc, h5, la, ?_, acc ++ [y], upd_same, ?_⟩
          · intro b o hb
            have nb : b ≠ D := ne_of_none hb hD
            rw [upd_ne nb]
            exact s5 _ _ (s4 _ _ (s3 _ _ (s2 _ _ hb)))
          · rw [hide_upd_in List.mem_cons_self, tk, List.filter_append, List.map_append, List.filter_cons, e]
            exact DqAll.append (DqAll.mono (Same.hide (s3.trans (s4.trans s5))) dacc) (.cons dy .nil)
    · have e : i = ds.length := by omega
      subst e
      refine .inl ⟨stop (Nat.le_refl _), q _ H2 (s1.trans s2) ?_⟩
      have hDO : D ∉ O := (k.mono s1).new hD
      rw [List.take_length] at dacc
      refine .lst (SqL.of ?_) (DqAll.mono (same_less (P := [D])) dacc)
      rw [hide_out hDO]
      exact hacc
theorem et_yes : EvT K tYes ρ true := fun O σ H k ok Q q => q H (Same.refl H)
theorem ev_lc {f : D → D} (hi : EvI K wi ρ ds) (hlen : ds.length ≤ 100000) (hjs : ∀ j ∈ js, j ∈ vs)
    (turn : ∀ (i : Nat) (d : D), ds[i]? = some d → ∃ ρ', EvG K g js d (wipeD ρ vs) ρ' ∧ Evd K te ρ' (f d)) : Evd K (tLc wi g tYes te vs) ρ (.list (ds.map f)) := by
  have h := ev_lcF (keep := fun _ => true) (f := f) (tt := tYes) hi hjs hlen fun i d hd => by
    obtain ⟨ρ', a, b⟩ := turn i d hd
    exact ⟨ρ', a, et_yes, fun _ => b⟩
  rw [List.filter_eq_self.mpr fun _ _ => rfl] at h
  exact h
end
end DL

-- DR
/-! rules that the hand layer lacks: sorted and max of data -/
namespace DL
open PySem PySem.Spec PyProof.Rows L2 PySem.W
section
variable {prog : Program} {w : World} {A : Around} {E : Value → Shared → Prop} {s : Shared}
/-- max(a, b) of alike data -/
theorem max_two_data {a b : Value} {x y : PyData} {as : List Addr} {Q : Value → Shared → Prop} (hh : A.handled = none) (hr : ReadsAll s.heap [a, b] [x, y] as) (ha : AlikeAll [x, y]) (hu : A.units + 1 + PyData.depthAll [x, y] < cLine)
    (h : ∀ h' tk, (∀ b o, s.heap.get? b = some o → h'.get? b = some o) → Q (if dataLt x y = true then b else a) { s with heap := h', toks := tk }) :
    wpAny (model prog w) A (call (.builtin "max") [a, b]) Q E s := by
  have hname : (toString "max" ++ toString ".loop" : String) = "max.loop" := by decide
  refine call_function_tree F.kind_max F.plain_max F.entry_max (F.args_max2 _ _) ?_
  show wpAny _ A.in1 (Builtin.Builtins.bindParams "max" ["key", "default"] 0 ⟨[], []⟩ >>= _) _ _ s
  refine wpAny_bind (wpAny_of_eq (show Builtin.Builtins.bindParams "max" ["key", "default"] 0 ⟨[], []⟩ = pure [none, none] from rfl) ?_)
  show wpAny _ A.in1 (newTuple [a, b] >>= _) _ _ s
  refine wpAny_bind (wpAny_newObj_type ?_)
  have hk1 : ∀ c o, s.heap.get? c = some o → (s.heap.push { cls := .type "tuple", data := .seq #[a, b] }).get? c = some o := fun c o e => Heap.get?_push_of_some _ e
  have hT : (s.heap.push { cls := .type "tuple", data := .seq #[a, b] }).IsTuple s.heap.objs.size #[a, b] := ⟨_, Heap.get?_push_size _ rfl, rfl, 0, rfl⟩
  have hr1 : ReadsAll (s.heap.push { cls := .type "tuple", data := .seq #[a, b] }) (#[a, b] : Array Value).toList [x, y] as := ReadsAll.keeps hk1 hr
  have hsz : (s.heap.push { cls := .type "tuple", data := .seq #[a, b] }).objs.size = s.heap.objs.size + 1 := Heap.size_push ..
  refine wpAny_bind (iter_tupleW (A := A.in1) (s := { s with heap := s.heap.push { cls := .type "tuple", data := .seq #[a, b] } }) hh hT fun s₂ e W hst hfp hw hkeep => ?_)
  refine wpAny_bind (wpAny_newObj_type ?_)
  have hSf : s₂.heap.objs.size ∉ [(s.heap.push { cls := .type "tuple", data := .seq #[a, b] }).objs.size, s.heap.objs.size] := fun hm => Nat.lt_irrefl _ (hfp _ hm)
  rw [hname]
  refine wpAny_pure ⟨plainId_quiet F.plain_max_loop _, codeAny_max_loop_firstH W (s.heap.push { cls := .type "tuple", data := .seq #[a, b] }) hw _ (cmpIn_gt (A := A.in1) (s := { s with heap := s.heap.push { cls := .type "tuple", data := .seq #[a, b] } }) hr1 ha (by show A.units + 1 + _ < _; exact hu)) s₂.heap.objs.size hSf (fresh_in hkeep) _ (show 0 < 2 from Nat.zero_lt_two)
    (fun b o e => Heap.get?_push_of_some _ (hkeep b o e)) (W.frame 0 s₂ _ s₂.toks hst (Nat.le_refl _) fun b _ o e => Heap.get?_push_of_some _ e) (Heap.get?_push_size _ rfl) fun v s' hP hm => ?_⟩
  have hm2 := Moved.drop_new (tk := s₂.toks) hm (Nat.le_refl _)
  obtain ⟨h', tk, rfl, hk'⟩ := moved_old e rfl hm2
  have q := h h' tk fun c o ec => hk' c o (hk1 c o ec)
  have hv : v = if dataLt x y = true then b else a := by
    have hP2 : (#[a, b] : Array Value)[argBest (fun i j => dataLt ([x, y].getD j PyData.none) ([x, y].getD i PyData.none)) 1]? = some v := hP
    have eb : argBest (fun i j => dataLt ([x, y].getD j PyData.none) ([x, y].getD i PyData.none)) 1 = if dataLt x y = true then 1 else 0 := rfl
    rw [eb] at hP2
    by_cases c : dataLt x y = true
    · rw [if_pos c] at hP2 ⊢
      exact (Option.some.inj hP2).symm
    · rw [if_neg c] at hP2 ⊢
      exact (Option.some.inj hP2).symm
  rw [hv]
  exact q
/-- max of a list of alike data: the item at the place of the greatest -/
theorem max_list_at {l : Addr} {vs : Array Value} {x : PyData} {xs : List PyData} {as : List Addr} {Q : Value → Shared → Prop} (hh : A.handled = none) (hl : s.heap.IsList l vs) (hr : ReadsAll s.heap vs.toList (x :: xs) as) (ha : AlikeAll (x :: xs)) (hu : A.units + 1 + PyData.depthAll (x :: xs) < cLine)
    (h : ∀ (i : Nat) v h' tk, vs[i]? = some v → (x :: xs)[i]? = some (maxD x xs) → (∀ b o, s.heap.get? b = some o → h'.get? b = some o) → Q v { s with heap := h', toks := tk }) :
    wpAny (model prog w) A (call (.builtin "max") [.ref l]) Q E s := by
  have hn : vs.size = xs.length + 1 := readsAll_len hr
  refine call_max_walkH (iter_listW (A := A.in1) hh hl fun s₂ e W st hfp hw hk => ?_)
  refine ⟨_, _, _, _, _, _, _, s.heap, _, rfl, W, st, hfp, by omega, hw, hk, cmpIn_gt (A := A.in1) hr ha (by show A.units + 1 + _ < _; exact hu), fun v s' hP m => ?_⟩
  obtain ⟨h', tk, rfl, hk'⟩ := moved_old e rfl m
  have e1 : vs.size - 1 = xs.length := by omega
  have e2 := argBest_fold (fun a b => dataLt b a) PyData.none x xs xs.length (Nat.le_refl _)
  rw [List.take_length] at e2
  rw [e1] at hP
  refine h _ v h' tk hP ?_ hk'
  have l1 := e2.1
  have e3 := e2.2
  rw [List.getD_eq_getElem?_getD] at e3
  have hx : argBest (fun i j => dataLt ((x :: xs).getD j PyData.none) ((x :: xs).getD i PyData.none)) xs.length < (x :: xs).length := by
    show _ < xs.length + 1
    omega
  rw [List.getElem?_eq_getElem hx] at e3 ⊢
  exact congrArg some e3
end
section
variable {X : Cx}
theorem DqAll.reads {pins : List (Addr × Obj)} {σ : L2.St} {H : Hp} {s : Shared} (I : Inv X pins σ H s) {xs : List V} {ds : List D} {us : List Value} (h : DqAll X.K H xs ds) (r : Vals xs us) : ∃ as, ReadsAll s.heap us ds as := Dp.readsAll I ds xs us h.dp r
def rMaxD (K : PySem.W.Frag) : List V → Hp → VK → Prop := fun vs H Q => ∃ (a : Addr) (xs : List V) (d : D) (ds : List D), vs = [.ref a] ∧ SqL K H a xs ∧ DqAll K H xs (d :: ds) ∧ AlikeAll (d :: ds) ∧ PyData.depthAll (d :: ds) ≤ 60 ∧
  ∀ (i : Nat) (v : V), xs[i]? = some v → (d :: ds)[i]? = some (maxD d ds) → Q v H
theorem cr_maxD (hc : X.calm = true) (hu : X.A.units + 64 < cLine) : CallR X (.builtin "max") (rMaxD X.K) := by
  intro pins s σ H vs us Q I r h
  obtain ⟨a, xs, d, ds, rfl, hs, hd, hal, hdep, q⟩ := h
  obtain ⟨its, rv, hl, _⟩ := I.list hs
  obtain ⟨as, hr⟩ := DqAll.reads I hd rv
  rw [Vals.ref1 r]
  refine max_list_at (I.ok.hd hc) hl.isList (by simpa using hr) hal (by omega) fun i v h' tk hv hi hk => ?_
  have hv2 : its[i]? = some v := by simpa using hv
  have hlt : i < xs.length := by
    rw [rv.length]
    exact (List.getElem?_eq_some_iff.mp hv2).1
  obtain ⟨u, hu2, ru⟩ := rv.get (List.getElem?_eq_getElem hlt)
  have e : u = v := Option.some.inj (hu2.symm.trans hv2)
  subst e
  exact ⟨xs[i], H, I.kept hk, ru, q i _ (List.getElem?_eq_getElem hlt) hi⟩
def rMax2D (K : PySem.W.Frag) : List V → Hp → VK → Prop := fun vs H Q => ∃ (x y : V) (d e : D), vs = [x, y] ∧ Dq K H x d ∧ Dq K H y e ∧ AlikeAll [d, e] ∧ PyData.depthAll [d, e] ≤ 60 ∧ Q (if dataLt d e = true then y else x) H
theorem cr_max2D (hc : X.calm = true) (hu : X.A.units + 64 < cLine) : CallR X (.builtin "max") (rMax2D X.K) := by
  intro pins s σ H vs us Q I r h
  obtain ⟨x, y, d, e, rfl, hd, he, hal, hdep, q⟩ := h
  cases r with
  | cons r1 r =>
    cases r with
    | cons r2 r =>
      cases r
      obtain ⟨as, h1⟩ := Dp.reads I d x _ hd.dp r1
      obtain ⟨bs, h2⟩ := Dp.reads I e y _ he.dp r2
      refine max_two_data (I.ok.hd hc) (.cons h1 (.cons h2 .nil)) hal (by omega) fun h' tk hk => ⟨_, H, I.kept hk, ?_, q⟩
      by_cases c : dataLt d e = true
      · rw [if_pos c, if_pos c]
        exact r2
      · rw [if_neg c, if_neg c]
        exact r1
def sortD (ds : List D) : List D := ds.mergeSort (dataLe false id)
def rSortD (K : PySem.W.Frag) : List V → Hp → VK → Prop := fun vs H Q => ∃ (a : Addr) (xs : List V) (ds : List D), vs = [.ref a] ∧ SqL K H a xs ∧ DqAll K H xs ds ∧ AllAlike ds ∧ Sortable ds ∧ (∀ d ∈ ds, d.depth ≤ 60) ∧
  ∀ (ys : List V) (p : Addr), (∀ S : V → D → Prop, Paired S xs ds → Paired S ys (sortD ds)) → H p = none → Q (.ref p) (upd H p (.lst ys))
theorem zip_each {K : PySem.W.Frag} {H : Hp} : ∀ {xs : List V} {ds : List D} {us : List Value}, DqAll K H xs ds → Vals xs us → EachIs (fun v (b : V × D) => RelV b.1 v) us (xs.zip ds)
  | _, _, _, .nil, .nil => .nil
  | _, _, _, .cons a b, .cons r t => .cons r (zip_each b t)
theorem zip_reads {pins : List (Addr × Obj)} {σ : L2.St} {H : Hp} {s : Shared} (I : Inv X pins σ H s) : ∀ {xs : List V} {ds : List D} {us : List Value}, DqAll X.K H xs ds → Vals xs us → EachIs (fun v (b : V × D) => ∃ as, Reads s.heap v b.2 as) us (xs.zip ds)
  | _, _, _, .nil, .nil => .nil
  | _, _, _, .cons a b, .cons r t => .cons (Dp.reads I _ _ _ a.dp r) (zip_reads I b t)
theorem zip_snd {K : PySem.W.Frag} {H : Hp} : ∀ {xs : List V} {ds : List D}, DqAll K H xs ds → (xs.zip ds).map Prod.snd = ds
  | _, _, .nil => rfl
  | _, d :: ds, .cons a b => by
    show d :: (List.zip _ ds).map Prod.snd = d :: ds
    rw [zip_snd b]
theorem each_vals : ∀ {out : List Value} {bs : List (V × D)}, EachIs (fun v (b : V × D) => RelV b.1 v) out bs → Vals (bs.map Prod.fst) out
  | _, _, .nil => .nil
  | _, _, .cons r t => .cons r (each_vals t)
theorem paired_zip {S : V → D → Prop} : ∀ {xs : List V} {ds : List D}, Paired S xs ds → ∀ p ∈ xs.zip ds, S p.1 p.2
  | _, _, .nil, p, h => by cases h
  | _, _, .cons r t, p, h => by
    rcases List.mem_cons.mp h with e | h
    · rw [e]
      exact r
    · exact paired_zip t p h
theorem paired_of {S : V → D → Prop} : ∀ {bs : List (V × D)}, (∀ p ∈ bs, S p.1 p.2) → Paired S (bs.map Prod.fst) (bs.map Prod.snd)
  | [], _ => .nil
  | b :: bs, h => .cons (h b List.mem_cons_self) (paired_of fun p hp => h p (List.mem_cons_of_mem _ hp))
theorem cr_sortD (hu : X.A.units + 64 < cLine) : CallR X (.builtin "sorted") (rSortD X.K) := by
  intro pins s σ H vs us Q I r h
  obtain ⟨a, xs, ds, rfl, hs, hd, hal, hso, hdep, q⟩ := h
  obtain ⟨its, rv, hl, hz⟩ := I.list hs
  rw [Vals.ref1 r]
  have es := zip_snd hd
  have hlen : (xs.zip ds).length = xs.length := by
    rw [List.length_zip, DqAll.length hd]
    omega
  refine sorted_data (R := fun v (b : V × D) => RelV b.1 v) (enc := Prod.snd) (bs := xs.zip ds) hl.isList (zip_each hd rv) (zip_reads I hd rv) (by rw [es]; exact hal) (by rw [es]; exact hso) (by rw [hlen]; exact hz) (fun b hb => ?_) fun out hlo ho => ?_
  · have : b.2 ∈ ds := by
      rw [← es]
      exact List.mem_map.mpr ⟨b, hb, rfl⟩
    have := hdep _ this
    omega
  · have hv := each_vals ho
    obtain ⟨ep, he'⟩ := PyProof.Rows.sortedAll_at s.heap its (List.toArray out)
    have e2 : ((xs.zip ds).mergeSort (dataLe false Prod.snd)).map Prod.snd = sortD ds := by
      have q := sort_maps (r := dataLe false (Prod.snd : V × D → D)) (s := dataLe false id) (Prod.snd : V × D → D) (l := xs.zip ds) (fun a _ b _ => rfl)
      rw [es] at q
      exact q
    have hl2 : (((xs.zip ds).mergeSort (dataLe false Prod.snd)).map Prod.fst).length ≤ sizeLine := by
      rw [List.length_map, List.length_mergeSort, hlen]
      exact hz
    refine ⟨.ref _, upd H (s.heap.objs.size + 1) (.lst (((xs.zip ds).mergeSort (dataLe false Prod.snd)).map Prod.fst)), I.laid (t' := s.toks) (fun _ _ => PyProof.Rows.sortedAll_old) (Nat.le_succ _) ⟨hl2, out, ep, hv, he'⟩, rfl, q _ _ (fun S hS => ?_) (I.hok.fresh (Nat.le_succ _))⟩
    rw [← e2]
    exact paired_of fun p hp => paired_zip hS p ((List.mergeSort_perm _ _).mem_iff.mp hp)
end
end DL

-- DL3
/-! calls, built-ins, subscripts over data; statements -/
namespace DL
open PySem PySem.Spec PyProof.Rows L2 PySem.W
section
variable {K : PySem.W.Frag} {ρ : List (Option D)} {ta tb tc te : TE} {t u : TT} {ts : TA} {d d' e : D} {ds es : List D}
/-! ### calls -/
/-- the promise: with data ds it gives the data d where R ds d -/
def spD (K : PySem.W.Frag) (R : List D → D → Prop) : Sp := fun vs H Q _ => ∃ (O : List Addr) (ds : List D) (d : D), Known H O ∧ DqAll K (hide H O) vs ds ∧ R ds d ∧ ∀ v H', Same H H' → Dq K (hide H' O) v d → Q v H'
theorem ev_call {R : List D → D → Prop} {E : XK} (h : EvA K ts ρ ds) (r : R ds d) : Evd K (tCall (spD K R) [] E ts) ρ d := fun O σ H k ok Q q =>
  h O σ H k ok _ fun vs H1 s1 d1 => by
    show spD K R (vs ++ []) H1 Q E
    rw [List.append_nil]
    exact ⟨O, ds, d, k.mono s1, d1, r, fun v H' s2 d2 => q v H' (s1.trans s2) d2⟩
/-- a built-in by its rule -/
theorem ev_CB {r : List V → Hp → VK → Prop} (h : EvA K ts ρ ds) (hr : ∀ (O : List Addr) (H : Hp) (vs : List V) (Q : VK), Known H O → DqAll K (hide H O) vs ds → (∀ v H', Same H H' → Dq K (hide H' O) v d → Q v H') → r vs H Q) : Evd K (tCB r ts) ρ d := fun O σ H k ok Q q =>
  h O σ H k ok _ fun vs H1 s1 d1 => hr O H1 vs Q (k.mono s1) d1 fun v H' s2 d2 => q v H' (s1.trans s2) d2
theorem all1 {H : Hp} {vs : List V} (h : DqAll K H vs [d]) : ∃ v, vs = [v] ∧ Dq K H v d := by
  cases h with
  | cons a b =>
    cases b
    exact ⟨_, rfl, a⟩
theorem all2 {H : Hp} {vs : List V} (h : DqAll K H vs [d, e]) : ∃ v w, vs = [v, w] ∧ Dq K H v d ∧ Dq K H w e := by
  cases h with
  | cons a b =>
    cases b with
    | cons b c =>
      cases c
      exact ⟨_, _, rfl, a, b⟩
def rLenS (K : PySem.W.Frag) : List V → Hp → VK → Prop := fun xs H Q => ∃ p ys, xs = [.ref p] ∧ (SqL K H p ys ∨ SqT K H p ys) ∧ Q (.int ys.length) H
theorem cb_len {X : Cx} : CallR X (.builtin "len") (rLenS X.K) := call_len_seq
theorem ev_lenL (h : EvA K ts ρ [.list ds]) : Evd K (tCB (rLenS K) ts) ρ (.int ds.length) := ev_CB h fun O H vs Q k dv q => by
  obtain ⟨v, rfl, dd⟩ := all1 dv
  obtain ⟨a, xs, rfl, s, al⟩ := dd.list_inv
  refine ⟨a, xs, rfl, .inl (hide_same.seq s), ?_⟩
  rw [DqAll.length al]
  exact q _ H (Same.refl H) (.int _)
theorem ev_lenT (h : EvA K ts ρ [.tuple ds]) : Evd K (tCB (rLenS K) ts) ρ (.int ds.length) := ev_CB h fun O H vs Q k dv q => by
  obtain ⟨v, rfl, dd⟩ := all1 dv
  obtain ⟨a, xs, rfl, s, al⟩ := dd.tup_inv
  refine ⟨a, xs, rfl, .inr (seqT hide_same s), ?_⟩
  rw [DqAll.length al]
  exact q _ H (Same.refl H) (.int _)
theorem ev_sum {ns : List Int} (h : EvA K ts ρ [.list (ns.map PyData.int)]) : Evd K (tCB (rSum K) ts) ρ (.int ns.sum) := ev_CB h fun O H vs Q k dv q => by
  obtain ⟨v, rfl, dd⟩ := all1 dv
  obtain ⟨a, xs, rfl, s, al⟩ := dd.list_inv
  have e := DqAll.ints al
  subst e
  exact ⟨a, ns, rfl, hide_same.seq s, q _ H (Same.refl H) (.int _)⟩
theorem ev_all {ns : List Bool} (h : EvA K ts ρ [.list (ns.map PyData.bool)]) : Evd K (tCB (rAll K) ts) ρ (.bool (ns.all id)) := ev_CB h fun O H vs Q k dv q => by
  obtain ⟨v, rfl, dd⟩ := all1 dv
  obtain ⟨a, xs, rfl, s, al⟩ := dd.list_inv
  have e := DqAll.bools al
  subst e
  exact ⟨a, ns, rfl, hide_same.seq s, q _ H (Same.refl H) (.bl _)⟩
theorem ev_any {ns : List Bool} (h : EvA K ts ρ [.list (ns.map PyData.bool)]) : Evd K (tCB (rAny K) ts) ρ (.bool (ns.any id)) := ev_CB h fun O H vs Q k dv q => by
  obtain ⟨v, rfl, dd⟩ := all1 dv
  obtain ⟨a, xs, rfl, s, al⟩ := dd.list_inv
  have e := DqAll.bools al
  subst e
  exact ⟨a, ns, rfl, hide_same.seq s, q _ H (Same.refl H) (.bl _)⟩
theorem ev_gcd {a b : Int} (h : EvA K ts ρ [.int a, .int b]) : Evd K (tCB rGcd ts) ρ (.int ((Nat.gcd a.natAbs b.natAbs : Nat) : Int)) := ev_CB h fun O H vs Q k dv q => by
  obtain ⟨v, w, rfl, d1, d2⟩ := all2 dv
  rw [d1.int_inv, d2.int_inv]
  exact ⟨a, b, rfl, q _ H (Same.refl H) (.int _)⟩
def rAbs : List V → Hp → VK → Prop := fun xs H Q => ∃ i, xs = [.int i] ∧ Q (.int (if i < 0 then -i else i)) H
theorem cb_abs {X : Cx} : CallR X (.builtin "abs") rAbs := call_abs
theorem ev_abs {a : Int} (h : EvA K ts ρ [.int a]) : Evd K (tCB rAbs ts) ρ (.int (if a < 0 then -a else a)) := ev_CB h fun O H vs Q k dv q => by
  obtain ⟨v, rfl, d1⟩ := all1 dv
  rw [d1.int_inv]
  exact ⟨a, rfl, q _ H (Same.refl H) (.int _)⟩
def rMaxI : List V → Hp → VK → Prop := fun xs H Q => ∃ i j, xs = [.int i, .int j] ∧ Q (.int (if j > i then j else i)) H
theorem cb_maxI {X : Cx} (hc : X.calm = true) : CallR X (.builtin "max") rMaxI := call_max2 hc
theorem ev_maxI {a b : Int} (h : EvA K ts ρ [.int a, .int b]) : Evd K (tCB rMaxI ts) ρ (.int (if b > a then b else a)) := ev_CB h fun O H vs Q k dv q => by
  obtain ⟨v, w, rfl, d1, d2⟩ := all2 dv
  rw [d1.int_inv, d2.int_inv]
  exact ⟨a, b, rfl, q _ H (Same.refl H) (.int _)⟩
def rInt1 : List V → Hp → VK → Prop := fun xs H Q => (∃ i, xs = [.int i] ∧ Q (.int i) H) ∨ ∃ k, xs = [.bl k] ∧ Q (.int (if k then 1 else 0)) H
theorem ct_int {X : Cx} : CallR X (.type "int") rInt1 := call_int1
theorem ev_intI {a : Int} (h : EvA K ts ρ [.int a]) : Evd K (tCB rInt1 ts) ρ (.int a) := ev_CB h fun O H vs Q k dv q => by
  obtain ⟨v, rfl, d1⟩ := all1 dv
  rw [d1.int_inv]
  exact .inl ⟨a, rfl, q _ H (Same.refl H) (.int _)⟩
theorem ev_intB {a : Bool} (h : EvA K ts ρ [.bool a]) : Evd K (tCB rInt1 ts) ρ (.int (if a then 1 else 0)) := ev_CB h fun O H vs Q k dv q => by
  obtain ⟨v, rfl, d1⟩ := all1 dv
  rw [d1.bool_inv]
  exact .inr ⟨a, rfl, q _ H (Same.refl H) (.int _)⟩
theorem ev_tupL (h : Evd K te ρ (.list ds)) : Evd K (tThen te (kTup K)) ρ (.tuple ds) := fun O σ H k ok Q q =>
  h O σ H k ok _ fun v H1 s1 d1 => by
    obtain ⟨a, xs, rfl, s, al⟩ := d1.list_inv
    exact .inl ⟨a, xs, rfl, hide_same.seq s, fun p np => q _ _ (s1.trans (same_upd np)) (.tup (SqT.of (hide_new (k.mono s1) np)) (DqAll.mono (Same.hide (same_upd np)) al))⟩
theorem ev_tupT (h : Evd K te ρ (.tuple ds)) : Evd K (tThen te (kTup K)) ρ (.tuple ds) := fun O σ H k ok Q q =>
  h O σ H k ok _ fun v H1 s1 d1 => by
    obtain ⟨a, xs, rfl, s, al⟩ := d1.tup_inv
    exact .inr ⟨a, xs, rfl, seqT hide_same s, q _ H1 s1 (.tup s al)⟩
theorem ty_tup {H : Hp} {a : Addr} {xs : List V} (h : SqT K H a xs) : TyX K H (.ref a) (.type "tuple") := by
  rcases h with (h | ⟨o, h⟩) | ⟨o, its, n, h, c, _⟩
  · exact .base (.tup h)
  · exact .fTuple h
  · exact .kTuple h c
/-- isinstance(x, (tuple, list)) of a tuple -/
theorem ev_isSeq (h : Evd K te ρ (.tuple ds)) : Evd K (tCB (rIsiT K) (tCons te (tCons (tTup (tCons (tC (.ty "tuple")) (tCons (tC (.ty "list")) tNil))) tNil))) ρ (.bool true) := fun O σ H k ok Q q =>
  h O σ H k ok _ fun v H1 s1 d1 => by
    obtain ⟨a, xs, rfl, s, al⟩ := d1.tup_inv
    refine ⟨(by show 2 ≤ sizeLine; decide), fun p np => ?_⟩
    have s2 := same_upd (o := HO.tup [.ty "tuple", .ty "list"]) np
    refine ⟨.ref a, p, [.ty "tuple", .ty "list"], .type "tuple", [.type "tuple", .type "list"], true, rfl, upd_same, .cons (.ty _) (.cons (.ty _) .nil), ty_tup (seqT (hide_same.trans s2) s), ?_, q _ _ (s1.trans s2) (.bl true)⟩
    exact kitAny_cons (b := true) (kit_ty (by decide +kernel)) (fun z => by cases z) (fun _ => rfl)
theorem ev_isInt {i : Int} (h : Evd K te ρ (.int i)) : Evd K (tCB (rIsi K) (tCons te (tCons (tC (.ty "int")) tNil))) ρ (.bool true) := fun O σ H k ok Q q =>
  h O σ H k ok _ fun v H1 s1 d1 => by
    rw [d1.int_inv]
    exact ⟨.int i, .ty "int", .type "int", .type "int", true, rfl, .ty _, .base (.int i), kit_ty (by decide +kernel), q _ _ s1 (.bl true)⟩
theorem paired_dp {H : Hp} : ∀ {vs : List V} {ds : List D}, DqAll K H vs ds → Paired (Dq K H) vs ds
  | _, _, .nil => .nil
  | _, _, .cons a b => .cons a (paired_dp b)
theorem dp_paired {H : Hp} : ∀ {vs : List V} {ds : List D}, Paired (Dq K H) vs ds → DqAll K H vs ds
  | _, _, .nil => .nil
  | _, _, .cons a b => .cons a (dp_paired b)
theorem ev_sortD (h : EvA K ts ρ [.list ds]) (h1 : PySem.W.AllAlike ds) (h2 : PySem.W.Sortable ds) (h3 : ∀ d ∈ ds, d.depth ≤ 60) : Evd K (tCB (rSortD K) ts) ρ (.list (sortD ds)) := ev_CB h fun O H vs Q k dv q => by
  obtain ⟨v, rfl, dd⟩ := all1 dv
  obtain ⟨a, xs, rfl, s, al⟩ := dd.list_inv
  refine ⟨a, xs, ds, rfl, hide_same.seq s, DqAll.mono hide_same al, h1, h2, h3, fun ys p hp np => q _ _ (same_upd np) ?_⟩
  exact .lst (SqL.of (hide_new k np)) (DqAll.mono (Same.hide (same_upd np)) (dp_paired (hp _ (paired_dp al))))
theorem ev_maxD (h : EvA K ts ρ [.list (d :: ds)]) (h1 : AlikeAll (d :: ds)) (h3 : PyData.depthAll (d :: ds) ≤ 60) : Evd K (tCB (rMaxD K) ts) ρ (maxD d ds) := ev_CB h fun O H vs Q k dv q => by
  obtain ⟨v, rfl, dd⟩ := all1 dv
  obtain ⟨a, xs, rfl, s, al⟩ := dd.list_inv
  refine ⟨a, xs, d, ds, rfl, hide_same.seq s, DqAll.mono hide_same al, h1, h3, fun i v hv hi => q _ _ (Same.refl H) ?_⟩
  obtain ⟨e, he, de⟩ := DqAll.getv al hv
  have e2 : e = maxD d ds := Option.some.inj (he.symm.trans hi)
  rw [← e2]
  exact de
theorem ev_max2D (h : EvA K ts ρ [d, e]) (h1 : AlikeAll [d, e]) (h3 : PyData.depthAll [d, e] ≤ 60) : Evd K (tCB (rMax2D K) ts) ρ (if PySem.W.dataLt d e = true then e else d) := ev_CB h fun O H vs Q k dv q => by
  obtain ⟨v, w, rfl, d1, d2⟩ := all2 dv
  refine ⟨v, w, d, e, rfl, Dq.mono hide_same d1, Dq.mono hide_same d2, h1, h3, ?_⟩
  by_cases c : PySem.W.dataLt d e = true
  · rw [if_pos c] at q ⊢
    exact q _ H (Same.refl H) d2
  · rw [if_neg c] at q ⊢
    exact q _ H (Same.refl H) d1
/-! ### subscripts -/
theorem at_get {H : Hp} {xs : List V} {i : Int} (al : DqAll K H xs ds) (h : atI ds i = some d) : ∃ v, atI xs i = some v ∧ Dq K H v d := by
  unfold atI at h ⊢
  rw [DqAll.length al]
  cases e : ixN ds.length i with
  | none =>
    rw [e] at h
    cases h
  | some j =>
    rw [e] at h
    exact DqAll.get al h
theorem ev_ixL {i : Int} (ha : Evd K ta ρ (.list ds)) (hb : Evd K tb ρ (.int i)) (h : atI ds i = some d) : Evd K (tOp (rIxL K) ta tb) ρ d := ev_opG ha hb fun O H x y Q kn dx dy q => by
  obtain ⟨a, xs, rfl, s, al⟩ := dx.list_inv
  obtain ⟨v, hv, dv⟩ := at_get al h
  exact ⟨a, xs, i, v, rfl, dy.int_inv, hide_same.seq s, hv, q v H (Same.refl H) dv⟩
theorem ev_ixT {i : Int} (ha : Evd K ta ρ (.tuple ds)) (hb : Evd K tb ρ (.int i)) (h : atI ds i = some d) : Evd K (tOp (rIxT K) ta tb) ρ d := ev_opG ha hb fun O H x y Q kn dx dy q => by
  obtain ⟨a, xs, rfl, s, al⟩ := dx.tup_inv
  obtain ⟨v, hv, dv⟩ := at_get al h
  exact ⟨a, xs, i, v, rfl, dy.int_inv, seqT hide_same s, hv, q v H (Same.refl H) dv⟩
def cutD (xs : List D) (lo hi : Option Int) : List D := (xs.drop (HT.sIx xs.length 0 lo)).take (HT.sIx xs.length xs.length hi - HT.sIx xs.length 0 lo)
theorem ev_slice0 {j : Int} (ha : Evd K ta ρ (.list ds)) (hb : Evd K tb ρ (.int j)) : Evd K (tSl (rSlL K) ta tNoPart (tPart tb)) ρ (.list (cutD ds none (some j))) := fun O σ H k ok Q q =>
  ha O σ H k ok _ fun x H1 s1 d1 => hb O σ H1 (k.mono s1) (ok.mono (Same.hide s1)) _ fun y H2 s2 d2 => by
    obtain ⟨a, xs, rfl, s, al⟩ := d1.list_inv
    refine ⟨j, d2.int_inv, a, xs, rfl, hide_same.seq ((Same.hide s2).seq s), fun p np => q _ _ ((s1.trans s2).trans (same_upd np)) ?_⟩
    refine .lst (SqL.of (hide_new (k.mono (s1.trans s2)) np)) ?_
    have al2 : ∀ o, DqAll K (hide (upd H2 p o) O) xs ds := fun o => DqAll.mono ((Same.hide s2).trans (Same.hide (same_upd np))) al
    unfold cutV cutD
    rw [DqAll.length al]
    exact DqAll.take _ (DqAll.drop _ (al2 _))
theorem ev_isN (ha : Evd K ta ρ d) : Evd K (tOp (fun x y H Q => y = .non ∧ Q (.bl (decide (x = .non))) H) ta (tC .non)) ρ (.bool (match d with | .none => true | _ => false)) := ev_opG ha ev_non fun O H x y Q kn dx dy q => by
  refine ⟨dy.non_inv, q _ H (Same.refl H) ?_⟩
  cases dx <;> exact .bl _
theorem ev_notN (ha : Evd K ta ρ d) : Evd K (tOp (fun x y H Q => y = .non ∧ Q (.bl (!decide (x = .non))) H) ta (tC .non)) ρ (.bool (match d with | .none => false | _ => true)) := ev_opG ha ev_non fun O H x y Q kn dx dy q => by
  refine ⟨dy.non_inv, q _ H (Same.refl H) ?_⟩
  cases dx <;> exact .bl _
end
/-! ### statements -/
inductive Sl where
  | un
  | dat (d : D)
  | own (ds : List D)
def strD : Sl → Option D
  | .dat d => some d
  | _ => none
def allD : Sl → Option D
  | .dat d => some d
  | .own ds => some (.list ds)
  | .un => none
structure StOk (K : PySem.W.Frag) (H0 : Hp) (O P : List Addr) (H : Hp) (σ : L2.St) (r : List Sl) : Prop where
  same : Same H0 H
  known : Known H0 O
  mine : ∀ p ∈ P, H0 p = none ∧ H p ≠ none
  len : σ.length = r.length
  dat : ∀ (i : Nat) (d : D), r[i]? = some (.dat d) → ∃ v, σ[i]? = some (some v) ∧ Dq K (hide H (P ++ O)) v d
  own : ∀ (i : Nat) (ds : List D), r[i]? = some (.own ds) → ∃ p xs, σ[i]? = some (some (.ref p)) ∧ p ∈ P ∧ H p = some (.lst xs) ∧ DqAll K (hide H (P ++ O)) xs ds
  inj : ∀ (i j : Nat) (ds es : List D) (p : Addr), r[i]? = some (.own ds) → r[j]? = some (.own es) → σ[i]? = some (some (.ref p)) → σ[j]? = some (some (.ref p)) → i = j
def Run (K : PySem.W.Frag) (T : TS) (r : List Sl) (N : List Sl → Prop) (R : D → Prop) : Prop := ∀ (H0 : Hp) (O P : List Addr) (H : Hp) (σ : L2.St) (E : Ends), StOk K H0 O P H σ r →
  (∀ r' P' H' σ', N r' → StOk K H0 O P' H' σ' r' → Same (hide H (P ++ O)) (hide H' (P' ++ O)) → E.nx σ' H') → (∀ d v H', R d → Same H0 H' → Dq K (hide H' O) v d → E.rt v H') → T E σ H
section
variable {K : PySem.W.Frag} {r r' : List Sl} {N N' : List Sl → Prop} {R : D → Prop} {te : TE} {T U : TS} {d : D} {H0 H H' : Hp} {O P : List Addr} {σ : L2.St}
theorem StOk.knownAll (S : StOk K H0 O P H σ r) : Known H (P ++ O) := fun p hp => by
  rcases List.mem_append.mp hp with h | h
  · exact (S.mine p h).2
  · exact (S.known.mono S.same) p h
theorem StOk.str (S : StOk K H0 O P H σ r) : EnvOk K (hide H (P ++ O)) σ (r.map strD) := ⟨by rw [S.len, List.length_map], fun i d h => by
  rw [List.getElem?_map] at h
  cases e : r[i]? with
  | none =>
    rw [e] at h
    cases h
  | some s =>
    rw [e] at h
    cases s with
    | un => cases Option.some.inj h
    | own ds => cases Option.some.inj h
    | dat d' =>
      have e2 : d' = d := Option.some.inj (Option.some.inj h)
      subst e2
      exact S.dat i d' e⟩
theorem StOk.all (S : StOk K H0 O P H σ r) : EnvOk K (hide H O) σ (r.map allD) := ⟨by rw [S.len, List.length_map], fun i d h => by
  rw [List.getElem?_map] at h
  cases e : r[i]? with
  | none =>
    rw [e] at h
    cases h
  | some s =>
    rw [e] at h
    cases s with
    | un => cases Option.some.inj h
    | own ds =>
      have e2 : PyData.list ds = d := Option.some.inj (Option.some.inj h)
      subst e2
      obtain ⟨p, xs, h1, h2, h3, h4⟩ := S.own i ds e
      refine ⟨_, h1, .lst (SqL.of ?_) (DqAll.mono same_less h4)⟩
      rw [hide_out (S.known.new (S.mine p h2).1)]
      exact h3
    | dat d' =>
      have e2 : d' = d := Option.some.inj (Option.some.inj h)
      subst e2
      obtain ⟨v, h1, h2⟩ := S.dat i d' e
      exact ⟨v, h1, Dq.mono same_less h2⟩⟩
theorem StOk.mono (S : StOk K H0 O P H σ r) (e : Same H H') : StOk K H0 O P H' σ r := ⟨S.same.trans e, S.known, fun p hp => ⟨(S.mine p hp).1, fun z => by
    cases q : H p with
    | none => exact (S.mine p hp).2 q
    | some o =>
      rw [e p o q] at z
      cases z⟩, S.len, fun i d h => let ⟨v, h1, h2⟩ := S.dat i d h; ⟨v, h1, Dq.mono (Same.hide e) h2⟩,
  fun i ds h => let ⟨p, xs, h1, h2, h3, h4⟩ := S.own i ds h; ⟨p, xs, h1, h2, e _ _ h3, DqAll.mono (Same.hide e) h4⟩, S.inj⟩
theorem set_get {α : Type} {l : List α} {i j : Nat} {x y : α} (h : (l.set i x)[j]? = some y) : (i = j ∧ x = y) ∨ (i ≠ j ∧ l[j]? = some y) := by
  by_cases e : i = j
  · subst e
    have hl : i < l.length := by
      have := (List.getElem?_eq_some_iff.mp h).1
      rwa [List.length_set] at this
    rw [List.getElem?_set_self hl] at h
    exact .inl ⟨rfl, Option.some.inj h⟩
  · rw [List.getElem?_set_ne e] at h
    exact .inr ⟨e, h⟩
theorem StOk.setD (S : StOk K H0 O P H σ r) {i : Nat} {v : V} (h : Dq K (hide H (P ++ O)) v d) : StOk K H0 O P H (σ.set i (some v)) (r.set i (.dat d)) := by
  refine ⟨S.same, S.known, S.mine, by rw [List.length_set, List.length_set, S.len], fun j d' hj => ?_, fun j ds hj => ?_, fun j k ds es p hj hk h1 h2 => ?_⟩
  · rcases set_get hj with ⟨e, q⟩ | ⟨ne, q⟩
    · subst e
      cases q
      have hl : i < σ.length := by
        have := (List.getElem?_eq_some_iff.mp hj).1
        rw [List.length_set] at this
        rw [S.len]
        exact this
      exact ⟨v, List.getElem?_set_self hl, h⟩
    · obtain ⟨w, h1, h2⟩ := S.dat j d' q
      exact ⟨w, by rw [List.getElem?_set_ne ne]; exact h1, h2⟩
  · rcases set_get hj with ⟨e, q⟩ | ⟨ne, q⟩
    · cases q
    · obtain ⟨p, xs, h1, h2⟩ := S.own j ds q
      exact ⟨p, xs, by rw [List.getElem?_set_ne ne]; exact h1, h2⟩
  · rcases set_get hj with ⟨e, q⟩ | ⟨ne, q⟩
    · cases q
    · rcases set_get hk with ⟨e', q'⟩ | ⟨ne', q'⟩
      · cases q'
      · rw [List.getElem?_set_ne ne] at h1
        rw [List.getElem?_set_ne ne'] at h2
        exact S.inj j k ds es p q q' h1 h2
/-- the slots js get data by a target: r' differs there alone -/
theorem StOk.setG (S : StOk K H0 O P H σ r) {js : List Nat} {σ' : L2.St} {ρ' : List (Option D)} (ok : EnvOk K (hide H (P ++ O)) σ' ρ') (hl : σ'.length = σ.length) (hf : ∀ j, j ∉ js → σ'[j]? = σ[j]?)
    (hl2 : r'.length = r.length) (h1 : ∀ j, j ∉ js → r'[j]? = r[j]?) (h2 : ∀ j ∈ js, ∀ s, r'[j]? = some s → (∃ d, s = .dat d ∧ ρ'[j]? = some (some d)) ∨ s = .un) : StOk K H0 O P H σ' r' := by
  refine ⟨S.same, S.known, S.mine, by rw [hl, hl2, S.len], fun j d' hj => ?_, fun j ds hj => ?_, fun j k ds es p hj hk q1 q2 => ?_⟩
  · by_cases hm : j ∈ js
    · rcases h2 j hm _ hj with ⟨d, e, q⟩ | e
      · cases e
        exact ok.2 j _ q
      · cases e
    · rw [h1 j hm] at hj
      obtain ⟨v, a, b⟩ := S.dat j d' hj
      exact ⟨v, by rw [hf j hm]; exact a, b⟩
  · by_cases hm : j ∈ js
    · rcases h2 j hm _ hj with ⟨d, e, q⟩ | e
      · cases e
      · cases e
    · rw [h1 j hm] at hj
      obtain ⟨p, xs, a, b⟩ := S.own j ds hj
      exact ⟨p, xs, by rw [hf j hm]; exact a, b⟩
  · by_cases hm : j ∈ js
    · rcases h2 j hm _ hj with ⟨d, e, q⟩ | e
      · cases e
      · cases e
    · by_cases hm2 : k ∈ js
      · rcases h2 k hm2 _ hk with ⟨d, e, q⟩ | e
        · cases e
        · cases e
      · rw [h1 j hm] at hj
        rw [h1 k hm2] at hk
        rw [hf j hm] at q1
        rw [hf k hm2] at q2
        exact S.inj j k ds es p hj hk q1 q2
theorem run_post (h : Run K T r N R) (hn : ∀ r', N r' → N' r') : Run K T r N' R := fun H0 O P H σ E S nx rt => h H0 O P H σ E S (fun r' P' H' σ' n S' m => nx r' P' H' σ' (hn r' n) S' m) rt
theorem run_seq (h : Run K T r (fun r' => Run K U r' N R) R) : Run K (tSeq T U) r N R := fun H0 O P H σ E S nx rt =>
  h H0 O P H σ { E with nx := U E } S (fun r' P' H' σ' n S' m => n H0 O P' H' σ' E S' (fun r2 P2 H2 σ2 n2 S2 m2 => nx r2 P2 H2 σ2 n2 S2 (m.trans m2)) rt) rt
theorem run_next (h : N r) : Run K tNext r N R := fun H0 O P H σ E S nx rt => nx r P H σ h S (Same.refl _)
theorem run_asg {i : Nat} (h : Evd K te (r.map strD) d) (n : N (r.set i (.dat d))) : Run K (tAsg te (gName i)) r N R := fun H0 O P H σ E S nx rt =>
  h (P ++ O) σ H S.knownAll S.str _ fun v H' s dv => nx _ P H' _ n ((S.mono s).setD dv) (Same.hide s)
/-- a value that is no object, read off the lists too -/
theorem run_asgF {i : Nat} (h : Evd K te (r.map allD) d) (f : flatD d = true) (n : N (r.set i (.dat d))) : Run K (tAsg te (gName i)) r N R := fun H0 O P H σ E S nx rt =>
  h O σ H (S.known.mono S.same) S.all _ fun v H' s dv => nx _ P H' _ n ((S.mono s).setD (dv.flat f)) (Same.hide s)
/-- a, b, .. = e -/
theorem run_asgG {g : TG} {js : List Nat} {ρ' : List (Option D)} (h : Evd K te (r.map strD) d) (hg : EvG K g js d (r.map strD) ρ') (r' : List Sl) (n : N r') (hl2 : r'.length = r.length := by rfl) (h1 : ∀ j, j ∉ js → r'[j]? = r[j]?)
    (h2 : ∀ j ∈ js, ∀ s, r'[j]? = some s → (∃ d, s = .dat d ∧ ρ'[j]? = some (some d)) ∨ s = .un) : Run K (tAsg te g) r N R := fun H0 O P H σ E S nx rt =>
  h (P ++ O) σ H S.knownAll S.str _ fun v H' s dv => hg (P ++ O) σ H' v (S.mono s).str dv _ fun σ' ok hl hf => nx _ P H' σ' n ((S.mono s).setG ok hl hf hl2 h1 h2) (Same.hide s)
theorem run_ret (h : Evd K te (r.map allD) d) (n : R d) : Run K (tRet te) r N R := fun H0 O P H σ E S nx rt =>
  h O σ H (S.known.mono S.same) S.all _ fun v H' s dv => rt d v H' n (S.same.trans s) dv
theorem run_retN (n : R .none) : Run K tRetN r N R := fun H0 O P H σ E S nx rt => rt .none _ H n S.same .non
theorem run_drop (h : Evd K te (r.map allD) d) (n : N r) : Run K (tDrop te) r N R := fun H0 O P H σ E S nx rt =>
  h O σ H (S.known.mono S.same) S.all _ fun v H' s dv => nx r P H' σ n (S.mono s) (Same.hide s)
theorem run_if {c : TT} {b : Bool} (h : EvT K c (r.map allD) b) (h1 : b = true → Run K T r N R) (h2 : b = false → Run K U r N R) : Run K (tIfS c T U) r N R := fun H0 O P H σ E S nx rt =>
  h O σ H (S.known.mono S.same) S.all _ fun H' s => by
    cases b with
    | true => exact iteT (h1 rfl H0 O P H' σ E (S.mono s) (fun r2 P2 H2 σ2 n2 S2 m2 => nx r2 P2 H2 σ2 n2 S2 ((Same.hide s).trans m2)) rt)
    | false => exact iteF (h2 rfl H0 O P H' σ E (S.mono s) (fun r2 P2 H2 σ2 n2 S2 m2 => nx r2 P2 H2 σ2 n2 S2 ((Same.hide s).trans m2)) rt)
theorem run_aug {i : Nat} {te : TE} {g : Int → Int → V} {a b c : Int} (ha : r[i]? = some (.dat (.int a))) (h : Evd K te (r.map allD) (.int b)) (hg : g a b = .int c := by rfl) (n : N (r.set i (.dat (.int c)))) : Run K (tAug i te (rI0 g)) r N R := fun H0 O P H σ E S nx rt => by
  obtain ⟨v, h1, h2⟩ := S.dat i _ ha
  refine ⟨v, h1, h O σ H (S.known.mono S.same) S.all _ fun w H' s dw => ⟨a, b, h2.int_inv, dw.int_inv, ?_⟩⟩
  rw [hg]
  exact nx _ P H' _ n ((S.mono s).setD (.int c)) (Same.hide s)
theorem run_augC {i : Nat} {te : TE} {C : Int → Int → Prop} {g : Int → Int → V} {a b c : Int} (ha : r[i]? = some (.dat (.int a))) (h : Evd K te (r.map allD) (.int b)) (hc : C a b) (hg : g a b = .int c := by rfl) (n : N (r.set i (.dat (.int c)))) : Run K (tAug i te (rI C g)) r N R := fun H0 O P H σ E S nx rt => by
  obtain ⟨v, h1, h2⟩ := S.dat i _ ha
  refine ⟨v, h1, h O σ H (S.known.mono S.same) S.all _ fun w H' s dw => ⟨a, b, h2.int_inv, dw.int_inv, hc, ?_⟩⟩
  rw [hg]
  exact nx _ P H' _ n ((S.mono s).setD (.int c)) (Same.hide s)
/-- x, y = a, b -/
theorem run_par {i j : Nat} {ta : TA} {d e : D} (h : EvA K ta (r.map strD) [d, e]) (n : N ((r.set i (.dat d)).set j (.dat e))) : Run K (tPar i j ta) r N R := fun H0 O P H σ E S nx rt =>
  h (P ++ O) σ H S.knownAll S.str _ fun vs H' s dv => by
    obtain ⟨v, w, rfl, d1, d2⟩ := all2 dv
    exact ⟨v, w, rfl, nx _ P H' _ n (((S.mono s).setD d1).setD d2) (Same.hide s)⟩
/-- x = [] -/
theorem run_new {i : Nat} (n : N (r.set i (.own []))) : Run K (tAsg (tLst tNil) (gName i)) r N R := fun H0 O P H σ E S nx rt => by
  refine ⟨Nat.zero_le _, fun p np => ?_⟩
  have hp0 : H0 p = none := S.same.free np
  have s := same_upd (o := HO.lst []) np
  have hPO : p ∉ P ++ O := S.knownAll.new np
  have mo : ∀ {v d}, Dq K (hide H (P ++ O)) v d → Dq K (hide (upd H p (.lst [])) ((p :: P) ++ O)) v d := fun h => Dq.mono (same_more (P := [p]) s fun q hq => by rw [List.mem_singleton.mp hq]; exact np) h
  have moA : ∀ {v d}, DqAll K (hide H (P ++ O)) v d → DqAll K (hide (upd H p (.lst [])) ((p :: P) ++ O)) v d := fun h => DqAll.mono (same_more (P := [p]) s fun q hq => by rw [List.mem_singleton.mp hq]; exact np) h
  refine nx _ (p :: P) _ _ n ?_ (same_more (P := [p]) s fun q hq => by rw [List.mem_singleton.mp hq]; exact np)
  refine ⟨S.same.trans s, S.known, fun q hq => ?_, by rw [List.length_set, List.length_set, S.len], fun j d' hj => ?_, fun j ds hj => ?_, fun j k ds es q hj hk h1 h2 => ?_⟩
  · rcases List.mem_cons.mp hq with e | hq
    · rw [e]
      exact ⟨hp0, by rw [upd_same]; exact fun z => by cases z⟩
    · exact (S.mono s).mine q hq
  · rcases set_get hj with ⟨e, q⟩ | ⟨ne, q⟩
    · cases q
    · obtain ⟨w, h1, h2⟩ := S.dat j d' q
      exact ⟨w, by rw [List.getElem?_set_ne ne]; exact h1, mo h2⟩
  · rcases set_get hj with ⟨e, q⟩ | ⟨ne, q⟩
    · subst e
      cases q
      have hl : i < σ.length := by
        have := (List.getElem?_eq_some_iff.mp hj).1
        rw [List.length_set] at this
        rw [S.len]
        exact this
      exact ⟨p, [], List.getElem?_set_self hl, List.mem_cons_self, upd_same, .nil⟩
    · obtain ⟨q', xs, h1, h2, h3, h4⟩ := S.own j ds q
      exact ⟨q', xs, by rw [List.getElem?_set_ne ne]; exact h1, List.mem_cons_of_mem _ h2, s _ _ h3, moA h4⟩
  · rcases set_get hj with ⟨e, z⟩ | ⟨ne, z⟩
    · rcases set_get hk with ⟨e', z'⟩ | ⟨ne', z'⟩
      · exact e.symm.trans e'
      · subst e
        obtain ⟨q', xs, k1, k2, k3, k4⟩ := S.own k es z'
        rw [List.getElem?_set_ne ne', k1] at h2
        have hl : i < σ.length := by
          have := (List.getElem?_eq_some_iff.mp hj).1
          rw [List.length_set] at this
          rw [S.len]
          exact this
        rw [List.getElem?_set_self hl] at h1
        have e1 := V.ref.inj (Option.some.inj (Option.some.inj h1))
        have e2 := V.ref.inj (Option.some.inj (Option.some.inj h2))
        rw [e2, ← e1, np] at k3
        cases k3
    · rcases set_get hk with ⟨e', z'⟩ | ⟨ne', z'⟩
      · subst e'
        obtain ⟨q', xs, k1, k2, k3, k4⟩ := S.own j ds z
        rw [List.getElem?_set_ne ne, k1] at h1
        have hl : i < σ.length := by
          have := (List.getElem?_eq_some_iff.mp hk).1
          rw [List.length_set] at this
          rw [S.len]
          exact this
        rw [List.getElem?_set_self hl] at h2
        have e1 := V.ref.inj (Option.some.inj (Option.some.inj h2))
        have e2 := V.ref.inj (Option.some.inj (Option.some.inj h1))
        rw [e2, ← e1, np] at k3
        cases k3
      · rw [List.getElem?_set_ne ne] at h1
        rw [List.getElem?_set_ne ne'] at h2
        exact S.inj j k ds es q z z' h1 h2
/-- x.append(e) of a list of one's own -/
theorem run_append {i : Nat} {ds : List D} (hi : r[i]? = some (.own ds)) (h : Evd K te (r.map strD) d) (hz : ds.length ≤ 100000) (n : N (r.set i (.own (ds ++ [d])))) : Run K (tDrop (tBM K "list" rAppend (tVar i) (tCons te tNil))) r N R := fun H0 O P H σ E S nx rt => by
  obtain ⟨p, xs, h1, h2, h3, h4⟩ := S.own i ds hi
  refine ⟨.ref p, h1, .inl ⟨rfl, xs, SqL.of h3⟩, h (P ++ O) σ H S.knownAll S.str _ fun v H' s dv => ?_⟩
  have hp' : H' p = some (.lst xs) := s _ _ h3
  have S' := S.mono s
  have hm : p ∈ P ++ O := List.mem_append_left _ h2
  have hd : hide (upd H' p (.lst (xs ++ [v]))) (P ++ O) = hide H' (P ++ O) := hide_upd_in hm
  refine ⟨p, xs, v, rfl, rfl, hp', ?_, ?_⟩
  · rw [DqAll.length h4]
    exact Nat.lt_of_le_of_lt hz (by decide)
  · refine nx _ P _ σ n ?_ (by rw [hd]; exact Same.hide s)
    refine ⟨fun b o hb => ?_, S.known, fun q hq => ?_, by rw [List.length_set, S.len], fun j d' hj => ?_, fun j es hj => ?_, fun j k es fs q hj hk q1 q2 => ?_⟩
    · have nb : b ≠ p := ne_of_none hb (S.mine p h2).1
      rw [upd_ne nb]
      exact S'.same _ _ hb
    · refine ⟨(S.mine q hq).1, ?_⟩
      by_cases e : q = p
      · rw [e, upd_same]
        exact fun z => by cases z
      · rw [upd_ne e]
        exact (S'.mine q hq).2
    · rcases set_get hj with ⟨e, q⟩ | ⟨ne, q⟩
      · cases q
      · rw [hd]
        exact S'.dat j d' q
    · rw [hd]
      rcases set_get hj with ⟨e, q⟩ | ⟨ne, q⟩
      · subst e
        cases q
        exact ⟨p, _, h1, h2, upd_same, DqAll.append (DqAll.mono (Same.hide s) h4) (.cons dv .nil)⟩
      · obtain ⟨q', ys, k1, k2, k3, k4⟩ := S'.own j es q
        have np : q' ≠ p := fun z => by
          rw [z] at k1
          exact ne (S.inj i j ds es p hi q h1 k1)
        exact ⟨q', ys, k1, k2, by rw [upd_ne np]; exact k3, k4⟩
    · rcases set_get hj with ⟨e, z⟩ | ⟨ne, z⟩
      · rcases set_get hk with ⟨e', z'⟩ | ⟨ne', z'⟩
        · exact e.symm.trans e'
        · subst e
          exact S.inj i k ds fs q hi z' q1 q2
      · rcases set_get hk with ⟨e', z'⟩ | ⟨ne', z'⟩
        · subst e'
          exact S.inj j i es ds q z hi q1 q2
        · exact S.inj j k es fs q z z' q1 q2
/-- while c: T; W by a measure -/
theorem run_while {c : TT} (W : Nat → List Sl → Prop) (m : Nat) (h0 : W m r) (turn : ∀ m r, W m r → ∃ b, EvT K c (r.map allD) b ∧ (b = true → Run K T r (fun r' => ∃ m', m' < m ∧ W m' r') R) ∧ (b = false → N r)) : Run K (tWhile c T) r N R := fun H0 O P H σ E S nx rt => by
  refine ⟨fun m σ H' => ∃ r P', W m r ∧ StOk K H0 O P' H' σ r ∧ Same (hide H (P ++ O)) (hide H' (P' ++ O)), ⟨m, r, P, h0, S, Same.refl _⟩, fun m σ H1 w => ?_⟩
  obtain ⟨r, P1, w, S, sm⟩ := w
  obtain ⟨b, hb, h1, h2⟩ := turn m r w
  refine hb O σ H1 (S.known.mono S.same) S.all _ fun H' s => ?_
  cases b with
  | false => exact iteF (nx r P1 H' σ (h2 rfl) (S.mono s) (sm.trans (Same.hide s)))
  | true =>
    refine iteT ⟨fun σ' H' => ∃ m', m' < m ∧ ∃ r P', W m' r ∧ StOk K H0 O P' H' σ' r ∧ Same (hide H (P ++ O)) (hide H' (P' ++ O)), fun σ' H' h => ?_, ?_⟩
    · obtain ⟨m', l, r', P', w', S', sm'⟩ := h
      exact ⟨m', l, r', P', w', S', sm'⟩
    · exact h1 rfl H0 O P1 H' σ _ (S.mono s) (fun r' P' H2 σ' ⟨m', l, w'⟩ S' m2 => ⟨m', l, r', P', w', S', (sm.trans (Same.hide s)).trans m2⟩) rt
/-- for g in wi: T; W by the turn -/
theorem run_for {wi : TI} {g : TG} {js : List Nat} {ds : List D} (hi : EvI K wi (r.map strD) ds) (W : Nat → List Sl → Prop) (h0 : W 0 r)
    (turn : ∀ i d r, ds[i]? = some d → W i r → ∃ ρ' r', EvG K g js d (r.map strD) ρ' ∧ (r'.length = r.length ∧ (∀ j, j ∉ js → r'[j]? = r[j]?) ∧ ∀ j ∈ js, ∀ s, r'[j]? = some s → (∃ d, s = .dat d ∧ ρ'[j]? = some (some d)) ∨ s = .un) ∧ Run K T r' (W (i + 1)) R)
    (hd : ∀ r, W ds.length r → N r) : Run K (tFor wi g T) r N R := fun H0 O P H σ E S nx rt =>
  hi (P ++ O) σ H S.knownAll S.str _ fun J H1 s1 it => by
    refine ⟨fun i m σ H' => m = ds.length - i ∧ i ≤ ds.length ∧ ∃ r P', W i r ∧ StOk K H0 O P' H' σ r ∧ Same (hide H1 (P ++ O)) (hide H' (P' ++ O)), ⟨_, rfl, Nat.zero_le _, r, P, h0, S.mono s1, Same.refl _⟩, fun i m σ H2 w => ?_⟩
    obtain ⟨rfl, hi2, r, P', w, S', sm⟩ := w
    obtain ⟨go, stop, yl⟩ := it (P' ++ O) i H2 sm S'.knownAll
    by_cases hlt : i < ds.length
    · have hdd : ds[i]? = some ds[i] := List.getElem?_eq_getElem hlt
      obtain ⟨ρ', r', hg, ⟨l2, f1, f2⟩, hb⟩ := turn i _ r hdd w
      refine .inr ⟨go hlt, fun σ' H' => ∃ r P', W (i + 1) r ∧ StOk K H0 O P' H' σ' r ∧ Same (hide H1 (P ++ O)) (hide H' (P' ++ O)), fun σ' H' h => ⟨_, by omega, rfl, hlt, h⟩, fun x H3 hy => ?_⟩
      obtain ⟨s3, dx⟩ := yl x H3 _ hy hdd
      refine hg (P' ++ O) σ H3 x (S'.mono s3).str dx _ fun σ2 ok hl hf => ?_
      have S3 := (S'.mono s3).setG ok hl hf l2 f1 f2
      exact hb H0 O P' H3 σ2 _ S3 (fun r2 P2 H4 σ4 n2 S2 m2 => ⟨r2, P2, n2, S2, sm.trans ((Same.hide s3).trans m2)⟩) rt
    · have e : i = ds.length := by omega
      subst e
      exact .inl ⟨stop (Nat.le_refl _), nx r P' H2 σ (hd r w) S' ((Same.hide s1).trans sm)⟩
end
end DL

-- DL4
/-! a def by its Run -/
namespace DL
open PySem PySem.Spec PyProof.Rows L2
def startD (N : List Str) (ds : List D) : List Sl := ds.map Sl.dat ++ List.replicate (N.length - ds.length) Sl.un
theorem st_start {K : PySem.W.Frag} {O : List Addr} {H : Hp} {N : List Str} {vs : List V} {ds : List D} (hO : Known H O) (h : DqAll K (hide H O) vs ds) : StOk K H O [] H (start N vs) (startD N ds) := by
  have hl := DqAll.length h
  have ed : ∀ (i : Nat) (s : Sl), (startD N ds)[i]? = some s → (∃ d, s = .dat d ∧ ds[i]? = some d) ∨ s = .un := fun i s e => by
    unfold startD at e
    by_cases hi : i < ds.length
    · rw [List.getElem?_append_left (by rw [List.length_map]; exact hi), List.getElem?_map, List.getElem?_eq_getElem hi] at e
      exact .inl ⟨ds[i], (Option.some.inj e).symm, List.getElem?_eq_getElem hi⟩
    · rw [List.getElem?_append_right (by rw [List.length_map]; omega), List.getElem?_replicate] at e
      split at e
      · exact .inr (Option.some.inj e).symm
      · cases e
  refine ⟨Same.refl H, hO, (fun p hp => by cases hp), ?_, fun i d e => ?_, fun i ds e => ?_, fun i j ds es p e => ?_⟩
  · unfold L2.start startD
    rw [List.length_append, List.length_append, List.length_map, List.length_map, List.length_replicate, List.length_replicate, hl]
  · rcases ed i _ e with ⟨d', q, q2⟩ | q
    · cases q
      obtain ⟨v, h1, h2⟩ := DqAll.get h q2
      refine ⟨v, ?_, h2⟩
      unfold L2.start
      rw [List.getElem?_append_left (by rw [List.length_map]; exact (List.getElem?_eq_some_iff.mp h1).1), List.getElem?_map, h1]
      rfl
    · cases q
  · rcases ed i _ e with ⟨d', q, q2⟩ | q <;> cases q
  · rcases ed i _ e with ⟨d', q, q2⟩ | q <;> cases q
/-- a def of the module that keeps the promise R -/
structure Fn (P : Program) (w : World) (K : PySem.W.Frag) (mg : Str → Option Value) (base : Heap) (k : Nat) (x : Str) (R : List D → D → Prop) : Prop where
  ex : ∃ (f : Addr) (fd : FuncData) (ps : List Str), FnOk P w K mg base CX0 k f fd ps (spD K R) ∧ mg x = some (.ref f) ∧ PySem.W.keepIn K (.ref f) = true ∧ Binds K fd ps []
/-- a def as it stands behind the top -/
def DefAt (K : PySem.W.Frag) (mg : Str → Option Value) (x : Str) (st : Stmt) : Prop := ∃ (f : Addr) (fd : FuncData), FunD K x x (defArgs st) (defBody st) (defScope st) [] [] f fd ∧ mg x = some (.ref f)
theorem fn_mk {P : Program} {w : World} {K : PySem.W.Frag} {mg : Str → Option Value} {base : Heap} {x : Str} {st : Stmt} {N ps : List Str} {k : Nat} {R : List D → D → Prop} (F : DefAt K mg x st) (S : FnScope N ps (defScope st))
    (hb : ∀ (kV doc pm : Value) (an : Option Addr) (cdv ct : Value) (us : List Value), us.length = ps.length → bindArgs (PySem.W.fnOf x x (defArgs st) (defBody st) (defScope st) .none kV doc pm an cdv ct) ⟨us, []⟩ = pure (ps.zip us))
    (len : ∀ ds d, R ds d → ds.length = ps.length)
    (body : ∀ (f : Addr) (cdv : Value) (A : Around) (outer : List Env) (s : Shared) (H : Hp) (E : XK), Room k (A.deeper (envOfC x (defScope st) s.heap.objs.size f cdv)) → ∀ ds d, R ds d →
      ∃ T, PSs (cxOf CX0 P w K mg base N x (defScope st) f cdv A outer s H E).nox (defBody st) T ∧ Run K T (startD N ds) (fun _ => d = .none) (fun d' => d' = d)) : Fn P w K mg base (k + 1) x R := by
  obtain ⟨f, fd, F, hm⟩ := F
  refine ⟨f, fd, ps, ?_, hm, F.kp, F.bindsN hb⟩
  refine F.ok S (fun vs H Q E h => ?_) (fun cdv A outer s H vs Q E hr h => ?_)
  · obtain ⟨O, ds, d, kO, al, r, _⟩ := h
    rw [DqAll.length al]
    exact len ds d r
  · obtain ⟨O, ds, d, kO, al, r, q⟩ := h
    obtain ⟨T, h1, h2⟩ := body f cdv A outer s H E hr ds d r
    refine ⟨T, h1.nox, ?_⟩
    refine h2 H O [] H (start N vs) _ (st_start kO al) (fun r' P' H' σ' n S' m => ?_) (fun d' v H' e s1 dv => ?_)
    · exact q .non H' S'.same (by rw [n]; exact .non)
    · subst e
      exact q v H' s1 dv
section
variable {X : Cx} {k j : Nat} {x : Str} {R : List D → D → Prop} {p pos : Pos} {e : Expr} {es : List Expr} {t : TA}
theorem pe_fn {P : Program} {w : World} {K : PySem.W.Frag} {mg : Str → Option Value} {base : Heap} (c : Fn P w K mg base k x R) (hr : Room j X.A) (hk : k ≤ j) (hg : Gl X x) (ha : PA X (e :: es) t) (h1 : X.prog = P := by rfl) (h2 : X.w = w := by rfl) (h3 : X.K = K := by rfl) (h4 : X.mg = mg := by rfl) (h5 : X.base = base := by rfl)
    (hdb : (x == ("__debug__" : Str)) = false := by decide) (he : starEach (e :: es) X.env = (false, eval e X.env) :: starEach es X.env := by rfl) (hpl : (backTo pos (starEach es X.env)).any (·.1) = false := by rfl) :
    PE X (.Call (.Name x p) (e :: es) [] pos) (tCall (spD K R) [] E0 t) := by
  subst h1 h2 h3 h4 h5
  obtain ⟨f, fd, ps, F, hm, kp, b⟩ := c.ex
  exact pe_call F (hr.mono hk) hg hm kp b .nil pass0 ha hdb he hpl
theorem pe_fn0 {P : Program} {w : World} {K : PySem.W.Frag} {mg : Str → Option Value} {base : Heap} (c : Fn P w K mg base k x R) (hr : Room j X.A) (hk : k ≤ j) (hg : Gl X x) (h1 : X.prog = P := by rfl) (h2 : X.w = w := by rfl) (h3 : X.K = K := by rfl) (h4 : X.mg = mg := by rfl) (h5 : X.base = base := by rfl) (hdb : (x == ("__debug__" : Str)) = false := by decide) :
    PE X (.Call (.Name x p) [] [] pos) (tCall (spD K R) [] E0 tNil) := by
  subst h1 h2 h3 h4 h5
  obtain ⟨f, fd, ps, F, hm, kp, b⟩ := c.ex
  exact pe_call0 F (hr.mono hk) hg hm kp b .nil pass0 hdb
end
end DL

-- DL5
/-! comprehensions over written kinds -/
namespace DL
open PySem PySem.Spec PyProof.Rows L2
section
variable {K : PySem.W.Frag} {ρ : List (Option D)} {wi : TI} {g : TG} {te tk tv : TE} {vs js : List Nat}
theorem ev_lcM {α : Type} (enc : α → D) (xs : List α) {f : α → D} {ds : List D} (hi : EvI K wi ρ ds) (hd : ds = xs.map enc) (hlen : xs.length ≤ 100000) (hjs : ∀ j ∈ js, j ∈ vs)
    (turn : ∀ x ∈ xs, ∃ ρ', EvG K g js (enc x) (wipeD ρ vs) ρ' ∧ Evd K te ρ' (f x)) : Evd K (tLc wi g tYes te vs) ρ (.list (xs.map f)) := by
  subst hd
  exact fun O σ H k ok Q q => hi O σ H k ok _ fun J H1 s1 it D hD => by
      have base : ∀ {H' : Hp}, Same H1 H' → Same (hide H1 O) (hide H' (D :: O)) := fun {H'} e => same_more (P := [D]) e fun p hp => by
        rw [List.mem_singleton.mp hp]
        exact hD
      refine ⟨fun i m H' => m = xs.length - i ∧ i ≤ xs.length ∧ Same H1 H' ∧ ∃ acc, H' D = some (.lst acc) ∧ DqAll K (hide H' (D :: O)) acc ((xs.take i).map f), ⟨_, rfl, Nat.zero_le _, same_upd hD, [], upd_same, .nil⟩, fun i m H2 w => ?_⟩
      obtain ⟨rfl, hi2, s2, acc, hacc, dacc⟩ := w
      have kn2 : Known H2 (D :: O) := fun p hp z => by
        rcases List.mem_cons.mp hp with rfl | hp
        · rw [hacc] at z
          cases z
        · exact (k.mono (s1.trans s2)) p hp z
      obtain ⟨go, stop, yl⟩ := it (D :: O) i H2 (base s2) kn2
      rw [List.length_map] at go stop
      by_cases hlt : i < xs.length
      · refine .inr ⟨go hlt, fun H' => Same H1 H' ∧ ∃ acc, H' D = some (.lst acc) ∧ DqAll K (hide H' (D :: O)) acc ((xs.take (i + 1)).map f), fun H' h => ⟨_, by omega, rfl, hlt, h⟩, fun x H3 hy => ?_⟩
        have hx : xs[i]? = some xs[i] := List.getElem?_eq_getElem hlt
        have hd : (xs.map enc)[i]? = some (enc xs[i]) := by
          rw [List.getElem?_map, hx]
          rfl
        obtain ⟨s3, dx⟩ := yl x H3 _ hy hd
        obtain ⟨ρ', eg, ev⟩ := turn xs[i] (List.getElem_mem hlt)
        have tk : xs.take (i + 1) = xs.take i ++ [xs[i]] := by
          rw [List.take_add_one, hx]
          rfl
        have ok3 : EnvOk K (hide H3 (D :: O)) (wipe σ vs) (wipeD ρ vs) := (EnvOk.wipe (ok.mono ((Same.hide s1).trans (base (s2.trans s3)))) vs)
        refine eg (D :: O) (wipe σ vs) H3 x ok3 dx _ fun σ2 ok2 l2 f2 => ⟨?_, ?_⟩
        · rw [wipe_eq l2 fun j hj => f2 j fun z => hj (hjs j z), wipe_wipe]
        · refine et_yes (K := K) (ρ := ρ') (D :: O) σ2 H3 (kn2.mono s3) ok2 _ fun H4 s4 => ?_
          refine iteT (ev (D :: O) σ2 H4 (kn2.mono (s3.trans s4)) (ok2.mono (Same.hide s4)) _ fun y H5 s5' dy => ?_)
          have s5 := s4.trans s5'
          have h5 : H5 D = some (.lst acc) := s5 _ _ (s3 _ _ hacc)
          have la : acc.length < sizeLine := by
            have l1 := DqAll.length dacc
            rw [List.length_map, List.length_take] at l1
            exact Nat.lt_of_le_of_lt (m := 100000) (by omega) (by decide)
          refine ⟨acc, h5, la, ?_, acc ++ [y], upd_same, ?_⟩
          · intro b o hb
            have nb : b ≠ D := ne_of_none hb hD
            rw [upd_ne nb]
            exact s5 _ _ (s3 _ _ (s2 _ _ hb))
          · rw [hide_upd_in List.mem_cons_self, tk, List.map_append]
            exact DqAll.append (DqAll.mono (Same.hide (s3.trans s5)) dacc) (.cons dy .nil)
      · have e : i = xs.length := by omega
        subst e
        refine .inl ⟨stop (Nat.le_refl _), q _ H2 (s1.trans s2) ?_⟩
        have hDO : D ∉ O := (k.mono s1).new hD
        rw [List.take_length] at dacc
        refine .lst (SqL.of ?_) (DqAll.mono (same_less (P := [D])) dacc)
        rw [hide_out hDO]
        exact hacc
theorem ev_lcI (ns : List Int) {f : Int → D} {ds : List D} (hi : EvI K wi ρ ds) (hd : ds = ns.map PyData.int) (hlen : ns.length ≤ 100000) (hjs : ∀ j ∈ js, j ∈ vs)
    (turn : ∀ n ∈ ns, ∃ ρ', EvG K g js (.int n) (wipeD ρ vs) ρ' ∧ Evd K te ρ' (f n)) : Evd K (tLc wi g tYes te vs) ρ (.list (ns.map f)) := ev_lcM PyData.int ns hi hd hlen hjs turn
def rLenD : List V → Hp → VK → Prop := fun xs H Q => ∃ a kvs, xs = [V.ref a] ∧ H a = some (.dK kvs) ∧ Q (.int kvs.length) H
theorem cb_lenD {X : Cx} : CallR X (.builtin "len") rLenD := call_lenD
def keysOf (ks : List Int) : List (Key × V) := ks.foldl (fun acc k => putK acc (Sum.inl k) (V.bl true)) []
theorem keysOf_len (ks : List Int) : (keysOf ks).length ≤ ks.length := by
  have h : ∀ (ks : List Int) (acc : List (Key × V)), (ks.foldl (fun acc k => putK acc (Sum.inl k) (V.bl true)) acc).length ≤ acc.length + ks.length := by
    intro ks
    induction ks with
    | nil => intro acc; simp
    | cons k ks ih =>
      intro acc
      refine Nat.le_trans (ih _) ?_
      have : (putK acc (Sum.inl k : Key) (V.bl true)).length ≤ acc.length + 1 := by
        unfold putK
        split
        · rw [List.length_map]; omega
        · rw [List.length_append]; simp
      rw [List.length_cons]
      show (putK acc (Sum.inl k : Key) (V.bl true)).length + ks.length ≤ _
      omega
  have := h ks []
  rw [List.length_nil, Nat.zero_add] at this
  exact this
theorem keysOf_snoc (ks : List Int) (k : Int) : keysOf (ks ++ [k]) = putK (keysOf ks) (Sum.inl k) (V.bl true) := by
  unfold keysOf
  rw [List.foldl_append]
  rfl
/-- len({k: True for x in ints}) -/
theorem ev_lenDc (ns : List Int) {f : Int → Int} {ds : List D} (hi : EvI K wi ρ ds) (hd : ds = ns.map PyData.int) (hlen : ns.length ≤ 100000) (hjs : ∀ j ∈ js, j ∈ vs)
    (turn : ∀ n ∈ ns, ∃ ρ', EvG K g js (.int n) (wipeD ρ vs) ρ' ∧ Evd K tk ρ' (.int (f n)) ∧ Evd K tv ρ' (.bool true)) : Evd K (tCB rLenD (tCons (tDc wi g tYes tk tv vs) tNil)) ρ (.int (keysOf (ns.map f)).length) := by
  subst hd
  exact fun O σ H k ok Q q => hi O σ H k ok _ fun J H1 s1 it D hD => by
    have base : ∀ {H' : Hp}, Same H1 H' → Same (hide H1 O) (hide H' (D :: O)) := fun {H'} e => same_more (P := [D]) e fun p hp => by
      rw [List.mem_singleton.mp hp]
      exact hD
    refine ⟨fun i m H' => m = ns.length - i ∧ i ≤ ns.length ∧ Same H1 H' ∧ H' D = some (.dK (keysOf ((ns.take i).map f))), ⟨_, rfl, Nat.zero_le _, same_upd hD, upd_same⟩, fun i m H2 w => ?_⟩
    obtain ⟨rfl, hi2, s2, hacc⟩ := w
    have kn2 : Known H2 (D :: O) := fun p hp z => by
      rcases List.mem_cons.mp hp with rfl | hp
      · rw [hacc] at z
        cases z
      · exact (k.mono (s1.trans s2)) p hp z
    obtain ⟨go, stop, yl⟩ := it (D :: O) i H2 (base s2) kn2
    rw [List.length_map] at go stop
    by_cases hlt : i < ns.length
    · refine .inr ⟨go hlt, fun H' => Same H1 H' ∧ H' D = some (.dK (keysOf ((ns.take (i + 1)).map f))), fun H' h => ⟨_, by omega, rfl, hlt, h⟩, fun x H3 hy => ?_⟩
      have hx : ns[i]? = some ns[i] := List.getElem?_eq_getElem hlt
      have hd : (ns.map PyData.int)[i]? = some (.int ns[i]) := by
        rw [List.getElem?_map, hx]
        rfl
      obtain ⟨s3, dx⟩ := yl x H3 _ hy hd
      obtain ⟨ρ', eg, ek, ev⟩ := turn ns[i] (List.getElem_mem hlt)
      have tk : ns.take (i + 1) = ns.take i ++ [ns[i]] := by
        rw [List.take_add_one, hx]
        rfl
      have ok3 : EnvOk K (hide H3 (D :: O)) (wipe σ vs) (wipeD ρ vs) := (EnvOk.wipe (ok.mono ((Same.hide s1).trans (base (s2.trans s3)))) vs)
      refine eg (D :: O) (wipe σ vs) H3 x ok3 dx _ fun σ2 ok2 l2 f2 => ⟨?_, ?_⟩
      · rw [wipe_eq l2 fun j hj => f2 j fun z => hj (hjs j z), wipe_wipe]
      · refine et_yes (K := K) (ρ := ρ') (D :: O) σ2 H3 (kn2.mono s3) ok2 _ fun H3' s3' => ?_
        refine iteT (ek (D :: O) σ2 H3' (kn2.mono (s3.trans s3')) (ok2.mono (Same.hide s3')) _ fun y H4 s4'' dy => ?_)
        have s4 := s3'.trans s4''
        refine (ev (D :: O) σ2 H4 (kn2.mono (s3.trans s4)) (ok2.mono (Same.hide s4)) _ fun z H5 s5 dz => ?_)
        have h5 : H5 D = some (.dK (keysOf ((ns.take i).map f))) := s5 _ _ (s4 _ _ (s3 _ _ hacc))
        refine ⟨_, Sum.inl (f ns[i]), dy.int_inv, h5, ?_, ?_, ?_⟩
        · have := keysOf_len ((ns.take i).map f)
          rw [List.length_map, List.length_take] at this
          exact Nat.lt_of_le_of_lt (m := 100000) (by omega) (by decide)
        · intro b o hb
          have nb : b ≠ D := ne_of_none hb hD
          rw [upd_ne nb]
          exact s5 _ _ (s4 _ _ (s3 _ _ (s2 _ _ hb)))
        · rw [upd_same, tk, List.map_append, dz.bool_inv]
          rw [show (List.map f (List.take i ns) ++ List.map f [ns[i]]) = (List.map f (List.take i ns)) ++ [f ns[i]] from rfl, keysOf_snoc]
    · have e : i = ns.length := by omega
      subst e
      rw [List.take_length] at hacc
      exact .inl ⟨stop (Nat.le_refl _), D, _, rfl, hacc, q _ H2 (s1.trans s2) (.int _)⟩
def rCatS (K : PySem.W.Frag) : R2 := fun x y H Q => ∃ (a b : Addr) (xs ys : List V), x = .ref a ∧ y = .ref b ∧ SqL K H a xs ∧ SqL K H b ys ∧ xs.length + ys.length ≤ sizeLine ∧ ∀ p, H p = none → Q (.ref p) (upd H p (.lst (xs ++ ys)))
theorem op_catS {X : Cx} : OpR X (binaryOp .Add) (rCatS X.K) := by
  intro pins s σ H x y v u Q I rx ry h
  obtain ⟨l, b, xs, zs, rfl, rfl, hH, hB, hz, q⟩ := h
  cases rx
  cases ry
  obtain ⟨its, r, p1, _⟩ := I.list hH
  obtain ⟨its2, r2, p2, _⟩ := I.list hB
  have hl := r.length
  have hl2 := r2.length
  obtain ⟨⟨cls, dd, data, sl⟩, ho, hc, n, hd⟩ := id p1.isList
  obtain ⟨⟨cls2, dd2, data2, sl2⟩, ho2, hc2, n2, hd2⟩ := id p2.isList
  simp only at hc hd hc2 hd2
  subst hc hd hc2 hd2
  refine concat_meets ⟨_, ho, rfl⟩ ⟨_, ho2, rfl⟩ noFill_list_add seq_list_add PySem.F.slot_list_add PySem.F.entry_list_add (PySem.F.args_list_add_2 _ _) (list_addW l b its.toArray its2.toArray n n2 dd dd2 sl sl2 (by rw [List.size_toArray, List.size_toArray]; omega)) ⟨ho, ho2, ?_⟩
  have ea : its.toArray ++ its2.toArray = (its ++ its2).toArray := by simp
  rw [ea]
  exact ⟨.ref _, _, I.lnew (t' := s.toks) (r.append r2) (by rw [List.length_append]; omega), rfl, q _ I.fresh⟩
theorem ev_catL {ta tb : TE} {ds es : List D} (ha : Evd K ta ρ (.list ds)) (hb : Evd K tb ρ (.list es)) (h1 : ds.length ≤ 100000) (h2 : es.length ≤ 100000) : Evd K (tOp (rCatS K) ta tb) ρ (.list (ds ++ es)) := ev_opG ha hb fun O H x y Q kn dx dy q => by
  obtain ⟨a, xs, rfl, s, al⟩ := dx.list_inv
  obtain ⟨b, ys, rfl, s', al'⟩ := dy.list_inv
  have l1 := DqAll.length al
  have l2 := DqAll.length al'
  refine ⟨a, b, xs, ys, rfl, rfl, hide_same.seq s, hide_same.seq s', Nat.le_trans (m := 200000) (by omega) (by decide), fun p np => q _ _ (same_upd np) ?_⟩
  exact .lst (SqL.of (hide_new kn np)) (DqAll.append (DqAll.mono (Same.hide (same_upd np)) al) (DqAll.mono (Same.hide (same_upd np)) al'))
end
end DL

-- DL6
/-! unpacking, loops with a name -/
namespace DL
open PySem PySem.Spec PyProof.Rows L2
def gNames : List Nat → TGs
  | [] => gNil
  | j :: js => gCons (gName j) (gNames js)
def setsL : List Sl → List Nat → List D → List Sl
  | r, j :: js, d :: ds => setsL (r.set j (.dat d)) js ds
  | r, _, _ => r
def setsR : List (Option D) → List Nat → List D → List (Option D)
  | r, j :: js, d :: ds => setsR (r.set j (some d)) js ds
  | r, _, _ => r
section
variable {K : PySem.W.Frag} {r : List Sl} {N : List Sl → Prop} {R : D → Prop} {te : TE} {T : TS} {d : D}
theorem egs_names : ∀ {js : List Nat} {ds : List D} {ρ : List (Option D)}, js.length = ds.length → EvGs K (gNames js) js ds ρ (setsR ρ js ds)
  | [], [], _, _ => egs_nil
  | [], _ :: _, _, h => by cases h
  | _ :: _, [], _, h => by cases h
  | j :: js, d :: ds, ρ, h => egs_cons (js := [j]) eg_name (egs_names (Nat.succ.inj h))
theorem setsL_len : ∀ {js : List Nat} {ds : List D} {r : List Sl}, (setsL r js ds).length = r.length
  | [], _, _ => rfl
  | _ :: _, [], _ => rfl
  | j :: js, d :: ds, r => by
    show (setsL (r.set j (.dat d)) js ds).length = r.length
    rw [setsL_len, List.length_set]
theorem setsL_ne : ∀ {js : List Nat} {ds : List D} {r : List Sl} {j : Nat}, j ∉ js → (setsL r js ds)[j]? = r[j]?
  | [], _, _, _, _ => rfl
  | _ :: _, [], _, _, _ => rfl
  | i :: js, d :: ds, r, j, h => by
    show (setsL (r.set i (.dat d)) js ds)[j]? = r[j]?
    rw [setsL_ne (fun z => h (List.mem_cons_of_mem _ z)), List.getElem?_set_ne (fun z => h (by rw [z]; exact List.mem_cons_self))]
theorem setsL_map : ∀ {js : List Nat} {ds : List D} {r : List Sl}, (setsL r js ds).map strD = setsR (r.map strD) js ds
  | [], _, _ => rfl
  | _ :: _, [], _ => rfl
  | j :: js, d :: ds, r => by
    show (setsL (r.set j (.dat d)) js ds).map strD = setsR ((r.map strD).set j (some d)) js ds
    rw [setsL_map, List.map_set]
    rfl
theorem setsL_dat : ∀ {js : List Nat} {ds : List D} {r : List Sl} {j : Nat} {s : Sl}, js.length = ds.length → ((∃ d, r[j]? = some (.dat d)) ∨ j ∈ js) → (setsL r js ds)[j]? = some s → ∃ d, s = .dat d
  | [], _, r, j, s, _, h, e => by
    rcases h with ⟨d, h⟩ | h
    · have e' : r[j]? = some s := e
      rw [h] at e'
      exact ⟨d, (Option.some.inj e').symm⟩
    · cases h
  | _ :: _, [], _, _, _, hl, _, _ => by cases hl
  | i :: js, d :: ds, r, j, s, hl, h, e => by
    have e' : (setsL (r.set i (.dat d)) js ds)[j]? = some s := e
    refine setsL_dat (Nat.succ.inj hl) ?_ e'
    by_cases hij : i = j
    · subst hij
      by_cases hlt : i < r.length
      · exact .inl ⟨d, List.getElem?_set_self hlt⟩
      · have z := (List.getElem?_eq_some_iff.mp e').1
        rw [setsL_len, List.length_set] at z
        exact absurd z hlt
    · rcases h with ⟨d', h⟩ | h
      · exact .inl ⟨d', by rw [List.getElem?_set_ne hij]; exact h⟩
      · rcases List.mem_cons.mp h with q | q
        · exact absurd q.symm hij
        · exact .inr q
theorem setsL_cond {js : List Nat} {ds : List D} (hl : js.length = ds.length) : (setsL r js ds).length = r.length ∧ (∀ j, j ∉ js → (setsL r js ds)[j]? = r[j]?) ∧ ∀ j ∈ js, ∀ s, (setsL r js ds)[j]? = some s → (∃ d, s = .dat d ∧ (setsR (r.map strD) js ds)[j]? = some (some d)) ∨ s = .un := by
  refine ⟨setsL_len, fun j hj => setsL_ne hj, fun j hj s e => ?_⟩
  obtain ⟨d, q⟩ := setsL_dat hl (.inr hj) e
  refine .inl ⟨d, q, ?_⟩
  rw [← setsL_map, List.getElem?_map, e, q]
  rfl
/-- a, b, .. = a tuple -/
theorem run_unpackT (js : List Nat) {ds : List D} {n : Nat} (h : Evd K te (r.map strD) (.tuple ds)) (hl : js.length = ds.length) (hn : ds.length = n) (q : N (setsL r js ds)) : Run K (tAsg te (gTup K n (gNames js))) r N R :=
  run_asgG h (eg_tup (egs_names hl) hn) (setsL r js ds) q (setsL_cond hl).1 (setsL_cond hl).2.1 (setsL_cond hl).2.2
theorem run_unpackL (js : List Nat) {ds : List D} {n : Nat} (h : Evd K te (r.map strD) (.list ds)) (hl : js.length = ds.length) (hn : ds.length = n) (q : N (setsL r js ds)) : Run K (tAsg te (gUnl K n (gNames js))) r N R :=
  run_asgG h (eg_unl (egs_names hl) hn) (setsL r js ds) q (setsL_cond hl).1 (setsL_cond hl).2.1 (setsL_cond hl).2.2
/-- for x in .. -/
theorem run_forN {i : Nat} {wi : TI} {ds : List D} (hi : EvI K wi (r.map strD) ds) (W : Nat → List Sl → Prop) (h0 : W 0 r)
    (turn : ∀ k d r, ds[k]? = some d → W k r → Run K T (r.set i (.dat d)) (W (k + 1)) R) (hd : ∀ r, W ds.length r → N r) : Run K (tFor wi (gName i) T) r N R :=
  run_for (js := [i]) hi W h0 (fun k d r hk w => ⟨(r.map strD).set i (some d), r.set i (.dat d), eg_name, setsL_cond (js := [i]) (ds := [d]) rfl, turn k d r hk w⟩) hd
/-- for a, b in .. of tuples -/
theorem run_forT (js : List Nat) {n : Nat} {wi : TI} {ds : List D} (hi : EvI K wi (r.map strD) ds) (hn : js.length = n) (W : Nat → List Sl → Prop) (h0 : W 0 r)
    (turn : ∀ k d r, ds[k]? = some d → W k r → ∃ es, d = .tuple es ∧ es.length = n ∧ Run K T (setsL r js es) (W (k + 1)) R) (hd : ∀ r, W ds.length r → N r) : Run K (tFor wi (gTup K n (gNames js)) T) r N R :=
  run_for (js := js) hi W h0 (fun k d r hk w => by
    obtain ⟨es, rfl, he, ht⟩ := turn k d r hk w
    exact ⟨setsR (r.map strD) js es, setsL r js es, eg_tup (egs_names (hn.trans he.symm)) he, setsL_cond (hn.trans he.symm), ht⟩) hd
end
theorem sz (n : Nat) (h : n ≤ 100000 := by decide) : n ≤ sizeLine := Nat.le_trans h (by decide)
end DL

-- DK
/-! the rules with the written part named -/
namespace DL
open PySem PySem.Spec PyProof.Rows L2
section
variable {X : Cx} (K : PySem.W.Frag)
theorem op_eqK (hu : X.A.units + 64 < cLine) (h : X.K = K := by rfl) : OpR X (compareOp .Eq) (rEqD K) := by subst h; exact op_eqD hu
theorem op_neK (hu : X.A.units + 64 < cLine) (h : X.K = K := by rfl) : OpR X (compareOp .NotEq) (rNeD K) := by subst h; exact op_neD hu
theorem op_inK (hu : X.A.units + 65 < cLine) (h : X.K = K := by rfl) : OpR X (compareOp .In) (rInD K) := by subst h; exact op_inD hu
theorem op_notInK (hu : X.A.units + 65 < cLine) (h : X.K = K := by rfl) : OpR X (compareOp .NotIn) (rNotInD K) := by subst h; exact op_notInD hu
theorem pe_tupleK {a : Expr} {ta : TE} {p pos : Pos} (hg : Gl X "tuple") (hm : X.mg "tuple" = none) (ha : PE X a ta) (h : X.K = K := by rfl) (he : starEach [a] X.env = (false, eval a X.env) :: starEach [] X.env := by rfl) : PE X (.Call (.Name "tuple" p) [a] [] pos) (tThen ta (kTup K)) := by
  subst h
  exact pe_tupleOf hg hm ha he
theorem ix_listK (h : X.K = K := by rfl) : IxR X (rIxL K) := by subst h; exact ix_list
theorem ix_tupK (h : X.K = K := by rfl) : IxR X (rIxT K) := by subst h; exact ix_tup
theorem cb_lenK (h : X.K = K := by rfl) : CallR X (.builtin "len") (rLenS K) := by subst h; exact cb_len
theorem cr_sumK (hc : X.calm = true) (h : X.K = K := by rfl) : CallR X (.builtin "sum") (rSum K) := by subst h; exact cr_sum hc
theorem cr_allK (hc : X.calm = true) (h : X.K = K := by rfl) : CallR X (.builtin "all") (rAll K) := by subst h; exact cr_all hc
theorem cr_anyK (hc : X.calm = true) (h : X.K = K := by rfl) : CallR X (.builtin "any") (rAny K) := by subst h; exact cr_any hc
theorem cr_isiK (h : X.K = K := by rfl) : CallR X (.builtin "isinstance") (rIsi K) := by subst h; exact call_isi
theorem cr_isiTK (h : X.K = K := by rfl) : CallR X (.builtin "isinstance") (rIsiT K) := by subst h; exact call_isiT
end
end DL

-- DK2
/-! two clauses -/
namespace DL
open PySem PySem.Spec PyProof.Rows L2
section
variable {K : PySem.W.Frag} {ρ : List (Option D)} {wi wi1 : TI} {g g1 : TG} {te : TE} {vs vs1 js js1 : List Nat} {ds : List D}
/-- items of two clauses, by places -/
def flatF (ds : List D) (es : D → List D) (f : D → D → D) : List D := ds.flatMap fun d => (es d).map (f d)
theorem flat_len {es : D → List D} {f : D → D → D} {B : Nat} : ∀ {ds : List D}, (∀ d ∈ ds, (es d).length ≤ B) → (flatF ds es f).length ≤ B * ds.length
  | [], _ => Nat.zero_le _
  | d :: ds, h => by
    have ih := flat_len (ds := ds) (f := f) fun e he => h e (List.mem_cons_of_mem _ he)
    have h1 := h d List.mem_cons_self
    show ((es d).map (f d) ++ flatF ds es f).length ≤ B * (ds.length + 1)
    rw [List.length_append, List.length_map, Nat.mul_add, Nat.mul_one]
    omega
theorem ev_lc2 {es : D → List D} {f : D → D → D} (hi : EvI K wi ρ ds) (hlen : ds.length ≤ 300) (hjs : ∀ j ∈ js, j ∈ vs) (hjs1 : ∀ j ∈ js1, j ∈ vs1)
    (turn : ∀ d ∈ ds, ∃ ρ1, EvG K g js d (wipeD ρ vs) ρ1 ∧ EvI K wi1 ρ1 (es d) ∧ (es d).length ≤ 300 ∧ ∀ e ∈ es d, ∃ ρ2, EvG K g1 js1 e (wipeD ρ1 vs1) ρ2 ∧ Evd K te ρ2 (f d e)) :
    Evd K (tLc2 wi g tYes wi1 g1 tYes te vs vs1) ρ (.list (flatF ds es f)) := fun O σ H k ok Q q =>
  hi O σ H k ok _ fun J H1 s1 it D hD => by
    have base : ∀ {H' : Hp}, Same H1 H' → Same (hide H1 O) (hide H' (D :: O)) := fun {H'} e => same_more (P := [D]) e fun p hp => by
      rw [List.mem_singleton.mp hp]
      exact hD
    have know : ∀ {H' : Hp} {acc : List V}, Same H1 H' → H' D = some (.lst acc) → Known H' (D :: O) := fun {H' acc} e hacc p hp z => by
      rcases List.mem_cons.mp hp with rfl | hp
      · rw [hacc] at z
        cases z
      · exact (k.mono (s1.trans e)) p hp z
    have room : ∀ {i : Nat}, i ≤ ds.length → ((ds.take i).length ≤ 300) := fun {i} h => by rw [List.length_take]; omega
    have flen : ∀ i, (flatF (ds.take i) es f).length ≤ 300 * 300 := fun i => by
      have h1 := flat_len (ds := ds.take i) (f := f) (B := 300) fun d hd => by
        obtain ⟨_, _, _, h, _⟩ := turn d (List.mem_of_mem_take hd)
        exact h
      have h2 : (ds.take i).length ≤ 300 := by rw [List.length_take]; omega
      exact Nat.le_trans h1 (Nat.mul_le_mul_left 300 h2)
    refine ⟨fun i m H' => m = ds.length - i ∧ i ≤ ds.length ∧ Same H1 H' ∧ ∃ acc, H' D = some (.lst acc) ∧ DqAll K (hide H' (D :: O)) acc (flatF (ds.take i) es f), ⟨_, rfl, Nat.zero_le _, same_upd hD, [], upd_same, .nil⟩, fun i m H2 w => ?_⟩
    obtain ⟨rfl, hi2, s2, acc, hacc, dacc⟩ := w
    have kn2 := know s2 hacc
    obtain ⟨go, stop, yl⟩ := it (D :: O) i H2 (base s2) kn2
    by_cases hlt : i < ds.length
    · have hx : ds[i]? = some ds[i] := List.getElem?_eq_getElem hlt
      obtain ⟨ρ1, eg, ei1, l1, turn1⟩ := turn ds[i] (List.getElem_mem hlt)
      have tk : ds.take (i + 1) = ds.take i ++ [ds[i]] := by
        rw [List.take_add_one, hx]
        rfl
      have fk : flatF (ds.take (i + 1)) es f = flatF (ds.take i) es f ++ (es ds[i]).map (f ds[i]) := by
        unfold flatF
        rw [tk, List.flatMap_append]
        congr 1
        rw [List.flatMap_cons, List.flatMap_nil, List.append_nil]
      refine .inr ⟨go hlt, fun H' => Same H1 H' ∧ ∃ acc, H' D = some (.lst acc) ∧ DqAll K (hide H' (D :: O)) acc (flatF (ds.take (i + 1)) es f), fun H' h => ⟨_, by omega, rfl, hlt, h⟩, fun x H3 hy => ?_⟩
      obtain ⟨s3, dx⟩ := yl x H3 _ hy hx
      have ok3 : EnvOk K (hide H3 (D :: O)) (wipe σ vs) (wipeD ρ vs) := (EnvOk.wipe (ok.mono ((Same.hide s1).trans (base (s2.trans s3)))) vs)
      refine eg (D :: O) (wipe σ vs) H3 x ok3 dx _ fun σ2 ok2 l2 f2 => ⟨?_, ?_⟩
      · rw [wipe_eq l2 fun j hj => f2 j fun z => hj (hjs j z), wipe_wipe]
      · refine et_yes (K := K) (ρ := ρ1) (D :: O) σ2 H3 (kn2.mono s3) ok2 _ fun H4 s4 => ?_
        refine iteT (ei1 (D :: O) σ2 H4 (kn2.mono (s3.trans s4)) (ok2.mono (Same.hide s4)) _ fun J1 H5 s5 it1 => ?_)
        have s25 : Same H2 H5 := s3.trans (s4.trans s5)
        have h5 : H5 D = some (.lst acc) := s25 _ _ hacc
        refine ⟨fun j m H' => m = (es ds[i]).length - j ∧ j ≤ (es ds[i]).length ∧ Same H1 H' ∧ Same (hide H5 (D :: O)) (hide H' (D :: O)) ∧ ∃ acc, H' D = some (.lst acc) ∧ DqAll K (hide H' (D :: O)) acc (flatF (ds.take i) es f ++ ((es ds[i]).take j).map (f ds[i])),
          ⟨_, rfl, Nat.zero_le _, s2.trans s25, Same.refl _, acc, h5, by rw [List.take_zero, List.map_nil, List.append_nil]; exact DqAll.mono (Same.hide s25) dacc⟩, fun j m H6 w6 => ?_⟩
        obtain ⟨rfl, hj2, s6, sh6, acc6, hacc6, dacc6⟩ := w6
        have kn6 := know s6 hacc6
        obtain ⟨go1, stop1, yl1⟩ := it1 (D :: O) j H6 sh6 kn6
        by_cases hjt : j < (es ds[i]).length
        · have hy1 : (es ds[i])[j]? = some (es ds[i])[j] := List.getElem?_eq_getElem hjt
          obtain ⟨ρ2, eg1, ev⟩ := turn1 _ (List.getElem_mem hjt)
          refine .inr ⟨go1 hjt, fun H' => Same H1 H' ∧ Same (hide H5 (D :: O)) (hide H' (D :: O)) ∧ ∃ acc, H' D = some (.lst acc) ∧ DqAll K (hide H' (D :: O)) acc (flatF (ds.take i) es f ++ ((es ds[i]).take (j + 1)).map (f ds[i])), fun H' h => ⟨_, by omega, rfl, hjt, h⟩, fun x1 H7 hyy => ?_⟩
          obtain ⟨s7, dx1⟩ := yl1 x1 H7 _ hyy hy1
          have ok7 : EnvOk K (hide H7 (D :: O)) (wipe σ2 vs1) (wipeD ρ1 vs1) := EnvOk.wipe (ok2.mono ((Same.hide (s4.trans s5)).trans (sh6.trans (Same.hide s7)))) vs1
          refine eg1 (D :: O) (wipe σ2 vs1) H7 x1 ok7 dx1 _ fun σ3 ok3' l3 f3 => ⟨?_, ?_⟩
          · rw [wipe_eq l3 fun j hj => f3 j fun z => hj (hjs1 j z), wipe_wipe]
          · refine et_yes (K := K) (ρ := ρ2) (D :: O) σ3 H7 (kn6.mono s7) ok3' _ fun H8 s8 => ?_
            refine iteT (ev (D :: O) σ3 H8 (kn6.mono (s7.trans s8)) (ok3'.mono (Same.hide s8)) _ fun y H9 s9 dy => ?_)
            have s69 : Same H6 H9 := s7.trans (s8.trans s9)
            have h9 : H9 D = some (.lst acc6) := s69 _ _ hacc6
            have la : acc6.length < sizeLine := by
              have q1 := DqAll.length dacc6
              have q2 := flen i
              rw [List.length_append, List.length_map, List.length_take] at q1
              exact Nat.lt_of_le_of_lt (m := 100000) (by omega) (by decide)
            refine ⟨acc6, h9, la, ?_, ?_, acc6 ++ [y], upd_same, ?_⟩
            · intro b o hb
              have nb : b ≠ D := ne_of_none hb hD
              rw [upd_ne nb]
              exact s69 _ _ (s6 _ _ hb)
            · rw [hide_upd_in List.mem_cons_self]
              exact sh6.trans (Same.hide s69)
            · rw [hide_upd_in List.mem_cons_self, List.take_add_one, hy1, List.map_append, ← List.append_assoc]
              exact DqAll.append (DqAll.mono (Same.hide s69) dacc6) (.cons dy .nil)
        · have e : j = (es ds[i]).length := by omega
          subst e
          rw [List.take_length] at dacc6
          exact .inl ⟨stop1 (Nat.le_refl _), s6, acc6, hacc6, by rw [fk]; exact dacc6⟩
    · have e : i = ds.length := by omega
      subst e
      refine .inl ⟨stop (Nat.le_refl _), q _ H2 (s1.trans s2) ?_⟩
      have hDO : D ∉ O := (k.mono s1).new hD
      rw [List.take_length] at dacc
      refine .lst (SqL.of ?_) (DqAll.mono (same_less (P := [D])) dacc)
      rw [hide_out hDO]
      exact hacc
end
end DL

-- DZ
/-! zip( *t ) of a pair of tuples -/
namespace DL
open PySem PySem.Spec PyProof.Rows L2
section
variable {M : Model} {A : Around} {E : Value → Shared → Prop} {s : Shared}
theorem callWith_typeS {pos p : Pos} {T : String} {e : Expr} {env : Env} {Q : Value → Shared → Prop}
    (h : wpAny M A (eval e env) (fun v s₁ => PySem.W.StarOf M A E v (fun vs s₂ => wpAny M A (call (.type T) vs) Q E s₂) s₁) E s)
    (he : starEach [.Starred e p] env = [(true, eval e env)] := by rfl) :
    wpAny M A (callWith pos (.type T) [] (backTo pos (starEach [.Starred e p] env)) []) Q E s := by
  rw [he]
  refine PySem.W.ks_call (P := fun _ => True) rfl (fun h _ => ⟨.machine, .inr (.inl rfl), PySem.W.Looks.of_pure rfl⟩) (PySem.W.ks_lone (wpAny_mono h (fun v s₁ h₁ => ?_) fun _ _ x => x))
  unfold PySem.W.StarOf at h₁ ⊢
  exact wpAny_mono h₁ (fun b s2 h2 => ⟨h2.1, wpAny_mono h2.2 (fun vs s3 h3 => ⟨trivial, h3⟩) fun _ _ x => x⟩) fun _ _ x => x
end
def iZipS (K : PySem.W.Frag) (te : TE) : TI := fun σ H R => te σ H fun x H1 => ∃ T a b xs ys, x = .ref T ∧ SqT K H1 T [.ref a, .ref b] ∧ SqT K H1 a xs ∧ SqT K H1 b ys ∧ R (RZ.ItzT K a b) H1
theorem pi_zipS {X : Cx} {e : Expr} {te : TE} {p pos sp tpos : Pos} {elts : List Expr} {kk : Nat} (K : PySem.W.Frag) (hg : Gl X "zip") (hm : X.mg "zip" = none) (he : PE X e te) (hK : X.K = K := by rfl)
    (hst : starEach [.Starred e sp] X.env = [(true, eval e X.env)] := by rfl) :
    PI X (.Tuple elts kk tpos) (.Call (.Name "zip" p) [.Starred e sp] [] pos) (iZipS K te) := by
  subst hK
  refine ⟨fun pins s σ H R I h => ?_⟩
  refine Call_ (ld_blt I hg hm PyProof.Rows.boot_zip (callWith_typeS (thn (he.run pins s σ H _ I h) fun v s0 ⟨y, H1, I0, ry, q1⟩ => ?_) hst))
  obtain ⟨T, a, b, xs, ys, ex, hT, hqx, hqy, q⟩ := q1
  subst ex
  obtain rfl : v = Value.ref T := ry
  refine star_tup I0 hT fun us s1 I1 r1 => ?_
  cases r1 with
  | cons r rr =>
    cases rr with
    | cons r' rr =>
      cases rr
      cases r
      cases r'
      have fresh5 : ∀ c, c ∈ [s1.heap.objs.size + 4, s1.heap.objs.size + 2, s1.heap.objs.size + 3, s1.heap.objs.size, s1.heap.objs.size + 1] → FpOk X pins H1 c := fun c hcm => by
        have e' : c = s1.heap.objs.size + 4 ∨ c = s1.heap.objs.size + 2 ∨ c = s1.heap.objs.size + 3 ∨ c = s1.heap.objs.size ∨ c = s1.heap.objs.size + 1 := by simpa using hcm
        have hle : s1.heap.objs.size ≤ c := by
          rcases e' with z | z | z | z | z
          · rw [z]; exact Nat.le_add_right _ _
          · rw [z]; exact Nat.le_add_right _ _
          · rw [z]; exact Nat.le_add_right _ _
          · rw [z]; exact Nat.le_refl _
          · rw [z]; exact Nat.le_add_right _ _
        exact I1.fpOk hle (I1.hok.fresh hle)
      obtain ⟨its, rv, p1, _⟩ := I1.tuple hqx
      obtain ⟨its2, rv2, p2, _⟩ := I1.tuple hqy
      obtain ⟨o1, ho1, _⟩ := id p1
      obtain ⟨o2, ho2, _⟩ := id p2
      refine RZ.call_zipT (show s1.heap.IsTuple a its.toArray from p1) (show s1.heap.IsTuple b its2.toArray from p2) fun h' hz hTI hTO h1 h2 hsz hk => wpAny_pyIter_zip hz ?_
      have I2 : Inv X pins σ H1 { s1 with heap := h' } := I1.kept (t' := s1.toks) hk
      exact ⟨s1.heap.objs.size + 4, [s1.heap.objs.size + 4, s1.heap.objs.size + 2, s1.heap.objs.size + 3, s1.heap.objs.size, s1.heap.objs.size + 1], _, _, H1, rfl, I2, RZ.turn_zipT (PySem.W.ktu_apart s1.heap.objs.size a b (Heap.lt_size ho1) (Heap.lt_size ho2)), ⟨hz, hTI, ⟨_, _, hTO⟩, h1, h2⟩, fresh5, q⟩
theorem pi_tupK {X : Cx} {t e : Expr} {te : TE} (K : PySem.W.Frag) (he : PE X e te) (h : X.K = K := by rfl) : PI X t e (iTup K te) := by
  subst h
  exact pi_tup he
theorem pi_listK {X : Cx} {t e : Expr} {te : TE} (K : PySem.W.Frag) (he : PE X e te) (h : X.K = K := by rfl) : PI X t e (iList K te) := by
  subst h
  exact pi_list he
section
variable {K : PySem.W.Frag} {ρ : List (Option D)} {te : TE} {ds es : List D}
theorem ei_zipS (h : Evd K te ρ (.tuple [.tuple ds, .tuple es])) : EvI K (iZipS K te) ρ (zipD ds es) := fun O σ H k ok R q =>
  h O σ H k ok _ fun v H1 s d => by
    obtain ⟨T, vs, rfl, sT, al⟩ := d.tup_inv
    cases al with
    | cons d1 al =>
      cases al with
      | cons d2 al =>
        cases al
        obtain ⟨a, xs, rfl, s1, a1⟩ := d1.tup_inv
        obtain ⟨b, ys, rfl, s2, a2⟩ := d2.tup_inv
        exact ⟨T, a, b, xs, ys, rfl, seqT hide_same sT, seqT hide_same s1, seqT hide_same s2, q _ H1 s (itzT_ok s1 s2 a1 a2)⟩
end
end DL

-- DS
/-! a def by a promise of its own -/
namespace DL
open PySem PySem.Spec PyProof.Rows L2
structure FnS (P : Program) (w : World) (K : PySem.W.Frag) (mg : Str → Option Value) (base : Heap) (k : Nat) (x : Str) (sp : Sp) : Prop where
  ex : ∃ (f : Addr) (fd : FuncData) (ps : List Str), FnOk P w K mg base CX0 k f fd ps sp ∧ mg x = some (.ref f) ∧ PySem.W.keepIn K (.ref f) = true ∧ Binds K fd ps []
theorem fn_mkS {P : Program} {w : World} {K : PySem.W.Frag} {mg : Str → Option Value} {base : Heap} {x : Str} {st : Stmt} {N ps : List Str} {k : Nat} {sp : Sp} (F : DefAt K mg x st) (S : FnScope N ps (defScope st))
    (hb : ∀ (kV doc pm : Value) (an : Option Addr) (cdv ct : Value) (us : List Value), us.length = ps.length → bindArgs (PySem.W.fnOf x x (defArgs st) (defBody st) (defScope st) .none kV doc pm an cdv ct) ⟨us, []⟩ = pure (ps.zip us))
    (len : ∀ vs H Q E, sp vs H Q E → vs.length = ps.length)
    (body : ∀ (f : Addr) (cdv : Value) (A : Around) (outer : List Env) (s : Shared) (H : Hp) (vs : List V) (Q : VK) (E : XK), Room k (A.deeper (envOfC x (defScope st) s.heap.objs.size f cdv)) → sp vs H Q E →
      ∃ T, PSs (cxOf CX0 P w K mg base N x (defScope st) f cdv A outer s H E).nox (defBody st) T ∧ T { nx := fun _ H' => Q .non H', rt := Q } (start N vs) H) : FnS P w K mg base (k + 1) x sp := by
  obtain ⟨f, fd, F, hm⟩ := F
  refine ⟨f, fd, ps, ?_, hm, F.kp, F.bindsN hb⟩
  refine F.ok S len (fun cdv A outer s H vs Q E hr h => ?_)
  obtain ⟨T, h1, h2⟩ := body f cdv A outer s H vs Q E hr h
  exact ⟨T, h1.nox, h2⟩
theorem pe_fnS {X : Cx} {k j : Nat} {x : Str} {p pos : Pos} {e : Expr} {es : List Expr} {t : TA} {P : Program} {w : World} {K : PySem.W.Frag} {mg : Str → Option Value} {base : Heap} {sp : Sp} (c : FnS P w K mg base k x sp) (hr : Room j X.A) (hk : k ≤ j) (hg : Gl X x) (ha : PA X (e :: es) t) (h1 : X.prog = P := by rfl) (h2 : X.w = w := by rfl) (h3 : X.K = K := by rfl) (h4 : X.mg = mg := by rfl) (h5 : X.base = base := by rfl)
    (hdb : (x == ("__debug__" : Str)) = false := by decide) (he : starEach (e :: es) X.env = (false, eval e X.env) :: starEach es X.env := by rfl) (hpl : (backTo pos (starEach es X.env)).any (·.1) = false := by rfl) :
    PE X (.Call (.Name x p) (e :: es) [] pos) (tCall sp [] E0 t) := by
  subst h1 h2 h3 h4 h5
  obtain ⟨f, fd, ps, F, hm, kp, b⟩ := c.ex
  exact pe_call F (hr.mono hk) hg hm kp b .nil pass0 ha hdb he hpl
theorem hide0 {H : Hp} : Same H (hide H []) := fun b o h => by
  rw [hide_out (by simp)]
  exact h
/-- ints of the slots -/
theorem env_ints {K : PySem.W.Frag} {H : Hp} {σ : L2.St} (ns : List (Option Int)) (hl : σ.length = ns.length) (h : ∀ (i : Nat) (n : Int), ns[i]? = some (some n) → σ[i]? = some (some (.int n))) : EnvOk K H σ (ns.map fun o => o.map PyData.int) :=
  ⟨by rw [hl, List.length_map], fun i d e => by
    rw [List.getElem?_map] at e
    cases q : ns[i]? with
    | none =>
      rw [q] at e
      cases e
    | some o =>
      rw [q] at e
      cases o with
      | none => cases Option.some.inj e
      | some n =>
        have e2 : PyData.int n = d := Option.some.inj (Option.some.inj e)
        subst e2
        exact ⟨_, h i n q, .int n⟩⟩
/-- an int read off ints -/
theorem ev_raw {K : PySem.W.Frag} {te : TE} {ρ : List (Option D)} {n : Int} {σ : L2.St} {H : Hp} (h : Evd K te ρ (.int n)) (ok : EnvOk K (hide H []) σ ρ) {Q : VK} (q : ∀ H', Same H H' → Q (.int n) H') : te σ H Q :=
  h [] σ H (fun p hp => by cases hp) ok Q fun v H' s d => by
    rw [d.int_inv]
    exact q H' s
end DL

-- PX
/-! list comprehensions of four clauses (the kit's two-clause rule, its inner clause told once for any depth) -/
namespace DL
open PySem PySem.Spec PyProof.Rows L2
abbrev lc4 (elt t0 i0 t1 i1 t2 i2 t3 i3 : Expr) (scope : Scope) (pos : Pos) : Expr := .ListComp elt [⟨t0, i0, [], 0⟩, ⟨t1, i1, [], 0⟩, ⟨t2, i2, [], 0⟩, ⟨t3, i3, [], 0⟩] scope pos
/-- a clause's turn that goes on to another clause -/
def TurnMore (e : Expr) (d : Nat) (t0 i0 i1 : Expr) : Prop := ∀ (it acc : Value) (env : Env), compTurn e d it acc env = (do
      standAt i0.pos
      match ← pyNext it with
      | none => pure (.done .next)
      | some v =>
        letOwnedTupleGo t0 it v
        assign t0 env v
        let mut ok := true
        for c in ([] : List Expr) do
          if ok then ok ← isTrue c env (eval c env)
        if ok then
          let x ← eval i1 env
          standAt i1.pos
          let x ← foldedSetIterable i1 env x
          let _ ← runOwn (.compStart e (d + 1) (← holding [x] (pyIter x)) acc env) env
        again (.compLoop e d it acc env))
/-- the last clause's turn -/
def TurnLast (e : Expr) (d : Nat) (t0 i0 elt : Expr) : Prop := ∀ (it acc : Value) (env : Env), compTurn e d it acc env = (do
      standAt i0.pos
      match ← pyNext it with
      | none => pure (.done .next)
      | some v =>
        letOwnedTupleGo t0 it v
        assign t0 env v
        let mut ok := true
        for c in ([] : List Expr) do
          if ok then ok ← isTrue c env (eval c env)
        if ok then
          (do let _ ← call (.builtin "list.append") [acc, ← eval elt env])
        again (.compLoop e d it acc env))
section
variable {elt t0 i0 t1 i1 t2 i2 t3 i3 : Expr} {scope : Scope} {pos : Pos}
theorem turn4_0 : TurnMore (lc4 elt t0 i0 t1 i1 t2 i2 t3 i3 scope pos) 0 t0 i0 i1 := fun it acc env => by rfl
theorem turn4_1 : TurnMore (lc4 elt t0 i0 t1 i1 t2 i2 t3 i3 scope pos) 1 t1 i1 i2 := fun it acc env => by rfl
theorem turn4_2 : TurnMore (lc4 elt t0 i0 t1 i1 t2 i2 t3 i3 scope pos) 2 t2 i2 i3 := fun it acc env => by rfl
theorem turn4_3 : TurnLast (lc4 elt t0 i0 t1 i1 t2 i2 t3 i3 scope pos) 3 t3 i3 elt := fun it acc env => by rfl
end
section
variable {prog : Program} {w : World} {A : Around} {R : Result → Shared → Prop} {s : Shared} {e elt t0 i0 i1 : Expr} {d : Nat} {it acc : Value} {env : Env}
theorem loopMore (hT : TurnMore (.ListComp elt gens scope pos) d t0 i0 i1) (hs : ∀ x, foldedSetIterable i1 env x = pure x) (I : Nat → Shared → Prop)
    (turn : ∀ n s, I n s → wpAny (model prog w) A (pyNext it) (fun r s₁ => match r with
      | none => R (.ok .next) s₁
      | some v => wpAny (model prog w) A (letOwnedTupleGo t0 it v) (fun _ s₁' => wpAny (model prog w) A (assign t0 env v) (fun _ s₂ =>
          wpAny (model prog w) A (eval i1 env) (fun x s₄ => wpAny (model prog w) A (pyIter x) (fun it1 s₅ =>
              codeAny (model prog w) A (.compStart (.ListComp elt gens scope pos) (d + 1) it1 acc env) (fun r s' => match r with
                | .ok _ => ∃ m, m < n ∧ I m s'
                | .error _ => False) s₅) (notedBy (model prog w) A env fun e s' => R (.error e) s') s₄) (notedBy (model prog w) A env fun e s' => R (.error e) s') s₂) (notedBy (model prog w) A env fun e s' => R (.error e) s') s₁') (notedBy (model prog w) A env fun e s' => R (.error e) s') s₁) (notedBy (model prog w) A env fun e s' => R (.error e) s') s)
    (n : Nat) (h : I n s) : codeAny (model prog w) A (.compLoop (.ListComp elt gens scope pos) d it acc env) R s := by
  refine codeAny_loop rfl I (fun n s hI => ?_) n h
  show wpAny _ A ((compTurn (.ListComp elt gens scope pos) d it acc env).onRaise (fun x => do noteFrame x env; theTreesLotGoes x)) _ _ s
  refine wpAny_noted ?_
  rw [hT]
  refine wpAny_bind (wpAny_standAt (wpAny_bind (wpAny_mono (turn n s hI) (fun r s₁ h₁ => ?_) fun _ _ h' => h')))
  cases r with
  | none => exact wpAny_pure h₁
  | some v =>
    refine wpAny_bind (wpAny_mono h₁ (fun _ s₁' h₁' => ?_) fun _ _ h' => h')
    refine wpAny_bind (wpAny_mono h₁' (fun _ s₂ h₃ => wpAny_bind (wpAny_tests_nil ?_)) fun _ _ h' => h')
    refine wpAny_bind (wpAny_mono h₃ (fun x s₄ h₄ => ?_) fun _ _ h' => h')
    refine wpAny_bind (wpAny_standAt (wpAny_bind (wpAny_of_eq (hs x) (wpAny_bind (wpAny_holding (wpAny_mono h₄ (fun it1 s₅ h₅ => ?_) fun _ _ h' => h'))))))
    refine wpAny_bind (wpAny_runOwn ?_)
    rw [Around.mark_none]
    refine codeAny_mono h₅ fun r s' hr => ?_
    cases r with
    | ok f =>
      first
        | exact wpAny_pure ⟨rfl, hr⟩
        | exact wpAny_bind (wpAny_pure (wpAny_pure ⟨rfl, hr⟩))
    | error e => exact hr.elim
theorem loopLast (hT : TurnLast (.ListComp elt gens scope pos) d t0 i0 elt) (I : Nat → Shared → Prop)
    (turn : ∀ n s, I n s → wpAny (model prog w) A (pyNext it) (fun r s₁ => match r with
      | none => R (.ok .next) s₁
      | some v => wpAny (model prog w) A (letOwnedTupleGo t0 it v) (fun _ s₁' => wpAny (model prog w) A (assign t0 env v) (fun _ s₂ =>
          wpAny (model prog w) A (eval elt env) (fun x s₄ =>
              wpAny (model prog w) A (call (.builtin "list.append") [acc, x]) (fun _ s₅ => ∃ m, m < n ∧ I m s₅) (notedBy (model prog w) A env fun e s' => R (.error e) s') s₄) (notedBy (model prog w) A env fun e s' => R (.error e) s') s₂) (notedBy (model prog w) A env fun e s' => R (.error e) s') s₁') (notedBy (model prog w) A env fun e s' => R (.error e) s') s₁) (notedBy (model prog w) A env fun e s' => R (.error e) s') s)
    (n : Nat) (h : I n s) : codeAny (model prog w) A (.compLoop (.ListComp elt gens scope pos) d it acc env) R s := by
  refine codeAny_loop rfl I (fun n s hI => ?_) n h
  show wpAny _ A ((compTurn (.ListComp elt gens scope pos) d it acc env).onRaise (fun x => do noteFrame x env; theTreesLotGoes x)) _ _ s
  refine wpAny_noted ?_
  rw [hT]
  refine wpAny_bind (wpAny_standAt (wpAny_bind (wpAny_mono (turn n s hI) (fun r s₁ h₁ => ?_) fun _ _ h' => h')))
  cases r with
  | none => exact wpAny_pure h₁
  | some v =>
    refine wpAny_bind (wpAny_mono h₁ (fun _ s₁' h₁' => ?_) fun _ _ h' => h')
    refine wpAny_bind (wpAny_mono h₁' (fun _ s₂ h₃ => wpAny_bind (wpAny_tests_nil ?_)) fun _ _ h' => h')
    exact wpAny_bind (wpAny_bind (wpAny_mono h₃ (fun x s₄ h₄ => wpAny_bind (wpAny_mono h₄ (fun _ s₅ h₅ => wpAny_pure (wpAny_pure ⟨rfl, h₅⟩)) fun _ _ h' => h')) fun _ _ h' => h'))
/-- a clause's start -/
theorem startCl {tg iter : Expr} {ifs : List Expr} (hcl : (clausesOf (.ListComp elt gens scope pos))[d]? = some ⟨tg, iter, ifs, 0⟩) (h0 : codeAny (model prog w) A (.compLoop (.ListComp elt gens scope pos) d it acc env) R s)
    (h : wpAny (model prog w) A (pyIter it) (fun it' s' => codeAny (model prog w) A (.compLoop (.ListComp elt gens scope pos) d it' acc env) R s') (notedBy (model prog w) A env fun x s' => R (.error x) s') s) :
    codeAny (model prog w) A (.compStart (.ListComp elt gens scope pos) d it acc env) R s := by
  refine codeAny_of_tree ?_
  show wpAny _ _ ((compStart (.ListComp elt gens scope pos) d it acc env).onRaise (fun x => do noteFrame x env; standAt theWindowsPlace)) _ _ s
  refine wpAny_notedAt ?_
  unfold compStart
  rw [hcl]
  show wpAny _ _ (ask >>= _) _ _ s
  refine wpAny_bind (wpAny_askSetting (wpAny_ite ?_))
  split
  · first
      | exact wpAny_bind (wpAny_pure (wpAny_pure (And.intro rfl h0)))
      | exact wpAny_pure (And.intro rfl h0)
  · first
      | exact wpAny_bind (wpAny_rule (wpAny_bind (wpAny_standAt (wpAny_bind (wpAny_mono h (fun it' s' h' => wpAny_pure (And.intro rfl h')) fun _ _ x => x)))))
      | (refine wpAny_bind (wpAny_rule ?_); show wpAny _ _ (standAt iter.pos >>= _) _ _ s; exact wpAny_bind (wpAny_standAt (wpAny_bind (wpAny_mono h (fun it' s' h' => wpAny_pure (And.intro rfl h')) fun _ _ x => x))))
end
/-! ### readings -/
abbrev TK := L2.St → Hp → (Hp → Prop) → Prop
/-- the item, appended to the list at D -/
def kApp (D : Addr) (te : TE) : TK := fun σ H N => te σ H fun y H4 => ∃ acc, H4 D = some (.lst acc) ∧ acc.length < sizeLine ∧ N (upd H4 D (.lst (acc ++ [y])))
/-- an inner clause; vs: its names and those of the clauses behind -/
def kCl (wi : TI) (g : TG) (vs : List Nat) (body : TK) : TK := fun σ H N => wi σ H fun J H1 => ∃ W : Nat → Nat → Hp → Prop, (∃ m, W 0 m H1) ∧ ∀ i m H, W i m H →
  (J.stop i H ∧ N H) ∨ (J.go i H ∧ ∃ Nx : Hp → Prop, (∀ H', Nx H' → ∃ m', m' < m ∧ W (i + 1) m' H') ∧ ∀ x H', J.yld i H x H' → g x (wipe σ vs) H' fun σ2 H2 => wipe σ2 vs = wipe σ vs ∧ body σ2 H2 Nx)
def tLcN (wi : TI) (g : TG) (vs : List Nat) (body : Addr → TK) : TE := fun σ H Q => wi σ H fun J H1 => ∀ D, H1 D = none → ∃ W : Nat → Nat → Hp → Prop, (∃ m, W 0 m (upd H1 D (.lst []))) ∧ ∀ i m H, W i m H →
  (J.stop i H ∧ Q (.ref D) H) ∨ (J.go i H ∧ ∃ Nx : Hp → Prop, (∀ H', Nx H' → ∃ m', m' < m ∧ W (i + 1) m' H') ∧ ∀ x H', J.yld i H x H' → g x (wipe σ vs) H' fun σ2 H2 => wipe σ2 vs = wipe σ vs ∧ body D σ2 H2 Nx)
/-! ### inner clauses -/
def Keep (vs : List Nat) (σ σ' : L2.St) : Prop := σ'.length = σ.length ∧ ∀ (j : Nat) v, (wipe σ vs)[j]? = some (some v) → σ'[j]? = some (some v)
def PostC (X : Cx) (pins : List (Addr × Obj)) (vs : List Nat) (σ : L2.St) (N : Hp → Prop) (s' : Shared) : Prop := ∃ σ' H', Inv X pins σ' H' s' ∧ Keep vs σ σ' ∧ N H'
/-- the clause of depth d, its source i -/
structure RunsC (X : Cx) (e : Expr) (d : Nat) (i : Expr) (acc : Value) (vs : List Nat) (t : TK) : Prop where
  run : ∀ (pins : List (Addr × Obj)) (s : Shared) (σ : L2.St) (H : Hp) (N : Hp → Prop), Inv X pins σ H s → t σ H N →
    wpAny (model X.prog X.w) X.A (eval i X.env) (fun x s4 => wpAny (model X.prog X.w) X.A (pyIter x) (fun it1 s5 => codeAny (model X.prog X.w) X.A (.compStart e d it1 acc X.env) (fun r s' => match r with
      | .ok _ => PostC X pins vs σ N s'
      | .error _ => False) s5) (fun _ _ => False) s4) (fun _ _ => False) s
section
variable {X : Cx} {s0 : Shared} {H0 : Hp} {sc : Scope} {ce : Env} {fp0 : List Addr}
theorem runs_last {elt : Expr} {gens : List Comprehension} {scope : Scope} {pos : Pos} {d : Nat} {tg i : Expr} {ifs : List Expr} {D : Addr} {wi : TI} {g : TG} {te : TE} {vs : List Nat} (hc : X.calm = true) (hT : TurnLast (.ListComp elt gens scope pos) d tg i elt) (hcl : (clausesOf (.ListComp elt gens scope pos))[d]? = some ⟨tg, i, ifs, 0⟩)
    (pi1 : PI (X.blk s0 H0 sc ce fp0) tg i wi) (pg1 : PG (X.blk s0 H0 sc ce fp0) tg g) (pe : PE (X.blk s0 H0 sc ce fp0) elt te) : RunsC (X.blk s0 H0 sc ce fp0) (.ListComp elt gens scope pos) d i (.ref D) vs (kCl wi g vs (kApp D te)) := by
  refine ⟨fun pins s9 σ8 H9 N I9 q9 => ?_⟩
  refine thnF (pi1.run _ s9 σ8 H9 _ I9 q9) fun xv s10 hx => thnF hx fun itv s11 h11 => ?_
  obtain ⟨it1, fp1, tn1, J1, H11, e1, I11, T1, st11, f11, W1, ⟨m1, w1⟩, turn1⟩ := h11
  subst e1
  have stat1 : ∀ {H' : Hp}, (∀ b ∈ fp1, H' b = none) → ∀ b ∈ fp1, FpOk (X.blk s0 H0 sc ce fp0) pins H' b := fun hn b hb => ⟨hn b hb, (f11 b hb).2⟩
  have loop1 : codeAny (model X.prog X.w) X.A (.compLoop (.ListComp elt gens scope pos) d (.ref it1) (.ref D) ce) (fun r s' => match r with
      | .ok _ => PostC (X.blk s0 H0 sc ce fp0) pins vs σ8 N s'
      | .error _ => False) s11 := by
    refine loopLast hT (fun k s' => ∃ j H', Inv (X.blk s0 H0 sc ce fp0) pins (wipe σ8 vs) H' s' ∧ tn1 j s'.heap ∧ (∀ b ∈ fp1, H' b = none) ∧ W1 j k H') ?_ m1 ⟨0, H11, I11.weak (wipe_length _ _) (fun j v e => (wipe_some e).1), st11, fun b hb => (f11 b hb).1, w1⟩
    rintro k s12 ⟨j, H12, I12, st12, n12, w12⟩
    rcases turn1 j k H12 w12 with ⟨stop1, nx1⟩ | ⟨go1, Nx1, hNx1, step1⟩
    · refine thnF (T1.done (X.blk s0 H0 sc ce fp0) rfl rfl rfl hc j _ s12 (wipe σ8 vs) H12 (fun _ _ => False) I12 (stat1 n12) st12 stop1) fun r s13 ⟨hr, I13⟩ => ?_
      subst hr
      exact ⟨wipe σ8 vs, H12, I13, ⟨wipe_length _ _, fun j v e => e⟩, nx1⟩
    · refine thnF (T1.item (X.blk s0 H0 sc ce fp0) rfl rfl rfl hc j _ s12 (wipe σ8 vs) H12 (fun _ _ => False) I12 (stat1 n12) st12 go1) fun r s13 ⟨u1, hr, h13⟩ => ?_
      subst hr
      refine thnF h13 fun _ s14 ⟨x1, H14, I14, r14, y14, st14, n14⟩ => ?_
      have I14' := I14.pinned (stat1 n14) (T1.obj _ _ st14)
      refine thnF (pg1.run _ s14 (wipe σ8 vs) H14 x1 u1 _ I14' r14 (step1 x1 H14 y14)) fun _ s15 ⟨σ15, H15, I15, hw15, q15⟩ => ?_
      have fin1 : ∀ {s' : Shared} {H' : Hp}, Inv (X.blk s0 H0 sc ce fp0) (pins ++ pinsAt fp1 s14.heap) σ15 H' s' → Nx1 H' → ∃ m, m < k ∧ ∃ j H', Inv (X.blk s0 H0 sc ce fp0) pins (wipe σ8 vs) H' s' ∧ tn1 j s'.heap ∧ (∀ b ∈ fp1, H' b = none) ∧ W1 j m H' := fun {s' H'} I' nx => by
        obtain ⟨m', hm, w'⟩ := hNx1 H' nx
        have pin' : ∀ b ∈ fp1, ∀ o, s14.heap.get? b = some o → s'.heap.get? b = some o ∧ H' b = none := fun b hb o e =>
          let z := I'.pin (b, o) (List.mem_append_right _ (List.mem_append_right _ (mem_pinsAt hb e)))
          ⟨z.1, z.2.1⟩
        refine ⟨m', hm, j + 1, H', I'.unpinned.weak (by rw [← hw15, wipe_length]) (fun j v e => by rw [← hw15] at e; exact (wipe_some e).1), T1.keep _ _ _ st14 fun b hb o e => (pin' b hb o e).1, fun b hb => ?_, w'⟩
        obtain ⟨o, e, _⟩ := T1.obj _ _ st14 b hb
        exact (pin' b hb o e).2
      refine thnF (pe.run _ s15 σ15 H15 _ I15 q15) fun z s17 ⟨yv, H17, I17, r17, acc, hD17, hz17, nx⟩ => ?_
      exact app_ok (X := X.blk s0 H0 sc ce fp0) I17 hD17 hz17 r17 fun s18 I18 => fin1 I18 nx
  exact startCl hcl loop1 (T1.self X.A 0 _ _ _ st11 loop1)
theorem runs_more {elt : Expr} {gens : List Comprehension} {scope : Scope} {pos : Pos} {d : Nat} {tg i i' : Expr} {ifs : List Expr} {D : Addr} {wi : TI} {g : TG} {body : TK} {vs vs' : List Nat} (hc : X.calm = true) (hT : TurnMore (.ListComp elt gens scope pos) d tg i i') (hcl : (clausesOf (.ListComp elt gens scope pos))[d]? = some ⟨tg, i, ifs, 0⟩) (hs : ∀ env x, foldedSetIterable i' env x = pure x)
    (pi1 : PI (X.blk s0 H0 sc ce fp0) tg i wi) (pg1 : PG (X.blk s0 H0 sc ce fp0) tg g) (hv : ∀ j ∈ vs', j ∈ vs) (nb : RunsC (X.blk s0 H0 sc ce fp0) (.ListComp elt gens scope pos) (d + 1) i' (.ref D) vs' body) : RunsC (X.blk s0 H0 sc ce fp0) (.ListComp elt gens scope pos) d i (.ref D) vs (kCl wi g vs body) := by
  refine ⟨fun pins s9 σ8 H9 N I9 q9 => ?_⟩
  refine thnF (pi1.run _ s9 σ8 H9 _ I9 q9) fun xv s10 hx => thnF hx fun itv s11 h11 => ?_
  obtain ⟨it1, fp1, tn1, J1, H11, e1, I11, T1, st11, f11, W1, ⟨m1, w1⟩, turn1⟩ := h11
  subst e1
  have stat1 : ∀ {H' : Hp}, (∀ b ∈ fp1, H' b = none) → ∀ b ∈ fp1, FpOk (X.blk s0 H0 sc ce fp0) pins H' b := fun hn b hb => ⟨hn b hb, (f11 b hb).2⟩
  have loop1 : codeAny (model X.prog X.w) X.A (.compLoop (.ListComp elt gens scope pos) d (.ref it1) (.ref D) ce) (fun r s' => match r with
      | .ok _ => PostC (X.blk s0 H0 sc ce fp0) pins vs σ8 N s'
      | .error _ => False) s11 := by
    refine loopMore hT (hs ce) (fun k s' => ∃ j H', Inv (X.blk s0 H0 sc ce fp0) pins (wipe σ8 vs) H' s' ∧ tn1 j s'.heap ∧ (∀ b ∈ fp1, H' b = none) ∧ W1 j k H') ?_ m1 ⟨0, H11, I11.weak (wipe_length _ _) (fun j v e => (wipe_some e).1), st11, fun b hb => (f11 b hb).1, w1⟩
    rintro k s12 ⟨j, H12, I12, st12, n12, w12⟩
    rcases turn1 j k H12 w12 with ⟨stop1, nx1⟩ | ⟨go1, Nx1, hNx1, step1⟩
    · refine thnF (T1.done (X.blk s0 H0 sc ce fp0) rfl rfl rfl hc j _ s12 (wipe σ8 vs) H12 (fun _ _ => False) I12 (stat1 n12) st12 stop1) fun r s13 ⟨hr, I13⟩ => ?_
      subst hr
      exact ⟨wipe σ8 vs, H12, I13, ⟨wipe_length _ _, fun j v e => e⟩, nx1⟩
    · refine thnF (T1.item (X.blk s0 H0 sc ce fp0) rfl rfl rfl hc j _ s12 (wipe σ8 vs) H12 (fun _ _ => False) I12 (stat1 n12) st12 go1) fun r s13 ⟨u1, hr, h13⟩ => ?_
      subst hr
      refine thnF h13 fun _ s14 ⟨x1, H14, I14, r14, y14, st14, n14⟩ => ?_
      have I14' := I14.pinned (stat1 n14) (T1.obj _ _ st14)
      refine thnF (pg1.run _ s14 (wipe σ8 vs) H14 x1 u1 _ I14' r14 (step1 x1 H14 y14)) fun _ s15 ⟨σ15, H15, I15, hw15, q15⟩ => ?_
      refine thnF (nb.run _ s15 σ15 H15 _ I15 q15) fun x s16 h16 => thnF h16 fun it2 s17 h17 => codeAny_mono h17 fun r s' hr => ?_
      cases r with
      | error e => exact hr
      | ok f =>
        obtain ⟨σ', H', I', ⟨kl, kk⟩, nx⟩ := hr
        obtain ⟨m', hm, w'⟩ := hNx1 H' nx
        have pin' : ∀ b ∈ fp1, ∀ o, s14.heap.get? b = some o → s'.heap.get? b = some o ∧ H' b = none := fun b hb o e =>
          let z := I'.pin (b, o) (List.mem_append_right _ (List.mem_append_right _ (mem_pinsAt hb e)))
          ⟨z.1, z.2.1⟩
        refine ⟨m', hm, j + 1, H', I'.unpinned.weak (by rw [kl, ← hw15, wipe_length]) (fun j v e => ?_), T1.keep _ _ _ st14 fun b hb o e => (pin' b hb o e).1, fun b hb => ?_, w'⟩
        · rw [← hw15] at e
          obtain ⟨e1, e2⟩ := wipe_some e
          exact kk j v (by rw [wipe_out fun z => e2 (hv j z)]; exact e1)
        · obtain ⟨o, e, _⟩ := T1.obj _ _ st14 b hb
          exact (pin' b hb o e).2
  exact startCl hcl loop1 (T1.self X.A 0 _ _ _ st11 loop1)
end
end DL

-- PX2
/-! list comprehensions of four clauses: the rule, and what it gives over data -/
namespace DL
open PySem PySem.Spec PyProof.Rows L2
section
variable {X : Cx}
theorem lc4_core {pins : List (Addr × Obj)} {s : Shared} {σ : L2.St} {H : Hp} {Q : VK} {elt tg iter tg1 iter1 tg2 iter2 tg3 iter3 : Expr} {scope : Scope} {own : List (Str × Nat)} {vs1 vs2 vs3 : List Nat} {pos pos' : Pos} {wi wi1 wi2 wi3 : TI} {g g1 g2 g3 : TG} {te : TE} {use : Option (Value → Sem Unit)} {Qf : Value → Shared → Prop} (hc : X.calm = true) (hN : X.N.Nodup) (I : Inv X pins σ H s) (hi : PI X tg iter wi) (ok : BlkOk X.N X.env.scope scope own)
    (hv1 : ∀ i ∈ vs1, i ∈ own.map (·.2)) (hv2 : ∀ i ∈ vs2, i ∈ vs1) (hv3 : ∀ i ∈ vs3, i ∈ vs2)
    (hg : ∀ (s : Shared) (H : Hp) (C : Addr) (cl : List (Str × Addr)) (fp : List Addr), PG (X.blk s H scope (compEnvC scope cl C X.env) fp) tg g)
    (hi1 : ∀ (s : Shared) (H : Hp) (C : Addr) (cl : List (Str × Addr)) (fp : List Addr), PI (X.blk s H scope (compEnvC scope cl C X.env) fp) tg1 iter1 wi1)
    (hg1 : ∀ (s : Shared) (H : Hp) (C : Addr) (cl : List (Str × Addr)) (fp : List Addr), PG (X.blk s H scope (compEnvC scope cl C X.env) fp) tg1 g1)
    (hi2 : ∀ (s : Shared) (H : Hp) (C : Addr) (cl : List (Str × Addr)) (fp : List Addr), PI (X.blk s H scope (compEnvC scope cl C X.env) fp) tg2 iter2 wi2)
    (hg2 : ∀ (s : Shared) (H : Hp) (C : Addr) (cl : List (Str × Addr)) (fp : List Addr), PG (X.blk s H scope (compEnvC scope cl C X.env) fp) tg2 g2)
    (hi3 : ∀ (s : Shared) (H : Hp) (C : Addr) (cl : List (Str × Addr)) (fp : List Addr), PI (X.blk s H scope (compEnvC scope cl C X.env) fp) tg3 iter3 wi3)
    (hg3 : ∀ (s : Shared) (H : Hp) (C : Addr) (cl : List (Str × Addr)) (fp : List Addr), PG (X.blk s H scope (compEnvC scope cl C X.env) fp) tg3 g3)
    (he : ∀ (s : Shared) (H : Hp) (C : Addr) (cl : List (Str × Addr)) (fp : List Addr), PE (X.blk s H scope (compEnvC scope cl C X.env) fp) elt te) (hs : ∀ x, foldedSetIterable iter X.env x = pure x)
    (hs1 : ∀ env x, foldedSetIterable iter1 env x = pure x) (hs2 : ∀ env x, foldedSetIterable iter2 env x = pure x) (hs3 : ∀ env x, foldedSetIterable iter3 env x = pure x) 
    (h : tLcN wi g (own.map (·.2)) (fun D => kCl wi1 g1 vs1 (kCl wi2 g2 vs2 (kCl wi3 g3 vs3 (kApp D te)))) σ H Q)
    (hRR : ∀ D C s' m H', Inv X pins σ H' s' → Q (.ref D) H' → s'.heap.Ns C m → FpOk X pins H' C → compPost (model X.prog X.w) X.A X.xe use Qf (.ref D) C (.ok .next) s') :
    wpAny (model X.prog X.w) X.A (comprehension (lc4 elt tg iter tg1 iter1 tg2 iter2 tg3 iter3 scope pos) scope X.env pos' (newList []) false (eval iter X.env) use) Qf X.xe s := by
  have hfree : ∀ y ∈ scope.names, y.2 = .free → ∃ c, X.env.cells.lookup y.1 = some c := fun y hy e => by
    rcases ok.free y hy e with k | k
    · exact I.ok.has _ (.inl k)
    · exact I.ok.has _ (.inr k)
  refine wpAny_comprehension_free (use := use) rfl hs (closure_ok hfree) ok.kind (fun y hy e => by rw [ok.uniq y hy, e])
    (thn (hi.run pins s σ H _ I h) fun xv s1 hx => thn hx fun itv s2 h2 => ?_)
  obtain ⟨it, fp, tn, J, H2, e, I2, T, st2, f2, q⟩ := h2
  subst e
  refine wpAny_newObj_type (newEnv_comp ?_) (by show 0 ≤ sizeLine; decide)
  generalize hD : s2.heap.objs.size = D
  have hDn : H2 D = none := I2.hok.fresh (Nat.le_of_eq hD)
  obtain ⟨W, ⟨m0, w0⟩, turn⟩ := q D hDn
  generalize hs3' : ({ s2 with heap := s2.heap.push { cls := .type "list", data := .seq ([] : List Value).toArray } } : Shared) = s3
  have I3 : Inv X pins σ (upd H2 D (.lst [])) s3 := by
    rw [← hs3']
    refine I2.laid (t' := s2.toks) (fun b o e => Heap.get?_push_of_some _ e) (Nat.le_of_eq hD) ⟨Nat.zero_le _, [], 0, .nil, ?_⟩
    rw [← hD]
    exact Heap.get?_push_size _ rfl
  have h3 : s3.heap = s2.heap.push { cls := .type "list", data := .seq ([] : List Value).toArray } := by rw [← hs3']
  have sz : ∀ b ∈ fp, b < s2.heap.objs.size := fun b hb => by
    obtain ⟨o, e, _⟩ := T.obj _ _ st2 b hb
    exact Heap.lt_size e
  have f3 : ∀ b ∈ fp, FpOk X pins (upd H2 D (.lst [])) b ∧ b < s3.heap.objs.size := fun b hb => by
    have hlt := sz b hb
    refine ⟨⟨?_, (f2 b hb).2⟩, by rw [h3, Heap.size_push]; exact Nat.lt_succ_of_lt hlt⟩
    rw [upd_ne (by rw [← hD]; exact Nat.ne_of_lt hlt)]
    exact (f2 b hb).1
  have st3 : tn 0 s3.heap := T.keep _ _ _ st2 fun b _ o e => by rw [h3]; exact Heap.get?_push_of_some _ e
  have I4 := block_start I3 ok hN f3
  have pg := hg s3 (upd H2 D (.lst [])) s3.heap.objs.size (cellsFrom (s3.heap.objs.size + 1) scope.names (cloFrom X.env.cells scope.names [])) fp
  have pe := he s3 (upd H2 D (.lst [])) s3.heap.objs.size (cellsFrom (s3.heap.objs.size + 1) scope.names (cloFrom X.env.cells scope.names [])) fp
  have pi1 := hi1 s3 (upd H2 D (.lst [])) s3.heap.objs.size (cellsFrom (s3.heap.objs.size + 1) scope.names (cloFrom X.env.cells scope.names [])) fp
  have pg1 := hg1 s3 (upd H2 D (.lst [])) s3.heap.objs.size (cellsFrom (s3.heap.objs.size + 1) scope.names (cloFrom X.env.cells scope.names [])) fp
  have pi2 := hi2 s3 (upd H2 D (.lst [])) s3.heap.objs.size (cellsFrom (s3.heap.objs.size + 1) scope.names (cloFrom X.env.cells scope.names [])) fp
  have pg2 := hg2 s3 (upd H2 D (.lst [])) s3.heap.objs.size (cellsFrom (s3.heap.objs.size + 1) scope.names (cloFrom X.env.cells scope.names [])) fp
  have pi3 := hi3 s3 (upd H2 D (.lst [])) s3.heap.objs.size (cellsFrom (s3.heap.objs.size + 1) scope.names (cloFrom X.env.cells scope.names [])) fp
  have pg3 := hg3 s3 (upd H2 D (.lst [])) s3.heap.objs.size (cellsFrom (s3.heap.objs.size + 1) scope.names (cloFrom X.env.cells scope.names [])) fp
  show codeAny _ _ (.compStart (lc4 elt tg iter tg1 iter1 tg2 iter2 tg3 iter3 scope pos) 0 (.ref it) (.ref D) (compEnvC scope (cellsFrom (s3.heap.objs.size + 1) scope.names (cloFrom X.env.cells scope.names [])) s3.heap.objs.size X.env)) (compPost (model X.prog X.w) X.A X.xe use Qf (.ref D) s3.heap.objs.size) { s3 with heap := pushCells (s3.heap.push { cls := .type "dict", data := .dict #[] }) scope.names }
  have nfp : ∀ b ∈ fp, (upd H2 D (.lst [])) b = none := fun b hb => (f3 b hb).1.1
  generalize hce : compEnvC scope (cellsFrom (s3.heap.objs.size + 1) scope.names (cloFrom X.env.cells scope.names [])) s3.heap.objs.size X.env = ce at I4 pg pe pi1 pg1 pi2 pg2 pi3 pg3 ⊢
  have cL : ce.locals = s3.heap.objs.size := by subst hce; rfl
  generalize hH3 : upd H2 D (.lst []) = H3 at I3 I4 pg pe pi1 pg1 pi2 pg2 pi3 pg3 w0 nfp f3
  generalize hs4 : ({ s3 with heap := pushCells (s3.heap.push { cls := .type "dict", data := .dict #[] }) scope.names } : Shared) = s4 at I4 ⊢
  have inner : RunsC (X.blk s3 H3 scope ce fp) (lc4 elt tg iter tg1 iter1 tg2 iter2 tg3 iter3 scope pos) 1 iter1 (.ref D) vs1 (kCl wi1 g1 vs1 (kCl wi2 g2 vs2 (kCl wi3 g3 vs3 (kApp D te)))) :=
    runs_more hc turn4_1 rfl hs2 pi1 pg1 hv2 (runs_more hc turn4_2 rfl hs3 pi2 pg2 hv3 (runs_last hc turn4_3 rfl pi3 pg3 pe))
  have st4 : tn 0 s4.heap := T.keep _ _ _ st3 fun b _ o e => by rw [← hs4]; exact pushCells_keeps _ _ _ _ (Heap.get?_push_of_some _ e)
  have stat : ∀ {σ' : L2.St} {H' : Hp} {s' : Shared}, Inv (X.blk s3 H3 scope ce fp) [] σ' H' s' → (∀ b ∈ fp, H' b = none) → ∀ b ∈ fp, FpOk (X.blk s3 H3 scope ce fp) [] H' b := fun {σ' H' s'} I' hn b hb =>
    ⟨hn b hb, (I'.ok.exf b hb).1, I'.ok.exfs b hb, .inl hb, fun x c e => (I'.ok.exf b hb).2 x c e, fun p hp => absurd (show p ∈ ([] : List (Addr × Obj)) ++ [] from hp) (by simp)⟩
  have loop : codeAny (model X.prog X.w) X.A (.compLoop (lc4 elt tg iter tg1 iter1 tg2 iter2 tg3 iter3 scope pos) 0 (.ref it) (.ref D) ce) (compPost (model X.prog X.w) X.A X.xe use Qf (.ref D) s3.heap.objs.size) s4 := by
    refine loopMore turn4_0 (hs1 ce) (fun n s' => ∃ i H', Inv (X.blk s3 H3 scope ce fp) [] (wipe σ (own.map (·.2))) H' s' ∧ tn i s'.heap ∧ (∀ b ∈ fp, H' b = none) ∧ W i n H') ?_ m0 ⟨0, H3, I4, st4, nfp, w0⟩
    rintro n s5 ⟨i, H5, I5, st5, n5, w5⟩
    rcases turn i n H5 w5 with ⟨stop, qq⟩ | ⟨go, Nx, hNx, step⟩
    · have td := T.done (X.blk s3 H3 scope ce fp) rfl rfl rfl hc i [] s5 _ H5 (fun _ _ => False) I5 (stat I5 n5) st5 stop
      refine thnF td fun r s6 ⟨hr, I6⟩ => ?_
      subst hr
      have I7 : Inv X pins σ H5 s6 := I3.call' (ch := fp) I6.os I6.base I6.hok I6.bare fun b hb => ⟨(f3 b hb).1.2.2.2.1, (f3 b hb).1.2.1, (f3 b hb).1.2.2.2.2.1, (f3 b hb).1.2.2.2.2.2⟩
      have nC : H5 s3.heap.objs.size = none := by
        have z : H5 ce.locals = none := I6.free
        rw [cL] at z
        exact z
      obtain ⟨m, hn, _⟩ := I6.loc
      have hn : s6.heap.Ns ce.locals m := hn
      rw [cL] at hn
      exact hRR D s3.heap.objs.size s6 m H5 I7 qq hn (I3.fpOk (Nat.le_refl _) nC)
    · have ti := T.item (X.blk s3 H3 scope ce fp) rfl rfl rfl hc i [] s5 _ H5 (fun _ _ => False) I5 (stat I5 n5) st5 go
      refine thnF ti fun r s6 ⟨u, hr, h6⟩ => ?_
      subst hr
      refine thnF h6 fun _ s7 ⟨x, H7, I7, r7, y7, st7, n7⟩ => ?_
      have I7' := I7.pinned (stat I7 n7) (T.obj _ _ st7)
      refine thnF (pg.run _ s7 _ H7 x u _ I7' r7 (step x H7 y7)) fun _ s8 ⟨σ8, H8, I8, hw8, q8⟩ => ?_
      refine thnF (inner.run _ s8 σ8 H8 _ I8 q8) fun x s9 h9 => thnF h9 fun it2 s10 h10 => codeAny_mono h10 fun r s' hr => ?_
      cases r with
      | error e => exact hr
      | ok fl =>
        obtain ⟨σ', H', I', ⟨kl, kk⟩, nx⟩ := hr
        obtain ⟨m', hm, w'⟩ := hNx H' nx
        have pin' : ∀ b ∈ fp, ∀ o, s7.heap.get? b = some o → s'.heap.get? b = some o ∧ H' b = none := fun b hb o e =>
          let z := I'.pin (b, o) (List.mem_append_right _ (List.mem_append_right _ (mem_pinsAt hb e)))
          ⟨z.1, z.2.1⟩
        refine ⟨m', hm, i + 1, H', (I'.unpinned (pins := [])).weak (by rw [kl, ← hw8, wipe_length]) (fun j v e => ?_), T.keep _ _ _ st7 fun b hb o e => (pin' b hb o e).1, fun b hb => ?_, w'⟩
        · rw [← hw8] at e
          obtain ⟨e1, e2⟩ := wipe_some e
          exact kk j v (by rw [wipe_out fun z => e2 (hv1 j z)]; exact e1)
        · obtain ⟨o, e, _⟩ := T.obj _ _ st7 b hb
          exact (pin' b hb o e).2
  exact codeAny_compStart_list loop (T.self X.A 0 _ _ _ st4 loop)
theorem ps_setLc4 {i : Nat} {y : Str} {py : Pos} {elt tg iter tg1 iter1 tg2 iter2 tg3 iter3 : Expr} {scope : Scope} {own : List (Str × Nat)} {vs1 vs2 vs3 : List Nat} {pos spos : Pos} {wi wi1 wi2 wi3 : TI} {g g1 g2 g3 : TG} {te : TE} (hc : X.calm = true) (hN : X.N.Nodup) (hy : X.N[i]? = some y) (hyl : X.env.scope.names.lookup y = some .local)
    (hsw : swapsWith (.ListComp elt [⟨tg, iter, [], 0⟩, ⟨tg1, iter1, [], 0⟩, ⟨tg2, iter2, [], 0⟩, ⟨tg3, iter3, [], 0⟩] scope pos) (some (.Name y py)) spos.line X.env = pure true) (hi : PI X tg iter wi) (ok : BlkOk X.N X.env.scope scope own)
    (hv1 : ∀ i ∈ vs1, i ∈ own.map (·.2)) (hv2 : ∀ i ∈ vs2, i ∈ vs1) (hv3 : ∀ i ∈ vs3, i ∈ vs2)
    (hg : ∀ (s : Shared) (H : Hp) (C : Addr) (cl : List (Str × Addr)) (fp : List Addr), PG (X.blk s H scope (compEnvC scope cl C X.env) fp) tg g)
    (hi1 : ∀ (s : Shared) (H : Hp) (C : Addr) (cl : List (Str × Addr)) (fp : List Addr), PI (X.blk s H scope (compEnvC scope cl C X.env) fp) tg1 iter1 wi1)
    (hg1 : ∀ (s : Shared) (H : Hp) (C : Addr) (cl : List (Str × Addr)) (fp : List Addr), PG (X.blk s H scope (compEnvC scope cl C X.env) fp) tg1 g1)
    (hi2 : ∀ (s : Shared) (H : Hp) (C : Addr) (cl : List (Str × Addr)) (fp : List Addr), PI (X.blk s H scope (compEnvC scope cl C X.env) fp) tg2 iter2 wi2)
    (hg2 : ∀ (s : Shared) (H : Hp) (C : Addr) (cl : List (Str × Addr)) (fp : List Addr), PG (X.blk s H scope (compEnvC scope cl C X.env) fp) tg2 g2)
    (hi3 : ∀ (s : Shared) (H : Hp) (C : Addr) (cl : List (Str × Addr)) (fp : List Addr), PI (X.blk s H scope (compEnvC scope cl C X.env) fp) tg3 iter3 wi3)
    (hg3 : ∀ (s : Shared) (H : Hp) (C : Addr) (cl : List (Str × Addr)) (fp : List Addr), PG (X.blk s H scope (compEnvC scope cl C X.env) fp) tg3 g3)
    (he : ∀ (s : Shared) (H : Hp) (C : Addr) (cl : List (Str × Addr)) (fp : List Addr), PE (X.blk s H scope (compEnvC scope cl C X.env) fp) elt te) (hs : ∀ x, foldedSetIterable iter X.env x = pure x := by intro _; rfl)
    (hs1 : ∀ env x, foldedSetIterable iter1 env x = pure x := by intro _ _; rfl) (hs2 : ∀ env x, foldedSetIterable iter2 env x = pure x := by intro _ _; rfl) (hs3 : ∀ env x, foldedSetIterable iter3 env x = pure x := by intro _ _; rfl) :
    PS X (.Assign [.Name y py] (.ListComp elt [⟨tg, iter, [], 0⟩, ⟨tg1, iter1, [], 0⟩, ⟨tg2, iter2, [], 0⟩, ⟨tg3, iter3, [], 0⟩] scope pos) spos) (tAsg (tLcN wi g (own.map (·.2)) fun D => kCl wi1 g1 vs1 (kCl wi2 g2 vs2 (kCl wi3 g3 vs3 (kApp D te)))) (gName i)) := by
  refine ⟨fun pins s σ H D I h => ?_⟩
  rw [exec_Assign_Name_used _ _ _ _ hsw]
  refine wpAny_bind (wpAny_standAt (wpAny_bind ?_))
  show wpAny _ X.A (do let _ ← comprehension (lc4 elt tg iter tg1 iter1 tg2 iter2 tg3 iter3 scope pos) scope X.env (firstIterPos [⟨tg, iter, [], 0⟩, ⟨tg1, iter1, [], 0⟩, ⟨tg2, iter2, [], 0⟩, ⟨tg3, iter3, [], 0⟩] pos) (newList []) false (eval iter X.env) (some (assign (.Name y py) X.env))) _ _ s
  have h : tLcN wi g (own.map (·.2)) (fun D => kCl wi1 g1 vs1 (kCl wi2 g2 vs2 (kCl wi3 g3 vs3 (kApp D te)))) σ H (fun x H1 => gName i x σ H1 D.nx) := h
  refine wpAny_bind (thn (lc4_core (Qf := fun _ s' => SP X pins D .next s') hc hN I hi ok hv1 hv2 hv3 hg hi1 hg1 hi2 hg2 hi3 hg3 he hs hs1 hs2 hs3 h fun L C s' m H' I' q hn f => ?_) fun _ s' hq => wpAny_pure (wpAny_pure hq))
  show wpAny _ _ (assign (.Name y py) X.env (.ref L)) _ _ _
  refine wpAny_assign_Name (store_ok2 (v := V.ref L) I' hN hy (.inl hyl) rfl (fun s2 I2 ⟨a, sb, ha⟩ => ?_) (.inr hyl))
  obtain ⟨f0, f1, f2, f3, f4, f5⟩ := f
  have haC : C ≠ a := by
    rcases ha with z | z
    · rw [z]; exact f1
    · exact fun e => f4 y a z e.symm
  refine ⟨m, hn.sameBut sb haC, fun h3 sb3 => ?_⟩
  exact ⟨_, H', I2.turned (t' := s2.toks) (fun b o hb e => (sb3.2 b hb).trans e) f0 f1 f3 f4 f5, q⟩
end
/-! ### over data -/
/-- it gives a new list -/
def EvO (K : PySem.W.Frag) (te : TE) (ρ : List (Option D)) (ds : List D) : Prop := ∀ (O : List Addr) (σ : L2.St) (H : Hp), Known H O → EnvOk K (hide H O) σ ρ → ∀ Q : VK, (∀ p xs H', Same H H' → H p = none → H' p = some (.lst xs) → DqAll K (hide H' (p :: O)) xs ds → Q (.ref p) H') → te σ H Q
def EvK (K : PySem.W.Frag) (t : Addr → TK) (ρ : List (Option D)) (out : List D) : Prop := ∀ (O : List Addr) (σ : L2.St) (H1 H : Hp) (D : Addr) (acc : List V) (accD : List PyData), Known H (D :: O) → EnvOk K (hide H (D :: O)) σ ρ → Same H1 H → H1 D = none → H D = some (.lst acc) → DqAll K (hide H (D :: O)) acc accD → accD.length + out.length ≤ 100000 →
  ∀ N : Hp → Prop, (∀ H' acc', Same H1 H' → Known H' (D :: O) → Same (hide H (D :: O)) (hide H' (D :: O)) → H' D = some (.lst acc') → DqAll K (hide H' (D :: O)) acc' (accD ++ out) → N H') → t D σ H N
section
variable {K : PySem.W.Frag} {ρ : List (Option D)} {wi : TI} {g : TG} {te : TE} {vs js : List Nat} {ds : List D} {d : D}
theorem ek_app (h : Evd K te ρ d) : EvK K (fun D => kApp D te) ρ [d] := fun O σ H1 H D acc accD kn ok sm hD ha al len N q =>
  h (D :: O) σ H kn ok _ fun y H4 s4 dy => by
    have h4 : H4 D = some (.lst acc) := s4 _ _ ha
    have hl := DqAll.length al
    rw [List.length_singleton] at len
    refine ⟨acc, h4, Nat.lt_of_le_of_lt (m := 100000) (by omega) (by decide), q _ (acc ++ [y]) ?_ ?_ ?_ upd_same ?_⟩
    · intro b o hb
      rw [upd_ne (ne_of_none hb hD)]
      exact s4 _ _ (sm _ _ hb)
    · intro p hp z
      by_cases c : p = D
      · rw [c, upd_same] at z
        cases z
      · rw [upd_ne c] at z
        exact kn.mono s4 p hp z
    · rw [hide_upd_in List.mem_cons_self]
      exact Same.hide s4
    · rw [hide_upd_in List.mem_cons_self]
      exact DqAll.append (DqAll.mono (Same.hide s4) al) (.cons dy .nil)
theorem flat_take {f : D → List D} {ds : List D} {i : Nat} {d : D} (h : ds[i]? = some d) : (ds.take (i + 1)).flatMap f = (ds.take i).flatMap f ++ f d := by
  rw [List.take_add_one, h, List.flatMap_append]
  congr 1
  show f d ++ [] = f d
  rw [List.append_nil]
theorem flat_le {f : D → List D} {ds : List D} {i : Nat} {d : D} (h : ds[i]? = some d) : ((ds.take i).flatMap f).length + (f d).length ≤ (ds.flatMap f).length := by
  have hi := (List.getElem?_eq_some_iff.mp h).1
  have e : ds.flatMap f = (ds.take (i + 1)).flatMap f ++ (ds.drop (i + 1)).flatMap f := by
    rw [← List.flatMap_append, List.take_append_drop]
  rw [e, flat_take h, List.length_append, List.length_append]
  omega
theorem ek_cl {body : Addr → TK} {f : D → List D} (hi : EvI K wi ρ ds) (hjs : ∀ j ∈ js, j ∈ vs) (turn : ∀ d ∈ ds, ∃ ρ', EvG K g js d (wipeD ρ vs) ρ' ∧ EvK K body ρ' (f d)) : EvK K (fun D => kCl wi g vs (body D)) ρ (ds.flatMap f) := fun O σ H1 H D acc accD kn ok sm hD ha al len N q =>
  hi (D :: O) σ H kn ok _ fun J H2 s2 it => by
    have sh2 : Same (hide H (D :: O)) (hide H2 (D :: O)) := Same.hide s2
    refine ⟨fun i m H' => m = ds.length - i ∧ i ≤ ds.length ∧ Same H1 H' ∧ Known H' (D :: O) ∧ Same (hide H2 (D :: O)) (hide H' (D :: O)) ∧ ∃ acc', H' D = some (.lst acc') ∧ DqAll K (hide H' (D :: O)) acc' (accD ++ (ds.take i).flatMap f),
      ⟨_, rfl, Nat.zero_le _, sm.trans s2, kn.mono s2, Same.refl _, acc, s2 _ _ ha, by rw [List.take_zero, List.flatMap_nil, List.append_nil]; exact DqAll.mono sh2 al⟩, fun i m H3 w => ?_⟩
    obtain ⟨rfl, hi2, sm3, kn3, sh3, acc3, ha3, al3⟩ := w
    obtain ⟨go, stop, yl⟩ := it (D :: O) i H3 sh3 kn3
    by_cases hlt : i < ds.length
    · have hx : ds[i]? = some ds[i] := List.getElem?_eq_getElem hlt
      obtain ⟨ρ', eg, ek⟩ := turn ds[i] (List.getElem_mem hlt)
      refine .inr ⟨go hlt, fun H' => Same H1 H' ∧ Known H' (D :: O) ∧ Same (hide H2 (D :: O)) (hide H' (D :: O)) ∧ ∃ acc', H' D = some (.lst acc') ∧ DqAll K (hide H' (D :: O)) acc' (accD ++ (ds.take (i + 1)).flatMap f), fun H' h => ⟨_, by omega, rfl, hlt, h⟩, fun x H4 hy => ?_⟩
      obtain ⟨s4, dx⟩ := yl x H4 _ hy hx
      have ok4 : EnvOk K (hide H4 (D :: O)) (wipe σ vs) (wipeD ρ vs) := EnvOk.wipe (ok.mono (sh2.trans (sh3.trans (Same.hide s4)))) vs
      refine eg (D :: O) (wipe σ vs) H4 x ok4 dx _ fun σ2 ok2 l2 f2 => ⟨?_, ?_⟩
      · rw [wipe_eq l2 fun j hj => f2 j fun z => hj (hjs j z), wipe_wipe]
      · refine ek O σ2 H1 H4 D acc3 _ (kn3.mono s4) ok2 (sm3.trans s4) hD (s4 _ _ ha3) (DqAll.mono (Same.hide s4) al3) ?_ _ fun H' acc' sm' kn' sh' ha' al' => ⟨sm', kn', sh3.trans ((Same.hide s4).trans sh'), acc', ha', ?_⟩
        · have := flat_le (f := f) hx
          rw [List.length_append]
          omega
        · rw [flat_take hx, ← List.append_assoc]
          exact al'
    · have e : i = ds.length := by omega
      subst e
      rw [List.take_length] at al3
      exact .inl ⟨stop (Nat.le_refl _), q H3 acc3 sm3 kn3 (sh2.trans sh3) ha3 al3⟩
theorem ev_lcN {body : Addr → TK} {f : D → List D} (hi : EvI K wi ρ ds) (hlen : (ds.flatMap f).length ≤ 100000) (hjs : ∀ j ∈ js, j ∈ vs) (turn : ∀ d ∈ ds, ∃ ρ', EvG K g js d (wipeD ρ vs) ρ' ∧ EvK K body ρ' (f d)) : EvO K (tLcN wi g vs body) ρ (ds.flatMap f) := fun O σ H k ok Q q =>
  hi O σ H k ok _ fun J H1 s1 it D hD => by
    have s2 : Same H1 (upd H1 D (.lst [])) := same_upd hD
    have base : ∀ {H' : Hp}, Same H1 H' → Same (hide H1 O) (hide H' (D :: O)) := fun {H'} e => same_more (P := [D]) e fun p hp => by
      rw [List.mem_singleton.mp hp]
      exact hD
    refine ⟨fun i m H' => m = ds.length - i ∧ i ≤ ds.length ∧ Same H1 H' ∧ Known H' (D :: O) ∧ ∃ acc', H' D = some (.lst acc') ∧ DqAll K (hide H' (D :: O)) acc' ((ds.take i).flatMap f),
      ⟨_, rfl, Nat.zero_le _, s2, Known.cons (k.mono s1) hD, [], upd_same, .nil⟩, fun i m H3 w => ?_⟩
    obtain ⟨rfl, hi2, sm3, kn3, acc3, ha3, al3⟩ := w
    obtain ⟨go, stop, yl⟩ := it (D :: O) i H3 (base sm3) kn3
    by_cases hlt : i < ds.length
    · have hx : ds[i]? = some ds[i] := List.getElem?_eq_getElem hlt
      obtain ⟨ρ', eg, ek⟩ := turn ds[i] (List.getElem_mem hlt)
      refine .inr ⟨go hlt, fun H' => Same H1 H' ∧ Known H' (D :: O) ∧ ∃ acc', H' D = some (.lst acc') ∧ DqAll K (hide H' (D :: O)) acc' ((ds.take (i + 1)).flatMap f), fun H' h => ⟨_, by omega, rfl, hlt, h⟩, fun x H4 hy => ?_⟩
      obtain ⟨s4, dx⟩ := yl x H4 _ hy hx
      have ok4 : EnvOk K (hide H4 (D :: O)) (wipe σ vs) (wipeD ρ vs) := EnvOk.wipe (ok.mono ((Same.hide s1).trans (base (sm3.trans s4)))) vs
      refine eg (D :: O) (wipe σ vs) H4 x ok4 dx _ fun σ2 ok2 l2 f2 => ⟨?_, ?_⟩
      · rw [wipe_eq l2 fun j hj => f2 j fun z => hj (hjs j z), wipe_wipe]
      · refine ek O σ2 H1 H4 D acc3 _ (kn3.mono s4) ok2 (sm3.trans s4) hD (s4 _ _ ha3) (DqAll.mono (Same.hide s4) al3) ?_ _ fun H' acc' sm' kn' sh' ha' al' => ⟨sm', kn', acc', ha', ?_⟩
        · have := flat_le (f := f) hx
          omega
        · rw [flat_take hx]
          exact al'
    · have e : i = ds.length := by omega
      subst e
      rw [List.take_length] at al3
      refine .inl ⟨stop (Nat.le_refl _), q D acc3 H3 (s1.trans sm3) ?_ ha3 al3⟩
      cases e : H D with
      | none => rfl
      | some o =>
        rw [s1 D o e] at hD
        cases hD
/-- name = a new list, to be one's own -/
theorem run_asgO {r : List Sl} {N : List Sl → Prop} {R : PyData → Prop} {i : Nat} (h : EvO K te (r.map strD) ds) (n : N (r.set i (.own ds))) : Run K (tAsg te (gName i)) r N R := fun H0 O P H σ E S nx rt =>
  h (P ++ O) σ H S.knownAll S.str _ fun p xs H' s np hp dv => by
    have hp0 : H0 p = none := S.same.free np
    have mo : ∀ {v d}, Dq K (hide H (P ++ O)) v d → Dq K (hide H' ((p :: P) ++ O)) v d := fun h => Dq.mono (same_more (P := [p]) s fun q hq => by rw [List.mem_singleton.mp hq]; exact np) h
    have moA : ∀ {v d}, DqAll K (hide H (P ++ O)) v d → DqAll K (hide H' ((p :: P) ++ O)) v d := fun h => DqAll.mono (same_more (P := [p]) s fun q hq => by rw [List.mem_singleton.mp hq]; exact np) h
    refine nx _ (p :: P) _ _ n ?_ (same_more (P := [p]) s fun q hq => by rw [List.mem_singleton.mp hq]; exact np)
    refine ⟨S.same.trans s, S.known, fun q hq => ?_, by rw [List.length_set, List.length_set, S.len], fun j d' hj => ?_, fun j ds hj => ?_, fun j k ds es q hj hk h1 h2 => ?_⟩
    · rcases List.mem_cons.mp hq with e | hq
      · rw [e]
        exact ⟨hp0, by rw [hp]; exact fun z => by cases z⟩
      · exact (S.mono s).mine q hq
    · rcases set_get hj with ⟨e, q⟩ | ⟨ne, q⟩
      · cases q
      · obtain ⟨w, h1, h2⟩ := S.dat j d' q
        exact ⟨w, by rw [List.getElem?_set_ne ne]; exact h1, mo h2⟩
    · rcases set_get hj with ⟨e, q⟩ | ⟨ne, q⟩
      · subst e
        cases q
        have hl : i < σ.length := by
          have := (List.getElem?_eq_some_iff.mp hj).1
          rw [List.length_set] at this
          rw [S.len]
          exact this
        exact ⟨p, xs, List.getElem?_set_self hl, List.mem_cons_self, hp, dv⟩
      · obtain ⟨q', xs, h1, h2, h3, h4⟩ := S.own j ds q
        exact ⟨q', xs, by rw [List.getElem?_set_ne ne]; exact h1, List.mem_cons_of_mem _ h2, s _ _ h3, moA h4⟩
    · rcases set_get hj with ⟨e, z⟩ | ⟨ne, z⟩
      · rcases set_get hk with ⟨e', z'⟩ | ⟨ne', z'⟩
        · exact e.symm.trans e'
        · subst e
          obtain ⟨q', xs, k1, k2, k3, k4⟩ := S.own k es z'
          rw [List.getElem?_set_ne ne', k1] at h2
          have hl : i < σ.length := by
            have := (List.getElem?_eq_some_iff.mp hj).1
            rw [List.length_set] at this
            rw [S.len]
            exact this
          rw [List.getElem?_set_self hl] at h1
          have e1 := V.ref.inj (Option.some.inj (Option.some.inj h1))
          have e2 := V.ref.inj (Option.some.inj (Option.some.inj h2))
          rw [e2, ← e1, np] at k3
          cases k3
      · rcases set_get hk with ⟨e', z'⟩ | ⟨ne', z'⟩
        · subst e'
          obtain ⟨q', xs, k1, k2, k3, k4⟩ := S.own j ds z
          rw [List.getElem?_set_ne ne, k1] at h1
          have hl : i < σ.length := by
            have := (List.getElem?_eq_some_iff.mp hk).1
            rw [List.length_set] at this
            rw [S.len]
            exact this
          rw [List.getElem?_set_self hl] at h2
          have e1 := V.ref.inj (Option.some.inj (Option.some.inj h2))
          have e2 := V.ref.inj (Option.some.inj (Option.some.inj h1))
          rw [e2, ← e1, np] at k3
          cases k3
        · rw [List.getElem?_set_ne ne] at h1
          rw [List.getElem?_set_ne ne'] at h2
          exact S.inj j k ds es q z z' h1 h2
end
end DL

-- QT
/-! numbers of four parts, told by doubled parts: plain -/
namespace Tp
open PySem
structure Qt where
  a : Int
  b : Int
  c : Int
  d : Int
  deriving DecidableEq, Repr
namespace Qt
def D (q : Qt) : PyData := .tuple [.int q.a, .int q.b, .int q.c, .int q.d]
def L (q : Qt) : List Int := [q.a, q.b, q.c, q.d]
def par (a b c d : Int) : Bool := (b % 2 == a % 2) && ((c % 2 == a % 2) && (d % 2 == a % 2))
def ok (q : Qt) : Prop := q.b % 2 = q.a % 2 ∧ q.c % 2 = q.a % 2 ∧ q.d % 2 = q.a % 2
instance (q : Qt) : Decidable q.ok := by unfold ok; infer_instance
theorem par_ok {a b c d : Int} : par a b c d = true ↔ (⟨a, b, c, d⟩ : Qt).ok := by
  unfold par ok
  rw [Bool.and_eq_true, Bool.and_eq_true, beq_iff_eq, beq_iff_eq, beq_iff_eq]
def zero : Qt := ⟨0, 0, 0, 0⟩
def one : Qt := ⟨2, 0, 0, 0⟩
def conj (q : Qt) : Qt := ⟨q.a, -q.b, -q.c, -q.d⟩
def sub (x y : Qt) : Qt := ⟨x.a - y.a, x.b - y.b, x.c - y.c, x.d - y.d⟩
def mul (x y : Qt) : Qt := ⟨(x.a * y.a - x.b * y.b - x.c * y.c - x.d * y.d) / 2, (x.a * y.b + x.b * y.a + x.c * y.d - x.d * y.c) / 2,
  (x.a * y.c - x.b * y.d + x.c * y.a + x.d * y.b) / 2, (x.a * y.d + x.b * y.c - x.c * y.b + x.d * y.a) / 2⟩
def n4 (q : Qt) : Int := q.a * q.a + q.b * q.b + q.c * q.c + q.d * q.d
def nrm (q : Qt) : Int := q.n4 / 4
/-- parts within B -/
def sm (q : Qt) (B : Int) : Prop := (-B ≤ q.a ∧ q.a ≤ B) ∧ (-B ≤ q.b ∧ q.b ≤ B) ∧ (-B ≤ q.c ∧ q.c ≤ B) ∧ -B ≤ q.d ∧ q.d ≤ B
instance (q : Qt) (B : Int) : Decidable (q.sm B) := by unfold sm; infer_instance
/-- the order of tuples -/
def lt (x y : Qt) : Bool := decide (x.a < y.a) || (decide (x.a = y.a) && (decide (x.b < y.b) || (decide (x.b = y.b) && (decide (x.c < y.c) || (decide (x.c = y.c) && decide (x.d < y.d))))))
def le (x y : Qt) : Bool := !lt y x
def ins (x : Qt) : List Qt → List Qt
  | [] => [x]
  | y :: r => if le x y then x :: y :: r else y :: ins x r
def sort : List Qt → List Qt
  | [] => []
  | x :: r => ins x (sort r)
def units : List Qt := [⟨-2, 0, 0, 0⟩, ⟨-1, -1, -1, -1⟩, ⟨-1, -1, -1, 1⟩, ⟨-1, -1, 1, -1⟩, ⟨-1, -1, 1, 1⟩, ⟨-1, 1, -1, -1⟩, ⟨-1, 1, -1, 1⟩, ⟨-1, 1, 1, -1⟩, ⟨-1, 1, 1, 1⟩, ⟨0, -2, 0, 0⟩, ⟨0, 0, -2, 0⟩, ⟨0, 0, 0, -2⟩, ⟨0, 0, 0, 2⟩, ⟨0, 0, 2, 0⟩, ⟨0, 2, 0, 0⟩, ⟨1, -1, -1, -1⟩, ⟨1, -1, -1, 1⟩, ⟨1, -1, 1, -1⟩, ⟨1, -1, 1, 1⟩, ⟨1, 1, -1, -1⟩, ⟨1, 1, -1, 1⟩, ⟨1, 1, 1, -1⟩, ⟨1, 1, 1, 1⟩, ⟨2, 0, 0, 0⟩]
def assoc (q : Qt) : List Qt := sort (units.map q.mul)
def canon (q : Qt) : Qt := ((assoc q)[23]?).getD q
/-- the content -/
def cont (q : Qt) : Int :=
  let g : Int := ((Nat.gcd ((Nat.gcd q.a.natAbs q.b.natAbs : Nat) : Int).natAbs ((Nat.gcd q.c.natAbs q.d.natAbs : Nat) : Int).natAbs : Nat) : Int)
  if par (q.a / g) (q.b / g) (q.c / g) (q.d / g) then g else g / 2
theorem sort_perm : ∀ l : List Qt, (sort l).Perm l
  | [] => .nil
  | x :: r => by
    have h : ∀ l : List Qt, (ins x l).Perm (x :: l) := by
      intro l
      induction l with
      | nil => exact .refl _
      | cons y t ih =>
        unfold ins
        split
        · exact .refl _
        · exact (ih.cons y).trans (.swap x y t)
    exact (h _).trans ((sort_perm r).cons x)
theorem lt_iff {x y : Qt} : lt x y = true ↔ x.a < y.a ∨ (x.a = y.a ∧ (x.b < y.b ∨ (x.b = y.b ∧ (x.c < y.c ∨ (x.c = y.c ∧ x.d < y.d))))) := by
  unfold lt
  simp only [Bool.or_eq_true, Bool.and_eq_true, decide_eq_true_eq]
theorem le_iff {x y : Qt} : le x y = true ↔ ¬ (y.a < x.a ∨ (y.a = x.a ∧ (y.b < x.b ∨ (y.b = x.b ∧ (y.c < x.c ∨ (y.c = x.c ∧ y.d < x.d)))))) := by
  unfold le
  rw [Bool.not_eq_true', ← Bool.not_eq_true, lt_iff]
theorem le_total (x y : Qt) : le x y = true ∨ le y x = true := by
  rw [le_iff, le_iff]
  omega
theorem le_trans {x y z : Qt} (h1 : le x y = true) (h2 : le y z = true) : le x z = true := by
  rw [le_iff] at *
  omega
theorem le_antisymm {x y : Qt} (h1 : le x y = true) (h2 : le y x = true) : x = y := by
  rw [le_iff] at *
  obtain ⟨a, b, c, d⟩ := x
  obtain ⟨e, f, g, h⟩ := y
  simp only at h1 h2
  have e1 : a = e := by omega
  have e2 : b = f := by omega
  have e3 : c = g := by omega
  have e4 : d = h := by omega
  rw [e1, e2, e3, e4]
theorem sort_sorted : ∀ l : List Qt, (sort l).Pairwise (fun x y => le x y = true)
  | [] => .nil
  | x :: r => by
    have h : ∀ l : List Qt, l.Pairwise (fun x y => le x y = true) → (ins x l).Pairwise (fun x y => le x y = true) := by
      intro l
      induction l with
      | nil => intro _; exact .cons (fun _ h => by cases h) .nil
      | cons y t ih =>
        intro hs
        unfold ins
        obtain ⟨h1, h2⟩ := List.pairwise_cons.mp hs
        by_cases c : le x y = true
        · rw [if_pos c]
          refine .cons (fun z hz => ?_) hs
          rcases List.mem_cons.mp hz with e | hz
          · rw [e]; exact c
          · exact le_trans c (h1 z hz)
        · rw [if_neg c]
          have c2 : le y x = true := (le_total x y).resolve_left c
          refine .cons (fun z hz => ?_) (ih h2)
          have hm : z ∈ x :: t := by
            have hp : ∀ l : List Qt, (ins x l).Perm (x :: l) := by
              intro l
              induction l with
              | nil => exact .refl _
              | cons y t ih =>
                unfold ins
                split
                · exact .refl _
                · exact (ih.cons y).trans (.swap x y t)
            exact (hp t).mem_iff.mp hz
          rcases List.mem_cons.mp hm with e | hm
          · rw [e]; exact c2
          · exact h1 z hm
    exact h _ (sort_sorted r)
/-- two sorted lists of the same items are one -/
theorem sorted_unique : ∀ {l m : List Qt}, l.Perm m → l.Pairwise (fun x y => le x y = true) → m.Pairwise (fun x y => le x y = true) → l = m
  | [], m, p, _, _ => (List.Perm.nil_eq p)
  | x :: l, [], p, _, _ => absurd p.length_eq (by simp)
  | x :: l, y :: m, p, h1, h2 => by
    obtain ⟨a1, b1⟩ := List.pairwise_cons.mp h1
    obtain ⟨a2, b2⟩ := List.pairwise_cons.mp h2
    have e : x = y := by
      have m1 : x ∈ y :: m := p.mem_iff.mp List.mem_cons_self
      have m2 : y ∈ x :: l := p.mem_iff.mpr List.mem_cons_self
      rcases List.mem_cons.mp m1 with e | m1
      · exact e
      · rcases List.mem_cons.mp m2 with e | m2
        · exact e.symm
        · exact le_antisymm (a1 y m2) (a2 x m1)
    subst e
    rw [sorted_unique (List.Perm.cons_inv p) b1 b2]
theorem sort_congr {l m : List Qt} (h : l.Perm m) : sort l = sort m := sorted_unique ((sort_perm l).trans (h.trans (sort_perm m).symm)) (sort_sorted l) (sort_sorted m)
theorem sort_len (l : List Qt) : (sort l).length = l.length := (sort_perm l).length_eq
end Qt
end Tp

-- TX
/-! the text, and what stands behind the top -/
namespace Tp
open PySem PySem.Spec PyProof.Rows L2 DL
def top (i : Nat) : Stmt := PySem.Challenge.pw_turnprimes_k84_whole_lines.main.body.getD i (.Pass ⟨0, 0, 0, 0⟩)
structure Txt (K : PySem.W.Frag) (mg : Str → Option Value) : Prop where
  b_len : mg "len" = none
  b_tuple : mg "tuple" = none
  b_sorted : mg "sorted" = none
  b_zip : mg "zip" = none
  b_sum : mg "sum" = none
  b_max : mg "max" = none
  b_range : mg "range" = none
  b_all : mg "all" = none
  b_any : mg "any" = none
  b_isinstance : mg "isinstance" = none
  b_int : mg "int" = none
  b_abs : mg "abs" = none
  b_list : mg "list" = none
  gcd : mg "gcd" = some (.builtin "math.gcd")
  PARTS : ∃ u, mg "PARTS" = some u ∧ RelV (.int 4) u
  MOST_VALUE : ∃ u, mg "MOST_VALUE" = some u ∧ RelV (.int 1000000000000) u
  MOST_PRIME : ∃ u, mg "MOST_PRIME" = some u ∧ RelV (.int 1000) u
  MOST_ODD : ∃ u, mg "MOST_ODD" = some u ∧ RelV (.int 10000) u
  ZERO_numbers : ∃ u, mg "ZERO_numbers" = some u ∧ RelV (.ref (He.ga K "ZERO_numbers")) u
  t_ZERO_numbers : ∀ H : Hp, SqT K H (He.ga K "ZERO_numbers") [.int 0, .int 0, .int 0, .int 0]
  ONE : ∃ u, mg "ONE" = some u ∧ RelV (.ref (He.ga K "ONE")) u
  t_ONE : ∀ H : Hp, SqT K H (He.ga K "ONE") [.int 2, .int 0, .int 0, .int 0]
  ZERO_dividing : ∃ u, mg "ZERO_dividing" = some u ∧ RelV (.ref (He.ga K "ZERO_dividing")) u
  t_ZERO_dividing : ∀ H : Hp, SqT K H (He.ga K "ZERO_dividing") [.int 0, .int 0, .int 0, .int 0]
  def_is_number : DefAt K mg "is_number" (top 9)
  def_check_number : DefAt K mg "check_number" (top 10)
  def_check_not_zero : DefAt K mg "check_not_zero" (top 11)
  def_of_integers : DefAt K mg "of_integers" (top 12)
  def_conjugate : DefAt K mg "conjugate" (top 13)
  def_norm : DefAt K mg "norm" (top 14)
  def_less : DefAt K mg "less" (top 15)
  def_product : DefAt K mg "product" (top 16)
  def_units : DefAt K mg "units" (top 17)
  def_associates : DefAt K mg "associates" (top 18)
  def_canonical : DefAt K mg "canonical" (top 19)
  def_content : DefAt K mg "content" (top 20)
  def_is_primitive : DefAt K mg "is_primitive" (top 21)
  def_distance_of : DefAt K mg "distance_of" (top 24)
  def_nearest : DefAt K mg "nearest" (top 25)
  def_check_pair : DefAt K mg "check_pair" (top 26)
  def_divided_left : DefAt K mg "divided_left" (top 27)
  def_left_quotient : DefAt K mg "left_quotient" (top 28)
  def_steps_of : DefAt K mg "steps_of" (top 30)
  def_check_some : DefAt K mg "check_some" (top 31)
  def_left_common : DefAt K mg "left_common" (top 32)
  def_whole_primes : DefAt K mg "whole_primes" (top 36)
  def_is_prime : DefAt K mg "is_prime" (top 37)
  def_prime_list : DefAt K mg "prime_list" (top 38)
  def_check_prime : DefAt K mg "check_prime" (top 39)
  def_check_order : DefAt K mg "check_order" (top 40)
  def_left_prime : DefAt K mg "left_prime" (top 42)
  def_left_primes : DefAt K mg "left_primes" (top 43)
  def_row_of : DefAt K mg "row_of" (top 44)
  def_check_odd : DefAt K mg "check_odd" (top 47)
  def_roots_by_square : DefAt K mg "roots_by_square" (top 48)
  def_root_pair : DefAt K mg "root_pair" (top 49)
  def_table_of : DefAt K mg "table_of" (top 50)
  def_is_pair : DefAt K mg "is_pair" (top 51)
  def_check_table : DefAt K mg "check_table" (top 52)
  def_number_of_table : DefAt K mg "number_of_table" (top 53)
  def_lines : DefAt K mg "lines" (top 54)
  def_line_of : DefAt K mg "line_of" (top 55)
  def_pow_of : DefAt K mg "pow_of" (top 56)
  def_prime_of_line : DefAt K mg "prime_of_line" (top 57)
  def_l_row : DefAt K mg "_law_row" (top 59)
  def_l_numbers : DefAt K mg "_law_numbers" (top 60)
  def_l_pick : DefAt K mg "_law_pick" (top 61)
  def_l_product : DefAt K mg "_law_product" (top 62)
  def_l_conjugate : DefAt K mg "_law_conjugate" (top 63)
  def_l_norm : DefAt K mg "_law_norm" (top 64)
  def_l_units : DefAt K mg "_law_units" (top 65)
  def_l_canonical : DefAt K mg "_law_canonical" (top 66)
  def_l_primes : DefAt K mg "_law_primes" (top 67)
  def_l_divides : DefAt K mg "_law_divides" (top 68)
  def_l_is_primitive : DefAt K mg "_law_is_primitive" (top 69)
  def_l_drawn_factors : DefAt K mg "_law_drawn_factors" (top 70)
  def_l_all_product : DefAt K mg "_law_all_product" (top 71)
  def_law : DefAt K mg "law" (top 73)
section
variable {K : PySem.W.Frag} {mg : Str → Option Value} {ρ : List (Option D)}
theorem Txt.ev_ZERO_numbers (T : Txt K mg) : Evd K (tC (.ref (He.ga K "ZERO_numbers"))) ρ Qt.zero.D := ev_ktup T.t_ZERO_numbers fun H => .cons (.int 0) (.cons (.int 0) (.cons (.int 0) (.cons (.int 0) .nil)))
theorem Txt.ev_ZERO_dividing (T : Txt K mg) : Evd K (tC (.ref (He.ga K "ZERO_dividing"))) ρ Qt.zero.D := ev_ktup T.t_ZERO_dividing fun H => .cons (.int 0) (.cons (.int 0) (.cons (.int 0) (.cons (.int 0) .nil)))
theorem Txt.ev_ONE (T : Txt K mg) : Evd K (tC (.ref (He.ga K "ONE"))) ρ Qt.one.D := ev_ktup T.t_ONE fun H => .cons (.int 2) (.cons (.int 0) (.cons (.int 0) (.cons (.int 0) .nil)))
end
theorem hu65 {A : Around} {k : Nat} (hr : Room k A) : A.units + 65 < cLine := by
  have := hr.un
  omega
end Tp

-- QD
/-! numbers as data: order, sorts -/
namespace Tp
open PySem PySem.Spec PyProof.Rows L2 DL PySem.W
theorem toks_qt (q : Qt) : keyToks q.D = [.inl 1, .inl q.a, .inl 1, .inl q.b, .inl 1, .inl q.c, .inl 1, .inl q.d, .inl 0] := by
  simp only [Qt.D, keyToks, keyToksAll, List.cons_append, List.nil_append]
theorem dataLt_qt (x y : Qt) : dataLt x.D y.D = Qt.lt x y := by
  unfold dataLt
  rw [toks_qt, toks_qt]
  have h1 : ∀ l m, PyProof.Rows.lexLt itemOrd (.inl 1 :: l) (.inl 1 :: m) = PyProof.Rows.lexLt itemOrd l m := fun l m => lex_self (O := itemOrd) (Sum.inl 1) l m
  have hc : ∀ (a b : Int) l m, PyProof.Rows.lexLt itemOrd (.inl a :: l) (.inl b :: m) = (decide (a < b) || (!decide (b < a) && PyProof.Rows.lexLt itemOrd l m)) := fun a b l m => lex_cons (O := itemOrd) (Sum.inl a) (Sum.inl b) l m
  have h0 : PyProof.Rows.lexLt itemOrd [.inl 0] [.inl 0] = false := lex_irrefl _
  rw [h1, hc, h1, hc, h1, hc, h1, hc, h0, Bool.eq_iff_iff, Qt.lt_iff]
  simp only [Bool.or_eq_true, Bool.and_eq_true, decide_eq_true_eq, Bool.not_eq_true', decide_eq_false_iff_not, Bool.false_eq_true, and_false, or_false]
  omega
theorem dataLe_qt (x y : Qt) : dataLe false id x.D y.D = Qt.le x y := by
  show (!dataLt y.D x.D) = Qt.le x y
  rw [dataLt_qt]
  rfl
theorem mergeSort_qt (l : List Qt) : l.mergeSort Qt.le = Qt.sort l :=
  Qt.sorted_unique ((List.mergeSort_perm l Qt.le).trans (Qt.sort_perm l).symm) (List.pairwise_mergeSort (le := Qt.le) (fun a b c h1 h2 => Qt.le_trans h1 h2) (fun a b => by
    rcases Qt.le_total a b with h | h
    · rw [h]; rfl
    · rw [h, Bool.or_true]) l) (Qt.sort_sorted l)
theorem sortD_qt (l : List Qt) : sortD (l.map Qt.D) = (Qt.sort l).map Qt.D := by
  unfold sortD
  rw [← mergeSort_qt]
  exact (sort_maps (r := Qt.le) (s := dataLe false id) Qt.D (fun a _ b _ => (dataLe_qt a b).symm)).symm
theorem alike_qt (l : List Qt) : AllAlike (l.map Qt.D) := AllAlike.of fun b b' => by
  simp only [Qt.D, alike, alikeAll, Bool.and_true, Bool.and_self]
theorem sortable_qt (l : List Qt) : Sortable (l.map Qt.D) := Sortable.tuples fun b => ⟨_, _, rfl⟩
theorem depth_qt (q : Qt) : q.D.depth ≤ 60 := by
  simp only [Qt.D, PyData.depth, PyData.depthAll]
  decide
theorem depths_qt (l : List Qt) : ∀ d ∈ l.map Qt.D, d.depth ≤ 60 := fun d h => by
  obtain ⟨q, _, rfl⟩ := List.mem_map.mp h
  exact depth_qt q
theorem eqv_qt (x y : Qt) : PyData.eqv x.D y.D = decide (x = y) := by
  obtain ⟨a, b, c, d⟩ := x
  obtain ⟨e, f, g, h⟩ := y
  show ((a == e) && ((b == f) && ((c == g) && ((d == h) && true)))) = _
  rw [Bool.and_true, Bool.eq_iff_iff]
  simp only [Bool.and_eq_true, beq_iff_eq, decide_eq_true_eq, Qt.mk.injEq]
theorem shaped_qt (q : Qt) : SeqAt.shaped q.D = true := rfl
theorem maxD_qt : ∀ (x : Qt) (l : List Qt), maxD x.D (l.map Qt.D) = (l.foldl (fun a y => if Qt.lt a y = true then y else a) x).D := by
  intro x l
  unfold maxD
  rw [List.foldl_map]
  induction l generalizing x with
  | nil => rfl
  | cons y l ih =>
    rw [List.foldl_cons, List.foldl_cons]
    have e : (if dataLt x.D y.D = true then y.D else x.D) = (if Qt.lt x y = true then y else x).D := by
      rw [dataLt_qt]
      split <;> rfl
    rw [e]
    exact ih _
theorem alikeAll_qt (l : List Qt) : AlikeAll (l.map Qt.D) := ⟨fun x hx y hy => alike_qt l x hx y hy, fun x hx e => by
  obtain ⟨q, _, rfl⟩ := List.mem_map.mp hx
  cases e⟩
end Tp

-- F1
/-! numbers.py -/
namespace Tp
open PySem PySem.Spec PyProof.Rows L2 DL
local macro_rules | `(tactic| walk_at "mul") => `(tactic| (unfold CMul; first | (left; constructor <;> omega) | (right; constructor <;> omega)))
section
variable {P : Program} {w : World} {K : PySem.W.Frag} {mg : Str → Option Value} {base : Heap}
/-! ### is_number -/
theorem keys4 (a b c d : Int) : (((keysOf [a % 2, b % 2, c % 2, d % 2]).length : Int) == 1) = Qt.par a b c d := by
  unfold Qt.par
  have two : ∀ x : Int, x % 2 = 0 ∨ x % 2 = 1 := fun x => by omega
  rcases two a with e | e <;> rcases two b with f | f <;> rcases two c with g | g <;> rcases two d with h | h <;> rw [e, f, g, h] <;> decide +kernel
def R_is_number (ds : List D) (d : D) : Prop := ∃ a b c e : Int, (ds = [.tuple [.int a, .int b, .int c, .int e]] ∨ ds = [.list [.int a, .int b, .int c, .int e]]) ∧ d = .bool (Qt.par a b c e)
abbrev N_is_number : List Str := ["number", "part"]
theorem sc_is_number : FnScope N_is_number ["number"] (defScope (top 9)) := ⟨rfl, rfl, rfl, by decide +kernel, rfl, by decide +kernel, by decide +kernel⟩
theorem ok_is_number (T : Txt K mg) : Fn P w K mg base 1 "is_number" R_is_number := by
  refine fn_mk (T.def_is_number) sc_is_number (fun _ _ _ _ _ _ us hl => match us, hl with | [_], _ => rfl) ?len ?body
  case len =>
    rintro ds d ⟨a, b, c, e, h | h, _⟩ <;> rw [h] <;> rfl
  case body =>
    rintro f cdv A outer s H E hr ds d ⟨a, b, c, e, h | h, rfl⟩
    · subst h
      refine ⟨_, pss_one (ps_ret (pe_and (pe_cmpR op_eq (pe_callB cb_len (by rfl) T.b_len PySem.boot_len (pa_cons (pv 0) pa_nil)) (C8.pe_gc (by rfl) T.PARTS) (nomark _)) (pe_one (pe_cmpR op_eq (pe_callB cb_lenD (by rfl) T.b_len PySem.boot_len
        (pa_cons (pe_dc (own := [("part", 1)]) rfl sc_is_number.nd (pi_tup (pv 0)) (blkOk_by (own := [("part", 1)]) (N := N_is_number) (sc := defScope (top 9)) (by decide +kernel)) (fun _ _ _ _ _ => pg_name (i := 1) sc_is_number.nd rfl (Or.inl rfl)) (fun _ _ _ _ _ => pts_nil) (fun _ _ _ _ _ => pe_op op_mod (pv 1) pe_int) (fun _ _ _ _ _ => pe_bl)) pa_nil)) pe_int (nomark _))))), ?_⟩
      refine run_ret (ev_andV (ev_eqI (ev_lenT (ea_cons (ev_var rfl) ea_nil)) ev_int) (fun _ => ev_eqI (ev_lenDc [a, b, c, e] (ei_tup (ev_var rfl)) rfl (by simp) (by decide) (fun n hn => ⟨_, eg_name, ev_I (ev_var rfl) ev_int (by decide), ev_bl⟩)) ev_int)) ?_
      exact congrArg PyData.bool (keys4 a b c e)
    · subst h
      refine ⟨_, pss_one (ps_ret (pe_and (pe_cmpR op_eq (pe_callB cb_len (by rfl) T.b_len PySem.boot_len (pa_cons (pv 0) pa_nil)) (C8.pe_gc (by rfl) T.PARTS) (nomark _)) (pe_one (pe_cmpR op_eq (pe_callB cb_lenD (by rfl) T.b_len PySem.boot_len
        (pa_cons (pe_dc (own := [("part", 1)]) rfl sc_is_number.nd (pi_list (pv 0)) (blkOk_by (own := [("part", 1)]) (N := N_is_number) (sc := defScope (top 9)) (by decide +kernel)) (fun _ _ _ _ _ => pg_name (i := 1) sc_is_number.nd rfl (Or.inl rfl)) (fun _ _ _ _ _ => pts_nil) (fun _ _ _ _ _ => pe_op op_mod (pv 1) pe_int) (fun _ _ _ _ _ => pe_bl)) pa_nil)) pe_int (nomark _))))), ?_⟩
      refine run_ret (ev_andV (ev_eqI (ev_lenL (ea_cons (ev_var rfl) ea_nil)) ev_int) (fun _ => ev_eqI (ev_lenDc [a, b, c, e] (ei_list (ev_var rfl)) rfl (by simp) (by decide) (fun n hn => ⟨_, eg_name, ev_I (ev_var rfl) ev_int (by decide), ev_bl⟩)) ev_int)) ?_
      exact congrArg PyData.bool (keys4 a b c e)
/-! ### check_number -/
def R_check_number (ds : List D) (d : D) : Prop := ∃ q : Qt, q.ok ∧ ds = [q.D] ∧ d = .none
abbrev N_check_number : List Str := ["number"]
theorem sc_check_number : FnScope N_check_number ["number"] (defScope (top 10)) := ⟨rfl, rfl, rfl, by decide +kernel, rfl, by decide +kernel, by decide +kernel⟩
theorem ok_check_number (T : Txt K mg) : Fn P w K mg base 2 "check_number" R_check_number := by
  refine fn_mk (T.def_check_number) sc_check_number (fun _ _ _ _ _ _ us hl => match us, hl with | [_], _ => rfl) ?len ?body
  case len =>
    rintro ds d ⟨q, _, rfl, _⟩
    rfl
  case body =>
    rintro f cdv A outer s H E hr ds d ⟨q, hq, rfl, rfl⟩
    refine ⟨_, pss_one (ps_if (pt_not (pt_val (pe_fn (ok_is_number T) hr (by decide) (by rfl) (pa_cons (pv 0) pa_nil)))) pss_never pss_nil), ?_⟩
    refine run_if (et_not (et_B (ev_call (ea_cons (ev_var rfl) ea_nil) ⟨_, _, _, _, .inl rfl, rfl⟩))) (fun h => ?_) (fun h => run_next rfl)
    rw [Qt.par_ok.mpr hq] at h
    cases h
/-! ### check_not_zero -/
def R_check_not_zero (ds : List D) (d : D) : Prop := ∃ q : Qt, q.ok ∧ q ≠ Qt.zero ∧ ds = [q.D] ∧ d = .none
abbrev N_check_not_zero : List Str := ["number"]
theorem sc_check_not_zero : FnScope N_check_not_zero ["number"] (defScope (top 11)) := ⟨rfl, rfl, rfl, by decide +kernel, rfl, by decide +kernel, by decide +kernel⟩
theorem ok_check_not_zero (T : Txt K mg) : Fn P w K mg base 3 "check_not_zero" R_check_not_zero := by
  refine fn_mk (T.def_check_not_zero) sc_check_not_zero (fun _ _ _ _ _ _ us hl => match us, hl with | [_], _ => rfl) ?len ?body
  case len =>
    rintro ds d ⟨q, _, _, rfl, _⟩
    rfl
  case body =>
    rintro f cdv A outer s H E hr ds d ⟨q, hq, hz, rfl, rfl⟩
    refine ⟨_, (pss_cons (ps_expr (pe_fn (ok_check_number T) hr (by decide) (by rfl) (pa_cons (pv 0) pa_nil)))
        (pss_one (ps_if (pt_cmpR (op_eqD hr.units) (pe_tupleOf (by rfl) T.b_tuple (pv 0)) (C8.pe_gc (by rfl) T.ZERO_numbers) (nomark _)) pss_never pss_nil))), ?_⟩
    refine run_seq (run_drop (ev_call (ea_cons (ev_var rfl) ea_nil) ⟨q, hq, rfl, rfl⟩) (run_if (et_test (ev_eqD (ev_tupT (ev_var rfl)) T.ev_ZERO_numbers rfl rfl)) (fun h => ?_) (fun h => run_next rfl)))
    rw [show PyData.tuple [.int q.a, .int q.b, .int q.c, .int q.d] = q.D from rfl, eqv_qt] at h
    exact absurd (of_decide_eq_true h) hz
/-! ### of_integers -/
def R_of_integers (ds : List D) (d : D) : Prop := ∃ a b c e : Int, ds = [.list [.int a, .int b, .int c, .int e]] ∧ d = (⟨2 * a, 2 * b, 2 * c, 2 * e⟩ : Qt).D
abbrev N_of_integers : List Str := ["integers", "part"]
theorem sc_of_integers : FnScope N_of_integers ["integers"] (defScope (top 12)) := ⟨rfl, rfl, rfl, by decide +kernel, rfl, by decide +kernel, by decide +kernel⟩
theorem ok_of_integers (T : Txt K mg) : Fn P w K mg base 1 "of_integers" R_of_integers := by
  refine fn_mk (T.def_of_integers) sc_of_integers (fun _ _ _ _ _ _ us hl => match us, hl with | [_], _ => rfl) ?len ?body
  case len =>
    rintro ds d ⟨_, _, _, _, rfl, _⟩
    rfl
  case body =>
    rintro f cdv A outer s H E hr ds d ⟨a, b, c, e, rfl, rfl⟩
    refine ⟨_, (pss_cons (ps_if (pt_cmpR op_ne (pe_callB cb_len (by rfl) T.b_len PySem.boot_len (pa_cons (pv 0) pa_nil)) (C8.pe_gc (by rfl) T.PARTS) (nomark _)) pss_never pss_nil)
        (pss_one (ps_ret (pe_tupleOf (by rfl) T.b_tuple (pe_lc (own := [("part", 1)]) rfl sc_of_integers.nd (pi_list (pv 0)) (blkOk_by (own := [("part", 1)]) (N := N_of_integers) (sc := defScope (top 12)) (by decide +kernel)) (fun _ _ _ _ _ => (pg_name (i := 1) sc_of_integers.nd rfl (by first | exact Or.inl rfl | exact Or.inr rfl))) (fun _ _ _ _ _ => pts_nil) (fun _ _ _ _ _ => (pe_op op_mul pe_int (pv 1)))))))), ?_⟩
    refine run_seq (run_if (et_test (ev_neI (ev_lenL (ea_cons (ev_var rfl) ea_nil)) ev_int)) (fun h => ?_) (fun h => run_next ?_))
    · exact absurd h (by simp)
    · exact run_ret (ev_tupL (ev_lcI [a, b, c, e] (ei_list (ev_var rfl)) rfl (by simp) (by decide) (fun n hn => ⟨_, eg_name, (ev_I ev_int (ev_var rfl) (by walk_at "mul"))⟩))) rfl
end
end Tp

-- F2
/-! numbers.py, further -/
namespace Tp
open PySem PySem.Spec PyProof.Rows L2 DL
local macro_rules | `(tactic| walk_at "mul") => `(tactic| (unfold CMul; first | (left; constructor <;> omega) | (right; constructor <;> omega)))
local macro_rules | `(tactic| walk_at "div") => `(tactic| (unfold CDiv; constructor <;> omega))
section
variable {P : Program} {w : World} {K : PySem.W.Frag} {mg : Str → Option Value} {base : Heap}
def R_conjugate (ds : List D) (d : D) : Prop := ∃ q : Qt, q.ok ∧ ds = [q.D] ∧ d = q.conj.D
abbrev N_conjugate : List Str := ["number", "a", "b", "c", "d"]
theorem sc_conjugate : FnScope N_conjugate ["number"] (defScope (top 13)) := ⟨rfl, rfl, rfl, by decide +kernel, rfl, by decide +kernel, by decide +kernel⟩
theorem ok_conjugate (T : Txt K mg) : Fn P w K mg base 3 "conjugate" R_conjugate := by
  refine fn_mk (T.def_conjugate) sc_conjugate (fun _ _ _ _ _ _ us hl => match us, hl with | [_], _ => rfl) ?len ?body
  case len =>
    rintro ds d ⟨q, _, rfl, _⟩
    rfl
  case body =>
    rintro f cdv A outer s H E hr ds d ⟨q, hq, rfl, rfl⟩
    refine ⟨_, (pss_cons (ps_expr (pe_fn (ok_check_number T) hr (by decide) (by rfl) (pa_cons (pv 0) pa_nil)))
        (pss_cons (ps_asg (pv 0) (pg_tup rfl (pgs_cons (pg_name (i := 1) sc_conjugate.nd rfl (Or.inl rfl)) (pgs_cons (pg_name (i := 2) sc_conjugate.nd rfl (Or.inl rfl)) (pgs_cons (pg_name (i := 3) sc_conjugate.nd rfl (Or.inl rfl)) (pgs_cons (pg_name (i := 4) sc_conjugate.nd rfl (Or.inl rfl)) pgs_nil))))))
        (pss_one (ps_ret (pe_tup (pa_cons (pv 1) (pa_cons (pe_un un_neg (pv 2)) (pa_cons (pe_un un_neg (pv 3)) (pa_cons (pe_un un_neg (pv 4)) pa_nil))))))))), ?_⟩
    refine run_seq (run_drop (ev_call (ea_cons (ev_var rfl) ea_nil) ⟨q, hq, rfl, rfl⟩) (
      run_seq (run_unpackT [1, 2, 3, 4] (ev_var rfl) rfl rfl (
      run_ret (ev_tup (ea_cons (ev_var rfl) (ea_cons (ev_neg (ev_var rfl)) (ea_cons (ev_neg (ev_var rfl)) (ea_cons (ev_neg (ev_var rfl)) ea_nil)))) (sz 4)) rfl))))
abbrev big : Int := 1152921504606846976
def R_norm (ds : List D) (d : D) : Prop := ∃ q : Qt, q.ok ∧ q.sm big ∧ ds = [q.D] ∧ d = .int q.nrm
abbrev N_norm : List Str := ["number", "part"]
theorem sc_norm : FnScope N_norm ["number"] (defScope (top 14)) := ⟨rfl, rfl, rfl, by decide +kernel, rfl, by decide +kernel, by decide +kernel⟩
theorem ok_norm (T : Txt K mg) : Fn P w K mg base 3 "norm" R_norm := by
  refine fn_mk (T.def_norm) sc_norm (fun _ _ _ _ _ _ us hl => match us, hl with | [_], _ => rfl) ?len ?body
  case len =>
    rintro ds d ⟨q, _, _, rfl, _⟩
    rfl
  case body =>
    rintro f cdv A outer s H E hr ds d ⟨q, hq, hs, rfl, rfl⟩
    refine ⟨_, (pss_cons (ps_expr (pe_fn (ok_check_number T) hr (by decide) (by rfl) (pa_cons (pv 0) pa_nil)))
        (pss_one (ps_ret (pe_op op_fdiv (pe_callB (cr_sumK K rfl) (by rfl) T.b_sum (by decide +kernel) (pa_cons (pe_lc (own := [("part", 1)]) (g := (gName 1)) rfl sc_norm.nd (pi_tup (pv 0)) (blkOk_by (own := [("part", 1)]) (N := N_norm) (sc := defScope (top 14)) (by decide +kernel)) (fun _ _ _ _ _ => (pg_name (i := 1) sc_norm.nd rfl (Or.inl rfl))) (fun _ _ _ _ _ => pts_nil) (fun _ _ _ _ _ => (pe_op op_mul (pv 1) (pv 1)))) pa_nil)) pe_int)))), ?_⟩
    obtain ⟨⟨a1, a2⟩, ⟨b1, b2⟩, ⟨c1, c2⟩, d1, d2⟩ := hs
    refine run_seq (run_drop (ev_call (ea_cons (ev_var rfl) ea_nil) ⟨q, hq, rfl, rfl⟩) (
      run_ret (ev_I (ev_sum (ns := [q.a * q.a, q.b * q.b, q.c * q.c, q.d * q.d]) (ea_cons (ev_lcI [q.a, q.b, q.c, q.d] (f := fun x => .int (x * x)) (ei_tup (ev_var rfl)) rfl (by simp) (by decide) (fun n hn => ⟨_, eg_name, (ev_I (ev_var rfl) (ev_var rfl) ?_)⟩)) ea_nil)) ev_int ⟨by decide, by decide⟩) ?_))
    · have : -big ≤ n ∧ n ≤ big := by
        simp only [List.mem_cons, List.not_mem_nil, or_false] at hn
        rcases hn with rfl | rfl | rfl | rfl <;> constructor <;> assumption
      unfold CMul
      left
      simp only [big] at this
      constructor <;> omega
    · show PyData.int (([q.a * q.a, q.b * q.b, q.c * q.c, q.d * q.d] : List Int).sum / 4) = .int q.nrm
      unfold Qt.nrm Qt.n4
      simp only [List.sum_cons, List.sum_nil, Int.add_zero, Int.add_assoc]
def R_less (ds : List D) (d : D) : Prop := ∃ x y : Qt, x.ok ∧ y.ok ∧ ds = [x.D, y.D] ∧ d = (x.sub y).D
abbrev N_less : List Str := ["one", "other", "part", "far"]
theorem sc_less : FnScope N_less ["one", "other"] (defScope (top 15)) := ⟨rfl, rfl, rfl, by decide +kernel, rfl, by decide +kernel, by decide +kernel⟩
theorem ok_less (T : Txt K mg) : Fn P w K mg base 3 "less" R_less := by
  refine fn_mk (T.def_less) sc_less (fun _ _ _ _ _ _ us hl => match us, hl with | [_, _], _ => rfl) ?len ?body
  case len =>
    rintro ds d ⟨x, y, _, _, rfl, _⟩
    rfl
  case body =>
    rintro f cdv A outer s H E hr ds d ⟨x, y, hx, hy, rfl, rfl⟩
    refine ⟨_, (pss_cons (ps_expr (pe_fn (ok_check_number T) hr (by decide) (by rfl) (pa_cons (pv 0) pa_nil)))
        (pss_cons (ps_expr (pe_fn (ok_check_number T) hr (by decide) (by rfl) (pa_cons (pv 1) pa_nil)))
        (pss_one (ps_ret (pe_tupleK K (by rfl) T.b_tuple (pe_lc (own := [("part", 2), ("far", 3)]) (g := (gTup K 2 (gNames [2, 3]))) rfl sc_less.nd (RZ.pi_zipA (by rfl) T.b_zip (pa_cons (pv 0) (pa_cons (pv 1) pa_nil))) (blkOk_by (own := [("part", 2), ("far", 3)]) (N := N_less) (sc := defScope (top 15)) (by decide +kernel)) (fun _ _ _ _ _ => (pg_tup rfl (pgs_cons (pg_name (i := 2) sc_less.nd rfl (Or.inl rfl)) (pgs_cons (pg_name (i := 3) sc_less.nd rfl (Or.inl rfl)) pgs_nil)))) (fun _ _ _ _ _ => pts_nil) (fun _ _ _ _ _ => (pe_op op_sub (pv 2) (pv 3))))))))), ?_⟩
    refine run_seq (run_drop (ev_call (ea_cons (ev_var rfl) ea_nil) ⟨x, hx, rfl, rfl⟩) (
      run_seq (run_drop (ev_call (ea_cons (ev_var rfl) ea_nil) ⟨y, hy, rfl, rfl⟩) (
      run_ret (ev_tupL (ev_lcM (α := Int × Int) (fun p => .tuple [.int p.1, .int p.2]) [(x.a, y.a), (x.b, y.b), (x.c, y.c), (x.d, y.d)] (ei_zipT (ea_cons (ev_var rfl) (ea_cons (ev_var rfl) ea_nil))) rfl (by simp) (by decide)
        (fun p hp => ⟨_, (eg_tup (egs_names rfl)), (ev_I0 (ev_var rfl) (ev_var rfl))⟩))) rfl))))
def R_product (ds : List D) (d : D) : Prop := ∃ x y : Qt, x.ok ∧ y.ok ∧ y.sm big ∧ ds = [x.D, y.D] ∧ d = (x.mul y).D
abbrev N_product : List Str := ["one", "other", "a", "b", "c", "d", "e", "f", "g", "h", "parts", "part"]
theorem sc_product : FnScope N_product ["one", "other"] (defScope (top 16)) := ⟨rfl, rfl, rfl, by decide +kernel, rfl, by decide +kernel, by decide +kernel⟩
set_option maxHeartbeats 2000000 in
theorem ok_product (T : Txt K mg) : Fn P w K mg base 3 "product" R_product := by
  refine fn_mk (T.def_product) sc_product (fun _ _ _ _ _ _ us hl => match us, hl with | [_, _], _ => rfl) ?len ?body
  case len =>
    rintro ds d ⟨x, y, _, _, _, rfl, _⟩
    rfl
  case body =>
    rintro f cdv A outer s H E hr ds d ⟨x, y, hx, hy, hs, rfl, rfl⟩
    refine ⟨_, (pss_cons (ps_expr (pe_fn (ok_check_number T) hr (by decide) (by rfl) (pa_cons (pv 0) pa_nil)))
        (pss_cons (ps_expr (pe_fn (ok_check_number T) hr (by decide) (by rfl) (pa_cons (pv 1) pa_nil)))
        (pss_cons (ps_asg (pv 0) (pg_tup rfl (pgs_cons (pg_name (i := 2) sc_product.nd rfl (Or.inl rfl)) (pgs_cons (pg_name (i := 3) sc_product.nd rfl (Or.inl rfl)) (pgs_cons (pg_name (i := 4) sc_product.nd rfl (Or.inl rfl)) (pgs_cons (pg_name (i := 5) sc_product.nd rfl (Or.inl rfl)) pgs_nil))))))
        (pss_cons (ps_asg (pv 1) (pg_tup rfl (pgs_cons (pg_name (i := 6) sc_product.nd rfl (Or.inl rfl)) (pgs_cons (pg_name (i := 7) sc_product.nd rfl (Or.inl rfl)) (pgs_cons (pg_name (i := 8) sc_product.nd rfl (Or.inl rfl)) (pgs_cons (pg_name (i := 9) sc_product.nd rfl (Or.inl rfl)) pgs_nil))))))
        (pss_cons (ps_set (i := 10) sc_product.nd rfl (Or.inl rfl) (pe_tup (pa_cons (pe_op op_sub (pe_op op_sub (pe_op op_sub (pe_op op_mul (pv 2) (pv 6)) (pe_op op_mul (pv 3) (pv 7))) (pe_op op_mul (pv 4) (pv 8))) (pe_op op_mul (pv 5) (pv 9))) (pa_cons (pe_op op_sub (pe_op op_add (pe_op op_add (pe_op op_mul (pv 2) (pv 7)) (pe_op op_mul (pv 3) (pv 6))) (pe_op op_mul (pv 4) (pv 9))) (pe_op op_mul (pv 5) (pv 8))) (pa_cons (pe_op op_add (pe_op op_add (pe_op op_sub (pe_op op_mul (pv 2) (pv 8)) (pe_op op_mul (pv 3) (pv 9))) (pe_op op_mul (pv 4) (pv 6))) (pe_op op_mul (pv 5) (pv 7))) (pa_cons (pe_op op_add (pe_op op_sub (pe_op op_add (pe_op op_mul (pv 2) (pv 9)) (pe_op op_mul (pv 3) (pv 8))) (pe_op op_mul (pv 4) (pv 7))) (pe_op op_mul (pv 5) (pv 6))) pa_nil))))))
        (pss_one (ps_ret (pe_tupleK K (by rfl) T.b_tuple (pe_lc (own := [("part", 11)]) (g := (gName 11)) rfl sc_product.nd (pi_tup (pv 10)) (blkOk_by (own := [("part", 11)]) (N := N_product) (sc := defScope (top 16)) (by decide +kernel)) (fun _ _ _ _ _ => (pg_name (i := 11) sc_product.nd rfl (Or.inl rfl))) (fun _ _ _ _ _ => pts_nil) (fun _ _ _ _ _ => (pe_op op_fdiv (pv 11) pe_int))))))))))), ?_⟩
    obtain ⟨⟨a1, a2⟩, ⟨b1, b2⟩, ⟨c1, c2⟩, d1, d2⟩ := hs
    refine run_seq (run_drop (ev_call (ea_cons (ev_var rfl) ea_nil) ⟨x, hx, rfl, rfl⟩) (
      run_seq (run_drop (ev_call (ea_cons (ev_var rfl) ea_nil) ⟨y, hy, rfl, rfl⟩) (
      run_seq (run_unpackT [2, 3, 4, 5] (ev_var rfl) rfl rfl (
      run_seq (run_unpackT [6, 7, 8, 9] (ev_var rfl) rfl rfl ?_)))))))
    show Run K _ [.dat x.D, .dat y.D, .dat (.int x.a), .dat (.int x.b), .dat (.int x.c), .dat (.int x.d), .dat (.int y.a), .dat (.int y.b), .dat (.int y.c), .dat (.int y.d), .un, .un] _ _
    refine run_seq (run_asg (ev_tup (ea_cons (ev_I0 (ev_I0 (ev_I0 (ev_I (ev_var rfl) (ev_var rfl) ?_) (ev_I (ev_var rfl) (ev_var rfl) ?_)) (ev_I (ev_var rfl) (ev_var rfl) ?_)) (ev_I (ev_var rfl) (ev_var rfl) ?_)) (ea_cons (ev_I0 (ev_I0 (ev_I0 (ev_I (ev_var rfl) (ev_var rfl) ?_) (ev_I (ev_var rfl) (ev_var rfl) ?_)) (ev_I (ev_var rfl) (ev_var rfl) ?_)) (ev_I (ev_var rfl) (ev_var rfl) ?_)) (ea_cons (ev_I0 (ev_I0 (ev_I0 (ev_I (ev_var rfl) (ev_var rfl) ?_) (ev_I (ev_var rfl) (ev_var rfl) ?_)) (ev_I (ev_var rfl) (ev_var rfl) ?_)) (ev_I (ev_var rfl) (ev_var rfl) ?_)) (ea_cons (ev_I0 (ev_I0 (ev_I0 (ev_I (ev_var rfl) (ev_var rfl) ?_) (ev_I (ev_var rfl) (ev_var rfl) ?_)) (ev_I (ev_var rfl) (ev_var rfl) ?_)) (ev_I (ev_var rfl) (ev_var rfl) ?_)) ea_nil)))) (sz 4)) (
      run_ret (ev_tupL (ev_lcI [_, _, _, _] (ei_tup (ev_var rfl)) rfl (by simp) (by decide) (fun n hn => ⟨_, eg_name, (ev_I (ev_var rfl) ev_int ⟨by decide, by decide⟩)⟩))) rfl))
    all_goals (unfold CMul; right; constructor <;> (simp only [big] at *; omega))
end
end Tp

-- FU
/-! units -/
namespace Tp
open PySem PySem.Spec PyProof.Rows L2 DL
section
variable {P : Program} {w : World} {K : PySem.W.Frag} {mg : Str → Option Value} {base : Heap}
def pm : List PyData := [.int (-1), .int 1]
def u3 (a b c d : PyData) : List PyData := [.tuple [a, b, c, d]]
def u2 (a b c : PyData) : List PyData := pm.flatMap (u3 a b c)
def u1 (a b : PyData) : List PyData := pm.flatMap (u2 a b)
def u0 (a : PyData) : List PyData := pm.flatMap (u1 a)
def pmI : List Int := [-1, 1]
def uH : List Qt := pmI.flatMap fun a => pmI.flatMap fun b => pmI.flatMap fun c => pmI.map fun d => ⟨a, b, c, d⟩
def uP (s k : Int) : Qt := ⟨if (0 == k) = true then s else 0, if (1 == k) = true then s else 0, if (2 == k) = true then s else 0, if (3 == k) = true then s else 0⟩
def uQ (k : Nat) : List Qt := [uP (-2) (k : Int), uP 2 (k : Int)]
def uG (i : Nat) : List Qt := uH ++ (List.range i).flatMap uQ
theorem uG_units : Qt.sort (uG 4) = Qt.units := by decide +kernel
theorem uG_len : ∀ i ∈ List.range 5, (uG i).length ≤ 24 := by decide +kernel
def R_units (ds : List D) (d : D) : Prop := ds = [] ∧ d = .list (Qt.units.map Qt.D)
abbrev N_units : List Str := ["found", "a", "b", "c", "d", "place", "part", "at"]
theorem sc_units : FnScope N_units [] (defScope (top 17)) := ⟨rfl, rfl, rfl, by decide +kernel, rfl, by decide +kernel, by decide +kernel⟩
theorem ok_units (T : Txt K mg) : Fn P w K mg base 1 "units" R_units := by
  refine fn_mk (T.def_units) sc_units (fun _ _ _ _ _ _ us hl => match us, hl with | [], _ => rfl) ?len ?body
  case len =>
    rintro ds d ⟨rfl, _⟩
    rfl
  case body =>
    rintro f cdv A outer s H E hr ds d ⟨rfl, rfl⟩
    refine ⟨_, (pss_cons (ps_setLc4 (i := 0) (own := [("a", 1), ("b", 2), ("c", 3), ("d", 4)]) (g := (gName 1)) (g1 := (gName 2)) (g2 := (gName 3)) (g3 := (gName 4)) (vs1 := [2, 3, 4]) (vs2 := [3, 4]) (vs3 := [4]) rfl sc_units.nd (by rfl) (by rfl) (sw_true rfl rfl rfl (by decide +kernel)) (pi_tup (pe_tup (pa_cons (pe_un un_neg pe_int) (pa_cons pe_int pa_nil)))) (blkOk_by (own := [("a", 1), ("b", 2), ("c", 3), ("d", 4)]) (N := N_units) (sc := defScope (top 17)) (by decide +kernel)) (by decide) (by decide) (by decide)
        (fun _ _ _ _ _ => (pg_name (i := 1) sc_units.nd rfl (Or.inl rfl)))
        (fun _ _ _ _ _ => (pi_tupK K (pe_tup (pa_cons (pe_un un_neg pe_int) (pa_cons pe_int pa_nil))))) (fun _ _ _ _ _ => (pg_name (i := 2) sc_units.nd rfl (Or.inl rfl)))
        (fun _ _ _ _ _ => (pi_tupK K (pe_tup (pa_cons (pe_un un_neg pe_int) (pa_cons pe_int pa_nil))))) (fun _ _ _ _ _ => (pg_name (i := 3) sc_units.nd rfl (Or.inl rfl)))
        (fun _ _ _ _ _ => (pi_tupK K (pe_tup (pa_cons (pe_un un_neg pe_int) (pa_cons pe_int pa_nil))))) (fun _ _ _ _ _ => (pg_name (i := 4) sc_units.nd rfl (Or.inl rfl)))
        (fun _ _ _ _ _ => (pe_tup (pa_cons (pv 1) (pa_cons (pv 2) (pa_cons (pv 3) (pa_cons (pv 4) pa_nil)))))))
        (pss_cons (ps_for PassesOwn.never rfl (pi_range1 (by rfl) T.b_range (pa_cons (C8.pe_gc (by rfl) T.PARTS) pa_nil)) (pg_name (i := 5) sc_units.nd rfl (Or.inr rfl)) (pss_one (ps_for PassesOwn.never rfl (pi_tup (pe_tup (pa_cons (pe_un un_neg pe_int) (pa_cons pe_int pa_nil)))) (pg_name (i := 6) sc_units.nd rfl (Or.inr rfl)) (pss_one (ps_expr (pe_bm PySem.F.plainAttrs_list PySem.F.slot_list_append PySem.F.type_list_append mt_append (pv 0) (pa_cons (pe_tupleK K (by rfl) T.b_tuple (pe_lc (own := [("at", 7)]) (g := (gName 7)) rfl sc_units.nd (pi_range1 (by rfl) T.b_range (pa_cons (C8.pe_gc (by rfl) T.PARTS) pa_nil)) (blkOk_by (own := [("at", 7)]) (N := N_units) (sc := defScope (top 17)) (by decide +kernel)) (fun _ _ _ _ _ => (pg_name (i := 7) sc_units.nd rfl (Or.inl rfl))) (fun _ _ _ _ _ => pts_nil) (fun _ _ _ _ _ => (pe_ifExp (pt_cmpR op_eq (pv 7) (pv 5) (nomark _)) (pv 6) pe_int)))) pa_nil)))))))
        (pss_one (ps_ret (pe_callB (cr_sortD hr.units) (by rfl) T.b_sorted (by decide +kernel) (pa_cons (pv 0) pa_nil)))))), ?_⟩
    refine run_seq (run_asgO (ds := pm.flatMap u0) (ev_lcN (js := [1]) (ei_tup (ev_tup (ea_cons (ev_neg ev_int) (ea_cons ev_int ea_nil)) (sz 2))) (by decide) (by decide) (fun a ha => ⟨_, eg_name, ek_cl (js := [2]) (ei_tup (ev_tup (ea_cons (ev_neg ev_int) (ea_cons ev_int ea_nil)) (sz 2))) (by decide) (fun b hb => ⟨_, eg_name, ek_cl (js := [3]) (ei_tup (ev_tup (ea_cons (ev_neg ev_int) (ea_cons ev_int ea_nil)) (sz 2))) (by decide) (fun c hc => ⟨_, eg_name, ek_cl (js := [4]) (ei_tup (ev_tup (ea_cons (ev_neg ev_int) (ea_cons ev_int ea_nil)) (sz 2))) (by decide) (fun d hd => ⟨_, eg_name, ek_app (ev_tup (ea_cons (ev_var rfl) (ea_cons (ev_var rfl) (ea_cons (ev_var rfl) (ea_cons (ev_var rfl) ea_nil)))) (sz 4))⟩)⟩)⟩)⟩)) ?_)
    show Run K _ [.own ((uG 0).map Qt.D), .un, .un, .un, .un, .un, .un, .un] _ _
    refine run_seq (run_forN (ei_rng1 (j := 4) (ea_cons ev_int ea_nil) (by decide) (by decide)) (fun i r => ∃ s1 s2 s3 s4 s5 s6 s7, r = [.own ((uG i).map Qt.D), s1, s2, s3, s4, s5, s6, s7]) ⟨_, _, _, _, _, _, _, rfl⟩ (fun i d r hd w => ?_) ?_)
    · obtain ⟨s1, s2, s3, s4, s5, s6, s7, rfl⟩ := w
      have hi : i < 4 := by
        have h := (List.getElem?_eq_some_iff.mp hd).1
        rw [rangeD_len] at h
        exact h
      rw [rangeD_get hd]
      show Run K _ [.own ((uG i).map Qt.D), s1, s2, s3, s4, .dat (.int (0 + (i : Int))), s6, s7] _ _
      rw [Int.zero_add]
      have hl := uG_len i (List.mem_range.mpr (by omega))
      have eG : uG (i + 1) = uG i ++ uQ i := by
        unfold uG
        rw [List.range_succ, List.flatMap_append, ← List.append_assoc]
        congr 1
      have turn : ∀ (z : Int) (l : List Qt) (N : List Sl → Prop), l.length ≤ 25 → N [.own ((l ++ [uP z (i : Int)]).map Qt.D), s1, s2, s3, s4, .dat (.int (i : Int)), .dat (.int z), s7] → Run K (tDrop (tBM K "list" rAppend (tVar 0) (tCons (tThen (tLc (iRng1 (tCons (tC (.int 4)) tNil)) (gName 7) tYes (tIf (tTest (tOp rEq (tVar 7) (tVar 5))) (tVar 6) (tC (.int 0))) [7]) (kTup K)) tNil))) [.own (l.map Qt.D), s1, s2, s3, s4, .dat (.int (i : Int)), .dat (.int z), s7] N (fun d' => d' = .list (Qt.units.map Qt.D)) := fun z l N hl n => by
        refine run_append (d := (uP z (i : Int)).D) rfl (ev_tupL (ev_lcI [0, 1, 2, 3] (f := fun j => .int (if (j == (i : Int)) = true then z else 0)) (ei_rng1 (j := 4) (ea_cons ev_int ea_nil) (by decide) (by decide)) rfl (by decide) (by decide) (fun j hj => ⟨_, eg_name, (ev_if (et_test (ev_eqI (ev_var rfl) (ev_var rfl))) (fun h => ?_) (fun h => ?_))⟩))) (by rw [List.length_map]; omega) ?_
        · rw [if_pos h]
          exact ev_var rfl
        · rw [if_neg (by rw [h]; exact Bool.false_ne_true)]
          exact ev_int
        · rw [List.map_append] at n
          exact n
      refine run_forN (ds := [.int (-2), .int 2]) (ei_tup (ev_tup (ea_cons (ev_neg ev_int) (ea_cons ev_int ea_nil)) (sz 2))) (fun j r => ∃ s6, r = [.own ((uG i ++ (uQ i).take j).map Qt.D), s1, s2, s3, s4, .dat (.int (i : Int)), s6, s7]) ⟨s6, by rw [List.take_zero, List.append_nil]⟩ (fun j d r hd w => ?_) ?_
      · obtain ⟨s6, rfl⟩ := w
        match j, hd with
        | 0, hd =>
          cases hd
          refine turn (-2) (uG i ++ []) _ (by rw [List.append_nil]; omega) ⟨.dat (.int (-2)), ?_⟩
          rw [List.append_nil]
          rfl
        | 1, hd =>
          cases hd
          refine turn 2 (uG i ++ [uP (-2) (i : Int)]) _ (by rw [List.length_append, List.length_singleton]; omega) ⟨.dat (.int 2), ?_⟩
          rw [List.append_assoc]
          rfl
      · rintro r ⟨s6, rfl⟩
        exact ⟨_, _, _, _, _, _, _, by rw [eG]; rfl⟩
    · rintro r ⟨s1, s2, s3, s4, s5, s6, s7, rfl⟩
      rw [rangeD_len]
      show Run K _ [.own ((uG 4).map Qt.D), s1, s2, s3, s4, s5, s6, s7] _ _
      refine run_ret (ev_sortD (ea_cons (ev_var rfl) ea_nil) (alike_qt _) (sortable_qt _) (depths_qt _)) ?_
      rw [sortD_qt, uG_units]
end
end Tp

-- F3
/-! numbers.py, further -/
namespace Tp
open PySem PySem.Spec PyProof.Rows L2 DL
section
variable {P : Program} {w : World} {K : PySem.W.Frag} {mg : Str → Option Value} {base : Heap}
theorem unit_ok : ∀ u ∈ Qt.units, u.ok ∧ u.sm big := by decide +kernel
def R_associates (ds : List D) (d : D) : Prop := ∃ q : Qt, q.ok ∧ q ≠ Qt.zero ∧ ds = [q.D] ∧ d = .list ((Qt.assoc q).map Qt.D)
abbrev N_associates : List Str := ["number", "unit"]
theorem sc_associates : FnScope N_associates ["number"] (defScope (top 18)) := ⟨rfl, rfl, rfl, by decide +kernel, rfl, by decide +kernel, by decide +kernel⟩
theorem ok_associates (T : Txt K mg) : Fn P w K mg base 4 "associates" R_associates := by
  refine fn_mk (T.def_associates) sc_associates (fun _ _ _ _ _ _ us hl => match us, hl with | [_], _ => rfl) ?len ?body
  case len =>
    rintro ds d ⟨q, _, _, rfl, _⟩
    rfl
  case body =>
    rintro f cdv A outer s H E hr ds d ⟨q, hq, hz, rfl, rfl⟩
    refine ⟨_, (pss_cons (ps_expr (pe_fn (ok_check_not_zero T) hr (by decide) (by rfl) (pa_cons (pv 0) pa_nil)))
        (pss_one (ps_ret (pe_callB (cr_sortD hr.units) (by rfl) T.b_sorted (by decide +kernel) (pa_cons (pe_lc (own := [("unit", 1)]) (g := (gName 1)) rfl sc_associates.nd (pi_list (pe_fn0 (ok_units T) hr (by decide) (by rfl))) (blkOk_by (own := [("unit", 1)]) (N := N_associates) (sc := defScope (top 18)) (by decide +kernel)) (fun _ _ _ _ _ => (pg_name (i := 1) sc_associates.nd rfl (Or.inl rfl))) (fun _ _ _ _ _ => pts_nil) (fun _ _ _ _ _ => (pe_fn (ok_product T) hr (by decide) (by rfl) (pa_cons (pv 0) (pa_cons (pv 1) pa_nil))))) pa_nil))))), ?_⟩
    refine run_seq (run_drop (ev_call (ea_cons (ev_var rfl) ea_nil) ⟨q, hq, hz, rfl, rfl⟩) (
      run_ret (ev_sortD (ea_cons (ev_lcM Qt.D Qt.units (f := fun u => (q.mul u).D) (ei_list (ev_call ea_nil ⟨rfl, rfl⟩)) rfl (by decide) (by decide) (fun u hu => ⟨_, eg_name, (ev_call (ea_cons (ev_var rfl) (ea_cons (ev_var rfl) ea_nil)) ⟨q, u, hq, (unit_ok u hu).1, (unit_ok u hu).2, rfl, rfl⟩)⟩)) ea_nil) ?_ ?_ ?_) ?_))
    · exact alike_qt (Qt.units.map q.mul)
    · exact sortable_qt (Qt.units.map q.mul)
    · exact depths_qt (Qt.units.map q.mul)
    · exact congrArg PyData.list (sortD_qt (Qt.units.map q.mul))
theorem assoc_len (q : Qt) : (Qt.assoc q).length = 24 := by
  unfold Qt.assoc
  rw [Qt.sort_len, List.length_map]
  rfl
def R_canonical (ds : List D) (d : D) : Prop := ∃ q : Qt, q.ok ∧ q ≠ Qt.zero ∧ ds = [q.D] ∧ d = (Qt.canon q).D
abbrev N_canonical : List Str := ["number"]
theorem sc_canonical : FnScope N_canonical ["number"] (defScope (top 19)) := ⟨rfl, rfl, rfl, by decide +kernel, rfl, by decide +kernel, by decide +kernel⟩
theorem ok_canonical (T : Txt K mg) : Fn P w K mg base 5 "canonical" R_canonical := by
  refine fn_mk (T.def_canonical) sc_canonical (fun _ _ _ _ _ _ us hl => match us, hl with | [_], _ => rfl) ?len ?body
  case len =>
    rintro ds d ⟨q, _, _, rfl, _⟩
    rfl
  case body =>
    rintro f cdv A outer s H E hr ds d ⟨q, hq, hz, rfl, rfl⟩
    refine ⟨_, (pss_one (ps_ret (pe_ix (ix_listK K) (pe_fn (ok_associates T) hr (by decide) (by rfl) (pa_cons (pv 0) pa_nil)) (pe_un un_neg pe_int) (fun _ _ => rfl)))), ?_⟩
    refine run_ret (ev_ixL (ev_call (ea_cons (ev_var rfl) ea_nil) ⟨q, hq, hz, rfl, rfl⟩) (ev_neg ev_int) ?_) rfl
    have hl : ((Qt.assoc q).map Qt.D).length = 24 := by rw [List.length_map, assoc_len]
    have h23 : 23 < (Qt.assoc q).length := by rw [assoc_len]; decide
    unfold atI
    rw [hl]
    show ((Qt.assoc q).map Qt.D)[23]? = some (Qt.canon q).D
    unfold Qt.canon
    rw [List.getElem?_map, List.getElem?_eq_getElem h23]
    rfl
theorem gcd_pos {q : Qt} (hz : q ≠ Qt.zero) : 0 < Nat.gcd (Nat.gcd q.a.natAbs q.b.natAbs) (Nat.gcd q.c.natAbs q.d.natAbs) := by
  refine Nat.pos_of_ne_zero fun e => hz ?_
  obtain ⟨h1, h2⟩ := Nat.gcd_eq_zero_iff.mp e
  obtain ⟨h3, h4⟩ := Nat.gcd_eq_zero_iff.mp h1
  obtain ⟨h5, h6⟩ := Nat.gcd_eq_zero_iff.mp h2
  obtain ⟨a, b, c, d⟩ := q
  simp only [Qt.zero, Qt.mk.injEq]
  simp only at h3 h4 h5 h6
  omega
theorem gcd_small {q : Qt} (hz : q ≠ Qt.zero) (hs : q.sm 1000000) : Nat.gcd (Nat.gcd q.a.natAbs q.b.natAbs) (Nat.gcd q.c.natAbs q.d.natAbs) ≤ 1000000 := by
  have g1 := Nat.gcd_dvd_left (Nat.gcd q.a.natAbs q.b.natAbs) (Nat.gcd q.c.natAbs q.d.natAbs)
  have g2 := Nat.gcd_dvd_right (Nat.gcd q.a.natAbs q.b.natAbs) (Nat.gcd q.c.natAbs q.d.natAbs)
  have ha := Nat.dvd_trans g1 (Nat.gcd_dvd_left q.a.natAbs q.b.natAbs)
  have hb := Nat.dvd_trans g1 (Nat.gcd_dvd_right q.a.natAbs q.b.natAbs)
  have hc := Nat.dvd_trans g2 (Nat.gcd_dvd_left q.c.natAbs q.d.natAbs)
  have hd := Nat.dvd_trans g2 (Nat.gcd_dvd_right q.c.natAbs q.d.natAbs)
  obtain ⟨⟨a1, a2⟩, ⟨b1, b2⟩, ⟨c1, c2⟩, d1, d2⟩ := hs
  by_cases ea : q.a = 0
  · by_cases eb : q.b = 0
    · by_cases ec : q.c = 0
      · by_cases ed : q.d = 0
        · refine absurd ?_ hz
          obtain ⟨a, b, c, d⟩ := q
          simp only at ea eb ec ed
          rw [ea, eb, ec, ed]
          rfl
        · have := Nat.le_of_dvd (by omega) hd
          omega
      · have := Nat.le_of_dvd (by omega) hc
        omega
    · have := Nat.le_of_dvd (by omega) hb
      omega
  · have := Nat.le_of_dvd (by omega) ha
    omega
def R_content (ds : List D) (d : D) : Prop := ∃ q : Qt, q.ok ∧ q ≠ Qt.zero ∧ q.sm 1000000 ∧ ds = [q.D] ∧ d = .int (Qt.cont q)
abbrev N_content : List Str := ["number", "common", "part"]
theorem sc_content : FnScope N_content ["number"] (defScope (top 20)) := ⟨rfl, rfl, rfl, by decide +kernel, rfl, by decide +kernel, by decide +kernel⟩
theorem ok_content (T : Txt K mg) : Fn P w K mg base 4 "content" R_content := by
  refine fn_mk (T.def_content) sc_content (fun _ _ _ _ _ _ us hl => match us, hl with | [_], _ => rfl) ?len ?body
  case len =>
    rintro ds d ⟨q, _, _, _, rfl, _⟩
    rfl
  case body =>
    rintro f cdv A outer s H E hr ds d ⟨q, hq, hz, hs, rfl, rfl⟩
    refine ⟨_, (pss_cons (ps_expr (pe_fn (ok_check_not_zero T) hr (by decide) (by rfl) (pa_cons (pv 0) pa_nil)))
        (pss_cons (ps_set (i := 1) sc_content.nd rfl (Or.inr rfl) (pe_callBfun cr_gcd (by rfl) T.gcd (pa_cons (pe_callBfun cr_gcd (by rfl) T.gcd (pa_cons (pe_ix (ix_tupK K) (pv 0) pe_int (fun _ _ => rfl)) (pa_cons (pe_ix (ix_tupK K) (pv 0) pe_int (fun _ _ => rfl)) pa_nil))) (pa_cons (pe_callBfun cr_gcd (by rfl) T.gcd (pa_cons (pe_ix (ix_tupK K) (pv 0) pe_int (fun _ _ => rfl)) (pa_cons (pe_ix (ix_tupK K) (pv 0) pe_int (fun _ _ => rfl)) pa_nil))) pa_nil))))
        (pss_cons (ps_if (pt_val (pe_fn (ok_is_number T) hr (by decide) (by rfl) (pa_cons (pe_lc (own := [("part", 2)]) (g := (gName 2)) rfl sc_content.nd (pi_tup (pv 0)) (blkOk_by (own := [("part", 2)]) (N := N_content) (sc := defScope (top 20)) (by decide +kernel)) (fun _ _ _ _ _ => (pg_name (i := 2) sc_content.nd rfl (Or.inl rfl))) (fun _ _ _ _ _ => pts_nil) (fun _ _ _ _ _ => (pe_op op_fdiv (pv 2) (pv 1)))) pa_nil))) (pss_one (ps_ret (pv 1))) pss_nil)
        (pss_one (ps_ret (pe_op op_fdiv (pv 1) pe_int)))))), ?_⟩
    have hg : (0 : Int) < ((Nat.gcd ((Nat.gcd q.a.natAbs q.b.natAbs : Nat) : Int).natAbs ((Nat.gcd q.c.natAbs q.d.natAbs : Nat) : Int).natAbs : Nat) : Int) ∧ ((Nat.gcd ((Nat.gcd q.a.natAbs q.b.natAbs : Nat) : Int).natAbs ((Nat.gcd q.c.natAbs q.d.natAbs : Nat) : Int).natAbs : Nat) : Int) < 1073741824 := by
      rw [Int.natAbs_natCast, Int.natAbs_natCast]
      have h1 := gcd_pos hz
      have h2 := gcd_small hz hs
      omega
    refine run_seq (run_drop (ev_call (ea_cons (ev_var rfl) ea_nil) ⟨q, hq, hz, rfl, rfl⟩) (
      run_seq (run_asg (ev_gcd (ea_cons (ev_gcd (ea_cons (ev_ixT (ev_var rfl) ev_int rfl) (ea_cons (ev_ixT (ev_var rfl) ev_int rfl) ea_nil))) (ea_cons (ev_gcd (ea_cons (ev_ixT (ev_var rfl) ev_int rfl) (ea_cons (ev_ixT (ev_var rfl) ev_int rfl) ea_nil))) ea_nil))) ?_)))
    have ec : Qt.cont q = if Qt.par (q.a / ((Nat.gcd ((Nat.gcd q.a.natAbs q.b.natAbs : Nat) : Int).natAbs ((Nat.gcd q.c.natAbs q.d.natAbs : Nat) : Int).natAbs : Nat) : Int)) (q.b / ((Nat.gcd ((Nat.gcd q.a.natAbs q.b.natAbs : Nat) : Int).natAbs ((Nat.gcd q.c.natAbs q.d.natAbs : Nat) : Int).natAbs : Nat) : Int)) (q.c / ((Nat.gcd ((Nat.gcd q.a.natAbs q.b.natAbs : Nat) : Int).natAbs ((Nat.gcd q.c.natAbs q.d.natAbs : Nat) : Int).natAbs : Nat) : Int)) (q.d / ((Nat.gcd ((Nat.gcd q.a.natAbs q.b.natAbs : Nat) : Int).natAbs ((Nat.gcd q.c.natAbs q.d.natAbs : Nat) : Int).natAbs : Nat) : Int)) = true then ((Nat.gcd ((Nat.gcd q.a.natAbs q.b.natAbs : Nat) : Int).natAbs ((Nat.gcd q.c.natAbs q.d.natAbs : Nat) : Int).natAbs : Nat) : Int) else ((Nat.gcd ((Nat.gcd q.a.natAbs q.b.natAbs : Nat) : Int).natAbs ((Nat.gcd q.c.natAbs q.d.natAbs : Nat) : Int).natAbs : Nat) : Int) / 2 := rfl
    rw [ec]
    generalize ((Nat.gcd ((Nat.gcd q.a.natAbs q.b.natAbs : Nat) : Int).natAbs ((Nat.gcd q.c.natAbs q.d.natAbs : Nat) : Int).natAbs : Nat) : Int) = g at hg
    show Run K _ [.dat q.D, .dat (.int g), .un] _ _
    refine run_seq (run_if (et_B (ev_call (ea_cons (ev_lcI [q.a, q.b, q.c, q.d] (f := fun x => .int (x / g)) (ei_tup (ev_var rfl)) rfl (by simp) (by decide) (fun n hn => ⟨_, eg_name, (ev_I (ev_var rfl) (ev_var rfl) hg)⟩)) ea_nil) ⟨q.a / g, q.b / g, q.c / g, q.d / g, .inr rfl, rfl⟩)) (fun h => run_ret (ev_var rfl) ?_) (fun h => run_next (
      run_ret (ev_I (ev_var rfl) ev_int ⟨by decide, by decide⟩) ?_)))
    · rw [if_pos h]
    · rw [h, if_neg Bool.false_ne_true]
def R_is_primitive (ds : List D) (d : D) : Prop := ∃ q : Qt, q.ok ∧ q ≠ Qt.zero ∧ q.sm 1000000 ∧ ds = [q.D] ∧ d = .bool (Qt.cont q == 1)
abbrev N_is_primitive : List Str := ["number"]
theorem sc_is_primitive : FnScope N_is_primitive ["number"] (defScope (top 21)) := ⟨rfl, rfl, rfl, by decide +kernel, rfl, by decide +kernel, by decide +kernel⟩
theorem ok_is_primitive (T : Txt K mg) : Fn P w K mg base 5 "is_primitive" R_is_primitive := by
  refine fn_mk (T.def_is_primitive) sc_is_primitive (fun _ _ _ _ _ _ us hl => match us, hl with | [_], _ => rfl) ?len ?body
  case len =>
    rintro ds d ⟨q, _, _, _, rfl, _⟩
    rfl
  case body =>
    rintro f cdv A outer s H E hr ds d ⟨q, hq, hz, hs, rfl, rfl⟩
    refine ⟨_, (pss_one (ps_ret (pe_cmpR op_eq (pe_fn (ok_content T) hr (by decide) (by rfl) (pa_cons (pv 0) pa_nil)) pe_int (nomark _)))), ?_⟩
    exact run_ret (ev_eqI (ev_call (ea_cons (ev_var rfl) ea_nil) ⟨q, hq, hz, hs, rfl, rfl⟩) ev_int) rfl
end
end Tp

-- QM
/-! the algebra of numbers of four parts -/
namespace Tp
namespace Qt
theorem exp2 {a e a' e' s t : Int} (h1 : a = 2 * a' + s) (h2 : e = 2 * e' + t) : a * e = 4 * (a' * e') + 2 * (a' * t) + 2 * (s * e') + s * t := by
  subst h1 h2
  grind
/-- doubled parts of a product, all even; the product is a number -/
theorem mul_all {x y : Qt} (hx : x.ok) (hy : y.ok) : (2 * (x.mul y).a = x.a * y.a - x.b * y.b - x.c * y.c - x.d * y.d ∧ 2 * (x.mul y).b = x.a * y.b + x.b * y.a + x.c * y.d - x.d * y.c ∧
    2 * (x.mul y).c = x.a * y.c - x.b * y.d + x.c * y.a + x.d * y.b ∧ 2 * (x.mul y).d = x.a * y.d + x.b * y.c - x.c * y.b + x.d * y.a) ∧ (x.mul y).ok := by
  obtain ⟨a, b, c, d⟩ := x
  obtain ⟨e, f, g, h⟩ := y
  obtain ⟨x1, x2, x3⟩ := hx
  obtain ⟨y1, y2, y3⟩ := hy
  simp only at x1 x2 x3 y1 y2 y3
  unfold mul ok
  simp only
  obtain ⟨a', ea⟩ : ∃ a', a = 2 * a' + a % 2 := ⟨a / 2, by omega⟩
  obtain ⟨b', eb⟩ : ∃ b', b = 2 * b' + a % 2 := ⟨b / 2, by omega⟩
  obtain ⟨c', ec⟩ : ∃ c', c = 2 * c' + a % 2 := ⟨c / 2, by omega⟩
  obtain ⟨d', ed⟩ : ∃ d', d = 2 * d' + a % 2 := ⟨d / 2, by omega⟩
  obtain ⟨e', ee⟩ : ∃ e', e = 2 * e' + e % 2 := ⟨e / 2, by omega⟩
  obtain ⟨f', ef⟩ : ∃ f', f = 2 * f' + e % 2 := ⟨f / 2, by omega⟩
  obtain ⟨g', eg⟩ : ∃ g', g = 2 * g' + e % 2 := ⟨g / 2, by omega⟩
  obtain ⟨h', eh⟩ : ∃ h', h = 2 * h' + e % 2 := ⟨h / 2, by omega⟩
  have ms : a % 2 = 0 ∨ a % 2 = 1 := by omega
  have mt : e % 2 = 0 ∨ e % 2 = 1 := by omega
  rw [exp2 ea ee, exp2 eb ef, exp2 ec eg, exp2 ed eh, exp2 ea ef, exp2 eb ee, exp2 ec eh, exp2 ed eg, exp2 ea eg, exp2 eb eh, exp2 ec ee, exp2 ed ef, exp2 ea eh, exp2 eb eg, exp2 ec ef, exp2 ed ee]
  rcases ms with s | s <;> rcases mt with t | t <;> rw [s, t] <;> simp only [Int.mul_zero, Int.zero_mul, Int.mul_one, Int.one_mul] <;> (refine ⟨⟨?_, ?_, ?_, ?_⟩, ?_, ?_, ?_⟩ <;> omega)
end Qt
end Tp

-- QM2
namespace Tp
namespace Qt
theorem ext {x y : Qt} (h1 : x.a = y.a) (h2 : x.b = y.b) (h3 : x.c = y.c) (h4 : x.d = y.d) : x = y := by
  cases x
  cases y
  simp only at h1 h2 h3 h4
  rw [h1, h2, h3, h4]
theorem assoc_part {u1 u2 u3 u4 z1 z2 z3 z4 l P1 P2 P3 P4 : Int} (e1 : 2 * u1 = P1) (e2 : 2 * u2 = P2) (e3 : 2 * u3 = P3) (e4 : 2 * u4 = P4) (h : 2 * l = u1 * z1 + u2 * z2 + u3 * z3 + u4 * z4) : 4 * l = P1 * z1 + P2 * z2 + P3 * z3 + P4 * z4 := by
  subst e1 e2 e3 e4
  grind
theorem assoc_partR {u1 u2 u3 u4 z1 z2 z3 z4 l P1 P2 P3 P4 : Int} (e1 : 2 * u1 = P1) (e2 : 2 * u2 = P2) (e3 : 2 * u3 = P3) (e4 : 2 * u4 = P4) (h : 2 * l = z1 * u1 + z2 * u2 + z3 * u3 + z4 * u4) : 4 * l = z1 * P1 + z2 * P2 + z3 * P3 + z4 * P4 := by
  subst e1 e2 e3 e4
  grind
theorem mul_assoc {x y z : Qt} (hx : x.ok) (hy : y.ok) (hz : z.ok) : (x.mul y).mul z = x.mul (y.mul z) := by
  obtain ⟨⟨u1, u2, u3, u4⟩, hu⟩ := mul_all hx hy
  obtain ⟨⟨v1, v2, v3, v4⟩, hv⟩ := mul_all hy hz
  obtain ⟨⟨l1, l2, l3, l4⟩, _⟩ := mul_all hu hz
  obtain ⟨⟨r1, r2, r3, r4⟩, _⟩ := mul_all hx hv
  have four : ∀ {p q : Int}, 4 * p = 4 * q → p = q := fun h => by omega
  refine ext (four ?_) (four ?_) (four ?_) (four ?_)
  · rw [assoc_part (z1 := z.a) (z2 := -z.b) (z3 := -z.c) (z4 := -z.d) u1 u2 u3 u4 (by rw [l1]; grind), assoc_partR (z1 := x.a) (z2 := -x.b) (z3 := -x.c) (z4 := -x.d) v1 v2 v3 v4 (by rw [r1]; simp only [Int.neg_mul]; omega)]
    clear u1 u2 u3 u4 v1 v2 v3 v4 l1 l2 l3 l4 r1 r2 r3 r4 hu hv hx hy hz four
    grind
  · rw [assoc_part (z1 := z.b) (z2 := z.a) (z3 := z.d) (z4 := -z.c) u1 u2 u3 u4 (by rw [l2]; grind), assoc_partR (z1 := x.b) (z2 := x.a) (z3 := -x.d) (z4 := x.c) v1 v2 v3 v4 (by rw [r2]; simp only [Int.neg_mul]; omega)]
    clear u1 u2 u3 u4 v1 v2 v3 v4 l1 l2 l3 l4 r1 r2 r3 r4 hu hv hx hy hz four
    grind
  · rw [assoc_part (z1 := z.c) (z2 := -z.d) (z3 := z.a) (z4 := z.b) u1 u2 u3 u4 (by rw [l3]; grind), assoc_partR (z1 := x.c) (z2 := x.d) (z3 := x.a) (z4 := -x.b) v1 v2 v3 v4 (by rw [r3]; simp only [Int.neg_mul]; omega)]
    clear u1 u2 u3 u4 v1 v2 v3 v4 l1 l2 l3 l4 r1 r2 r3 r4 hu hv hx hy hz four
    grind
  · rw [assoc_part (z1 := z.d) (z2 := z.c) (z3 := -z.b) (z4 := z.a) u1 u2 u3 u4 (by rw [l4]; grind), assoc_partR (z1 := x.d) (z2 := -x.c) (z3 := x.b) (z4 := x.a) v1 v2 v3 v4 (by rw [r4]; simp only [Int.neg_mul]; omega)]
    clear u1 u2 u3 u4 v1 v2 v3 v4 l1 l2 l3 l4 r1 r2 r3 r4 hu hv hx hy hz four
    grind
/-- the norm: a quarter of the sum of squares -/
theorem n4_nrm {x : Qt} (hx : x.ok) : x.n4 = 4 * x.nrm := by
  obtain ⟨a, b, c, d⟩ := x
  obtain ⟨x1, x2, x3⟩ := hx
  simp only at x1 x2 x3
  unfold nrm n4
  simp only
  obtain ⟨a', ea⟩ : ∃ a', a = 2 * a' + a % 2 := ⟨a / 2, by omega⟩
  obtain ⟨b', eb⟩ : ∃ b', b = 2 * b' + a % 2 := ⟨b / 2, by omega⟩
  obtain ⟨c', ec⟩ : ∃ c', c = 2 * c' + a % 2 := ⟨c / 2, by omega⟩
  obtain ⟨d', ed⟩ : ∃ d', d = 2 * d' + a % 2 := ⟨d / 2, by omega⟩
  have ms : a % 2 = 0 ∨ a % 2 = 1 := by omega
  rw [exp2 ea ea, exp2 eb eb, exp2 ec ec, exp2 ed ed]
  rcases ms with s | s <;> rw [s] <;> simp only [Int.mul_zero, Int.zero_mul, Int.mul_one, Int.one_mul] <;> omega
theorem n4_mul {x y : Qt} (hx : x.ok) (hy : y.ok) : 4 * (x.mul y).n4 = x.n4 * y.n4 := by
  obtain ⟨⟨u1, u2, u3, u4⟩, hu⟩ := mul_all hx hy
  have e : 4 * (x.mul y).n4 = (2 * (x.mul y).a) * (2 * (x.mul y).a) + (2 * (x.mul y).b) * (2 * (x.mul y).b) + (2 * (x.mul y).c) * (2 * (x.mul y).c) + (2 * (x.mul y).d) * (2 * (x.mul y).d) := by
    clear u1 u2 u3 u4 hu
    unfold n4
    grind
  rw [e, u1, u2, u3, u4]
  clear e u1 u2 u3 u4 hu
  unfold n4
  grind
theorem nrm_mul {x y : Qt} (hx : x.ok) (hy : y.ok) : (x.mul y).nrm = x.nrm * y.nrm := by
  have h := n4_mul hx hy
  rw [n4_nrm (mul_all hx hy).2, n4_nrm hx, n4_nrm hy] at h
  have : 16 * (x.mul y).nrm = 16 * (x.nrm * y.nrm) := by
    rw [show (4 * x.nrm) * (4 * y.nrm) = 16 * (x.nrm * y.nrm) by clear h; grind] at h
    omega
  omega
theorem n4_nonneg (x : Qt) : 0 ≤ x.n4 := by
  have s : ∀ t : Int, 0 ≤ t * t := fun t => by
    rcases Int.le_total 0 t with h | h
    · exact Int.mul_nonneg h h
    · exact Int.mul_nonneg_of_nonpos_of_nonpos h h
  have := s x.a
  have := s x.b
  have := s x.c
  have := s x.d
  unfold n4
  omega
theorem sq_pos {t : Int} (h : t ≠ 0) : 0 < t * t := by
  rcases Int.lt_trichotomy t 0 with h1 | h1 | h1
  · exact Int.mul_pos_of_neg_of_neg h1 h1
  · exact absurd h1 h
  · exact Int.mul_pos h1 h1
theorem sq_nonneg (t : Int) : 0 ≤ t * t := by
  rcases Int.le_total 0 t with h | h
  · exact Int.mul_nonneg h h
  · exact Int.mul_nonneg_of_nonpos_of_nonpos h h
theorem n4_pos {x : Qt} (h : x ≠ zero) : 0 < x.n4 := by
  have := sq_nonneg x.a
  have := sq_nonneg x.b
  have := sq_nonneg x.c
  have := sq_nonneg x.d
  unfold n4
  by_cases h1 : x.a = 0
  · by_cases h2 : x.b = 0
    · by_cases h3 : x.c = 0
      · by_cases h4 : x.d = 0
        · exact absurd (ext h1 h2 h3 h4) h
        · have := sq_pos h4
          omega
      · have := sq_pos h3
        omega
    · have := sq_pos h2
      omega
  · have := sq_pos h1
    omega
theorem nrm_pos {x : Qt} (hx : x.ok) (h : x ≠ zero) : 0 < x.nrm := by
  have := n4_pos h
  rw [n4_nrm hx] at this
  omega
theorem nrm_nonneg {x : Qt} (hx : x.ok) : 0 ≤ x.nrm := by
  have := n4_nonneg x
  rw [n4_nrm hx] at this
  omega
theorem conj_ok {x : Qt} (hx : x.ok) : x.conj.ok := by
  obtain ⟨x1, x2, x3⟩ := hx
  unfold conj ok
  simp only
  omega
theorem sub_ok {x y : Qt} (hx : x.ok) (hy : y.ok) : (x.sub y).ok := by
  obtain ⟨x1, x2, x3⟩ := hx
  obtain ⟨y1, y2, y3⟩ := hy
  unfold sub ok
  simp only
  omega
theorem conj_n4 (x : Qt) : x.conj.n4 = x.n4 := by
  unfold conj n4
  simp only [Int.neg_mul_neg]
theorem zero_ok : zero.ok := by decide
theorem one_ok : one.ok := by decide
/-- n times a number -/
def smul (n : Int) (x : Qt) : Qt := ⟨n * x.a, n * x.b, n * x.c, n * x.d⟩
theorem smul_ok {n : Int} {x : Qt} (hx : x.ok) : (smul n x).ok := by
  obtain ⟨x1, x2, x3⟩ := hx
  unfold smul ok
  simp only
  have h : ∀ {p q : Int}, p % 2 = q % 2 → (n * p) % 2 = (n * q) % 2 := fun {p q} h => by rw [Int.mul_emod, h, ← Int.mul_emod]
  exact ⟨h x1, h x2, h x3⟩
theorem smul_n4 (n : Int) (x : Qt) : (smul n x).n4 = n * n * x.n4 := by
  unfold smul n4
  simp only
  grind
/-- y times its conjugate times x is the norm times x -/
theorem mul_conj {x y : Qt} (hx : x.ok) (hy : y.ok) : y.mul (y.conj.mul x) = smul y.nrm x := by
  obtain ⟨⟨u1, u2, u3, u4⟩, hu⟩ := mul_all (conj_ok hy) hx
  obtain ⟨⟨v1, v2, v3, v4⟩, hv⟩ := mul_all hy hu
  have hn := n4_nrm hy
  unfold n4 at hn
  have four : ∀ {p q : Int}, 4 * p = 4 * q → p = q := fun h => by omega
  unfold smul
  refine ext (four ?_) (four ?_) (four ?_) (four ?_)
  · rw [assoc_partR (z1 := y.a) (z2 := -y.b) (z3 := -y.c) (z4 := -y.d) u1 u2 u3 u4 (by rw [v1]; simp only [Int.neg_mul]; omega)]
    clear u1 u2 u3 u4 v1 v2 v3 v4 hu hv hx hy four
    simp only [conj]
    rw [show 4 * (y.nrm * x.a) = (4 * y.nrm) * x.a by rw [Int.mul_assoc], ← hn]
    clear hn
    grind
  · rw [assoc_partR (z1 := y.b) (z2 := y.a) (z3 := -y.d) (z4 := y.c) u1 u2 u3 u4 (by rw [v2]; simp only [Int.neg_mul]; omega)]
    clear u1 u2 u3 u4 v1 v2 v3 v4 hu hv hx hy four
    simp only [conj]
    rw [show 4 * (y.nrm * x.b) = (4 * y.nrm) * x.b by rw [Int.mul_assoc], ← hn]
    clear hn
    grind
  · rw [assoc_partR (z1 := y.c) (z2 := y.d) (z3 := y.a) (z4 := -y.b) u1 u2 u3 u4 (by rw [v3]; simp only [Int.neg_mul]; omega)]
    clear u1 u2 u3 u4 v1 v2 v3 v4 hu hv hx hy four
    simp only [conj]
    rw [show 4 * (y.nrm * x.c) = (4 * y.nrm) * x.c by rw [Int.mul_assoc], ← hn]
    clear hn
    grind
  · rw [assoc_partR (z1 := y.d) (z2 := -y.c) (z3 := y.b) (z4 := y.a) u1 u2 u3 u4 (by rw [v4]; simp only [Int.neg_mul]; omega)]
    clear u1 u2 u3 u4 v1 v2 v3 v4 hu hv hx hy four
    simp only [conj]
    rw [show 4 * (y.nrm * x.d) = (4 * y.nrm) * x.d by rw [Int.mul_assoc], ← hn]
    clear hn
    grind
end Qt
end Tp

-- QE
/-! dividing with the least remainder, Euclid's way -/
namespace Tp
namespace Qt
def whole (p : Qt) (n : Int) : Qt := ⟨2 * ((p.a + n) / (2 * n)), 2 * ((p.b + n) / (2 * n)), 2 * ((p.c + n) / (2 * n)), 2 * ((p.d + n) / (2 * n))⟩
def halves (p : Qt) (n : Int) : Qt := ⟨2 * (p.a / (2 * n)) + 1, 2 * (p.b / (2 * n)) + 1, 2 * (p.c / (2 * n)) + 1, 2 * (p.d / (2 * n)) + 1⟩
def dist (p : Qt) (n : Int) (w : Qt) : Int := ([(n * w.a - p.a) ^ 2, (n * w.b - p.b) ^ 2, (n * w.c - p.c) ^ 2, (n * w.d - p.d) ^ 2] : List Int).sum
def nearest (p : Qt) (n : Int) : Qt :=
  if (dist p n (whole p n) == dist p n (halves p n)) = true then (if lt (whole p n) (halves p n) = true then halves p n else whole p n)
  else if dist p n (whole p n) < dist p n (halves p n) then whole p n else halves p n
theorem dist_n4 (p : Qt) (n : Int) (w : Qt) : dist p n w = (p.sub (smul n w)).n4 := by
  unfold dist n4 sub smul
  simp only [List.sum_cons, List.sum_nil]
  grind
theorem whole_ok (p : Qt) (n : Int) : (whole p n).ok := by
  unfold whole ok
  simp only
  omega
theorem halves_ok (p : Qt) (n : Int) : (halves p n).ok := by
  unfold halves ok
  simp only
  omega
theorem nearest_or (p : Qt) (n : Int) : nearest p n = whole p n ∨ nearest p n = halves p n := by
  unfold nearest
  split
  · split
    · exact .inr rfl
    · exact .inl rfl
  · split
    · exact .inl rfl
    · exact .inr rfl
theorem nearest_ok (p : Qt) (n : Int) : (nearest p n).ok := by
  rcases nearest_or p n with e | e <;> rw [e]
  · exact whole_ok p n
  · exact halves_ok p n
theorem nearest_le (p : Qt) (n : Int) : dist p n (nearest p n) ≤ dist p n (whole p n) ∧ dist p n (nearest p n) ≤ dist p n (halves p n) := by
  unfold nearest
  split
  · rename_i h
    have e := eq_of_beq h
    split <;> omega
  · split <;> omega
/-- one part: both choices, how far -/
theorem part_near {x n : Int} (hn : 0 < n) : (-n ≤ n * (2 * ((x + n) / (2 * n))) - x ∧ n * (2 * ((x + n) / (2 * n))) - x ≤ n) ∧ (-n ≤ n * (2 * (x / (2 * n)) + 1) - x ∧ n * (2 * (x / (2 * n)) + 1) - x ≤ n) ∧
    (n * (2 * ((x + n) / (2 * n))) - x) * (n * (2 * ((x + n) / (2 * n))) - x) + (n * (2 * (x / (2 * n)) + 1) - x) * (n * (2 * (x / (2 * n)) + 1) - x) ≤ n * n := by
  have h2 : 0 < 2 * n := by omega
  have e1 := Int.emod_add_mul_ediv x (2 * n)
  have l1 := Int.emod_nonneg x (show 2 * n ≠ 0 by omega)
  have l2 := Int.emod_lt_of_pos x h2
  have e2 := Int.emod_add_mul_ediv (x + n) (2 * n)
  have l3 := Int.emod_nonneg (x + n) (show 2 * n ≠ 0 by omega)
  have l4 := Int.emod_lt_of_pos (x + n) h2
  generalize x / (2 * n) = k at *
  generalize (x + n) / (2 * n) = j at *
  generalize x % (2 * n) = t at *
  generalize (x + n) % (2 * n) = s at *
  -- j is k or k + 1
  have ek : n * (2 * k + 1) - x = n - t := by
    rw [← e1]
    clear e1 e2
    grind
  have ej : n * (2 * j) - x = n - s := by
    have : n * (2 * j) = 2 * n * j := by
      clear e1 e2
      grind
    omega
  rw [ek, ej]
  have hjk : j = k ∨ j = k + 1 := by
    have d : 2 * n * (j - k) = t + n - s := by
      have : 2 * n * (j - k) = 2 * n * j - 2 * n * k := Int.mul_sub _ _ _
      omega
    rcases Int.lt_or_le (j - k) 0 with h | h
    · have : 2 * n * (j - k) ≤ 2 * n * (-1) := Int.mul_le_mul_of_nonneg_left (by omega) (by omega)
      omega
    · rcases Int.lt_or_le (j - k) 2 with h' | h'
      · omega
      · have : 2 * n * 2 ≤ 2 * n * (j - k) := Int.mul_le_mul_of_nonneg_left h' (by omega)
        omega
  have hs : s = t + n ∨ s = t - n := by
    rcases hjk with e | e
    · rw [e] at e2
      omega
    · have : 2 * n * j = 2 * n * k + 2 * n := by
        rw [e]
        clear e1 e2
        grind
      omega
  refine ⟨by omega, by omega, ?_⟩
  rcases hs with e | e
  · subst e
    have p1 : 0 ≤ t * (n - t) := Int.mul_nonneg l1 (by omega)
    have e3 : (n - (t + n)) * (n - (t + n)) + (n - t) * (n - t) = n * n - 2 * (t * (n - t)) := by
      clear ek ej hjk e1 e2
      grind
    omega
  · subst e
    have p1 : 0 ≤ (t - n) * (2 * n - t) := Int.mul_nonneg l3 (by omega)
    have e3 : (n - (t - n)) * (n - (t - n)) + (n - t) * (n - t) = n * n - 2 * ((t - n) * (2 * n - t)) := by
      clear ek ej hjk e1 e2
      grind
    omega
theorem sq2 (x : Int) : x ^ 2 = x * x := by grind
theorem dist_eq (p : Qt) (n : Int) (w : Qt) : dist p n w = (n * w.a - p.a) * (n * w.a - p.a) + (n * w.b - p.b) * (n * w.b - p.b) + (n * w.c - p.c) * (n * w.c - p.c) + (n * w.d - p.d) * (n * w.d - p.d) := by
  unfold dist
  simp only [List.sum_cons, List.sum_nil, sq2]
  omega
theorem nearest_dist {p : Qt} {n : Int} (hn : 0 < n) : dist p n (nearest p n) ≤ 2 * (n * n) := by
  obtain ⟨h1, h2⟩ := nearest_le p n
  have e1 := dist_eq p n (whole p n)
  have e2 := dist_eq p n (halves p n)
  have a := (part_near (x := p.a) hn).2.2
  have b := (part_near (x := p.b) hn).2.2
  have c := (part_near (x := p.c) hn).2.2
  have d := (part_near (x := p.d) hn).2.2
  simp only [whole] at e1
  simp only [halves] at e2
  unfold whole at h1
  unfold halves at h2
  omega
/-- each part of the quotient is near -/
theorem nearest_near {p : Qt} {n : Int} (hn : 0 < n) : (p.sub (smul n (nearest p n))).sm n := by
  have a := (part_near (x := p.a) hn)
  have b := (part_near (x := p.b) hn)
  have c := (part_near (x := p.c) hn)
  have d := (part_near (x := p.d) hn)
  rcases nearest_or p n with e | e <;> rw [e]
  · unfold sm sub smul whole
    simp only
    omega
  · unfold sm sub smul halves
    simp only
    omega
def quo (x y : Qt) : Qt := nearest (y.conj.mul x) y.nrm
def rst (x y : Qt) : Qt := x.sub (y.mul (quo x y))
theorem mul_sub {y a b : Qt} (hy : y.ok) (ha : a.ok) (hb : b.ok) : y.mul (a.sub b) = (y.mul a).sub (y.mul b) := by
  obtain ⟨⟨u1, u2, u3, u4⟩, _⟩ := mul_all hy (sub_ok ha hb)
  obtain ⟨⟨v1, v2, v3, v4⟩, _⟩ := mul_all hy ha
  obtain ⟨⟨w1, w2, w3, w4⟩, _⟩ := mul_all hy hb
  have e : ∀ t : Qt, (y.mul a).sub (y.mul b) = ⟨(y.mul a).a - (y.mul b).a, (y.mul a).b - (y.mul b).b, (y.mul a).c - (y.mul b).c, (y.mul a).d - (y.mul b).d⟩ := fun _ => rfl
  have ea : (a.sub b).a = a.a - b.a := rfl
  have eb : (a.sub b).b = a.b - b.b := rfl
  have ec : (a.sub b).c = a.c - b.c := rfl
  have ed : (a.sub b).d = a.d - b.d := rfl
  rw [ea, eb, ec, ed] at u1 u2 u3 u4
  simp only [Int.mul_sub] at u1 u2 u3 u4
  rw [e one]
  refine ext ?_ ?_ ?_ ?_ <;> simp only <;> omega
theorem mul_smul {y a : Qt} {n : Int} (hy : y.ok) (ha : a.ok) : y.mul (smul n a) = smul n (y.mul a) := by
  obtain ⟨⟨u1, u2, u3, u4⟩, _⟩ := mul_all hy (smul_ok (n := n) ha)
  obtain ⟨⟨v1, v2, v3, v4⟩, _⟩ := mul_all hy ha
  have two : ∀ {p q : Int}, 2 * p = 2 * q → p = q := fun h => by omega
  have ea : (smul n a).a = n * a.a := rfl
  have eb : (smul n a).b = n * a.b := rfl
  have ec : (smul n a).c = n * a.c := rfl
  have ed : (smul n a).d = n * a.d := rfl
  rw [ea, eb, ec, ed] at u1 u2 u3 u4
  have r : ∀ t : Int, 2 * (n * t) = n * (2 * t) := fun t => by
    clear u1 u2 u3 u4 v1 v2 v3 v4
    grind
  refine ext (two ?_) (two ?_) (two ?_) (two ?_)
  · rw [u1, show (smul n (y.mul a)).a = n * (y.mul a).a from rfl, r, v1]
    clear u1 u2 u3 u4 v1 v2 v3 v4
    grind
  · rw [u2, show (smul n (y.mul a)).b = n * (y.mul a).b from rfl, r, v2]
    clear u1 u2 u3 u4 v1 v2 v3 v4
    grind
  · rw [u3, show (smul n (y.mul a)).c = n * (y.mul a).c from rfl, r, v3]
    clear u1 u2 u3 u4 v1 v2 v3 v4
    grind
  · rw [u4, show (smul n (y.mul a)).d = n * (y.mul a).d from rfl, r, v4]
    clear u1 u2 u3 u4 v1 v2 v3 v4
    grind
theorem smul_sub (n : Int) (a b : Qt) : smul n (a.sub b) = (smul n a).sub (smul n b) := by
  unfold smul sub
  simp only [Int.mul_sub]
theorem quo_ok (x y : Qt) : (quo x y).ok := nearest_ok _ _
theorem rst_ok {x y : Qt} (hx : x.ok) (hy : y.ok) : (rst x y).ok := sub_ok hx (mul_all hy (quo_ok x y)).2
/-- the remainder has at most half the norm -/
theorem rst_n4 {x y : Qt} (hx : x.ok) (hy : y.ok) (hz : y ≠ zero) : 2 * (rst x y).n4 ≤ y.n4 := by
  have hn := nrm_pos hy hz
  have hp := (mul_all (conj_ok hy) hx).2
  have hq := quo_ok x y
  have e1 : smul y.nrm (rst x y) = y.mul ((y.conj.mul x).sub (smul y.nrm (quo x y))) := by
    unfold rst
    rw [smul_sub, mul_sub hy hp (smul_ok hq), mul_conj hx hy, mul_smul hy hq]
  have e2 : 4 * (smul y.nrm (rst x y)).n4 = y.n4 * ((y.conj.mul x).sub (smul y.nrm (quo x y))).n4 := by
    rw [e1, n4_mul hy (sub_ok hp (smul_ok hq))]
  have h1 := nearest_dist (p := y.conj.mul x) hn
  rw [dist_n4] at h1
  rw [smul_n4] at e2
  have h4 := n4_nrm hy
  have hq2 : nearest (y.conj.mul x) y.nrm = quo x y := rfl
  rw [hq2] at h1
  rw [h4] at e2 ⊢
  generalize y.nrm = n at *
  generalize ((y.conj.mul x).sub (smul n (quo x y))).n4 = w at *
  generalize (rst x y).n4 = r at *
  -- 4 n n r = 4 n w, w ≤ 2 n n
  have h5 : 4 * n * w ≤ 4 * n * (2 * (n * n)) := Int.mul_le_mul_of_nonneg_left h1 (by omega)
  have e6 : (4 * (n * n)) * r ≤ (4 * (n * n)) * (2 * n) := by
    have a1 : 4 * (n * n) * r = 4 * (n * n * r) := by
      clear e2 h1 h5
      grind
    have a2 : 4 * (n * n) * (2 * n) = 4 * n * (2 * (n * n)) := by
      clear e2 h1 h5
      grind
    omega
  have hpos : 0 < 4 * (n * n) := by
    have := Int.mul_pos hn hn
    omega
  have := Int.le_of_mul_le_mul_left e6 hpos
  omega
theorem sm_of_n4 {x : Qt} {B C : Int} (h : x.n4 ≤ C) (hB : 0 ≤ B) (hC : C < (B + 1) * (B + 1)) : x.sm B := by
  have k : ∀ t : Int, t * t ≤ C → -B ≤ t ∧ t ≤ B := fun t ht => by
    constructor
    · rcases Int.lt_or_le t (-B) with z | z
      · have : (B + 1) * (B + 1) ≤ (-t) * (-t) := Int.mul_le_mul (by omega) (by omega) (by omega) (by omega)
        rw [Int.neg_mul_neg] at this
        omega
      · exact z
    · rcases Int.lt_or_le B t with z | z
      · have : (B + 1) * (B + 1) ≤ t * t := Int.mul_le_mul (by omega) (by omega) (by omega) (by omega)
        omega
      · exact z
  have := sq_nonneg x.a
  have := sq_nonneg x.b
  have := sq_nonneg x.c
  have := sq_nonneg x.d
  unfold n4 at h
  exact ⟨k _ (by omega), k _ (by omega), k _ (by omega), k _ (by omega)⟩
/-- the bound of all numbers that are divided here -/
abbrev lim : Int := 60000
theorem lim_sm {x : Qt} (h : x.n4 ≤ lim) : x.sm 245 := sm_of_n4 h (by decide) (by decide)
theorem sm_mono {x : Qt} {B C : Int} (h : x.sm B) (hB : B ≤ C) : x.sm C := by
  unfold sm at *
  omega
theorem conj_mul_sm {x y : Qt} (hx : x.ok) (hy : y.ok) (lx : x.n4 ≤ lim) (ly : y.n4 ≤ lim) : (y.conj.mul x).sm 30000 := by
  have h := n4_mul (conj_ok hy) hx
  rw [conj_n4] at h
  have h1 : y.n4 * x.n4 ≤ lim * lim := Int.mul_le_mul ly lx (n4_nonneg x) (by decide)
  refine sm_of_n4 (C := 900000000) ?_ (by decide) (by decide)
  have : lim * lim = 3600000000 := by decide
  omega
theorem nrm_lim {y : Qt} (hy : y.ok) (ly : y.n4 ≤ lim) : y.nrm ≤ 15000 := by
  rw [n4_nrm hy] at ly
  simp only [lim] at ly
  omega
theorem quo_sm {x y : Qt} (hx : x.ok) (hy : y.ok) (hz : y ≠ zero) (lx : x.n4 ≤ lim) (ly : y.n4 ≤ lim) : (quo x y).sm 30001 := by
  have hp := conj_mul_sm hx hy lx ly
  have hn := nrm_pos hy hz
  have hq := nearest_near (p := y.conj.mul x) hn
  have k : ∀ {p q n : Int}, 0 < n → -30000 ≤ p → p ≤ 30000 → -n ≤ p - n * q → p - n * q ≤ n → -30001 ≤ q ∧ q ≤ 30001 := fun {p q n} h0 h1 h2 h3 h4 => by
    constructor
    · rcases Int.lt_or_le q (-30001) with z | z
      · have : n * q ≤ n * (-30002) := Int.mul_le_mul_of_nonneg_left (by omega) (by omega)
        omega
      · exact z
    · rcases Int.lt_or_le 30001 q with z | z
      · have : n * 30002 ≤ n * q := Int.mul_le_mul_of_nonneg_left (by omega) (by omega)
        omega
      · exact z
  unfold sm at *
  simp only [sub, smul] at hq
  obtain ⟨⟨p1, p2⟩, ⟨p3, p4⟩, ⟨p5, p6⟩, p7, p8⟩ := hp
  obtain ⟨⟨q1, q2⟩, ⟨q3, q4⟩, ⟨q5, q6⟩, q7, q8⟩ := hq
  exact ⟨k hn p1 p2 q1 q2, k hn p3 p4 q3 q4, k hn p5 p6 q5 q6, k hn p7 p8 q7 q8⟩
end Qt
end Tp

-- F4
/-! dividing.py -/
namespace Tp
open PySem PySem.Spec PyProof.Rows L2 DL
section
variable {P : Program} {w : World} {K : PySem.W.Frag} {mg : Str → Option Value} {base : Heap}
def R_distance_of (ds : List D) (d : D) : Prop := ∃ (p : Qt) (n : Int) (q : Qt), (-big < n ∧ n < big) ∧ (p.sub (Qt.smul n q)).sm big ∧ ds = [p.D, .int n, q.D] ∧ d = .int (Qt.dist p n q)
abbrev N_distance_of : List Str := ["parts", "size", "number", "near", "part"]
theorem sc_distance_of : FnScope N_distance_of ["parts", "size", "number"] (defScope (top 24)) := ⟨rfl, rfl, rfl, by decide +kernel, rfl, by decide +kernel, by decide +kernel⟩
theorem ok_distance_of (T : Txt K mg) : Fn P w K mg base 1 "distance_of" R_distance_of := by
  refine fn_mk (T.def_distance_of) sc_distance_of (fun _ _ _ _ _ _ us hl => match us, hl with | [_, _, _], _ => rfl) ?len ?body
  case len =>
    rintro ds d ⟨p, n, q, _, _, rfl, _⟩
    rfl
  case body =>
    rintro f cdv A outer s H E hr ds d ⟨p, n, q, hn, hs, rfl, rfl⟩
    refine ⟨_, (pss_one (ps_ret (pe_callB (cr_sumK K rfl) (by rfl) T.b_sum (by decide +kernel) (pa_cons (pe_lc (own := [("near", 3), ("part", 4)]) (g := (gTup K 2 (gNames [3, 4]))) rfl sc_distance_of.nd (RZ.pi_zipA (by rfl) T.b_zip (pa_cons (pv 2) (pa_cons (pv 0) pa_nil))) (blkOk_by (own := [("near", 3), ("part", 4)]) (N := N_distance_of) (sc := defScope (top 24)) (by decide +kernel)) (fun _ _ _ _ _ => (pg_tup rfl (pgs_cons (pg_name (i := 3) sc_distance_of.nd rfl (Or.inl rfl)) (pgs_cons (pg_name (i := 4) sc_distance_of.nd rfl (Or.inl rfl)) pgs_nil)))) (fun _ _ _ _ _ => pts_nil) (fun _ _ _ _ _ => (pe_op op_pow (pe_op op_sub (pe_op op_mul (pv 1) (pv 3)) (pv 4)) pe_int))) pa_nil)))), ?_⟩
    refine run_ret (ev_sum (ns := [(n * q.a - p.a) ^ 2, (n * q.b - p.b) ^ 2, (n * q.c - p.c) ^ 2, (n * q.d - p.d) ^ 2]) (ea_cons (ev_lcM (α := Int × Int) (fun z => .tuple [.int z.1, .int z.2]) [(q.a, p.a), (q.b, p.b), (q.c, p.c), (q.d, p.d)] (f := fun z => .int ((n * z.1 - z.2) ^ 2))
      (ei_zipT (ea_cons (ev_var rfl) (ea_cons (ev_var rfl) ea_nil))) rfl (by simp) (by decide) (fun z hz => ⟨_, (eg_tup (egs_names rfl)), (ev_I (ev_I0 (ev_I (ev_var rfl) (ev_var rfl) ?_) (ev_var rfl)) ev_int ⟨by decide, by decide, ?_⟩)⟩)) ea_nil)) rfl
    · left
      simp only [big] at hn
      constructor <;> omega
    · have h2 : (2 : Int) ^ 64 = 18446744073709551616 := by decide
      simp only [Qt.sm, Qt.sub, Qt.smul, big] at hs
      simp only [List.mem_cons, List.not_mem_nil, or_false] at hz
      rcases hz with rfl | rfl | rfl | rfl <;> (show Int.natAbs _ < 18446744073709551616; simp only; omega)
def R_nearest (ds : List D) (d : D) : Prop := ∃ (p : Qt) (n : Int), 0 < n ∧ n < 536870912 ∧ ds = [p.D, .int n] ∧ d = (Qt.nearest p n).D
theorem whole_near {p : Qt} {n : Int} (h : 0 < n) : (p.sub (Qt.smul n (Qt.whole p n))).sm n := by
  have a := (Qt.part_near (x := p.a) h)
  have b := (Qt.part_near (x := p.b) h)
  have c := (Qt.part_near (x := p.c) h)
  have d := (Qt.part_near (x := p.d) h)
  unfold Qt.sm Qt.sub Qt.smul Qt.whole
  simp only
  omega
theorem halves_near {p : Qt} {n : Int} (h : 0 < n) : (p.sub (Qt.smul n (Qt.halves p n))).sm n := by
  have a := (Qt.part_near (x := p.a) h)
  have b := (Qt.part_near (x := p.b) h)
  have c := (Qt.part_near (x := p.c) h)
  have d := (Qt.part_near (x := p.d) h)
  unfold Qt.sm Qt.sub Qt.smul Qt.halves
  simp only
  omega
theorem CMul_l {i j : Int} (h1 : -18446744073709551616 < i) (h2 : i < 18446744073709551616) : CMul i j := .inl ⟨h1, h2⟩
theorem CMul_r {i j : Int} (h1 : -18446744073709551616 < j) (h2 : j < 18446744073709551616) : CMul i j := .inr ⟨h1, h2⟩
abbrev N_nearest : List Str := ["parts", "size", "whole", "part", "halves", "far", "further"]
theorem sc_nearest : FnScope N_nearest ["parts", "size"] (defScope (top 25)) := ⟨rfl, rfl, rfl, by decide +kernel, rfl, by decide +kernel, by decide +kernel⟩
theorem ok_nearest (T : Txt K mg) : Fn P w K mg base 2 "nearest" R_nearest := by
  refine fn_mk (T.def_nearest) sc_nearest (fun _ _ _ _ _ _ us hl => match us, hl with | [_, _], _ => rfl) ?len ?body
  case len =>
    rintro ds d ⟨p, n, _, _, rfl, _⟩
    rfl
  case body =>
    rintro f cdv A outer s H E hr ds d ⟨p, n, h0, h1, rfl, rfl⟩
    refine ⟨_, (pss_cons (ps_set (i := 2) sc_nearest.nd rfl (Or.inl rfl) (pe_tupleK K (by rfl) T.b_tuple (pe_lc (own := [("part", 3)]) (g := (gName 3)) rfl sc_nearest.nd (pi_tup (pv 0)) (blkOk_by (own := [("part", 3)]) (N := N_nearest) (sc := defScope (top 25)) (by decide +kernel)) (fun _ _ _ _ _ => (pg_name (i := 3) sc_nearest.nd rfl (Or.inl rfl))) (fun _ _ _ _ _ => pts_nil) (fun _ _ _ _ _ => (pe_op op_mul pe_int (pe_op op_fdiv (pe_op op_add (pv 3) (pv 1)) (pe_op op_mul pe_int (pv 1))))))))
        (pss_cons (ps_set (i := 4) sc_nearest.nd rfl (Or.inl rfl) (pe_tupleK K (by rfl) T.b_tuple (pe_lc (own := [("part", 3)]) (g := (gName 3)) rfl sc_nearest.nd (pi_tup (pv 0)) (blkOk_by (own := [("part", 3)]) (N := N_nearest) (sc := defScope (top 25)) (by decide +kernel)) (fun _ _ _ _ _ => (pg_name (i := 3) sc_nearest.nd rfl (Or.inl rfl))) (fun _ _ _ _ _ => pts_nil) (fun _ _ _ _ _ => (pe_op op_add (pe_op op_mul pe_int (pe_op op_fdiv (pv 3) (pe_op op_mul pe_int (pv 1)))) pe_int)))))
        (pss_cons (ps_set (i := 5) sc_nearest.nd rfl (Or.inl rfl) (pe_fn (ok_distance_of T) hr (by decide) (by rfl) (pa_cons (pv 0) (pa_cons (pv 1) (pa_cons (pv 2) pa_nil)))))
        (pss_cons (ps_set (i := 6) sc_nearest.nd rfl (Or.inl rfl) (pe_fn (ok_distance_of T) hr (by decide) (by rfl) (pa_cons (pv 0) (pa_cons (pv 1) (pa_cons (pv 4) pa_nil)))))
        (pss_cons (ps_if (pt_cmpR op_eq (pv 5) (pv 6) (nomark _)) (pss_one (ps_ret (pe_callB (cr_max2D rfl hr.units) (by rfl) T.b_max (by decide +kernel) (pa_cons (pv 2) (pa_cons (pv 4) pa_nil))))) pss_nil)
        (pss_one (ps_ret (pe_ifExp (pt_cmpR op_lt (pv 5) (pv 6) (nomark _)) (pv 2) (pv 4))))))))), ?_⟩
    have hb : n ≤ big := by simp only [big]; omega
    have hb2 : -big < n ∧ n < big := by simp only [big]; omega
    have m2 : ∀ k : Int, CMul 2 k := fun k => CMul_l (by decide) (by decide)
    have dv : ∀ i : Int, CDiv i (2 * n) := fun i => ⟨by omega, by omega⟩
    refine run_seq (run_asg (ev_tupL (ev_lcI [p.a, p.b, p.c, p.d] (f := fun x => .int (2 * ((x + n) / (2 * n)))) (ei_tup (ev_var rfl)) rfl (by simp) (by decide) (fun x hx => ⟨_, eg_name, (ev_I ev_int (ev_I (ev_I0 (ev_var rfl) (ev_var rfl)) (ev_I ev_int (ev_var rfl) (m2 _)) (dv _)) (m2 _))⟩))) ?_)
    show Run K _ [.dat p.D, .dat (.int n), .dat (Qt.whole p n).D, .un, .un, .un, .un] _ _
    refine run_seq (run_asg (ev_tupL (ev_lcI [p.a, p.b, p.c, p.d] (f := fun x => .int (2 * (x / (2 * n)) + 1)) (ei_tup (ev_var rfl)) rfl (by simp) (by decide) (fun x hx => ⟨_, eg_name, (ev_I0 (ev_I ev_int (ev_I (ev_var rfl) (ev_I ev_int (ev_var rfl) (m2 _)) (dv _)) (m2 _)) ev_int)⟩))) ?_)
    show Run K _ [.dat p.D, .dat (.int n), .dat (Qt.whole p n).D, .un, .dat (Qt.halves p n).D, .un, .un] _ _
    refine run_seq (run_asg (ev_call (ea_cons (ev_var rfl) (ea_cons (ev_var rfl) (ea_cons (ev_var rfl) ea_nil))) ⟨p, n, Qt.whole p n, hb2, Qt.sm_mono (whole_near h0) hb, rfl, rfl⟩) ?_)
    refine run_seq (run_asg (ev_call (ea_cons (ev_var rfl) (ea_cons (ev_var rfl) (ea_cons (ev_var rfl) ea_nil))) ⟨p, n, Qt.halves p n, hb2, Qt.sm_mono (halves_near h0) hb, rfl, rfl⟩) ?_)
    show Run K _ [.dat p.D, .dat (.int n), .dat (Qt.whole p n).D, .un, .dat (Qt.halves p n).D, .dat (.int (Qt.dist p n (Qt.whole p n))), .dat (.int (Qt.dist p n (Qt.halves p n)))] _ _
    refine run_seq (run_if (et_test (ev_eqI (ev_var rfl) (ev_var rfl))) (fun h => run_ret (ev_max2D (ea_cons (ev_var rfl) (ea_cons (ev_var rfl) ea_nil)) (alikeAll_qt [Qt.whole p n, Qt.halves p n]) ?_) ?_) (fun h => run_next (
      run_ret (d := (Qt.nearest p n).D) (ev_if (et_test (ev_B0 (ev_var rfl) (ev_var rfl))) (fun h2 => ?_) (fun h2 => ?_)) rfl)))
    · simp only [Qt.D, PyData.depthAll, PyData.depth]
      decide
    · unfold Qt.nearest
      rw [if_pos h, dataLt_qt]
      split <;> rfl
    · refine ev_var ?_
      unfold Qt.nearest
      rw [if_neg (by rw [h]; exact Bool.false_ne_true), if_pos (of_decide_eq_true h2)]
      rfl
    · refine ev_var ?_
      unfold Qt.nearest
      rw [if_neg (by rw [h]; exact Bool.false_ne_true), if_neg (of_decide_eq_false h2)]
      rfl
def R_check_pair (ds : List D) (d : D) : Prop := ∃ x y : Qt, x.ok ∧ y.ok ∧ y ≠ Qt.zero ∧ ds = [x.D, y.D] ∧ d = .none
abbrev N_check_pair : List Str := ["number", "divisor"]
theorem sc_check_pair : FnScope N_check_pair ["number", "divisor"] (defScope (top 26)) := ⟨rfl, rfl, rfl, by decide +kernel, rfl, by decide +kernel, by decide +kernel⟩
theorem ok_check_pair (T : Txt K mg) : Fn P w K mg base 4 "check_pair" R_check_pair := by
  refine fn_mk (T.def_check_pair) sc_check_pair (fun _ _ _ _ _ _ us hl => match us, hl with | [_, _], _ => rfl) ?len ?body
  case len =>
    rintro ds d ⟨x, y, _, _, _, rfl, _⟩
    rfl
  case body =>
    rintro f cdv A outer s H E hr ds d ⟨x, y, hx, hy, hz, rfl, rfl⟩
    refine ⟨_, (pss_cons (ps_expr (pe_fn (ok_check_number T) hr (by decide) (by rfl) (pa_cons (pv 0) pa_nil)))
        (pss_one (ps_expr (pe_fn (ok_check_not_zero T) hr (by decide) (by rfl) (pa_cons (pv 1) pa_nil))))), ?_⟩
    exact run_seq (run_drop (ev_call (ea_cons (ev_var rfl) ea_nil) ⟨x, hx, rfl, rfl⟩) (run_drop (ev_call (ea_cons (ev_var rfl) ea_nil) ⟨y, hy, hz, rfl, rfl⟩) rfl))
def R_divided_left (ds : List D) (d : D) : Prop := ∃ x y : Qt, x.ok ∧ y.ok ∧ y ≠ Qt.zero ∧ x.n4 ≤ Qt.lim ∧ y.n4 ≤ Qt.lim ∧ ds = [x.D, y.D] ∧ d = .tuple [(Qt.quo x y).D, (Qt.rst x y).D]
abbrev N_divided_left : List Str := ["number", "divisor", "quotient"]
theorem sc_divided_left : FnScope N_divided_left ["number", "divisor"] (defScope (top 27)) := ⟨rfl, rfl, rfl, by decide +kernel, rfl, by decide +kernel, by decide +kernel⟩
theorem ok_divided_left (T : Txt K mg) : Fn P w K mg base 5 "divided_left" R_divided_left := by
  refine fn_mk (T.def_divided_left) sc_divided_left (fun _ _ _ _ _ _ us hl => match us, hl with | [_, _], _ => rfl) ?len ?body
  case len =>
    rintro ds d ⟨x, y, _, _, _, _, _, rfl, _⟩
    rfl
  case body =>
    rintro f cdv A outer s H E hr ds d ⟨x, y, hx, hy, hz, lx, ly, rfl, rfl⟩
    refine ⟨_, (pss_cons (ps_expr (pe_fn (ok_check_pair T) hr (by decide) (by rfl) (pa_cons (pv 0) (pa_cons (pv 1) pa_nil))))
        (pss_cons (ps_set (i := 2) sc_divided_left.nd rfl (Or.inl rfl) (pe_fn (ok_nearest T) hr (by decide) (by rfl) (pa_cons (pe_fn (ok_product T) hr (by decide) (by rfl) (pa_cons (pe_fn (ok_conjugate T) hr (by decide) (by rfl) (pa_cons (pv 1) pa_nil)) (pa_cons (pv 0) pa_nil))) (pa_cons (pe_fn (ok_norm T) hr (by decide) (by rfl) (pa_cons (pv 1) pa_nil)) pa_nil))))
        (pss_one (ps_ret (pe_tup (pa_cons (pv 2) (pa_cons (pe_fn (ok_less T) hr (by decide) (by rfl) (pa_cons (pv 0) (pa_cons (pe_fn (ok_product T) hr (by decide) (by rfl) (pa_cons (pv 1) (pa_cons (pv 2) pa_nil))) pa_nil))) pa_nil))))))), ?_⟩
    have sx : x.sm big := Qt.sm_mono (Qt.lim_sm lx) (by decide)
    have sy : y.sm big := Qt.sm_mono (Qt.lim_sm ly) (by decide)
    have hn := Qt.nrm_pos hy hz
    have hn2 : y.nrm < 536870912 := by have := Qt.nrm_lim hy ly; omega
    have sq : (Qt.quo x y).sm big := Qt.sm_mono (Qt.quo_sm hx hy hz lx ly) (by decide)
    have kq := Qt.quo_ok x y
    refine run_seq (run_drop (ev_call (ea_cons (ev_var rfl) (ea_cons (ev_var rfl) ea_nil)) ⟨x, y, hx, hy, hz, rfl, rfl⟩) (
      run_seq (run_asg (d := (Qt.quo x y).D) (ev_call (ea_cons (ev_call (ea_cons (ev_call (ea_cons (ev_var rfl) ea_nil) ⟨y, hy, rfl, rfl⟩) (ea_cons (ev_var rfl) ea_nil)) ⟨y.conj, x, Qt.conj_ok hy, hx, sx, rfl, rfl⟩) (ea_cons (ev_call (ea_cons (ev_var rfl) ea_nil) ⟨y, hy, sy, rfl, rfl⟩) ea_nil)) ⟨y.conj.mul x, y.nrm, hn, hn2, rfl, rfl⟩) (
      run_ret (ev_tup (ea_cons (ev_var rfl) (ea_cons (ev_call (ea_cons (ev_var rfl) (ea_cons (ev_call (ea_cons (ev_var rfl) (ea_cons (ev_var rfl) ea_nil)) ⟨y, Qt.quo x y, hy, kq, sq, rfl, rfl⟩) ea_nil)) ⟨x, y.mul (Qt.quo x y), hx, (Qt.mul_all hy kq).2, rfl, rfl⟩) ea_nil)) (sz 2)) rfl))))
def R_left_quotient (ds : List D) (d : D) : Prop := ∃ x y : Qt, x.ok ∧ y.ok ∧ y ≠ Qt.zero ∧ x.n4 ≤ Qt.lim ∧ y.n4 ≤ Qt.lim ∧ ds = [x.D, y.D] ∧ Qt.rst x y = Qt.zero ∧ d = (Qt.quo x y).D
abbrev N_left_quotient : List Str := ["number", "divisor", "quotient", "rest"]
theorem sc_left_quotient : FnScope N_left_quotient ["number", "divisor"] (defScope (top 28)) := ⟨rfl, rfl, rfl, by decide +kernel, rfl, by decide +kernel, by decide +kernel⟩
theorem ok_left_quotient (T : Txt K mg) : Fn P w K mg base 6 "left_quotient" R_left_quotient := by
  refine fn_mk (T.def_left_quotient) sc_left_quotient (fun _ _ _ _ _ _ us hl => match us, hl with | [_, _], _ => rfl) ?len ?body
  case len =>
    rintro ds d ⟨x, y, _, _, _, _, _, rfl, _, _⟩
    rfl
  case body =>
    rintro f cdv A outer s H E hr ds d ⟨x, y, hx, hy, hz, lx, ly, rfl, h0, rfl⟩
    refine ⟨_, (pss_cons (ps_asg (pe_fn (ok_divided_left T) hr (by decide) (by rfl) (pa_cons (pv 0) (pa_cons (pv 1) pa_nil))) (pg_tup rfl (pgs_cons (pg_name (i := 2) sc_left_quotient.nd rfl (Or.inl rfl)) (pgs_cons (pg_name (i := 3) sc_left_quotient.nd rfl (Or.inl rfl)) pgs_nil))))
        (pss_one (ps_ret (pe_ifExp (pt_cmpR (op_eqK K hr.units) (pv 3) (C8.pe_gc (by rfl) T.ZERO_dividing) (nomark _)) (pv 2) pe_non)))), ?_⟩
    refine run_seq (run_unpackT [2, 3] (ev_call (ea_cons (ev_var rfl) (ea_cons (ev_var rfl) ea_nil)) ⟨x, y, hx, hy, hz, lx, ly, rfl, rfl⟩) rfl rfl (
      run_ret (ev_if (et_test (ev_eqD (ev_var rfl) T.ev_ZERO_dividing rfl rfl)) (fun h => (ev_var rfl)) (fun h => ?_)) rfl))
    rw [h0] at h
    exact absurd h (by decide)
end
end Tp

-- QF
/-! Euclid's way: what divides -/
namespace Tp
namespace Qt
structure E6 where
  x : Qt
  xa : Qt
  xb : Qt
  y : Qt
  ya : Qt
  yb : Qt
def E6.N (s : E6) : PySem.PyData := .tuple [s.x.D, s.xa.D, s.xb.D]
def E6.F (s : E6) : PySem.PyData := .tuple [s.y.D, s.ya.D, s.yb.D]
def stepE (s : E6) : E6 := ⟨s.y, s.ya, s.yb, rst s.x s.y, s.xa.sub (s.ya.mul (quo s.x s.y)), s.xb.sub (s.yb.mul (quo s.x s.y))⟩
def runE : Nat → E6 → E6
  | 0, s => s
  | m + 1, s => if s.y = zero then s else runE m (stepE s)
structure E6.Good (s : E6) : Prop where
  x : s.x.ok
  xa : s.xa.ok
  xb : s.xb.ok
  y : s.y.ok
  ya : s.ya.ok
  yb : s.yb.ok
  lx : s.x.n4 ≤ lim
  ly : s.y.n4 ≤ lim
theorem good_step {s : E6} (g : s.Good) (hz : s.y ≠ zero) : (stepE s).Good := by
  have h := rst_n4 g.x g.y hz
  have l := g.ly
  have n := n4_nonneg (rst s.x s.y)
  exact ⟨g.y, g.ya, g.yb, rst_ok g.x g.y, sub_ok g.xa (mul_all g.ya (quo_ok _ _)).2, sub_ok g.xb (mul_all g.yb (quo_ok _ _)).2, g.ly, show (rst s.x s.y).n4 ≤ lim by omega⟩
theorem step_nrm {s : E6} (g : s.Good) (hz : s.y ≠ zero) {m : Nat} (h : s.y.nrm < 2 ^ (m + 1)) : (stepE s).y.nrm < 2 ^ m := by
  have e := rst_n4 g.x g.y hz
  rw [n4_nrm (rst_ok g.x g.y), n4_nrm g.y] at e
  have : (2 : Int) ^ (m + 1) = 2 * 2 ^ m := by
    rw [Int.pow_succ]
    omega
  show (rst s.x s.y).nrm < 2 ^ m
  omega
theorem run_zero {s : E6} (h : s.y = zero) : ∀ m, runE m s = s
  | 0 => rfl
  | m + 1 => if_pos h
theorem runE_step {s : E6} (h : s.y ≠ zero) (m : Nat) : runE (m + 1) s = runE m (stepE s) := if_neg h
theorem nrm_lt_one {x : Qt} (hx : x.ok) (h : x.nrm < 1) : x = zero := by
  by_cases e : x = zero
  · exact e
  · have := nrm_pos hx e
    omega
theorem run_end : ∀ (m : Nat) {s : E6}, s.Good → s.y.nrm < 2 ^ m → (runE m s).y = zero ∧ (runE m s).Good
  | 0, s, g, h => ⟨nrm_lt_one g.y (show s.y.nrm < 1 from h), g⟩
  | m + 1, s, g, h => by
    by_cases e : s.y = zero
    · rw [run_zero e]
      exact ⟨e, g⟩
    · rw [runE_step e]
      exact run_end m (good_step g e) (step_nrm g e h)
theorem run_ne : ∀ (m : Nat) {s : E6}, (s.x ≠ zero ∨ s.y ≠ zero) → (runE m s).y = zero → (runE m s).x ≠ zero
  | 0, s, h, e => h.resolve_right fun z => z e
  | m + 1, s, h, e => by
    by_cases q : s.y = zero
    · rw [run_zero q]
      exact h.resolve_right fun z => z q
    · rw [runE_step q] at e ⊢
      exact run_ne m (.inl q) e
/-! ### left divisors -/
def Dv (g x : Qt) : Prop := ∃ t : Qt, t.ok ∧ x = g.mul t
def add (x y : Qt) : Qt := ⟨x.a + y.a, x.b + y.b, x.c + y.c, x.d + y.d⟩
theorem add_ok {x y : Qt} (hx : x.ok) (hy : y.ok) : (x.add y).ok := by
  obtain ⟨x1, x2, x3⟩ := hx
  obtain ⟨y1, y2, y3⟩ := hy
  unfold add ok
  simp only
  omega
theorem sub_add (x y : Qt) : (x.sub y).add y = x := ext (Int.sub_add_cancel ..) (Int.sub_add_cancel ..) (Int.sub_add_cancel ..) (Int.sub_add_cancel ..)
theorem add_sub (x y : Qt) : (x.add y).sub y = x := ext (Int.add_sub_cancel ..) (Int.add_sub_cancel ..) (Int.add_sub_cancel ..) (Int.add_sub_cancel ..)
theorem mul_add {y a b : Qt} (hy : y.ok) (ha : a.ok) (hb : b.ok) : y.mul (a.add b) = (y.mul a).add (y.mul b) := by
  have h := mul_sub hy (add_ok ha hb) hb
  rw [add_sub] at h
  rw [h, sub_add]
theorem dv_mul {g x q : Qt} (hg : g.ok) (hq : q.ok) (h : Dv g x) : Dv g (x.mul q) := by
  obtain ⟨t, ht, rfl⟩ := h
  exact ⟨t.mul q, (mul_all ht hq).2, mul_assoc hg ht hq⟩
theorem dv_sub {g x y : Qt} (hg : g.ok) (h : Dv g x) (h2 : Dv g y) : Dv g (x.sub y) := by
  obtain ⟨t, ht, rfl⟩ := h
  obtain ⟨u, hu, rfl⟩ := h2
  exact ⟨t.sub u, sub_ok ht hu, (mul_sub hg ht hu).symm⟩
theorem dv_add {g x y : Qt} (hg : g.ok) (h : Dv g x) (h2 : Dv g y) : Dv g (x.add y) := by
  obtain ⟨t, ht, rfl⟩ := h
  obtain ⟨u, hu, rfl⟩ := h2
  exact ⟨t.add u, add_ok ht hu, (mul_add hg ht hu).symm⟩
theorem mul_one {x : Qt} : x.mul one = x := by
  unfold mul one
  refine ext ?_ ?_ ?_ ?_ <;> simp only <;> omega
theorem one_mul {x : Qt} : one.mul x = x := by
  unfold mul one
  refine ext ?_ ?_ ?_ ?_ <;> simp only <;> omega
theorem mul_zero {x : Qt} : x.mul zero = zero := by
  unfold mul zero
  refine ext ?_ ?_ ?_ ?_ <;> simp only [Int.mul_zero] <;> omega
theorem dv_self {g : Qt} : Dv g g := ⟨one, one_ok, mul_one.symm⟩
theorem dv_zero {g : Qt} : Dv g zero := ⟨zero, zero_ok, mul_zero.symm⟩
theorem step_dv {s : E6} (h : s.Good) {g : Qt} (hg : g.ok) : (Dv g (stepE s).x ∧ Dv g (stepE s).y) ↔ (Dv g s.x ∧ Dv g s.y) := by
  show (Dv g s.y ∧ Dv g (rst s.x s.y)) ↔ _
  constructor
  · rintro ⟨h1, h2⟩
    refine ⟨?_, h1⟩
    have := dv_add hg h2 (dv_mul hg (quo_ok s.x s.y) h1)
    unfold rst at this
    rwa [sub_add] at this
  · rintro ⟨h1, h2⟩
    exact ⟨h2, dv_sub hg h1 (dv_mul hg (quo_ok s.x s.y) h2)⟩
theorem run_dv {g : Qt} (hg : g.ok) : ∀ (m : Nat) {s : E6}, s.Good → ((Dv g (runE m s).x ∧ Dv g (runE m s).y) ↔ (Dv g s.x ∧ Dv g s.y))
  | 0, s, h => Iff.rfl
  | m + 1, s, h => by
    by_cases e : s.y = zero
    · rw [run_zero e]
    · rw [runE_step e]
      exact (run_dv hg m (good_step h e)).trans (step_dv h hg)
def startE (x y : Qt) : E6 := ⟨x, one, zero, y, zero, one⟩
/-- a greatest common left divisor -/
def gcl (x y : Qt) : Qt := (runE 14 (startE x y)).x
theorem start_good {x y : Qt} (hx : x.ok) (hy : y.ok) (lx : x.n4 ≤ lim) (ly : y.n4 ≤ lim) : (startE x y).Good := ⟨hx, one_ok, zero_ok, hy, zero_ok, one_ok, lx, ly⟩
theorem start_nrm {x y : Qt} (hy : y.ok) (ly : y.n4 ≤ lim) : (startE x y).y.nrm < 2 ^ 14 := by
  have := nrm_lim hy ly
  have e : (2 : Int) ^ 14 = 16384 := by decide
  show y.nrm < 2 ^ 14
  omega
theorem gcl_ok {x y : Qt} (hx : x.ok) (hy : y.ok) (lx : x.n4 ≤ lim) (ly : y.n4 ≤ lim) : (gcl x y).ok := (run_end 14 (start_good hx hy lx ly) (start_nrm hy ly)).2.x
theorem gcl_lim {x y : Qt} (hx : x.ok) (hy : y.ok) (lx : x.n4 ≤ lim) (ly : y.n4 ≤ lim) : (gcl x y).n4 ≤ lim := (run_end 14 (start_good hx hy lx ly) (start_nrm hy ly)).2.lx
theorem gcl_ne {x y : Qt} (hx : x.ok) (hy : y.ok) (lx : x.n4 ≤ lim) (ly : y.n4 ≤ lim) (h : x ≠ zero ∨ y ≠ zero) : gcl x y ≠ zero := run_ne 14 h (run_end 14 (start_good hx hy lx ly) (start_nrm hy ly)).1
theorem gcl_dv {x y : Qt} (hx : x.ok) (hy : y.ok) (lx : x.n4 ≤ lim) (ly : y.n4 ≤ lim) : Dv (gcl x y) x ∧ Dv (gcl x y) y := by
  have e := run_end 14 (start_good hx hy lx ly) (start_nrm hy ly)
  refine (run_dv e.2.x 14 (start_good hx hy lx ly)).mp ⟨dv_self, ?_⟩
  rw [e.1]
  exact dv_zero
theorem gcl_great {x y g : Qt} (hx : x.ok) (hy : y.ok) (lx : x.n4 ≤ lim) (ly : y.n4 ≤ lim) (hg : g.ok) (h1 : Dv g x) (h2 : Dv g y) : Dv g (gcl x y) := ((run_dv hg 14 (start_good hx hy lx ly)).mpr ⟨h1, h2⟩).1
end Qt
end Tp

-- F5
/-! common.py -/
namespace Tp
open PySem PySem.Spec PyProof.Rows L2 DL
section
variable {P : Program} {w : World} {K : PySem.W.Frag} {mg : Str → Option Value} {base : Heap}
def R_steps_of (ds : List D) (d : D) : Prop := ∃ x y : Qt, x.ok ∧ y.ok ∧ x.n4 ≤ Qt.lim ∧ y.n4 ≤ Qt.lim ∧ ds = [x.D, y.D] ∧ d = .tuple [(Qt.runE 14 (Qt.startE x y)).N, (Qt.runE 14 (Qt.startE x y)).F]
def Wst (x y : Qt) (fin : Qt.E6) (m : Nat) (r : List Sl) : Prop := ∃ (s : Qt.E6) (q1 q2 q3 q4 : Sl), s.Good ∧ s.y.nrm < 2 ^ m ∧ Qt.runE m s = fin ∧ r = [.dat x.D, .dat y.D, .dat s.N, .dat s.F, q1, q2, q3, q4]
abbrev N_steps_of : List Str := ["one", "other", "now", "following", "quotient", "rest", "first", "second"]
theorem sc_steps_of : FnScope N_steps_of ["one", "other"] (defScope (top 30)) := ⟨rfl, rfl, rfl, by decide +kernel, rfl, by decide +kernel, by decide +kernel⟩
theorem ok_steps_of (T : Txt K mg) : Fn P w K mg base 6 "steps_of" R_steps_of := by
  refine fn_mk (T.def_steps_of) sc_steps_of (fun _ _ _ _ _ _ us hl => match us, hl with | [_, _], _ => rfl) ?len ?body
  case len =>
    rintro ds d ⟨x, y, _, _, _, _, rfl, _⟩
    rfl
  case body =>
    rintro f cdv A outer s H E hr ds d ⟨x, y, hx, hy, lx, ly, rfl, rfl⟩
    refine ⟨_, (pss_cons (ps_set (i := 2) sc_steps_of.nd rfl (Or.inl rfl) (pe_tup (pa_cons (pe_tupleK K (by rfl) T.b_tuple (pv 0)) (pa_cons (C8.pe_gc (by rfl) T.ONE) (pa_cons (C8.pe_gc (by rfl) T.ZERO_numbers) pa_nil)))))
        (pss_cons (ps_set (i := 3) sc_steps_of.nd rfl (Or.inl rfl) (pe_tup (pa_cons (pe_tupleK K (by rfl) T.b_tuple (pv 1)) (pa_cons (C8.pe_gc (by rfl) T.ZERO_numbers) (pa_cons (C8.pe_gc (by rfl) T.ONE) pa_nil)))))
        (pss_cons (ps_while PassesOwn.never (pt_cmpR (op_neK K hr.units) (pe_ix (ix_tupK K) (pv 3) pe_int (fun _ _ => rfl)) (C8.pe_gc (by rfl) T.ZERO_numbers) (nomark _)) (pss_cons (ps_asg (pe_fn (ok_divided_left T) hr (by decide) (by rfl) (pa_cons (pe_ix (ix_tupK K) (pv 2) pe_int (fun _ _ => rfl)) (pa_cons (pe_ix (ix_tupK K) (pv 3) pe_int (fun _ _ => rfl)) pa_nil))) (pg_tup rfl (pgs_cons (pg_name (i := 4) sc_steps_of.nd rfl (Or.inl rfl)) (pgs_cons (pg_name (i := 5) sc_steps_of.nd rfl (Or.inl rfl)) pgs_nil))))
        (pss_cons (ps_set (i := 6) sc_steps_of.nd rfl (Or.inl rfl) (pe_fn (ok_less T) hr (by decide) (by rfl) (pa_cons (pe_ix (ix_tupK K) (pv 2) pe_int (fun _ _ => rfl)) (pa_cons (pe_fn (ok_product T) hr (by decide) (by rfl) (pa_cons (pe_ix (ix_tupK K) (pv 3) pe_int (fun _ _ => rfl)) (pa_cons (pv 4) pa_nil))) pa_nil))))
        (pss_cons (ps_set (i := 7) sc_steps_of.nd rfl (Or.inl rfl) (pe_fn (ok_less T) hr (by decide) (by rfl) (pa_cons (pe_ix (ix_tupK K) (pv 2) pe_int (fun _ _ => rfl)) (pa_cons (pe_fn (ok_product T) hr (by decide) (by rfl) (pa_cons (pe_ix (ix_tupK K) (pv 3) pe_int (fun _ _ => rfl)) (pa_cons (pv 4) pa_nil))) pa_nil))))
        (pss_one (ps_par (i := 2) (j := 3) rfl sc_steps_of.nd rfl rfl (by decide) rfl rfl (pa_cons (pv 3) (pa_cons (pe_tup (pa_cons (pv 5) (pa_cons (pv 6) (pa_cons (pv 7) pa_nil)))) pa_nil)) (by rfl)))))))
        (pss_one (ps_ret (pe_tup (pa_cons (pv 2) (pa_cons (pv 3) pa_nil)))))))), ?_⟩
    refine run_seq (run_asg (ev_tup (ea_cons (ev_tupT (ev_var rfl)) (ea_cons T.ev_ONE (ea_cons T.ev_ZERO_numbers ea_nil))) (sz 3)) (
      run_seq (run_asg (ev_tup (ea_cons (ev_tupT (ev_var rfl)) (ea_cons T.ev_ZERO_numbers (ea_cons T.ev_ONE ea_nil))) (sz 3)) ?_)))
    refine run_seq (run_while (Wst x y (Qt.runE 14 (Qt.startE x y))) 14 ⟨Qt.startE x y, .un, .un, .un, .un, Qt.start_good hx hy lx ly, Qt.start_nrm hy ly, rfl, rfl⟩ ?_)
    rintro m r ⟨s, q1, q2, q3, q4, g, hn, hf, rfl⟩
    refine ⟨_, et_test (ev_neD (d := s.y.D) (d' := Qt.zero.D) (ev_ixT (ds := [s.y.D, s.ya.D, s.yb.D]) (ev_var rfl) ev_int rfl) T.ev_ZERO_numbers rfl rfl), fun h => ?_, fun h => ?_⟩
    · rw [eqv_qt] at h
      have hz : s.y ≠ Qt.zero := fun z => by
        rw [decide_eq_true z] at h
        cases h
      obtain ⟨k, rfl⟩ : ∃ k, m = k + 1 := by
        cases m with
        | zero => exact absurd (Qt.nrm_lt_one g.y (show s.y.nrm < 1 from hn)) hz
        | succ k => exact ⟨k, rfl⟩
      have kq := Qt.quo_ok s.x s.y
      have sq : (Qt.quo s.x s.y).sm big := Qt.sm_mono (Qt.quo_sm g.x g.y hz g.lx g.ly) (by decide)
      refine run_seq (run_unpackT [4, 5] (ds := [(Qt.quo s.x s.y).D, (Qt.rst s.x s.y).D]) (ev_call (ea_cons (ev_ixT (ds := [s.x.D, s.xa.D, s.xb.D]) (ev_var rfl) ev_int rfl) (ea_cons (ev_ixT (ds := [s.y.D, s.ya.D, s.yb.D]) (ev_var rfl) ev_int rfl) ea_nil)) ⟨s.x, s.y, g.x, g.y, hz, g.lx, g.ly, rfl, rfl⟩) rfl rfl ?_)
      show Run K _ [.dat x.D, .dat y.D, .dat s.N, .dat s.F, .dat (Qt.quo s.x s.y).D, .dat (Qt.rst s.x s.y).D, q3, q4] _ _
      refine run_seq (run_asg (ev_call (ea_cons (ev_ixT (ds := [s.x.D, s.xa.D, s.xb.D]) (ev_var rfl) ev_int rfl) (ea_cons (ev_call (ea_cons (ev_ixT (ds := [s.y.D, s.ya.D, s.yb.D]) (ev_var rfl) ev_int rfl) (ea_cons (ev_var rfl) ea_nil)) ⟨s.ya, Qt.quo s.x s.y, g.ya, kq, sq, rfl, rfl⟩) ea_nil)) ⟨s.xa, s.ya.mul (Qt.quo s.x s.y), g.xa, (Qt.mul_all g.ya kq).2, rfl, rfl⟩) ?_)
      show Run K _ [.dat x.D, .dat y.D, .dat s.N, .dat s.F, .dat (Qt.quo s.x s.y).D, .dat (Qt.rst s.x s.y).D, .dat (s.xa.sub (s.ya.mul (Qt.quo s.x s.y))).D, q4] _ _
      refine run_seq (run_asg (ev_call (ea_cons (ev_ixT (ds := [s.x.D, s.xa.D, s.xb.D]) (ev_var rfl) ev_int rfl) (ea_cons (ev_call (ea_cons (ev_ixT (ds := [s.y.D, s.ya.D, s.yb.D]) (ev_var rfl) ev_int rfl) (ea_cons (ev_var rfl) ea_nil)) ⟨s.yb, Qt.quo s.x s.y, g.yb, kq, sq, rfl, rfl⟩) ea_nil)) ⟨s.xb, s.yb.mul (Qt.quo s.x s.y), g.xb, (Qt.mul_all g.yb kq).2, rfl, rfl⟩) ?_)
      show Run K _ [.dat x.D, .dat y.D, .dat s.N, .dat s.F, .dat (Qt.quo s.x s.y).D, .dat (Qt.rst s.x s.y).D, .dat (s.xa.sub (s.ya.mul (Qt.quo s.x s.y))).D, .dat (s.xb.sub (s.yb.mul (Qt.quo s.x s.y))).D] _ _
      refine run_par (ea_cons (ev_var rfl) (ea_cons (ev_tup (ea_cons (ev_var rfl) (ea_cons (ev_var rfl) (ea_cons (ev_var rfl) ea_nil))) (sz 3)) ea_nil)) ?_
      refine ⟨k, Nat.lt_succ_self k, Qt.stepE s, _, _, _, _, Qt.good_step g hz, Qt.step_nrm g hz hn, ?_, rfl⟩
      rw [← hf, Qt.runE_step hz]
    · rw [eqv_qt] at h
      have hz : s.y = Qt.zero := by
        by_cases z : s.y = Qt.zero
        · exact z
        · rw [decide_eq_false z] at h
          cases h
      have e : s = Qt.runE 14 (Qt.startE x y) := by
        rw [← hf, Qt.run_zero hz]
      rw [← e]
      exact run_ret (ev_tup (ea_cons (ev_var rfl) (ea_cons (ev_var rfl) ea_nil)) (sz 2)) rfl
def R_check_some (ds : List D) (d : D) : Prop := ∃ x y : Qt, x.ok ∧ y.ok ∧ (x ≠ Qt.zero ∨ y ≠ Qt.zero) ∧ ds = [.list [x.D, y.D]] ∧ d = .none
abbrev N_check_some : List Str := ["numbers", "number"]
theorem sc_check_some : FnScope N_check_some ["numbers"] (defScope (top 31)) := ⟨rfl, rfl, rfl, by decide +kernel, rfl, by decide +kernel, by decide +kernel⟩
theorem ok_check_some (T : Txt K mg) : Fn P w K mg base 3 "check_some" R_check_some := by
  refine fn_mk (T.def_check_some) sc_check_some (fun _ _ _ _ _ _ us hl => match us, hl with | [_], _ => rfl) ?len ?body
  case len =>
    rintro ds d ⟨x, y, _, _, _, rfl, _⟩
    rfl
  case body =>
    rintro f cdv A outer s H E hr ds d ⟨x, y, hx, hy, hz, rfl, rfl⟩
    refine ⟨_, (pss_cons (ps_for PassesOwn.never rfl (pi_list (pv 0)) (pg_name (i := 1) sc_check_some.nd rfl (Or.inl rfl)) (pss_one (ps_expr (pe_fn (ok_check_number T) hr (by decide) (by rfl) (pa_cons (pv 1) pa_nil)))))
        (pss_one (ps_if (pt_val (pe_callB (cr_allK K rfl) (by rfl) T.b_all (by decide +kernel) (pa_cons (pe_lc (own := [("number", 1)]) (g := (gName 1)) rfl sc_check_some.nd (pi_list (pv 0)) (blkOk_by (own := [("number", 1)]) (N := N_check_some) (sc := defScope (top 31)) (by decide +kernel)) (fun _ _ _ _ _ => (pg_name (i := 1) sc_check_some.nd rfl (Or.inl rfl))) (fun _ _ _ _ _ => pts_nil) (fun _ _ _ _ _ => (pe_cmpR (op_eqK K hr.units) (pe_tupleK K (by rfl) T.b_tuple (pv 1)) (C8.pe_gc (by rfl) T.ZERO_numbers) (nomark _)))) pa_nil))) pss_never pss_nil))), ?_⟩
    refine run_seq (run_forN (ds := [x.D, y.D]) (ei_list (ev_var rfl)) (fun i r => ∃ q : Sl, r = [.dat (.list [x.D, y.D]), q]) ⟨.un, rfl⟩ (fun i d r hd w => ?_) ?_)
    · obtain ⟨q, rfl⟩ := w
      match i, hd with
      | 0, hd =>
        cases hd
        exact run_drop (ev_call (ea_cons (ev_var rfl) ea_nil) ⟨x, hx, rfl, rfl⟩) ⟨_, rfl⟩
      | 1, hd =>
        cases hd
        exact run_drop (ev_call (ea_cons (ev_var rfl) ea_nil) ⟨y, hy, rfl, rfl⟩) ⟨_, rfl⟩
    · rintro r ⟨q, rfl⟩
      refine run_if (et_B (ev_all (ns := [decide (x = Qt.zero), decide (y = Qt.zero)]) (ea_cons (ev_lcM Qt.D [x, y] (f := fun z => .bool (decide (z = Qt.zero))) (ei_list (ev_var rfl)) rfl (by simp) (by decide) (fun z hz => ⟨_, eg_name, (ev_eqD (d := z.D) (d' := Qt.zero.D) (ev_tupT (ev_var rfl)) T.ev_ZERO_numbers rfl rfl).to (by rw [eqv_qt])⟩)) ea_nil))) (fun h => ?_) (fun h => run_next rfl)
      rw [List.all_cons, List.all_cons, List.all_nil, Bool.and_true, Bool.and_eq_true] at h
      rcases hz with z | z
      · exact absurd (of_decide_eq_true h.1) z
      · exact absurd (of_decide_eq_true h.2) z
def R_left_common (ds : List D) (d : D) : Prop := ∃ x y : Qt, x.ok ∧ y.ok ∧ (x ≠ Qt.zero ∨ y ≠ Qt.zero) ∧ x.n4 ≤ Qt.lim ∧ y.n4 ≤ Qt.lim ∧ ds = [x.D, y.D] ∧ d = (Qt.canon (Qt.gcl x y)).D
abbrev N_left_common : List Str := ["one", "other"]
theorem sc_left_common : FnScope N_left_common ["one", "other"] (defScope (top 32)) := ⟨rfl, rfl, rfl, by decide +kernel, rfl, by decide +kernel, by decide +kernel⟩
theorem ok_left_common (T : Txt K mg) : Fn P w K mg base 7 "left_common" R_left_common := by
  refine fn_mk (T.def_left_common) sc_left_common (fun _ _ _ _ _ _ us hl => match us, hl with | [_, _], _ => rfl) ?len ?body
  case len =>
    rintro ds d ⟨x, y, _, _, _, _, _, rfl, _⟩
    rfl
  case body =>
    rintro f cdv A outer s H E hr ds d ⟨x, y, hx, hy, hz, lx, ly, rfl, rfl⟩
    refine ⟨_, (pss_cons (ps_expr (pe_fn (ok_check_some T) hr (by decide) (by rfl) (pa_cons (pe_lst (pa_cons (pv 0) (pa_cons (pv 1) pa_nil))) pa_nil)))
        (pss_one (ps_ret (pe_fn (ok_canonical T) hr (by decide) (by rfl) (pa_cons (pe_ix (ix_tupK K) (pe_ix (ix_tupK K) (pe_fn (ok_steps_of T) hr (by decide) (by rfl) (pa_cons (pv 0) (pa_cons (pv 1) pa_nil))) pe_int (fun _ _ => rfl)) pe_int (fun _ _ => rfl)) pa_nil))))), ?_⟩
    refine run_seq (run_drop (ev_call (ea_cons (ev_lst (ea_cons (ev_var rfl) (ea_cons (ev_var rfl) ea_nil)) (sz 2)) ea_nil) ⟨x, y, hx, hy, hz, rfl, rfl⟩) (
      run_ret (ev_call (ea_cons (ev_ixT (d := (Qt.gcl x y).D) (ds := [(Qt.runE 14 (Qt.startE x y)).x.D, (Qt.runE 14 (Qt.startE x y)).xa.D, (Qt.runE 14 (Qt.startE x y)).xb.D]) (ev_ixT (ev_call (ea_cons (ev_var rfl) (ea_cons (ev_var rfl) ea_nil)) ⟨x, y, hx, hy, lx, ly, rfl, rfl⟩) ev_int rfl) ev_int rfl) ea_nil) ⟨Qt.gcl x y, Qt.gcl_ok hx hy lx ly, Qt.gcl_ne hx hy lx ly hz, rfl, rfl⟩) rfl))
end
end Tp

-- QG
/-! canonical ones, exact quotients, primes of integers, rows -/
namespace Tp
namespace Qt
theorem unit_ok' : ∀ u ∈ units, u.ok := by decide +kernel
theorem unit_n4 : ∀ u ∈ units, u.n4 = 4 := by decide +kernel
theorem canon_mem (q : Qt) : ∃ u ∈ units, canon q = q.mul u := by
  have hl : (assoc q).length = 24 := by
    unfold assoc
    rw [sort_len, List.length_map]
    rfl
  have h23 : 23 < (assoc q).length := by omega
  have e : canon q = (assoc q)[23] := by
    unfold canon
    rw [List.getElem?_eq_getElem h23]
    rfl
  have hm : canon q ∈ assoc q := by
    rw [e]
    exact List.getElem_mem h23
  have hm2 : canon q ∈ units.map q.mul := (sort_perm _).mem_iff.mp hm
  obtain ⟨u, hu, e2⟩ := List.mem_map.mp hm2
  exact ⟨u, hu, e2.symm⟩
theorem canon_ok {q : Qt} (hq : q.ok) : (canon q).ok := by
  obtain ⟨u, hu, e⟩ := canon_mem q
  rw [e]
  exact (mul_all hq (unit_ok' u hu)).2
theorem canon_n4 {q : Qt} (hq : q.ok) : (canon q).n4 = q.n4 := by
  obtain ⟨u, hu, e⟩ := canon_mem q
  have h := n4_mul hq (unit_ok' u hu)
  rw [unit_n4 u hu] at h
  rw [e]
  omega
theorem canon_nrm {q : Qt} (hq : q.ok) : (canon q).nrm = q.nrm := by
  have h := canon_n4 hq
  rw [n4_nrm hq, n4_nrm (canon_ok hq)] at h
  omega
theorem ne_of_n4 {x : Qt} (h : 0 < x.n4) : x ≠ zero := fun e => by
  rw [e] at h
  exact absurd h (by decide)
theorem canon_ne {q : Qt} (hq : q.ok) (h : q ≠ zero) : canon q ≠ zero := ne_of_n4 (by rw [canon_n4 hq]; exact n4_pos h)
/-! exact quotients -/
theorem smul_inj {n : Int} (hn : 0 < n) {x y : Qt} (h : smul n x = smul n y) : x = y := by
  have k : ∀ {p q : Int}, n * p = n * q → p = q := fun h => Int.eq_of_mul_eq_mul_left (by omega) h
  unfold smul at h
  rw [mk.injEq] at h
  exact ext (k h.1) (k h.2.1) (k h.2.2.1) (k h.2.2.2)
theorem n4_zero {x : Qt} (h : x.n4 ≤ 0) : x = zero := by
  by_cases e : x = zero
  · exact e
  · have := n4_pos e
    omega
theorem dist_self (n : Int) (t : Qt) : dist (smul n t) n t = 0 := by
  rw [dist_n4]
  unfold sub n4
  simp only [Int.sub_self]
  decide
theorem sub_zero_eq {x y : Qt} (h : x.sub y = zero) : x = y := by
  unfold sub zero at h
  rw [mk.injEq] at h
  exact ext (by omega) (by omega) (by omega) (by omega)
theorem div2n {n k : Int} (hn : 0 < n) : (n * (2 * k) + n) / (2 * n) = k ∧ (n * (2 * k + 1)) / (2 * n) = k := by
  have e1 : n * (2 * k) + n = 2 * n * k + n := by grind
  have e2 : n * (2 * k + 1) = 2 * n * k + n := by grind
  rw [e1, e2, Int.add_comm, Int.add_mul_ediv_left _ _ (by omega), Int.ediv_eq_zero_of_lt (by omega) (by omega)]
  omega
theorem nearest_exact {n : Int} (hn : 0 < n) {t : Qt} (ht : t.ok) : nearest (smul n t) n = t := by
  have hd : dist (smul n t) n (nearest (smul n t) n) ≤ 0 := by
    obtain ⟨h1, h2⟩ := nearest_le (smul n t) n
    obtain ⟨t1, t2, t3⟩ := ht
    have hp : t.a % 2 = 0 ∨ t.a % 2 = 1 := by omega
    rcases hp with e | e
    · have hw : whole (smul n t) n = t := by
        unfold whole smul
        simp only
        refine ext ?_ ?_ ?_ ?_
        · show 2 * ((n * t.a + n) / (2 * n)) = t.a
          rw [show t.a = 2 * (t.a / 2) by omega, (div2n hn).1]
        · show 2 * ((n * t.b + n) / (2 * n)) = t.b
          rw [show t.b = 2 * (t.b / 2) by omega, (div2n hn).1]
        · show 2 * ((n * t.c + n) / (2 * n)) = t.c
          rw [show t.c = 2 * (t.c / 2) by omega, (div2n hn).1]
        · show 2 * ((n * t.d + n) / (2 * n)) = t.d
          rw [show t.d = 2 * (t.d / 2) by omega, (div2n hn).1]
      rw [hw, dist_self] at h1
      exact h1
    · have hw : halves (smul n t) n = t := by
        unfold halves smul
        simp only
        refine ext ?_ ?_ ?_ ?_
        · show 2 * ((n * t.a) / (2 * n)) + 1 = t.a
          rw [show t.a = 2 * (t.a / 2) + 1 by omega, (div2n hn).2]
        · show 2 * ((n * t.b) / (2 * n)) + 1 = t.b
          rw [show t.b = 2 * (t.b / 2) + 1 by omega, (div2n hn).2]
        · show 2 * ((n * t.c) / (2 * n)) + 1 = t.c
          rw [show t.c = 2 * (t.c / 2) + 1 by omega, (div2n hn).2]
        · show 2 * ((n * t.d) / (2 * n)) + 1 = t.d
          rw [show t.d = 2 * (t.d / 2) + 1 by omega, (div2n hn).2]
      rw [hw, dist_self] at h2
      exact h2
  rw [dist_n4] at hd
  exact (smul_inj hn (sub_zero_eq (n4_zero hd))).symm
theorem conj_conj (x : Qt) : x.conj.conj = x := by
  unfold conj
  simp only [Int.neg_neg]
theorem conj_mul_self {y t : Qt} (hy : y.ok) (ht : t.ok) : y.conj.mul (y.mul t) = smul y.nrm t := by
  have h := mul_conj (x := t) (y := y.conj) ht (conj_ok hy)
  rw [conj_conj] at h
  rw [h]
  have e : y.conj.nrm = y.nrm := by
    unfold nrm
    rw [conj_n4]
  rw [e]
theorem quo_exact {f t : Qt} (hf : f.ok) (hz : f ≠ zero) (ht : t.ok) : quo (f.mul t) f = t ∧ rst (f.mul t) f = zero := by
  have hq : quo (f.mul t) f = t := by
    unfold quo
    rw [conj_mul_self hf ht]
    exact nearest_exact (nrm_pos hf hz) ht
  refine ⟨hq, ?_⟩
  unfold rst
  rw [hq]
  unfold sub zero
  simp only [Int.sub_self]
theorem dv_quo {f x : Qt} (hf : f.ok) (hz : f ≠ zero) (h : Dv f x) : x = f.mul (quo x f) ∧ rst x f = zero := by
  obtain ⟨t, ht, rfl⟩ := h
  obtain ⟨h1, h2⟩ := quo_exact hf hz ht
  rw [h1]
  exact ⟨rfl, h2⟩
/-- a canonical one divides what the number divides -/
theorem unit_inv : ∀ u ∈ units, u.mul u.conj = one ∧ u.conj ∈ units := by decide +kernel
theorem canon_dv {g x : Qt} (hg : g.ok) (h : Dv g x) : Dv (canon g) x := by
  obtain ⟨t, ht, rfl⟩ := h
  obtain ⟨u, hu, e⟩ := canon_mem g
  rw [e]
  have ku := unit_ok' u hu
  have kc := conj_ok ku
  refine ⟨u.conj.mul t, (mul_all kc ht).2, ?_⟩
  rw [mul_assoc hg ku (mul_all kc ht).2, ← mul_assoc ku kc ht, (unit_inv u hu).1, one_mul]
theorem unit_perm : ∀ u ∈ units, sort (units.map u.mul) = sort units := by decide +kernel
/-- associates have one canonical number -/
theorem canon_unit {q u : Qt} (hq : q.ok) (hu : u ∈ units) : canon (q.mul u) = canon q := by
  have e : assoc (q.mul u) = assoc q := by
    unfold assoc
    have p0 : (sort (units.map u.mul)).Perm units := by
      rw [unit_perm u hu]
      exact sort_perm units
    have p1 : (units.map u.mul).Perm units := (sort_perm (units.map u.mul)).symm.trans p0
    have e1 : units.map (q.mul u).mul = (units.map u.mul).map q.mul := by
      rw [List.map_map]
      refine List.map_congr_left fun v hv => ?_
      exact mul_assoc hq (unit_ok' u hu) (unit_ok' v hv)
    rw [e1]
    exact sort_congr (p1.map q.mul)
  unfold canon
  rw [e]
  have hl : (assoc q).length = 24 := by
    unfold assoc
    rw [sort_len, List.length_map]
    rfl
  rw [List.getElem?_eq_getElem (show 23 < (assoc q).length by omega)]
  rfl
theorem unit_all : ∀ a ∈ ([-2, -1, 0, 1, 2] : List Int), ∀ b ∈ ([-2, -1, 0, 1, 2] : List Int), ∀ c ∈ ([-2, -1, 0, 1, 2] : List Int), ∀ d ∈ ([-2, -1, 0, 1, 2] : List Int), (⟨a, b, c, d⟩ : Qt).n4 = 4 * 1 → (⟨a, b, c, d⟩ : Qt).ok → (⟨a, b, c, d⟩ : Qt) ∈ units := by decide +kernel
/-- a number of norm one is a unit -/
theorem unit_of_nrm {t : Qt} (ht : t.ok) (h : t.nrm = 1) : t ∈ units := by
  have h4 := n4_nrm ht
  rw [h] at h4
  have hs : t.sm 2 := sm_of_n4 (C := 4) (by omega) (by decide) (by decide)
  obtain ⟨a, b, c, d⟩ := t
  unfold sm at hs
  simp only at hs
  have k : ∀ x : Int, -2 ≤ x → x ≤ 2 → x ∈ ([-2, -1, 0, 1, 2] : List Int) := fun x h1 h2 => by
    simp only [List.mem_cons, List.not_mem_nil, or_false]
    omega
  exact unit_all a (k a (by omega) (by omega)) b (k b (by omega) (by omega)) c (k c (by omega) (by omega)) d (k d (by omega) (by omega)) h4 ht
end Qt
/-! ### primes of integers -/
def wpIn : Nat → Int → Int → Int → Int × Int
  | 0, _, v, k => (v, k)
  | m + 1, p, v, k => if v % p = 0 then wpIn m p (v / p) (k + 1) else (v, k)
def wpOut : Nat → Int → Int → List (Int × Int) → Int × List (Int × Int)
  | 0, _, v, f => (v, f)
  | m + 1, p, v, f => if p * p ≤ v then wpOut m (p + if p = 2 then 1 else 2) (wpIn 14 p v 0).1 (if (wpIn 14 p v 0).2 > 0 then f ++ [(p, (wpIn 14 p v 0).2)] else f) else (v, f)
def wholePrimes (v : Int) : List (Int × Int) := (wpOut 130 2 v []).2 ++ if (wpOut 130 2 v []).1 > 1 then [((wpOut 130 2 v []).1, 1)] else []
def primeList (v : Int) : List Int := (wholePrimes v).flatMap fun p => List.replicate p.2.toNat p.1
end Tp

-- F6
/-! factors.py: primes of integers -/
namespace Tp
open PySem PySem.Spec PyProof.Rows L2 DL
section
variable {P : Program} {w : World} {K : PySem.W.Frag} {mg : Str → Option Value} {base : Heap}
def encP (p : Int × Int) : D := .tuple [.int p.1, .int p.2]
def R_whole_primes (ds : List D) (d : D) : Prop := ∃ v : Int, 1 ≤ v ∧ v ≤ 15000 ∧ ds = [.int v] ∧ d = .list ((wholePrimes v).map encP)
def Wo (v0 : Int) (m : Nat) (r : List Sl) : Prop := ∃ (v p : Int) (f : List (Int × Int)) (s3 : Sl), 1 ≤ v ∧ v ≤ 15000 ∧ 132 - (m : Int) ≤ p ∧ p ≤ 262 - 2 * (m : Int) ∧ m ≤ 130 ∧ f.length + m ≤ 130 ∧ wpOut m p v f = wpOut 130 2 v0 [] ∧ r = [.dat (.int v), .own (f.map encP), .dat (.int p), s3]
def Wi (v p : Int) (f : List (Int × Int)) (m : Nat) (r : List Sl) : Prop := ∃ (u k : Int), 1 ≤ u ∧ u ≤ v ∧ u < 2 ^ m ∧ wpIn m p u k = wpIn 14 p v 0 ∧ r = [.dat (.int u), .own (f.map encP), .dat (.int p), .dat (.int k)]
abbrev N_whole_primes : List Str := ["value", "found", "prime", "power"]
theorem sc_whole_primes : FnScope N_whole_primes ["value"] (defScope (top 36)) := ⟨rfl, rfl, rfl, by decide +kernel, rfl, by decide +kernel, by decide +kernel⟩
theorem ok_whole_primes (T : Txt K mg) : Fn P w K mg base 1 "whole_primes" R_whole_primes := by
  refine fn_mk (T.def_whole_primes) sc_whole_primes (fun _ _ _ _ _ _ us hl => match us, hl with | [_], _ => rfl) ?len ?body
  case len =>
    rintro ds d ⟨v, _, _, rfl, _⟩
    rfl
  case body =>
    rintro f cdv A outer s H E hr ds d ⟨v0, h1, h2, rfl, rfl⟩
    refine ⟨_, (pss_cons (ps_if (pt_not (pt_chain op_le op_le pe_int (pv 0) (C8.pe_gc (by rfl) T.MOST_VALUE))) pss_never pss_nil)
        (pss_cons (ps_set (i := 1) sc_whole_primes.nd rfl (Or.inl rfl) (pe_lst pa_nil))
        (pss_cons (ps_set (i := 2) sc_whole_primes.nd rfl (Or.inl rfl) pe_int)
        (pss_cons (ps_while PassesOwn.never (pt_cmpR op_le (pe_op op_mul (pv 2) (pv 2)) (pv 0) (nomark _)) (pss_cons (ps_set (i := 3) sc_whole_primes.nd rfl (Or.inl rfl) pe_int)
        (pss_cons (ps_while PassesOwn.never (pt_cmpR op_eq (pe_op op_mod (pv 0) (pv 2)) pe_int (nomark _)) (pss_cons (ps_aug (i := 0) sc_whole_primes.nd rfl (Or.inl rfl) (pv 2) iop_fdiv)
        (pss_one (ps_aug (i := 3) sc_whole_primes.nd rfl (Or.inl rfl) pe_int iop_add))))
        (pss_cons (ps_if (pt_cmpR op_gt (pv 3) pe_int (nomark _)) (pss_one (ps_expr (pe_bm PySem.F.plainAttrs_list PySem.F.slot_list_append PySem.F.type_list_append mt_append (pv 1) (pa_cons (pe_tup (pa_cons (pv 2) (pa_cons (pv 3) pa_nil))) pa_nil)))) pss_nil)
        (pss_one (ps_aug (i := 2) sc_whole_primes.nd rfl (Or.inl rfl) (pe_ifExp (pt_cmpR op_eq (pv 2) pe_int (nomark _)) pe_int pe_int) iop_add))))))
        (pss_one (ps_ret (pe_op op_catS (pv 1) (pe_ifExp (pt_cmpR op_gt (pv 0) pe_int (nomark _)) (pe_lst (pa_cons (pe_tup (pa_cons (pv 0) (pa_cons pe_int pa_nil))) pa_nil)) (pe_lst pa_nil))))))))), ?_⟩
    refine run_seq (run_if (et_not (et_test (ev_chain ev_int (ev_var rfl) ev_int))) (fun h => ?_) (fun h => run_next ?_))
    · rw [decide_eq_true (show (1 : Int) ≤ v0 from h1), decide_eq_true (show v0 ≤ 1000000000000 by omega)] at h
      cases h
    refine run_seq (run_new (run_seq (run_asg ev_int ?_)))
    refine run_seq (run_while (Wo v0) 130 ⟨v0, 2, [], .un, h1, h2, by omega, by omega, by omega, by simp, rfl, rfl⟩ ?_)
    rintro m r ⟨v, p, f, s3, k1, k2, k3, k4, k5, k6, hw, rfl⟩
    refine ⟨_, et_test (ev_B0 (ev_I (ev_var rfl) (ev_var rfl) (.inl ⟨by omega, by omega⟩)) (ev_var rfl)), fun h => ?_, fun h => ?_⟩
    · have hp : p * p ≤ v := of_decide_eq_true h
      obtain ⟨k, rfl⟩ : ∃ k, m = k + 1 := by
        cases m with
        | zero =>
          have : (132 : Int) * 132 ≤ p * p := Int.mul_le_mul (by omega) (by omega) (by omega) (by omega)
          omega
        | succ k => exact ⟨k, rfl⟩
      have hp2 : 2 ≤ p := by omega
      refine run_seq (run_asg ev_int ?_)
      show Run K _ [.dat (.int v), .own (f.map encP), .dat (.int p), .dat (.int 0)] _ _
      refine run_seq (run_while (Wi v p f) 14 ⟨v, 0, k1, by omega, by have : (2 : Int) ^ 14 = 16384 := by decide
                                                                      omega, rfl, rfl⟩ ?_)
      rintro m r ⟨u, c, j1, j2, j3, j4, rfl⟩
      refine ⟨_, et_test (ev_eqI (ev_I (ev_var rfl) (ev_var rfl) (show (0 : Int) < p by omega)) ev_int), fun h => ?_, fun h => ?_⟩
      · have e : u % p = 0 := eq_of_beq h
        obtain ⟨i, rfl⟩ : ∃ i, m = i + 1 := by
          cases m with
          | zero =>
            have : (2 : Int) ^ 0 = 1 := by decide
            omega
          | succ i => exact ⟨i, rfl⟩
        have eu : p * (u / p) = u := Int.mul_ediv_cancel' (Int.dvd_of_emod_eq_zero e)
        have hq : 1 ≤ u / p := by
          rcases Int.lt_or_le (u / p) 1 with z | z
          · have : p * (u / p) ≤ p * 0 := Int.mul_le_mul_of_nonneg_left (by omega) (by omega)
            omega
          · exact z
        have hq2 : 2 * (u / p) ≤ u := by
          have : 2 * (u / p) ≤ p * (u / p) := Int.mul_le_mul_of_nonneg_right hp2 (by omega)
          omega
        refine run_seq (run_augC (C := CDiv) rfl (ev_var rfl) ⟨by omega, by omega⟩ rfl ?_)
        show Run K _ [.dat (.int (u / p)), .own (f.map encP), .dat (.int p), .dat (.int c)] _ _
        refine run_aug rfl ev_int rfl ?_
        refine ⟨i, Nat.lt_succ_self i, u / p, c + 1, hq, by omega, ?_, ?_, rfl⟩
        · have : (2 : Int) ^ (i + 1) = 2 * 2 ^ i := by
            rw [Int.pow_succ]
            omega
          omega
        · rw [← j4]
          show _ = if u % p = 0 then wpIn i p (u / p) (c + 1) else (u, c)
          rw [if_pos e]
      · have e : ¬ u % p = 0 := fun z => by
          rw [z] at h
          cases h
        have hin : wpIn 14 p v 0 = (u, c) := by
          rw [← j4]
          cases m with
          | zero => rfl
          | succ i => exact if_neg e
        have hstep : wpOut k (p + if p = 2 then 1 else 2) u (if c > 0 then f ++ [(p, c)] else f) = wpOut 130 2 v0 [] := by
          rw [← hw]
          show _ = if p * p ≤ v then wpOut k (p + if p = 2 then 1 else 2) (wpIn 14 p v 0).1 (if (wpIn 14 p v 0).2 > 0 then f ++ [(p, (wpIn 14 p v 0).2)] else f) else (v, f)
          rw [if_pos hp, hin]
        refine run_seq (run_post (N := fun r => r = [.dat (.int u), .own ((if c > 0 then f ++ [(p, c)] else f).map encP), .dat (.int p), .dat (.int c)]) (run_if (et_test (ev_B0 (ev_var rfl) ev_int)) (fun h2 => run_append rfl (ev_tup (ea_cons (ev_var rfl) (ea_cons (ev_var rfl) ea_nil)) (sz 2)) ?_ ?_) (fun h2 => run_next ?_)) ?_)
        · rw [List.length_map]
          omega
        · rw [if_pos (show c > 0 from of_decide_eq_true h2), List.map_append]
          rfl
        · rw [if_neg (show ¬ c > 0 from of_decide_eq_false h2)]
        · rintro r rfl
          refine run_aug (b := if p = 2 then 1 else 2) rfl (ev_if (et_test (ev_eqI (ev_var rfl) ev_int)) (fun h2 => ev_int.to ?_) (fun h2 => ev_int.to ?_)) rfl ?_
          · rw [if_pos (eq_of_beq h2)]
          · rw [if_neg (fun z => by rw [z] at h2; cases h2)]
          · refine ⟨k, Nat.lt_succ_self k, u, _, _, _, j1, by omega, ?_, ?_, by omega, ?_, hstep, rfl⟩
            · split <;> omega
            · split <;> omega
            · split
              · rw [List.length_append, List.length_singleton]
                omega
              · omega
    · have hp : ¬ p * p ≤ v := of_decide_eq_false h
      have e : wpOut 130 2 v0 [] = (v, f) := by
        rw [← hw]
        cases m with
        | zero => rfl
        | succ k => exact if_neg hp
      refine run_ret (ev_catL (es := (if v > 1 then [(v, 1)] else ([] : List (Int × Int))).map encP) (ev_var rfl) (ev_if (et_test (ev_B0 (ev_var rfl) ev_int)) (fun h => (ev_lst (ea_cons (ev_tup (ea_cons (ev_var rfl) (ea_cons ev_int ea_nil)) (sz 2)) ea_nil) (sz 1)).to ?_) (fun h => (ev_lst ea_nil (sz 0)).to ?_)) ?_ ?_) ?_
      · rw [if_pos (show v > 1 from of_decide_eq_true h)]
        rfl
      · rw [if_neg (show ¬ v > 1 from of_decide_eq_false h)]
        rfl
      · rw [List.length_map]
        omega
      · split <;> simp
      · unfold wholePrimes
        rw [e, ← List.map_append]
end
end Tp

-- QH
/-! sorts of ints, rows -/
namespace Tp
open PySem PySem.Spec PyProof.Rows L2 DL PySem.W
def insI (x : Int) : List Int → List Int
  | [] => [x]
  | y :: r => if x ≤ y then x :: y :: r else y :: insI x r
def sortI : List Int → List Int
  | [] => []
  | x :: r => insI x (sortI r)
theorem insI_perm (x : Int) : ∀ l : List Int, (insI x l).Perm (x :: l)
  | [] => .refl _
  | y :: t => by
    unfold insI
    split
    · exact .refl _
    · exact ((insI_perm x t).cons y).trans (.swap x y t)
theorem sortI_perm : ∀ l : List Int, (sortI l).Perm l
  | [] => .nil
  | x :: r => (insI_perm x _).trans ((sortI_perm r).cons x)
theorem sortI_sorted : ∀ l : List Int, (sortI l).Pairwise (· ≤ ·)
  | [] => .nil
  | x :: r => by
    have h : ∀ l : List Int, l.Pairwise (· ≤ ·) → (insI x l).Pairwise (· ≤ ·) := by
      intro l
      induction l with
      | nil => intro _; exact .cons (fun _ h => by cases h) .nil
      | cons y t ih =>
        intro hs
        unfold insI
        obtain ⟨h1, h2⟩ := List.pairwise_cons.mp hs
        by_cases c : x ≤ y
        · rw [if_pos c]
          refine .cons (fun z hz => ?_) hs
          rcases List.mem_cons.mp hz with e | hz
          · rw [e]; exact c
          · exact Int.le_trans c (h1 z hz)
        · rw [if_neg c]
          refine .cons (fun z hz => ?_) (ih h2)
          rcases List.mem_cons.mp ((insI_perm x t).mem_iff.mp hz) with e | hm
          · rw [e]; omega
          · exact h1 z hm
    exact h _ (sortI_sorted r)
theorem sortedI_unique : ∀ {l m : List Int}, l.Perm m → l.Pairwise (· ≤ ·) → m.Pairwise (· ≤ ·) → l = m
  | [], m, p, _, _ => (List.Perm.nil_eq p)
  | x :: l, [], p, _, _ => absurd p.length_eq (by simp)
  | x :: l, y :: m, p, h1, h2 => by
    obtain ⟨a1, b1⟩ := List.pairwise_cons.mp h1
    obtain ⟨a2, b2⟩ := List.pairwise_cons.mp h2
    have e : x = y := by
      have m1 : x ∈ y :: m := p.mem_iff.mp List.mem_cons_self
      have m2 : y ∈ x :: l := p.mem_iff.mpr List.mem_cons_self
      rcases List.mem_cons.mp m1 with e | m1
      · exact e
      · rcases List.mem_cons.mp m2 with e | m2
        · exact e.symm
        · exact Int.le_antisymm (a1 y m2) (a2 x m1)
    subst e
    rw [sortedI_unique (List.Perm.cons_inv p) b1 b2]
theorem sortI_congr {l m : List Int} (h : l.Perm m) : sortI l = sortI m := sortedI_unique ((sortI_perm l).trans (h.trans (sortI_perm m).symm)) (sortI_sorted l) (sortI_sorted m)
theorem dataLt_I (x y : Int) : dataLt (.int x) (.int y) = decide (x < y) := by
  unfold dataLt
  simp only [keyToks]
  have h := lex_cons (O := itemOrd) (Sum.inl x) (Sum.inl y) [] []
  rw [h]
  show (decide (x < y) || (!decide (y < x) && false)) = decide (x < y)
  rw [Bool.and_false, Bool.or_false]
theorem sortD_I (l : List Int) : sortD (l.map PyData.int) = (sortI l).map PyData.int := by
  unfold sortD
  have e1 : (l.mergeSort (fun a b => decide (a ≤ b))).map PyData.int = (l.map PyData.int).mergeSort (dataLe false id) := sort_maps (r := fun a b : Int => decide (a ≤ b)) (s := dataLe false id) PyData.int fun a _ b _ => by
    show decide (a ≤ b) = !dataLt (.int b) (.int a)
    rw [dataLt_I, Bool.eq_iff_iff]
    simp only [decide_eq_true_eq, Bool.not_eq_true', decide_eq_false_iff_not]
    omega
  rw [← e1]
  congr 1
  refine sortedI_unique ((List.mergeSort_perm l _).trans (sortI_perm l).symm) ?_ (sortI_sorted l)
  have h := List.pairwise_mergeSort (le := fun a b : Int => decide (a ≤ b)) (fun a b c h1 h2 => decide_eq_true (Int.le_trans (of_decide_eq_true h1) (of_decide_eq_true h2))) (fun a b => by
    rcases Int.le_total a b with h | h
    · rw [decide_eq_true h]; rfl
    · rw [decide_eq_true h, Bool.or_true]) l
  exact h.imp fun h => of_decide_eq_true h
theorem alike_I (l : List Int) : AllAlike (l.map PyData.int) := AllAlike.of fun b b' => rfl
theorem sortable_I (l : List Int) : Sortable (l.map PyData.int) := Sortable.others fun b => ⟨(fun z => by cases z), (fun xs z => by cases z)⟩
theorem depths_I (l : List Int) : ∀ d ∈ l.map PyData.int, d.depth ≤ 60 := fun d h => by
  obtain ⟨q, _, rfl⟩ := List.mem_map.mp h
  simp only [PyData.depth]
  omega
theorem eqvAll_I : ∀ l m : List Int, PyData.eqvAll (l.map PyData.int) (m.map PyData.int) = decide (l = m)
  | [], [] => rfl
  | [], _ :: _ => rfl
  | _ :: _, [] => rfl
  | x :: l, y :: m => by
    show (PyData.eqv (.int x) (.int y) && PyData.eqvAll (l.map PyData.int) (m.map PyData.int)) = _
    rw [eqvAll_I l m]
    show ((x == y) && decide (l = m)) = _
    rw [Bool.eq_iff_iff]
    simp only [Bool.and_eq_true, beq_iff_eq, decide_eq_true_eq, List.cons.injEq]
theorem eqv_I (l m : List Int) : PyData.eqv (.list (l.map PyData.int)) (.list (m.map PyData.int)) = decide (l = m) := eqvAll_I l m
theorem eqvAll_qt : ∀ l m : List Qt, PyData.eqvAll (l.map Qt.D) (m.map Qt.D) = decide (l = m)
  | [], [] => rfl
  | [], _ :: _ => rfl
  | _ :: _, [] => rfl
  | x :: l, y :: m => by
    show (PyData.eqv x.D y.D && PyData.eqvAll (l.map Qt.D) (m.map Qt.D)) = _
    rw [eqvAll_qt l m, eqv_qt, Bool.eq_iff_iff]
    simp only [Bool.and_eq_true, decide_eq_true_eq, List.cons.injEq]
theorem eqv_qts (l m : List Qt) : PyData.eqv (.list (l.map Qt.D)) (.list (m.map Qt.D)) = decide (l = m) := eqvAll_qt l m
/-! ### rows -/
abbrev pp (p : Int) : Qt := ⟨2 * p, 0, 0, 0⟩
def lp (q : Qt) (p : Int) : Qt := Qt.canon (Qt.gcl q (pp p))
def rowF : Qt → List Int → List Qt × Qt
  | q, [] => ([], q)
  | q, p :: ps => (lp q p :: (rowF (Qt.quo q (lp q p)) ps).1, (rowF (Qt.quo q (lp q p)) ps).2)
theorem pp_ok (p : Int) : (pp p).ok := by
  unfold pp Qt.ok
  simp only
  omega
theorem pp_ne {p : Int} (h : 1 ≤ p) : pp p ≠ Qt.zero := fun e => by
  unfold pp Qt.zero at e
  rw [Qt.mk.injEq] at e
  omega
theorem pp_n4 (p : Int) : (pp p).n4 = 4 * (p * p) := by
  unfold pp Qt.n4
  simp only
  grind
theorem pp_lim {p : Int} (h1 : 1 ≤ p) (h2 : p ≤ 100) : (pp p).n4 ≤ Qt.lim := by
  rw [pp_n4]
  have : p * p ≤ 100 * 100 := Int.mul_le_mul h2 h2 (by omega) (by omega)
  simp only [Qt.lim]
  omega
structure LpOk (q : Qt) (p : Int) : Prop where
  ok : (lp q p).ok
  ne : lp q p ≠ Qt.zero
  lim : (lp q p).n4 ≤ Qt.lim
  dv : Qt.Dv (lp q p) q
  dvp : Qt.Dv (lp q p) (pp p)
theorem lp_ok {q : Qt} {p : Int} (hq : q.ok) (lq : q.n4 ≤ Qt.lim) (h1 : 1 ≤ p) (h2 : p ≤ 100) : LpOk q p := by
  have l := pp_lim h1 h2
  have k := Qt.gcl_ok hq (pp_ok p) lq l
  have n := Qt.gcl_ne hq (pp_ok p) lq l (.inr (pp_ne h1))
  obtain ⟨d1, d2⟩ := Qt.gcl_dv hq (pp_ok p) lq l
  exact ⟨Qt.canon_ok k, Qt.canon_ne k n, by unfold lp; rw [Qt.canon_n4 k]; exact Qt.gcl_lim hq (pp_ok p) lq l, Qt.canon_dv k d1, Qt.canon_dv k d2⟩
/-- what is left when a divisor is taken away -/
theorem rest_ok {q f : Qt} (hq : q.ok) (hz : q ≠ Qt.zero) (lq : q.n4 ≤ Qt.lim) (hf : f.ok) (nf : f ≠ Qt.zero) (d : Qt.Dv f q) : Qt.rst q f = Qt.zero ∧ (Qt.quo q f).ok ∧ Qt.quo q f ≠ Qt.zero ∧ (Qt.quo q f).n4 ≤ Qt.lim := by
  obtain ⟨e, r⟩ := Qt.dv_quo hf nf d
  have k := Qt.quo_ok q f
  have h := Qt.n4_mul hf k
  rw [← e] at h
  refine ⟨r, k, fun z => hz ?_, ?_⟩
  · rw [e, z, Qt.mul_zero]
  · have h4 : 4 ≤ f.n4 := by
      have := Qt.nrm_pos hf nf
      have := Qt.n4_nrm hf
      omega
    have h5 : 4 * (Qt.quo q f).n4 ≤ f.n4 * (Qt.quo q f).n4 := Int.mul_le_mul_of_nonneg_right h4 (Qt.n4_nonneg _)
    omega
end Tp

-- QI
/-! shapes of lists; the six primes -/
namespace Tp
open PySem PySem.Spec PyProof.Rows L2 DL PySem.W
theorem flat_shape : ∀ (ds : List D), (∀ d ∈ ds, d.canLay0 = true ∧ d.depth ≤ 60) → PyData.canLayAll0 ds = true ∧ PyData.depthAll ds ≤ 60
  | [], _ => ⟨by simp only [PyData.canLayAll0], by simp only [PyData.depthAll]; omega⟩
  | d :: ds, h => by
    obtain ⟨h1, h2⟩ := flat_shape ds fun e he => h e (List.mem_cons_of_mem _ he)
    obtain ⟨h3, h4⟩ := h d List.mem_cons_self
    refine ⟨?_, ?_⟩
    · simp only [PyData.canLayAll0, h1, h3, Bool.and_self]
    · simp only [PyData.depthAll]
      omega
theorem shaped_list {ds : List D} (h : ∀ d ∈ ds, d.canLay0 = true ∧ d.depth ≤ 60) : SeqAt.shaped (.list ds) = true := by
  obtain ⟨h1, h2⟩ := flat_shape ds h
  refine Bool.and_eq_true_iff.mpr ⟨by simp only [PyData.canLay0, h1], decide_eq_true ?_⟩
  have e : (PyData.list ds).depth = PyData.depthAll ds + 1 := by simp only [PyData.depth]
  rw [e]
  omega
theorem shaped_I (l : List Int) : SeqAt.shaped (.list (l.map PyData.int)) = true := shaped_list fun d h => by
  obtain ⟨x, _, rfl⟩ := List.mem_map.mp h
  simp only [PyData.canLay0, PyData.depth]
  exact ⟨trivial, by omega⟩
theorem shaped_qts (l : List Qt) : SeqAt.shaped (.list (l.map Qt.D)) = true := shaped_list fun d h => by
  obtain ⟨x, _, rfl⟩ := List.mem_map.mp h
  exact ⟨rfl, depth_qt x⟩
theorem shaped_pairs (l : List (Int × Int)) : SeqAt.shaped (.list (l.map encP)) = true := shaped_list fun d h => by
  obtain ⟨x, _, rfl⟩ := List.mem_map.mp h
  refine ⟨rfl, ?_⟩
  simp only [encP, PyData.depth, PyData.depthAll]
  decide
def primes6 : List Int := [3, 5, 7, 11, 13, 17]
theorem wp6 : ∀ v ∈ primes6, wholePrimes v = [(v, 1)] ∧ 3 ≤ v ∧ v ≤ 17 ∧ 1 ≤ v ∧ v ≤ 15000 := by decide +kernel
def okW (v : Int) : Bool := decide ((wholePrimes v).length ≤ 100) && (wholePrimes v).all fun p => decide (0 ≤ p.2) && decide (p.2 ≤ 100)
theorem okW_len {v : Int} (h : okW v = true) : (wholePrimes v).length ≤ 100 ∧ ∀ p ∈ wholePrimes v, 0 ≤ p.2 ∧ p.2 ≤ 100 := by
  unfold okW at h
  rw [Bool.and_eq_true, decide_eq_true_eq, List.all_eq_true] at h
  refine ⟨h.1, fun p hp => ?_⟩
  have := h.2 p hp
  rw [Bool.and_eq_true, decide_eq_true_eq, decide_eq_true_eq] at this
  exact this
def sndR : D → List D
  | .tuple [_, .int k] => rangeD 0 k.toNat
  | _ => []
def fstR : D → D → D
  | .tuple [p, _], _ => p
  | _, _ => .none
theorem flat_primes : ∀ l : List (Int × Int), flatF (l.map encP) sndR fstR = (l.flatMap fun p => List.replicate p.2.toNat p.1).map PyData.int
  | [] => rfl
  | p :: l => by
    have ih := flat_primes l
    unfold flatF at ih ⊢
    rw [List.map_cons, List.flatMap_cons, ih, List.flatMap_cons, List.map_append]
    congr 1
    show (rangeD 0 p.2.toNat).map (fstR (encP p)) = _
    unfold rangeD
    rw [List.map_map]
    show (List.range p.2.toNat).map (fun _ => PyData.int p.1) = _
    rw [List.map_const', List.length_range, List.map_replicate]
end Tp

-- F7
/-! factors.py: the rest -/
namespace Tp
open PySem PySem.Spec PyProof.Rows L2 DL
section
variable {P : Program} {w : World} {K : PySem.W.Frag} {mg : Str → Option Value} {base : Heap}
def R_is_prime (ds : List D) (d : D) : Prop := ∃ v : Int, v ∈ primes6 ∧ ds = [.int v] ∧ d = .bool true
abbrev N_is_prime : List Str := ["value"]
theorem sc_is_prime : FnScope N_is_prime ["value"] (defScope (top 37)) := ⟨rfl, rfl, rfl, by decide +kernel, rfl, by decide +kernel, by decide +kernel⟩
theorem ok_is_prime (T : Txt K mg) : Fn P w K mg base 2 "is_prime" R_is_prime := by
  refine fn_mk (T.def_is_prime) sc_is_prime (fun _ _ _ _ _ _ us hl => match us, hl with | [_], _ => rfl) ?len ?body
  case len =>
    rintro ds d ⟨v, _, rfl, _⟩
    rfl
  case body =>
    rintro f cdv A outer s H E hr ds d ⟨v, hv, rfl, rfl⟩
    refine ⟨_, (pss_one (ps_ret (pe_and (pe_chain op_le op_le pe_int (pv 0) (C8.pe_gc (by rfl) T.MOST_VALUE)) (pe_one (pe_cmpR (op_eqK K hr.units) (pe_fn (ok_whole_primes T) hr (by decide) (by rfl) (pa_cons (pv 0) pa_nil)) (pe_lst (pa_cons (pe_tup (pa_cons (pv 0) (pa_cons pe_int pa_nil))) pa_nil)) (nomark _)))))), ?_⟩
    obtain ⟨e, h1, h2, h3, h4⟩ := wp6 v hv
    refine run_ret (ev_andV (ev_chain ev_int (ev_var rfl) ev_int) (fun _ => (ev_eqD (d := .list ([(v, 1)].map encP)) (d' := .list ([(v, 1)].map encP)) ((ev_call (ea_cons (ev_var rfl) ea_nil) ⟨v, h3, h4, rfl, rfl⟩).to (by rw [e])) (ev_lst (ea_cons (ev_tup (ea_cons (ev_var rfl) (ea_cons ev_int ea_nil)) (sz 2)) ea_nil) (sz 1)) (shaped_pairs _) (shaped_pairs _)))) ?_
    have q1 : decide (2 ≤ v) = true := decide_eq_true (by omega)
    have q2 : decide (v ≤ 1000000000000) = true := decide_eq_true (by omega)
    have q3 : PyData.eqv (.list ([(v, 1)].map encP)) (.list ([(v, 1)].map encP)) = true := by
      show (((v == v) && ((1 : Int) == 1 && true)) && true) = true
      rw [beq_self_eq_true]
      rfl
    rw [q1, q2, q3]
    rfl
def R_prime_list (ds : List D) (d : D) : Prop := ∃ v : Int, 1 ≤ v ∧ v ≤ 15000 ∧ okW v = true ∧ ds = [.int v] ∧ d = .list ((primeList v).map PyData.int)
abbrev N_prime_list : List Str := ["value", "prime", "power", "_"]
theorem sc_prime_list : FnScope N_prime_list ["value"] (defScope (top 38)) := ⟨rfl, rfl, rfl, by decide +kernel, rfl, by decide +kernel, by decide +kernel⟩
theorem ok_prime_list (T : Txt K mg) : Fn P w K mg base 2 "prime_list" R_prime_list := by
  refine fn_mk (T.def_prime_list) sc_prime_list (fun _ _ _ _ _ _ us hl => match us, hl with | [_], _ => rfl) ?len ?body
  case len =>
    rintro ds d ⟨v, _, _, _, rfl, _⟩
    rfl
  case body =>
    rintro f cdv A outer s H E hr ds d ⟨v, h1, h2, h3, rfl, rfl⟩
    refine ⟨_, (pss_one (ps_ret (pe_lc2 (own := [("prime", 1), ("power", 2), ("_", 3)]) (g := (gTup K 2 (gNames [1, 2]))) (g1 := (gName 3)) (vs1 := [3]) rfl sc_prime_list.nd (pi_list (pe_fn (ok_whole_primes T) hr (by decide) (by rfl) (pa_cons (pv 0) pa_nil))) (blkOk_by (own := [("prime", 1), ("power", 2), ("_", 3)]) (N := N_prime_list) (sc := defScope (top 38)) (by decide +kernel)) (by decide) (fun _ _ _ _ _ => (pg_tup rfl (pgs_cons (pg_name (i := 1) sc_prime_list.nd rfl (Or.inl rfl)) (pgs_cons (pg_name (i := 2) sc_prime_list.nd rfl (Or.inl rfl)) pgs_nil)))) (fun _ _ _ _ _ => pts_nil) (fun _ _ _ _ _ => (pi_range1 (by rfl) T.b_range (pa_cons (pv 2) pa_nil))) (fun _ _ _ _ _ => (pg_name (i := 3) sc_prime_list.nd rfl (Or.inl rfl))) (fun _ _ _ _ _ => pts_nil) (fun _ _ _ _ _ => (pv 1))))), ?_⟩
    obtain ⟨k1, k2⟩ := okW_len h3
    refine run_ret (ev_lc2 (js := [1, 2]) (js1 := [3]) (es := sndR) (f := fstR) (ei_list (ev_call (ea_cons (ev_var rfl) ea_nil) ⟨v, h1, h2, rfl, rfl⟩)) (by rw [List.length_map]; omega) (by decide) (by decide) (fun d hd => ?_)) (by rw [flat_primes]; rfl)
    obtain ⟨p, hp, rfl⟩ := List.mem_map.mp hd
    obtain ⟨k3, k4⟩ := k2 p hp
    refine ⟨_, (eg_tup (egs_names rfl)), (ei_rng1 (j := p.2) (ea_cons (ev_var rfl) ea_nil) (by omega) (by omega)), ?_, fun e he => ⟨_, eg_name, ev_var rfl⟩⟩
    show (rangeD 0 p.2.toNat).length ≤ 300
    rw [rangeD_len]
    omega
def R_check_prime (ds : List D) (d : D) : Prop := ∃ v m : Int, v ∈ primes6 ∧ 17 ≤ m ∧ ds = [.int v, .int m] ∧ d = .none
abbrev N_check_prime : List Str := ["prime", "most"]
theorem sc_check_prime : FnScope N_check_prime ["prime", "most"] (defScope (top 39)) := ⟨rfl, rfl, rfl, by decide +kernel, rfl, by decide +kernel, by decide +kernel⟩
theorem ok_check_prime (T : Txt K mg) : Fn P w K mg base 3 "check_prime" R_check_prime := by
  refine fn_mk (T.def_check_prime) sc_check_prime (fun _ _ _ _ _ _ us hl => match us, hl with | [_, _], _ => rfl) ?len ?body
  case len =>
    rintro ds d ⟨v, m, _, _, rfl, _⟩
    rfl
  case body =>
    rintro f cdv A outer s H E hr ds d ⟨v, m, hv, hm, rfl, rfl⟩
    refine ⟨_, (pss_one (ps_if (PW.pt (pw_or (pt_not (pt_chain op_le op_le pe_int (pv 0) (pv 1))) (pw_or1 (pt_not (pt_val (pe_fn (ok_is_prime T) hr (by decide) (by rfl) (pa_cons (pv 0) pa_nil))))))) pss_never pss_nil)), ?_⟩
    obtain ⟨e, h1, h2, h3, h4⟩ := wp6 v hv
    refine run_if (et_or (et_not (et_test (ev_chain ev_int (ev_var rfl) (ev_var rfl)))) (fun _ => (et_not (et_B (ev_call (ea_cons (ev_var rfl) ea_nil) ⟨v, hv, rfl, rfl⟩))))) (fun h => ?_) (fun h => run_next rfl)
    rw [show decide (2 ≤ v) = true from decide_eq_true (by omega), show decide (v ≤ m) = true from decide_eq_true (by omega)] at h
    cases h
def R_check_order (ds : List D) (d : D) : Prop := ∃ (q : Qt) (ps : List Int), q.ok ∧ q ≠ Qt.zero ∧ q.n4 ≤ Qt.lim ∧ okW q.nrm = true ∧ sortI ps = primeList q.nrm ∧ ds = [q.D, .list (ps.map PyData.int)] ∧ d = .none
abbrev N_check_order : List Str := ["number", "primes"]
theorem sc_check_order : FnScope N_check_order ["number", "primes"] (defScope (top 40)) := ⟨rfl, rfl, rfl, by decide +kernel, rfl, by decide +kernel, by decide +kernel⟩
theorem ok_check_order (T : Txt K mg) : Fn P w K mg base 4 "check_order" R_check_order := by
  refine fn_mk (T.def_check_order) sc_check_order (fun _ _ _ _ _ _ us hl => match us, hl with | [_, _], _ => rfl) ?len ?body
  case len =>
    rintro ds d ⟨q, ps, _, _, _, _, _, rfl, _⟩
    rfl
  case body =>
    rintro f cdv A outer s H E hr ds d ⟨q, ps, hq, hz, hl, hw, hs, rfl, rfl⟩
    refine ⟨_, (pss_cons (ps_expr (pe_fn (ok_check_not_zero T) hr (by decide) (by rfl) (pa_cons (pv 0) pa_nil)))
        (pss_one (ps_if (PW.pt (pw_or (pt_cmpR op_gt (pe_fn (ok_norm T) hr (by decide) (by rfl) (pa_cons (pv 0) pa_nil)) (C8.pe_gc (by rfl) T.MOST_VALUE) (nomark _)) (pw_or1 (pt_cmpR (op_neK K hr.units) (pe_callB (cr_sortD hr.units) (by rfl) T.b_sorted (by decide +kernel) (pa_cons (pv 1) pa_nil)) (pe_fn (ok_prime_list T) hr (by decide) (by rfl) (pa_cons (pe_fn (ok_norm T) hr (by decide) (by rfl) (pa_cons (pv 0) pa_nil)) pa_nil)) (nomark _))))) pss_never pss_nil))), ?_⟩
    have sq : q.sm big := Qt.sm_mono (Qt.lim_sm hl) (by decide)
    have n1 := Qt.nrm_pos hq hz
    have n2 := Qt.nrm_lim hq hl
    refine run_seq (run_drop (ev_call (ea_cons (ev_var rfl) ea_nil) ⟨q, hq, hz, rfl, rfl⟩) ?_)
    refine run_if (et_or (et_test (ev_B0 (ev_call (ea_cons (ev_var rfl) ea_nil) ⟨q, hq, sq, rfl, rfl⟩) ev_int)) (fun _ => (et_test (ev_neD (d := .list ((sortI ps).map PyData.int)) (d' := .list ((primeList q.nrm).map PyData.int)) ((ev_sortD (ea_cons (ev_var rfl) ea_nil) (alike_I ps) (sortable_I ps) (depths_I ps)).to (by rw [sortD_I])) (ev_call (ea_cons (ev_call (ea_cons (ev_var rfl) ea_nil) ⟨q, hq, sq, rfl, rfl⟩) ea_nil) ⟨q.nrm, by omega, by omega, hw, rfl, rfl⟩) (shaped_I _) (shaped_I _))))) (fun h => ?_) (fun h => run_next rfl)
    rw [eqv_I, decide_eq_true hs, show decide (q.nrm > 1000000000000) = false from decide_eq_false (by omega)] at h
    cases h
def R_left_prime (ds : List D) (d : D) : Prop := ∃ (q : Qt) (p : Int), q.ok ∧ q.n4 ≤ Qt.lim ∧ 1 ≤ p ∧ p ≤ 100 ∧ ds = [q.D, .int p] ∧ d = (lp q p).D
abbrev N_left_prime : List Str := ["number", "prime"]
theorem sc_left_prime : FnScope N_left_prime ["number", "prime"] (defScope (top 42)) := ⟨rfl, rfl, rfl, by decide +kernel, rfl, by decide +kernel, by decide +kernel⟩
theorem ok_left_prime (T : Txt K mg) : Fn P w K mg base 8 "left_prime" R_left_prime := by
  refine fn_mk (T.def_left_prime) sc_left_prime (fun _ _ _ _ _ _ us hl => match us, hl with | [_, _], _ => rfl) ?len ?body
  case len =>
    rintro ds d ⟨q, p, _, _, _, _, rfl, _⟩
    rfl
  case body =>
    rintro f cdv A outer s H E hr ds d ⟨q, p, hq, hl, h1, h2, rfl, rfl⟩
    refine ⟨_, (pss_one (ps_ret (pe_fn (ok_left_common T) hr (by decide) (by rfl) (pa_cons (pv 0) (pa_cons (pe_tup (pa_cons (pe_op op_mul pe_int (pv 1)) (pa_cons pe_int (pa_cons pe_int (pa_cons pe_int pa_nil))))) pa_nil))))), ?_⟩
    refine run_ret (ev_call (ea_cons (ev_var rfl) (ea_cons (ev_tup (ea_cons (ev_I ev_int (ev_var rfl) (.inl ⟨by omega, by omega⟩)) (ea_cons ev_int (ea_cons ev_int (ea_cons ev_int ea_nil)))) (sz 4)) ea_nil)) ⟨q, pp p, hq, pp_ok p, .inr (pp_ne h1), hl, pp_lim h1 h2, rfl, rfl⟩) rfl
def R_left_primes (ds : List D) (d : D) : Prop := ∃ (q : Qt) (p : Int), q.ok ∧ q ≠ Qt.zero ∧ q.n4 ≤ Qt.lim ∧ p ∈ primes6 ∧ q.nrm % p = 0 ∧ (lp q p).nrm = p ∧ ds = [q.D, .int p] ∧ d = .list [(lp q p).D]
abbrev N_left_primes : List Str := ["number", "prime", "common"]
theorem sc_left_primes : FnScope N_left_primes ["number", "prime"] (defScope (top 43)) := ⟨rfl, rfl, rfl, by decide +kernel, rfl, by decide +kernel, by decide +kernel⟩
theorem ok_left_primes (T : Txt K mg) : Fn P w K mg base 9 "left_primes" R_left_primes := by
  refine fn_mk (T.def_left_primes) sc_left_primes (fun _ _ _ _ _ _ us hl => match us, hl with | [_, _], _ => rfl) ?len ?body
  case len =>
    rintro ds d ⟨q, p, _, _, _, _, _, _, rfl, _⟩
    rfl
  case body =>
    rintro f cdv A outer s H E hr ds d ⟨q, p, hq, hz, hl, hp, hm, hn, rfl, rfl⟩
    refine ⟨_, (pss_cons (ps_expr (pe_fn (ok_check_not_zero T) hr (by decide) (by rfl) (pa_cons (pv 0) pa_nil)))
        (pss_cons (ps_expr (pe_fn (ok_check_prime T) hr (by decide) (by rfl) (pa_cons (pv 1) (pa_cons (C8.pe_gc (by rfl) T.MOST_PRIME) pa_nil))))
        (pss_cons (ps_if (pt_cmpR op_ne (pe_op op_mod (pe_fn (ok_norm T) hr (by decide) (by rfl) (pa_cons (pv 0) pa_nil)) (pv 1)) pe_int (nomark _)) (pss_one (ps_ret (pe_lst pa_nil))) pss_nil)
        (pss_cons (ps_set (i := 2) sc_left_primes.nd rfl (Or.inl rfl) (pe_fn (ok_left_prime T) hr (by decide) (by rfl) (pa_cons (pv 0) (pa_cons (pv 1) pa_nil))))
        (pss_cons (ps_if (pt_cmpR op_eq (pe_fn (ok_norm T) hr (by decide) (by rfl) (pa_cons (pv 2) pa_nil)) (pv 1) (nomark _)) (pss_one (ps_ret (pe_lst (pa_cons (pv 2) pa_nil)))) pss_nil)
        (pss_one ps_never)))))), ?_⟩
    obtain ⟨_, h1, h2, _, _⟩ := wp6 p hp
    have sq : q.sm big := Qt.sm_mono (Qt.lim_sm hl) (by decide)
    have L := lp_ok hq hl (show (1 : Int) ≤ p by omega) (by omega)
    have sl : (lp q p).sm big := Qt.sm_mono (Qt.lim_sm L.lim) (by decide)
    refine run_seq (run_drop (ev_call (ea_cons (ev_var rfl) ea_nil) ⟨q, hq, hz, rfl, rfl⟩) ?_)
    refine run_seq (run_drop (ev_call (ea_cons (ev_var rfl) (ea_cons ev_int ea_nil)) ⟨p, 1000, hp, by decide, rfl, rfl⟩) ?_)
    refine run_seq (run_if (et_test (ev_neI (ev_I (i := q.nrm) (j := p) (ev_call (ea_cons (ev_var rfl) ea_nil) ⟨q, hq, sq, rfl, rfl⟩) (ev_var rfl) (show (0 : Int) < p by omega)) ev_int)) (fun h => ?_) (fun h => run_next ?_))
    · rw [hm] at h
      cases h
    refine run_seq (run_asg (d := (lp q p).D) (ev_call (ea_cons (ev_var rfl) (ea_cons (ev_var rfl) ea_nil)) ⟨q, p, hq, hl, by omega, by omega, rfl, rfl⟩) ?_)
    show Run K _ [.dat q.D, .dat (.int p), .dat (lp q p).D] _ _
    refine run_seq (run_if (et_test (ev_eqI (ev_call (ea_cons (ev_var rfl) ea_nil) ⟨lp q p, L.ok, sl, rfl, rfl⟩) (ev_var rfl))) (fun h => run_ret (ev_lst (ea_cons (ev_var rfl) ea_nil) (sz 1)) rfl) (fun h => ?_))
    rw [hn, beq_self_eq_true] at h
    cases h
def R_row_of (ds : List D) (d : D) : Prop := ∃ (q : Qt) (ps : List Int), q.ok ∧ q ≠ Qt.zero ∧ q.n4 ≤ Qt.lim ∧ Qt.cont q = 1 ∧ okW q.nrm = true ∧ sortI ps = primeList q.nrm ∧ (∀ p ∈ ps, 1 ≤ p ∧ p ≤ 100) ∧ ps.length ≤ 1000 ∧ ds = [q.D, .list (ps.map PyData.int)] ∧ d = .tuple [.list ((rowF q ps).1.map Qt.D), (rowF q ps).2.D]
theorem rowF_cons (q : Qt) (p : Int) (ps : List Int) : rowF q (p :: ps) = (lp q p :: (rowF (Qt.quo q (lp q p)) ps).1, (rowF (Qt.quo q (lp q p)) ps).2) := rfl
def Wr (q : Qt) (ps : List Int) (i : Nat) (r : List Sl) : Prop := ∃ (done : List Qt) (cur : Qt) (s4 s5 : Sl), cur.ok ∧ cur ≠ Qt.zero ∧ cur.n4 ≤ Qt.lim ∧ done.length = i ∧ done ++ (rowF cur (ps.drop i)).1 = (rowF q ps).1 ∧ (rowF cur (ps.drop i)).2 = (rowF q ps).2 ∧ r = [.dat q.D, .dat (.list (ps.map PyData.int)), .dat cur.D, .own (done.map Qt.D), s4, s5]
abbrev N_row_of : List Str := ["number", "primes", "rest", "row", "prime", "factor"]
theorem sc_row_of : FnScope N_row_of ["number", "primes"] (defScope (top 44)) := ⟨rfl, rfl, rfl, by decide +kernel, rfl, by decide +kernel, by decide +kernel⟩
theorem ok_row_of (T : Txt K mg) : Fn P w K mg base 9 "row_of" R_row_of := by
  refine fn_mk (T.def_row_of) sc_row_of (fun _ _ _ _ _ _ us hl => match us, hl with | [_, _], _ => rfl) ?len ?body
  case len =>
    rintro ds d ⟨q, ps, _, _, _, _, _, _, _, _, rfl, _⟩
    rfl
  case body =>
    rintro f cdv A outer s H E hr ds d ⟨q, ps, hq, hz, hl, hc, hw, hs, hb, hn, rfl, rfl⟩
    refine ⟨_, (pss_cons (ps_expr (pe_fn (ok_check_order T) hr (by decide) (by rfl) (pa_cons (pv 0) (pa_cons (pv 1) pa_nil))))
        (pss_cons (ps_if (pt_not (pt_val (pe_fn (ok_is_primitive T) hr (by decide) (by rfl) (pa_cons (pv 0) pa_nil)))) pss_never pss_nil)
        (pss_cons (ps_set (i := 2) sc_row_of.nd rfl (Or.inl rfl) (pe_tupleK K (by rfl) T.b_tuple (pv 0)))
        (pss_cons (ps_set (i := 3) sc_row_of.nd rfl (Or.inl rfl) (pe_lst pa_nil))
        (pss_cons (ps_for PassesOwn.never rfl (pi_list (pv 1)) (pg_name (i := 4) sc_row_of.nd rfl (Or.inl rfl)) (pss_cons (ps_set (i := 5) sc_row_of.nd rfl (Or.inl rfl) (pe_fn (ok_left_prime T) hr (by decide) (by rfl) (pa_cons (pv 2) (pa_cons (pv 4) pa_nil))))
        (pss_cons (ps_expr (pe_bm PySem.F.plainAttrs_list PySem.F.slot_list_append PySem.F.type_list_append mt_append (pv 3) (pa_cons (pv 5) pa_nil)))
        (pss_one (ps_set (i := 2) sc_row_of.nd rfl (Or.inl rfl) (pe_fn (ok_left_quotient T) hr (by decide) (by rfl) (pa_cons (pv 2) (pa_cons (pv 5) pa_nil))))))))
        (pss_one (ps_ret (pe_tup (pa_cons (pv 3) (pa_cons (pv 2) pa_nil)))))))))), ?_⟩
    have sq : q.sm 1000000 := Qt.sm_mono (Qt.lim_sm hl) (by decide)
    refine run_seq (run_drop (ev_call (ea_cons (ev_var rfl) (ea_cons (ev_var rfl) ea_nil)) ⟨q, ps, hq, hz, hl, hw, hs, rfl, rfl⟩) ?_)
    refine run_seq (run_if (et_not (et_B (ev_call (ea_cons (ev_var rfl) ea_nil) ⟨q, hq, hz, sq, rfl, rfl⟩))) (fun h => ?_) (fun h => run_next ?_))
    · rw [hc] at h
      cases h
    refine run_seq (run_asg (d := q.D) (ev_tupT (ev_var rfl)) (run_seq (run_new ?_)))
    show Run K _ [.dat q.D, .dat (.list (ps.map PyData.int)), .dat q.D, .own [], .un, .un] _ _
    refine run_seq (run_forN (ei_list (ev_var rfl)) (Wr q ps) ⟨[], q, .un, .un, hq, hz, hl, rfl, rfl, rfl, rfl⟩ (fun i d r hd w => ?_) ?_)
    · obtain ⟨done, cur, s4, s5, k1, k2, k3, k4, k5, k6, rfl⟩ := w
      rw [List.getElem?_map] at hd
      cases e : ps[i]? with
      | none =>
        rw [e] at hd
        cases hd
      | some p =>
        rw [e] at hd
        cases hd
        obtain ⟨hi, e2⟩ := List.getElem?_eq_some_iff.mp e
        obtain ⟨p1, p2⟩ := hb p (e2 ▸ List.getElem_mem hi)
        have L := lp_ok k1 k3 p1 p2
        obtain ⟨r1, r2, r3, r4⟩ := rest_ok k1 k2 k3 L.ok L.ne L.dv
        rw [List.drop_eq_getElem_cons hi, e2, rowF_cons] at k5 k6
        show Run K _ [.dat q.D, .dat (.list (ps.map PyData.int)), .dat cur.D, .own (done.map Qt.D), .dat (.int p), s5] _ _
        refine run_seq (run_asg (d := (lp cur p).D) (ev_call (ea_cons (ev_var rfl) (ea_cons (ev_var rfl) ea_nil)) ⟨cur, p, k1, k3, p1, p2, rfl, rfl⟩) ?_)
        show Run K _ [.dat q.D, .dat (.list (ps.map PyData.int)), .dat cur.D, .own (done.map Qt.D), .dat (.int p), .dat (lp cur p).D] _ _
        refine run_seq (run_append (ds := done.map Qt.D) rfl (ev_var rfl) (by rw [List.length_map]; omega) ?_)
        show Run K _ [.dat q.D, .dat (.list (ps.map PyData.int)), .dat cur.D, .own (done.map Qt.D ++ [(lp cur p).D]), .dat (.int p), .dat (lp cur p).D] _ _
        refine run_asg (d := (Qt.quo cur (lp cur p)).D) (ev_call (ea_cons (ev_var rfl) (ea_cons (ev_var rfl) ea_nil)) ⟨cur, lp cur p, k1, L.ok, L.ne, k3, L.lim, rfl, r1, rfl⟩) ?_
        refine ⟨done ++ [lp cur p], Qt.quo cur (lp cur p), .dat (.int p), .dat (lp cur p).D, r2, r3, r4, ?_, ?_, ?_, ?_⟩
        · rw [List.length_append, k4]
          rfl
        · rw [← k5, List.append_assoc, List.singleton_append]
        · exact k6
        · rw [List.map_append]
          rfl
    · rintro r ⟨done, cur, s4, s5, k1, k2, k3, k4, k5, k6, rfl⟩
      rw [List.length_map, List.drop_length] at k5 k6
      refine run_ret (ev_tup (ea_cons (ev_var rfl) (ea_cons (ev_var rfl) ea_nil)) (sz 2)) ?_
      rw [← k5, ← k6]
      show _ = PyData.tuple [.list ((done ++ []).map Qt.D), cur.D]
      rw [List.append_nil]
end
end Tp

-- F8
/-! tables.py: the small ones -/
namespace Tp
open PySem PySem.Spec PyProof.Rows L2 DL
section
variable {P : Program} {w : World} {K : PySem.W.Frag} {mg : Str → Option Value} {base : Heap}
def R_check_odd (ds : List D) (d : D) : Prop := ∃ v : Int, v ∈ primes6 ∧ ds = [.int v] ∧ d = .none
abbrev N_check_odd : List Str := ["prime"]
theorem sc_check_odd : FnScope N_check_odd ["prime"] (defScope (top 47)) := ⟨rfl, rfl, rfl, by decide +kernel, rfl, by decide +kernel, by decide +kernel⟩
theorem ok_check_odd (T : Txt K mg) : Fn P w K mg base 4 "check_odd" R_check_odd := by
  refine fn_mk (T.def_check_odd) sc_check_odd (fun _ _ _ _ _ _ us hl => match us, hl with | [_], _ => rfl) ?len ?body
  case len =>
    rintro ds d ⟨v, _, rfl, _⟩
    rfl
  case body =>
    rintro f cdv A outer s H E hr ds d ⟨v, hv, rfl, rfl⟩
    refine ⟨_, (pss_cons (ps_expr (pe_fn (ok_check_prime T) hr (by decide) (by rfl) (pa_cons (pv 0) (pa_cons (C8.pe_gc (by rfl) T.MOST_ODD) pa_nil))))
        (pss_one (ps_if (pt_cmpR op_eq (pv 0) pe_int (nomark _)) pss_never pss_nil))), ?_⟩
    obtain ⟨e, h1, h2, h3, h4⟩ := wp6 v hv
    refine run_seq (run_drop (ev_call (ea_cons (ev_var rfl) (ea_cons ev_int ea_nil)) ⟨v, 10000, hv, by decide, rfl, rfl⟩) (
      run_if (et_test (ev_eqI (ev_var rfl) ev_int)) (fun h => ?_) (fun h => run_next rfl)))
    have e := eq_of_beq h
    omega
def R_is_pair (ds : List D) (d : D) : Prop := ∃ a b : Int, ds = [.tuple [.int a, .int b]] ∧ d = .bool true
abbrev N_is_pair : List Str := ["value", "part"]
theorem sc_is_pair : FnScope N_is_pair ["value"] (defScope (top 51)) := ⟨rfl, rfl, rfl, by decide +kernel, rfl, by decide +kernel, by decide +kernel⟩
theorem ok_is_pair (T : Txt K mg) : Fn P w K mg base 1 "is_pair" R_is_pair := by
  refine fn_mk (T.def_is_pair) sc_is_pair (fun _ _ _ _ _ _ us hl => match us, hl with | [_], _ => rfl) ?len ?body
  case len =>
    rintro ds d ⟨a, b, rfl, _⟩
    rfl
  case body =>
    rintro f cdv A outer s H E hr ds d ⟨a, b, rfl, rfl⟩
    refine ⟨_, (pss_one (ps_ret (pe_and (pe_callB (cr_isiTK K) (by rfl) T.b_isinstance (by decide +kernel) (pa_cons (pv 0) (pa_cons (pe_tup (pa_cons (pe_bltn (v := .ty "tuple") (by rfl) T.b_tuple (by decide +kernel) rfl) (pa_cons (pe_bltn (v := .ty "list") (by rfl) T.b_list (by decide +kernel) rfl) pa_nil))) pa_nil))) (pe_and (pe_cmpR op_eq (pe_callB (cb_lenK K) (by rfl) T.b_len PySem.boot_len (pa_cons (pv 0) pa_nil)) pe_int (nomark _)) (pe_one (pe_callB (cr_allK K rfl) (by rfl) T.b_all (by decide +kernel) (pa_cons (pe_lc (own := [("part", 1)]) (g := (gName 1)) rfl sc_is_pair.nd (pi_tup (pv 0)) (blkOk_by (own := [("part", 1)]) (N := N_is_pair) (sc := defScope (top 51)) (by decide +kernel)) (fun _ _ _ _ _ => (pg_name (i := 1) sc_is_pair.nd rfl (Or.inl rfl))) (fun _ _ _ _ _ => pts_nil) (fun _ _ _ _ _ => (pe_callB (cr_isiK K) (by rfl) T.b_isinstance (by decide +kernel) (pa_cons (pv 1) (pa_cons (pe_bltn (v := .ty "int") (by rfl) T.b_int (by decide +kernel) rfl) pa_nil))))) pa_nil))))))), ?_⟩
    exact run_ret (d := .bool (true && (decide True && true))) (ev_andV (ev_isSeq (ev_var rfl)) (fun _ => (ev_andV (c := true) ((ev_eqI (ev_lenT (ea_cons (ev_var rfl) ea_nil)) ev_int).to rfl) (fun _ => (ev_all (ns := [true, true]) (ea_cons (ev_lcI [a, b] (f := fun _ => .bool true) (ei_tup (ev_var rfl)) rfl (by simp) (by decide) (fun n hn => ⟨_, eg_name, (ev_isInt (ev_var rfl))⟩)) ea_nil)))))) rfl
def tab4 (a b c d : Int) : D := .tuple [.tuple [.int a, .int b], .tuple [.int c, .int d]]
def R_check_table (ds : List D) (d : D) : Prop := ∃ a b c e p : Int, 0 ≤ a ∧ a < p ∧ 0 ≤ b ∧ b < p ∧ 0 ≤ c ∧ c < p ∧ 0 ≤ e ∧ e < p ∧ ds = [tab4 a b c e, .int p] ∧ d = .none
def itemsT : D → List D
  | .tuple ds => ds
  | _ => []
def inR (p : Int) : D → D → D
  | _, .int x => .bool (decide (0 ≤ x) && decide (x < p))
  | _, _ => .none
abbrev N_check_table : List Str := ["table", "prime", "line", "part"]
theorem sc_check_table : FnScope N_check_table ["table", "prime"] (defScope (top 52)) := ⟨rfl, rfl, rfl, by decide +kernel, rfl, by decide +kernel, by decide +kernel⟩
theorem ok_check_table (T : Txt K mg) : Fn P w K mg base 2 "check_table" R_check_table := by
  refine fn_mk (T.def_check_table) sc_check_table (fun _ _ _ _ _ _ us hl => match us, hl with | [_, _], _ => rfl) ?len ?body
  case len =>
    rintro ds d ⟨a, b, c, e, p, _, _, _, _, _, _, _, _, rfl, _⟩
    rfl
  case body =>
    rintro f cdv A outer s H E hr ds d ⟨a, b, c, e, p, h1, h2, h3, h4, h5, h6, h7, h8, rfl, rfl⟩
    refine ⟨_, (pss_cons (ps_if (PW.pt (pw_or (pt_not (pt_val (pe_callB (cr_isiTK K) (by rfl) T.b_isinstance (by decide +kernel) (pa_cons (pv 0) (pa_cons (pe_tup (pa_cons (pe_bltn (v := .ty "tuple") (by rfl) T.b_tuple (by decide +kernel) rfl) (pa_cons (pe_bltn (v := .ty "list") (by rfl) T.b_list (by decide +kernel) rfl) pa_nil))) pa_nil))))) (pw_or (pt_cmpR op_ne (pe_callB (cb_lenK K) (by rfl) T.b_len PySem.boot_len (pa_cons (pv 0) pa_nil)) pe_int (nomark _)) (pw_or1 (pt_not (pt_val (pe_callB (cr_allK K rfl) (by rfl) T.b_all (by decide +kernel) (pa_cons (pe_lc (own := [("line", 2)]) (g := (gName 2)) rfl sc_check_table.nd (pi_tup (pv 0)) (blkOk_by (own := [("line", 2)]) (N := N_check_table) (sc := defScope (top 52)) (by decide +kernel)) (fun _ _ _ _ _ => (pg_name (i := 2) sc_check_table.nd rfl (Or.inl rfl))) (fun _ _ _ _ _ => pts_nil) (fun _ _ _ _ _ => (pe_fn (ok_is_pair T) hr (by decide) (by rfl) (pa_cons (pv 2) pa_nil)))) pa_nil)))))))) pss_never pss_nil)
        (pss_one (ps_if (pt_not (pt_val (pe_callB (cr_allK K rfl) (by rfl) T.b_all (by decide +kernel) (pa_cons (pe_lc2 (own := [("line", 2), ("part", 3)]) (g := (gName 2)) (g1 := (gName 3)) (vs1 := [3]) rfl sc_check_table.nd (pi_tup (pv 0)) (blkOk_by (own := [("line", 2), ("part", 3)]) (N := N_check_table) (sc := defScope (top 52)) (by decide +kernel)) (by decide) (fun _ _ _ _ _ => (pg_name (i := 2) sc_check_table.nd rfl (Or.inl rfl))) (fun _ _ _ _ _ => pts_nil) (fun _ _ _ _ _ => (pi_tupK K (pv 2))) (fun _ _ _ _ _ => (pg_name (i := 3) sc_check_table.nd rfl (Or.inl rfl))) (fun _ _ _ _ _ => pts_nil) (fun _ _ _ _ _ => (pe_chain op_le op_lt pe_int (pv 3) (pv 1)))) pa_nil)))) pss_never pss_nil))), ?_⟩
    refine run_seq (run_if (et_or (et_not (et_B (ev_isSeq (ds := [.tuple [.int a, .int b], .tuple [.int c, .int e]]) (ev_var rfl)))) (fun _ => (et_or (et_test (ev_neI (ev_lenT (ds := [.tuple [.int a, .int b], .tuple [.int c, .int e]]) (ea_cons (ev_var rfl) ea_nil)) ev_int)) (fun _ => (et_not (et_B (ev_all (ns := [true, true]) (ea_cons (ev_lcM (fun q : Int × Int => .tuple [.int q.1, .int q.2]) [(a, b), (c, e)] (f := fun _ => .bool true) (ei_tup (ev_var rfl)) rfl (by simp) (by decide) (fun q hq => ⟨_, eg_name, (ev_call (ea_cons (ev_var rfl) ea_nil) ⟨q.1, q.2, rfl, rfl⟩)⟩)) ea_nil)))))))) (fun h => ?_) (fun h => run_next ?_))
    · cases h
    refine run_if (et_not (et_B (ev_all (ns := [decide (0 ≤ a) && decide (a < p), decide (0 ≤ b) && decide (b < p), decide (0 ≤ c) && decide (c < p), decide (0 ≤ e) && decide (e < p)]) (ea_cons (ev_lc2 (js := [2]) (js1 := [3]) (ds := [.tuple [.int a, .int b], .tuple [.int c, .int e]]) (es := itemsT) (f := inR p) (ei_tup (ev_var rfl)) (by simp) (by decide) (by decide) (fun d hd => ?_)) ea_nil)))) (fun h => ?_) (fun h => run_next rfl)
    · have hq : ∃ x y : Int, d = .tuple [.int x, .int y] := by
        rcases List.mem_cons.mp hd with z | hd
        · exact ⟨_, _, z⟩
        · rcases List.mem_cons.mp hd with z | hd
          · exact ⟨_, _, z⟩
          · cases hd
      obtain ⟨x, y, rfl⟩ := hq
      refine ⟨_, eg_name, (ei_tup (ev_var rfl)), by simp [itemsT], fun f hf => ?_⟩
      have hq : ∃ x : Int, f = .int x := by
        rcases List.mem_cons.mp hf with z | hf
        · exact ⟨_, z⟩
        · rcases List.mem_cons.mp hf with z | hf
          · exact ⟨_, z⟩
          · cases hf
      obtain ⟨z, rfl⟩ := hq
      exact ⟨_, eg_name, (ev_chain ev_int (ev_var rfl) (ev_var rfl))⟩
    · rw [decide_eq_true h1, decide_eq_true h2, decide_eq_true h3, decide_eq_true h4, decide_eq_true h5, decide_eq_true h6, decide_eq_true h7, decide_eq_true h8] at h
      cases h
def linesL (p : Int) : List (Int × Int) := (0, 1) :: (List.range p.toNat).map fun m => (1, (0 + (m : Nat) : Int))
def R_lines (ds : List D) (d : D) : Prop := ∃ p : Int, p ∈ primes6 ∧ ds = [.int p] ∧ d = .list ((linesL p).map encP)
abbrev N_lines : List Str := ["prime", "m"]
theorem sc_lines : FnScope N_lines ["prime"] (defScope (top 54)) := ⟨rfl, rfl, rfl, by decide +kernel, rfl, by decide +kernel, by decide +kernel⟩
theorem ok_lines (T : Txt K mg) : Fn P w K mg base 5 "lines" R_lines := by
  refine fn_mk (T.def_lines) sc_lines (fun _ _ _ _ _ _ us hl => match us, hl with | [_], _ => rfl) ?len ?body
  case len =>
    rintro ds d ⟨p, _, rfl, _⟩
    rfl
  case body =>
    rintro f cdv A outer s H E hr ds d ⟨p, hp, rfl, rfl⟩
    refine ⟨_, (pss_cons (ps_expr (pe_fn (ok_check_odd T) hr (by decide) (by rfl) (pa_cons (pv 0) pa_nil)))
        (pss_one (ps_ret (pe_op op_catS (pe_lst (pa_cons (pe_tup (pa_cons pe_int (pa_cons pe_int pa_nil))) pa_nil)) (pe_lc (own := [("m", 1)]) (g := (gName 1)) rfl sc_lines.nd (pi_range1 (by rfl) T.b_range (pa_cons (pv 0) pa_nil)) (blkOk_by (own := [("m", 1)]) (N := N_lines) (sc := defScope (top 54)) (by decide +kernel)) (fun _ _ _ _ _ => (pg_name (i := 1) sc_lines.nd rfl (Or.inl rfl))) (fun _ _ _ _ _ => pts_nil) (fun _ _ _ _ _ => (pe_tup (pa_cons pe_int (pa_cons (pv 1) pa_nil))))))))), ?_⟩
    obtain ⟨_, h1, h2, _, _⟩ := wp6 p hp
    have hl : (List.range p.toNat).length ≤ 17 := by
      rw [List.length_range]
      omega
    refine run_seq (run_drop (ev_call (ea_cons (ev_var rfl) ea_nil) ⟨p, hp, rfl, rfl⟩) (
      run_ret (ev_catL (ds := [.tuple [.int 0, .int 1]]) (ev_lst (ea_cons (ev_tup (ea_cons ev_int (ea_cons ev_int ea_nil)) (sz 2)) ea_nil) (sz 1)) (ev_lcM (fun m : Nat => .int (0 + (m : Int))) (List.range p.toNat) (f := fun m => .tuple [.int 1, .int (0 + (m : Int))]) (ei_rng1 (j := p) (ea_cons (ev_var rfl) ea_nil) (by omega) (by omega)) rfl (by omega) (by decide) (fun i hi => ⟨_, eg_name, (ev_tup (ea_cons ev_int (ea_cons (ev_var rfl) ea_nil)) (sz 2))⟩)) (by simp) (by rw [List.length_map]; omega)) ?_))
    unfold linesL
    rw [List.map_cons, List.map_map]
    rfl
def powL (m : Int) : Nat → Int → Int → Int → Int
  | 0, _, _, f => f
  | n + 1, b, e, f => if e > 0 then powL m n (b * b % m) (e / 2) (if e % 2 = 1 then f * b % m else f) else f
def R_pow_of (ds : List D) (d : D) : Prop := ∃ b e m : Int, 0 ≤ b ∧ b < 1000 ∧ 0 ≤ e ∧ e < 32 ∧ 1 ≤ m ∧ m < 1000 ∧ ds = [.int b, .int e, .int m] ∧ d = .int (powL m 5 b e 1)
def Wp (m fin : Int) (n : Nat) (r : List Sl) : Prop := ∃ b e f : Int, 0 ≤ b ∧ b < 1000 ∧ 0 ≤ e ∧ e < 2 ^ n ∧ 0 ≤ f ∧ f < 1000 ∧ powL m n b e f = fin ∧ r = [.dat (.int b), .dat (.int e), .dat (.int m), .dat (.int f)]
abbrev N_pow_of : List Str := ["base", "exponent", "modulus", "found"]
theorem sc_pow_of : FnScope N_pow_of ["base", "exponent", "modulus"] (defScope (top 56)) := ⟨rfl, rfl, rfl, by decide +kernel, rfl, by decide +kernel, by decide +kernel⟩
theorem ok_pow_of (T : Txt K mg) : Fn P w K mg base 1 "pow_of" R_pow_of := by
  refine fn_mk (T.def_pow_of) sc_pow_of (fun _ _ _ _ _ _ us hl => match us, hl with | [_, _, _], _ => rfl) ?len ?body
  case len =>
    rintro ds d ⟨b, e, m, _, _, _, _, _, _, rfl, _⟩
    rfl
  case body =>
    rintro f cdv A outer s H E hr ds d ⟨b0, e0, m, h1, h2, h3, h4, h5, h6, rfl, rfl⟩
    refine ⟨_, (pss_cons (ps_set (i := 3) sc_pow_of.nd rfl (Or.inl rfl) pe_int)
        (pss_cons (ps_while PassesOwn.never (pt_cmpR op_gt (pv 1) pe_int (nomark _)) (pss_cons (ps_if (pt_cmpR op_eq (pe_op op_mod (pv 1) pe_int) pe_int (nomark _)) (pss_one (ps_set (i := 3) sc_pow_of.nd rfl (Or.inl rfl) (pe_op op_mod (pe_op op_mul (pv 3) (pv 0)) (pv 2)))) pss_nil)
        (pss_cons (ps_set (i := 0) sc_pow_of.nd rfl (Or.inl rfl) (pe_op op_mod (pe_op op_mul (pv 0) (pv 0)) (pv 2)))
        (pss_one (ps_aug (i := 1) sc_pow_of.nd rfl (Or.inl rfl) pe_int iop_fdiv)))))
        (pss_one (ps_ret (pv 3))))), ?_⟩
    refine run_seq (run_asg ev_int ?_)
    refine run_seq (run_while (Wp m (powL m 5 b0 e0 1)) 5 ⟨b0, e0, 1, h1, h2, h3, h4, by decide, by decide, rfl, rfl⟩ ?_)
    rintro n r ⟨b, e, f, k1, k2, k3, k4, k5, k6, hw, rfl⟩
    refine ⟨_, (et_test (ev_B0 (ev_var rfl) ev_int)), fun h => ?_, fun h => ?_⟩
    · have he : e > 0 := of_decide_eq_true h
      obtain ⟨i, rfl⟩ : ∃ i, n = i + 1 := by
        cases n with
        | zero =>
          have : (2 : Int) ^ 0 = 1 := by decide
          omega
        | succ i => exact ⟨i, rfl⟩
      have hm : ∀ x : Int, 0 ≤ x % m ∧ x % m < 1000 := fun x => ⟨Int.emod_nonneg x (by omega), by have := Int.emod_lt_of_pos x (show 0 < m by omega); omega⟩
      have fin : ∀ f' : Int, 0 ≤ f' → f' < 1000 → powL m i (b * b % m) (e / 2) f' = powL m 5 b0 e0 1 → Run K (tSeq (tAsg (tOp (rI (fun x j => 0 < j) fun i j => .int (i % j)) (tOp (rI CMul fun i j => .int (i * j)) (tVar 0) (tVar 0)) (tVar 2)) (gName 0)) (tAug 1 (tC (.int 2)) (rI CDiv fun i j => .int (i / j)))) [.dat (.int b), .dat (.int e), .dat (.int m), .dat (.int f')] (fun r' => ∃ m', m' < i + 1 ∧ Wp m (powL m 5 b0 e0 1) m' r') (fun d' => d' = .int (powL m 5 b0 e0 1)) := fun f' g1 g2 g3 => by
        refine run_seq (run_asg (ev_I (ev_I (ev_var rfl) (ev_var rfl) (.inl ⟨by omega, by omega⟩)) (ev_var rfl) (show (0 : Int) < m by omega)) ?_)
        show Run K _ [.dat (.int (b * b % m)), .dat (.int e), .dat (.int m), .dat (.int f')] _ _
        refine run_augC (C := CDiv) rfl ev_int ⟨by decide, by decide⟩ rfl ?_
        have e2 : (2 : Int) ^ (i + 1) = 2 * 2 ^ i := by
          rw [Int.pow_succ]
          omega
        exact ⟨i, Nat.lt_succ_self i, _, _, f', (hm _).1, (hm _).2, by omega, by omega, g1, g2, g3, rfl⟩
      have hw' : powL m i (b * b % m) (e / 2) (if e % 2 = 1 then f * b % m else f) = powL m 5 b0 e0 1 := by
        rw [← hw]
        show _ = if e > 0 then powL m i (b * b % m) (e / 2) (if e % 2 = 1 then f * b % m else f) else f
        rw [if_pos he]
      refine run_seq (run_if (et_test (ev_eqI (ev_I (ev_var rfl) ev_int (show (0 : Int) < 2 by decide)) ev_int)) (fun h => run_asg (ev_I (ev_I (ev_var rfl) (ev_var rfl) (.inl ⟨by omega, by omega⟩)) (ev_var rfl) (show (0 : Int) < m by omega)) ?_) (fun h => run_next ?_))
      · show Run K _ [.dat (.int b), .dat (.int e), .dat (.int m), .dat (.int (f * b % m))] _ _
        refine fin _ (hm _).1 (hm _).2 ?_
        rw [if_pos (eq_of_beq h)] at hw'
        exact hw'
      · refine fin _ k5 k6 ?_
        rw [if_neg (fun z => by rw [z] at h; cases h)] at hw'
        exact hw'
    · have he : ¬ e > 0 := of_decide_eq_false h
      refine run_ret (ev_var rfl) ?_
      rw [← hw]
      cases n with
      | zero => rfl
      | succ i => exact congrArg PyData.int (if_neg he).symm
end
end Tp

-- F9
/-! tables.py: roots -/
namespace Tp
open PySem PySem.Spec PyProof.Rows L2 DL
def RootsAt (p : Int) (a : Addr) (i : Nat) (H0 H : Hp) : Prop := ∃ kvs : List (Key × V), H a = some (.dK kvs) ∧ kvs.length ≤ i ∧ ∀ k : Int, (valV kvs (Sum.inl k : Key) = none ∧ ∀ r : Nat, r < i → (r : Int) * r % p ≠ k) ∨
  ∃ (b : Addr) (r0 : Nat) (rest : List V), valV kvs (Sum.inl k : Key) = some (.ref b) ∧ H0 b = none ∧ H b = some (.lst (.int (r0 : Int) :: rest)) ∧ rest.length ≤ i ∧ r0 < i ∧ (r0 : Int) * r0 % p = k ∧ ∀ r : Nat, r < r0 → (r : Int) * r % p ≠ k
def spRB : Sp := fun vs H Q _ => ∃ p : Int, vs = [.int p] ∧ p ∈ primes6 ∧ ∀ a H', Same H H' → RootsAt p a p.toNat H H' → Q (.ref a) H'
section
variable {P : Program} {w : World} {K : PySem.W.Frag} {mg : Str → Option Value} {base : Heap}
abbrev N_roots : List Str := ["prime", "found", "root"]
theorem sc_roots : FnScope N_roots ["prime"] (defScope (top 48)) := ⟨rfl, rfl, rfl, by decide +kernel, rfl, by decide +kernel, by decide +kernel⟩
theorem ok_roots (T : Txt K mg) : FnS P w K mg base 1 "roots_by_square" spRB := by
  refine fn_mkS (T.def_roots_by_square) sc_roots (fun _ _ _ _ _ _ us hl => match us, hl with | [_], _ => rfl) (by rintro vs H Q E ⟨p, rfl, _⟩; rfl) ?body
  rintro f cdv A outer s H vs Q E hr ⟨p, rfl, hp, q⟩
  obtain ⟨_, g1, g2, _, _⟩ := wp6 p hp
  refine ⟨_, (pss_cons (ps_set (i := 1) sc_roots.nd rfl (Or.inl rfl) pe_dnewK)
    (pss_cons (ps_for PassesOwn.never rfl (pi_range1 (by rfl) T.b_range (pa_cons (pv 0) pa_nil)) (pg_name (i := 2) sc_roots.nd rfl (Or.inl rfl))
      (pss_one (ps_expr (pe_bm PySem.F.plainAttrs_list PySem.F.slot_list_append PySem.F.type_list_append mt_append (pe_dsetd (pv 1) (pe_op op_mod (pe_op op_mul (pv 2) (pv 2)) (pv 0)) (pe_lst pa_nil) ⟨rfl, rfl, rfl, rfl⟩) (pa_cons (pv 2) pa_nil)))))
    (pss_one (ps_ret (pv 1))))), ?_⟩
  intro a ha
  have s1 : Same H (upd H a (.dK [])) := same_upd ha
  refine ⟨.int p, rfl, p, rfl, by omega, by omega, fun i m σ' H' => m = p.toNat - i ∧ i ≤ p.toNat ∧ (∃ o, σ' = [some (.int p), some (.ref a), o]) ∧ Same H H' ∧ RootsAt p a i H H', ⟨_, rfl, Nat.zero_le _, ⟨none, rfl⟩, s1, [], upd_same, Nat.le_refl _, fun k => .inl ⟨rfl, fun r hr => absurd hr (Nat.not_lt_zero _)⟩⟩, ?_⟩
  rintro i m σ' H' ⟨rfl, hi, ⟨o, rfl⟩, sm, kvs, ea, hl, hk⟩
  by_cases hlt : i < p.toNat
  · refine .inr ⟨hlt, fun σ' H' => (∃ o, σ' = [some (.int p), some (.ref a), o]) ∧ Same H H' ∧ RootsAt p a (i + 1) H H', fun σ' H' h => ⟨_, by omega, rfl, hlt, h⟩, ?_⟩
    rintro x H3 ⟨rfl, rfl⟩
    have ok : EnvOk K (hide H3 []) [some (.int p), some (.ref a), some (.int (0 + (i : Int)))] ([some p, none, some (0 + (i : Int))].map fun o => o.map PyData.int) := env_ints _ rfl fun j n hj => by
      match j, hj with
      | 0, hj => cases hj; rfl
      | 2, hj => cases hj; rfl
    show tBM K "list" rAppend (tDSetd (tVar 1) _ (tLst tNil)) (tCons (tVar 2) tNil) [some (.int p), some (.ref a), some (.int (0 + (i : Int)))] H3 _
    refine ⟨.ref a, rfl, a, rfl, .inl ⟨kvs, .inl ea⟩, ?_⟩
    have hev : Evd K (tOp (rI (fun x j => 0 < j) fun i j => .int (i % j)) (tOp (rI CMul fun i j => .int (i * j)) (tVar 2) (tVar 2)) (tVar 0)) ([some p, none, some (0 + (i : Int))].map fun o => o.map PyData.int) (.int ((0 + (i : Int)) * (0 + (i : Int)) % p)) := ev_I (ev_I (ev_var rfl) (ev_var rfl) (.inl ⟨by omega, by omega⟩)) (ev_var rfl) (show (0 : Int) < p by omega)
    refine ev_raw hev ok fun H4 s4 => ?_
    rw [Int.zero_add]
    refine ⟨Nat.zero_le _, fun z hz => ?_⟩
    have s5 : Same H4 (upd H4 z (.lst [])) := same_upd hz
    have ea4 : H4 a = some (.dK kvs) := s4 _ _ ea
    have ea5 : upd H4 z (.lst []) a = some (.dK kvs) := s5 _ _ ea4
    have hz0 : H z = none := (sm.trans s4).free hz
    have sl : ∀ n : Nat, n ≤ 1000 → n < sizeLine := fun n h => Nat.lt_of_le_of_lt h (by decide)
    refine ⟨kvs, Sum.inl ((i : Int) * (i : Int) % p), ea5, rfl, sl _ (by omega), fun v hv => ?_, fun hv => ?_⟩
    · rcases hk ((i : Int) * (i : Int) % p) with ⟨e, _⟩ | ⟨b, r0, rest, e, b0, eb, lr, h1, h2, h3⟩
      · rw [e] at hv
        cases hv
      · rw [e] at hv
        cases hv
        have eb5 : upd H4 z (.lst []) b = some (.lst (.int (r0 : Int) :: rest)) := s5 _ _ (s4 _ _ eb)
        refine ⟨.inl ⟨rfl, _, SqL.of eb5⟩, .int (i : Int), rfl, b, _, .int (i : Int), rfl, rfl, eb5, sl _ (by rw [List.length_cons]; omega), ⟨_, rfl⟩, ?_, kvs, ?_, by omega, fun k => ?_⟩
        · intro c o hc
          have nc : c ≠ b := ne_of_none hc b0
          rw [upd_ne nc]
          exact s5 _ _ (s4 _ _ (sm _ _ hc))
        · have nab : a ≠ b := fun z => by
            rw [z, eb5] at ea5
            cases ea5
          rw [upd_ne nab]
          exact ea5
        · rcases hk k with ⟨e', n'⟩ | ⟨b', r0', rest', e', b0', eb', lr', h1', h2', h3'⟩
          · refine .inl ⟨e', fun r hr => ?_⟩
            by_cases c : r = i
            · subst c
              intro z
              rw [z] at e
              rw [e] at e'
              cases e'
            · exact n' r (by omega)
          · refine .inr ?_
            by_cases c : b' = b
            · subst c
              rw [eb] at eb'
              have z := L2.HO.lst.inj (Option.some.inj eb')
              have z1 := (List.cons.inj z).1
              have z2 : (r0 : Int) = r0' := V.int.inj z1
              refine ⟨b', r0', rest ++ [.int (i : Int)], e', b0', ?_, ?_, by omega, h2', h3'⟩
              · rw [upd_same, ← z2]
                rfl
              · rw [List.length_append, List.length_singleton]
                omega
            · exact ⟨b', r0', rest', e', b0', by rw [upd_ne c]; exact s5 _ _ (s4 _ _ eb'), by omega, by omega, h2', h3'⟩
    · have nza : z ≠ a := fun e => by
        rw [e, ea4] at hz
        cases hz
      have ez : upd (upd H4 z (.lst [])) a (.dK (putK kvs (Sum.inl ((i : Int) * (i : Int) % p)) (.ref z))) z = some (.lst []) := by
        rw [upd_ne nza, upd_same]
      refine ⟨.inl ⟨rfl, _, SqL.of ez⟩, .int (i : Int), rfl, z, _, .int (i : Int), rfl, rfl, ez, sl _ (by decide), ⟨_, rfl⟩, ?_, putK kvs (Sum.inl ((i : Int) * (i : Int) % p)) (.ref z), ?_, ?_, fun k => ?_⟩
      · intro c o hc
        have n1 : c ≠ z := ne_of_none hc hz0
        have n2 : c ≠ a := ne_of_none hc ha
        rw [upd_ne n1, upd_ne n2]
        exact s5 _ _ (s4 _ _ (sm _ _ hc))
      · rw [upd_ne (fun e => nza e.symm), upd_same]
      · have := length_putK kvs (Sum.inl ((i : Int) * (i : Int) % p) : Key) (V.ref z)
        omega
      · rw [valV_put]
        by_cases c : (Sum.inl k : Key) = Sum.inl ((i : Int) * (i : Int) % p)
        · rw [if_pos c]
          have ck := Sum.inl.inj c
          refine .inr ⟨z, i, [], rfl, hz0, ?_, by simp, by omega, ck.symm, fun r hr => ?_⟩
          · rw [upd_same]
            rfl
          · rcases hk k with ⟨_, n'⟩ | ⟨b', r0', rest', e', _⟩
            · exact n' r hr
            · rw [ck, hv] at e'
              cases e'
        · rw [if_neg c]
          rcases hk k with ⟨e', n'⟩ | ⟨b', r0', rest', e', b0', eb', lr', h1', h2', h3'⟩
          · refine .inl ⟨e', fun r hr => ?_⟩
            by_cases cr : r = i
            · subst cr
              exact fun z => c (by rw [z])
            · exact n' r (by omega)
          · have nb1 : b' ≠ z := fun e => by
              have := s4 _ _ eb'
              rw [e, hz] at this
              cases this
            have nb2 : b' ≠ a := fun e => by
              rw [e, ea] at eb'
              cases eb'
            exact .inr ⟨b', r0', rest', e', b0', by rw [upd_ne nb1, upd_ne nb2]; exact s5 _ _ (s4 _ _ eb'), by omega, by omega, h2', h3'⟩
  · have e : i = p.toNat := by omega
    subst e
    exact .inl ⟨Nat.le_refl _, .ref a, rfl, q a H' sm ⟨kvs, ea, hl, hk⟩⟩
end
end Tp

-- FA
/-! tables.py: root_pair -/
namespace Tp
open PySem PySem.Spec PyProof.Rows L2 DL
def rx (p : Int) : Int := if p = 3 then 1 else if p = 7 then 2 else if p = 11 then 1 else 0
def ry (p : Int) : Nat := if p = 3 then 1 else if p = 5 then 2 else if p = 7 then 3 else if p = 11 then 3 else if p = 13 then 5 else 4
theorem roots6 : ∀ p ∈ primes6, (∀ x ∈ List.range (rx p).toNat, ∀ r ∈ List.range p.toNat, (r : Int) * r % p ≠ (-1 - (x : Int) * x) % p) ∧ ((ry p : Int) * ry p % p = (-1 - rx p * rx p) % p) ∧ (∀ r ∈ List.range (ry p), (r : Int) * r % p ≠ (-1 - rx p * rx p) % p) ∧ 0 ≤ rx p ∧ rx p ≤ 2 ∧ ry p < p.toNat := by decide +kernel
theorem atI_zero {α : Type} {x : α} {l : List α} : atI (x :: l) 0 = some x := by
  unfold atI ixN
  rw [if_pos (Int.le_refl 0), if_pos (by rw [List.length_cons]; omega)]
  rfl
def R_root_pair (ds : List D) (d : D) : Prop := ∃ p : Int, p ∈ primes6 ∧ ds = [.int p] ∧ d = .tuple [.int (rx p), .int (ry p)]
section
variable {P : Program} {w : World} {K : PySem.W.Frag} {mg : Str → Option Value} {base : Heap}
theorem hu1 {A : Around} {k : Nat} (hr : Room k A) : A.units + 1 < cLine := by
  have := hr.un
  omega
abbrev N_root_pair : List Str := ["prime", "roots", "x"]
theorem sc_root_pair : FnScope N_root_pair ["prime"] (defScope (top 49)) := ⟨rfl, rfl, rfl, by decide +kernel, rfl, by decide +kernel, by decide +kernel⟩
theorem ok_root_pair (T : Txt K mg) : Fn P w K mg base 5 "root_pair" R_root_pair := by
  refine fn_mk (T.def_root_pair) sc_root_pair (fun _ _ _ _ _ _ us hl => match us, hl with | [_], _ => rfl) ?len ?body
  case len =>
    rintro ds d ⟨p, _, rfl, _⟩
    rfl
  case body =>
    rintro f cdv A outer s H E hr ds d ⟨p, hp, rfl, rfl⟩
    obtain ⟨_, g1, g2, _, _⟩ := wp6 p hp
    obtain ⟨c1, c2, c3, c4, c5, c6⟩ := roots6 p hp
    refine ⟨_, (pss_cons (ps_expr (pe_fn (ok_check_odd T) hr (by decide) (by rfl) (pa_cons (pv 0) pa_nil)))
      (pss_cons (ps_set (i := 1) sc_root_pair.nd rfl (Or.inl rfl) (pe_fnS (ok_roots T) hr (by decide) (by rfl) (pa_cons (pv 0) pa_nil)))
      (pss_cons (ps_set (i := 2) sc_root_pair.nd rfl (Or.inl rfl) pe_int)
      (pss_cons (ps_while PassesOwn.never (pt_cmp (pc_dnotin (hu1 hr) (pe_op op_mod (pe_op op_sub (pe_un un_neg pe_int) (pe_op op_mul (pv 2) (pv 2))) (pv 0)) (pv 1)) (by rfl)) (pss_one (ps_aug (i := 2) sc_root_pair.nd rfl (Or.inl rfl) pe_int iop_add)))
      (pss_one (ps_ret (pe_tup (pa_cons (pv 2) (pa_cons (pe_ix (ix_listK K) (pe_dget (hu1 hr) (pv 1) (pe_op op_mod (pe_op op_sub (pe_un un_neg pe_int) (pe_op op_mul (pv 2) (pv 2))) (pv 0)) (fun _ _ => rfl)) pe_int (fun _ _ => rfl)) pa_nil))))))))), ?_⟩
    refine run_seq (run_drop (ev_call (ea_cons (ev_var rfl) ea_nil) ⟨p, hp, rfl, rfl⟩) ?_)
    intro H0 O P1 H1 σ E1 S nx rt
    obtain ⟨o1, o2, rfl⟩ : ∃ o1 o2, σ = [some (.int p), o1, o2] := by
      obtain ⟨v, h1, h2⟩ := S.dat 0 (.int p) rfl
      have hl := S.len
      rw [h2.int_inv] at h1
      match σ, hl, h1 with
      | [_, o1, o2], _, h1 =>
        cases h1
        exact ⟨o1, o2, rfl⟩
    refine ⟨.int p, rfl, p, rfl, hp, fun a H2 s2 ra => ?_⟩
    obtain ⟨kvs, ea, hl, hk⟩ := ra
    have hev : ∀ x : Int, 0 ≤ x → x ≤ 2 → Evd K (tOp (rI (fun x j => 0 < j) fun i j => .int (i % j)) (tOp (rI0 fun i j => .int (i - j)) (tUn (rU fun i => .int (-i)) (tC (.int 1))) (tOp (rI CMul fun i j => .int (i * j)) (tVar 2) (tVar 2))) (tVar 0)) ([some p, none, some x].map fun o => o.map PyData.int) (.int ((-1 - x * x) % p)) := fun x h1 h2 => ev_I (ev_I0 (ev_neg ev_int) (ev_I (ev_var rfl) (ev_var rfl) (.inl ⟨by omega, by omega⟩))) (ev_var rfl) (show (0 : Int) < p by omega)
    have ok : ∀ (x : Int) (H : Hp), EnvOk K (hide H []) [some (.int p), some (.ref a), some (.int x)] ([some p, none, some x].map fun o => o.map PyData.int) := fun x H => env_ints _ rfl fun j n hj => by
      match j, hj with
      | 0, hj => cases hj; rfl
      | 2, hj => cases hj; rfl
    refine ⟨fun m σ' H' => ∃ x : Int, 0 ≤ x ∧ x ≤ rx p ∧ m = (rx p - x).toNat ∧ σ' = [some (.int p), some (.ref a), some (.int x)] ∧ Same H2 H', ⟨_, 0, Int.le_refl 0, c4, rfl, rfl, Same.refl _⟩, ?_⟩
    rintro m σ' H' ⟨x, h1, h2, rfl, rfl, sm⟩
    refine ev_raw (hev x h1 (by omega)) (ok x H') fun H3 s3 => ⟨.ref a, rfl, a, valV kvs (Sum.inl ((-1 - x * x) % p) : Key), rfl, DGet.k (k := Sum.inl ((-1 - x * x) % p)) (s3 _ _ (sm _ _ ea)), _, rfl, ?_⟩
    by_cases hx : x = rx p
    · subst hx
      rcases hk ((-1 - rx p * rx p) % p) with ⟨e, n⟩ | ⟨b, r0, rest, e, b0, eb, lr, q1, q2, q3⟩
      · exact absurd c2 (n _ c6)
      · have er : r0 = ry p := by
          rcases Nat.lt_trichotomy r0 (ry p) with z | z | z
          · exact absurd q2 (c3 r0 (List.mem_range.mpr z))
          · exact z
          · exact absurd c2 (q3 _ z)
        subst er
        rw [e]
        refine iteF ?_
        refine ⟨.int (rx p), rfl, .ref a, rfl, ev_raw (hev (rx p) h1 (by omega)) (ok (rx p) H3) fun H4 s4 => ⟨a, .ref b, rfl, ?_, b, _, 0, .int (ry p), rfl, rfl, SqL.of (s4 _ _ (s3 _ _ (sm _ _ eb))), atI_zero, sz 2, fun z hz => ?_⟩⟩
        · rw [← e]
          exact DGet.k (k := Sum.inl ((-1 - rx p * rx p) % p)) (s4 _ _ (s3 _ _ (sm _ _ ea)))
        · have sall : Same H0 (upd H4 z (.tup [.int (rx p), .int (ry p)])) := S.same.trans (s2.trans (sm.trans (s3.trans (s4.trans (same_upd hz)))))
          exact rt _ (.ref z) _ rfl sall (.tup (SqT.of (hide_new (S.known.mono (S.same.trans (s2.trans (sm.trans (s3.trans s4))))) hz)) (.cons (.int _) (.cons (.int _) .nil)))
    · have e : valV kvs (Sum.inl ((-1 - x * x) % p) : Key) = none := by
        rcases hk ((-1 - x * x) % p) with ⟨e, n⟩ | ⟨b, r0, rest, e, b0, eb, lr, q1, q2, q3⟩
        · exact e
        · have := c1 x.toNat (List.mem_range.mpr (by omega)) r0 (List.mem_range.mpr q1)
          rw [Int.toNat_of_nonneg h1] at this
          exact absurd q2 this
      rw [e]
      refine iteT ⟨fun σ' H' => ∃ m', m' < (rx p - x).toNat ∧ ∃ x : Int, 0 ≤ x ∧ x ≤ rx p ∧ m' = (rx p - x).toNat ∧ σ' = [some (.int p), some (.ref a), some (.int x)] ∧ Same H2 H', fun σ' H' h => h, ?_⟩
      exact ⟨.int x, rfl, x, 1, rfl, rfl, _, by omega, x + 1, by omega, by omega, rfl, rfl, sm.trans s3⟩
end
end Tp

-- FB
/-! tables.py: lines -/
namespace Tp
open PySem PySem.Spec PyProof.Rows L2 DL
section
variable {P : Program} {w : World} {K : PySem.W.Frag} {mg : Str → Option Value} {base : Heap}
def hf (p : Int) : Int := (p + 1) / 2
def t1 (p : Int) (q : Qt) : Int := (q.a * hf p + q.b * hf p * rx p + q.d * hf p * (ry p : Int)) % p
def t2 (p : Int) (q : Qt) : Int := (q.b * hf p * (ry p : Int) - q.c * hf p - q.d * hf p * rx p) % p
def t3 (p : Int) (q : Qt) : Int := (q.b * hf p * (ry p : Int) + q.c * hf p - q.d * hf p * rx p) % p
def t4 (p : Int) (q : Qt) : Int := (q.a * hf p - q.b * hf p * rx p - q.d * hf p * (ry p : Int)) % p
theorem hf6 {p : Int} (h1 : 3 ≤ p) (h2 : p ≤ 17) : -2 ^ 64 < hf p ∧ hf p < 2 ^ 64 := by
  unfold hf
  omega
def R_table_of (ds : List D) (d : D) : Prop := ∃ (q : Qt) (p : Int), q.ok ∧ p ∈ primes6 ∧ ds = [q.D, .int p] ∧ d = tab4 (t1 p q) (t2 p q) (t3 p q) (t4 p q)
abbrev N_table_of : List Str := ["number", "prime", "x", "y", "half", "a", "b", "c", "d", "part", "first"]
theorem sc_table_of : FnScope N_table_of ["number", "prime"] (defScope (top 50)) := ⟨rfl, rfl, rfl, by decide +kernel, rfl, by decide +kernel, by decide +kernel⟩
theorem ok_table_of (T : Txt K mg) : Fn P w K mg base 6 "table_of" R_table_of := by
  refine fn_mk (T.def_table_of) sc_table_of (fun _ _ _ _ _ _ us hl => match us, hl with | [_, _], _ => rfl) ?len ?body
  case len =>
    rintro ds d ⟨q, p, _, _, rfl, _⟩
    rfl
  case body =>
    rintro f cdv A outer s H E hr ds d ⟨q, p, hq, hp, rfl, rfl⟩
    refine ⟨_, (pss_cons (ps_expr (pe_fn (ok_check_number T) hr (by decide) (by rfl) (pa_cons (pv 0) pa_nil)))
        (pss_cons (ps_asg (pe_fn (ok_root_pair T) hr (by decide) (by rfl) (pa_cons (pv 1) pa_nil)) (pg_tup rfl (pgs_cons (pg_name (i := 2) sc_table_of.nd rfl (Or.inl rfl)) (pgs_cons (pg_name (i := 3) sc_table_of.nd rfl (Or.inl rfl)) pgs_nil))))
        (pss_cons (ps_set (i := 4) sc_table_of.nd rfl (Or.inr rfl) (pe_op op_fdiv (pe_op op_add (pv 1) pe_int) pe_int))
        (pss_cons (ps_asg (pe_lc (own := [("part", 9)]) (g := (gName 9)) rfl sc_table_of.nd (pi_tup (pv 0)) (blkOk_by (own := [("part", 9)]) (N := N_table_of) (sc := defScope (top 50)) (by decide +kernel)) (fun _ _ _ _ _ => (pg_name (i := 9) sc_table_of.nd rfl (Or.inl rfl))) (fun _ _ _ _ _ => pts_nil) (fun _ _ _ _ _ => (pe_op op_mul (pv 9) (pv 4)))) (pg_unl rfl (pgs_cons (pg_name (i := 5) sc_table_of.nd rfl (Or.inl rfl)) (pgs_cons (pg_name (i := 6) sc_table_of.nd rfl (Or.inl rfl)) (pgs_cons (pg_name (i := 7) sc_table_of.nd rfl (Or.inl rfl)) (pgs_cons (pg_name (i := 8) sc_table_of.nd rfl (Or.inl rfl)) pgs_nil))))))
        (pss_cons (ps_set (i := 10) sc_table_of.nd rfl (Or.inl rfl) (pe_tup (pa_cons (pe_op op_mod (pe_op op_add (pe_op op_add (pv 5) (pe_op op_mul (pv 6) (pv 2))) (pe_op op_mul (pv 8) (pv 3))) (pv 1)) (pa_cons (pe_op op_mod (pe_op op_sub (pe_op op_sub (pe_op op_mul (pv 6) (pv 3)) (pv 7)) (pe_op op_mul (pv 8) (pv 2))) (pv 1)) pa_nil))))
        (pss_one (ps_ret (pe_tup (pa_cons (pv 10) (pa_cons (pe_tup (pa_cons (pe_op op_mod (pe_op op_sub (pe_op op_add (pe_op op_mul (pv 6) (pv 3)) (pv 7)) (pe_op op_mul (pv 8) (pv 2))) (pv 1)) (pa_cons (pe_op op_mod (pe_op op_sub (pe_op op_sub (pv 5) (pe_op op_mul (pv 6) (pv 2))) (pe_op op_mul (pv 8) (pv 3))) (pv 1)) pa_nil))) pa_nil)))))))))), ?_⟩
    obtain ⟨_, h1, h2, _, _⟩ := wp6 p hp
    obtain ⟨_, _, _, x1, x2, y1⟩ := roots6 p hp
    have mh : ∀ i : Int, CMul i (hf p) := fun i => .inr (hf6 h1 h2)
    have mx : ∀ i : Int, CMul i (rx p) := fun i => .inr ⟨by omega, by omega⟩
    have my : ∀ i : Int, CMul i (ry p : Int) := fun i => .inr ⟨by omega, by omega⟩
    have md : (0 : Int) < p := by omega
    refine run_seq (run_drop (ev_call (ea_cons (ev_var rfl) ea_nil) ⟨q, hq, rfl, rfl⟩) ?_)
    refine run_seq (run_unpackT [2, 3] (ds := [.int (rx p), .int (ry p)]) (ev_call (ea_cons (ev_var rfl) ea_nil) ⟨p, hp, rfl, rfl⟩) rfl rfl ?_)
    refine run_seq (run_asg (d := .int (hf p)) (ev_I (ev_I0 (ev_var rfl) ev_int) ev_int (⟨by decide, by decide⟩)) ?_)
    show Run K _ [.dat q.D, .dat (.int p), .dat (.int (rx p)), .dat (.int (ry p)), .dat (.int (hf p)), .un, .un, .un, .un, .un, .un] _ _
    refine run_seq (run_unpackL [5, 6, 7, 8] (ds := [.int (q.a * hf p), .int (q.b * hf p), .int (q.c * hf p), .int (q.d * hf p)]) (ev_lcI [q.a, q.b, q.c, q.d] (f := fun z => .int (z * hf p)) (ei_tup (ev_var rfl)) rfl (by simp) (by decide) (fun z hz => ⟨_, eg_name, (ev_I (ev_var rfl) (ev_var rfl) (mh z))⟩)) rfl rfl ?_)
    show Run K _ [.dat q.D, .dat (.int p), .dat (.int (rx p)), .dat (.int (ry p)), .dat (.int (hf p)), .dat (.int (q.a * hf p)), .dat (.int (q.b * hf p)), .dat (.int (q.c * hf p)), .dat (.int (q.d * hf p)), .un, .un] _ _
    refine run_seq (run_asg (d := .tuple [.int (t1 p q), .int (t2 p q)]) (ev_tup (ea_cons (ev_I (ev_I0 (ev_I0 (ev_var rfl) (ev_I (ev_var rfl) (ev_var rfl) (mx _))) (ev_I (ev_var rfl) (ev_var rfl) (my _))) (ev_var rfl) md) (ea_cons (ev_I (ev_I0 (ev_I0 (ev_I (ev_var rfl) (ev_var rfl) (my _)) (ev_var rfl)) (ev_I (ev_var rfl) (ev_var rfl) (mx _))) (ev_var rfl) md) ea_nil)) (sz 2)) ?_)
    show Run K _ [.dat q.D, .dat (.int p), .dat (.int (rx p)), .dat (.int (ry p)), .dat (.int (hf p)), .dat (.int (q.a * hf p)), .dat (.int (q.b * hf p)), .dat (.int (q.c * hf p)), .dat (.int (q.d * hf p)), .un, .dat (.tuple [.int (t1 p q), .int (t2 p q)])] _ _
    exact run_ret (ev_tup (ea_cons (ev_var rfl) (ea_cons (ev_tup (ea_cons (ev_I (ev_I0 (ev_I0 (ev_I (ev_var rfl) (ev_var rfl) (my _)) (ev_var rfl)) (ev_I (ev_var rfl) (ev_var rfl) (mx _))) (ev_var rfl) md) (ea_cons (ev_I (ev_I0 (ev_I0 (ev_var rfl) (ev_I (ev_var rfl) (ev_var rfl) (mx _))) (ev_I (ev_var rfl) (ev_var rfl) (my _))) (ev_var rfl) md) ea_nil)) (sz 2)) ea_nil)) (sz 2)) rfl
def numT (p a b c d : Int) : Qt := ⟨2 * ((a + d) * hf p % p), 2 * (-((a - d) * hf p * rx p + (b + c) * hf p * (ry p : Int)) % p), 2 * ((c - b) * hf p % p), 2 * (((b + c) * hf p * rx p - (a - d) * hf p * (ry p : Int)) % p)⟩
def R_number_of_table (ds : List D) (d : D) : Prop := ∃ a b c e p : Int, p ∈ primes6 ∧ 0 ≤ a ∧ a < p ∧ 0 ≤ b ∧ b < p ∧ 0 ≤ c ∧ c < p ∧ 0 ≤ e ∧ e < p ∧ ds = [tab4 a b c e, .int p] ∧ d = (numT p a b c e).D
abbrev N_number_of_table : List Str := ["table", "prime", "a", "b", "c", "d", "x", "y", "half", "along", "across", "parts", "part"]
theorem sc_number_of_table : FnScope N_number_of_table ["table", "prime"] (defScope (top 53)) := ⟨rfl, rfl, rfl, by decide +kernel, rfl, by decide +kernel, by decide +kernel⟩
theorem ok_number_of_table (T : Txt K mg) : Fn P w K mg base 6 "number_of_table" R_number_of_table := by
  refine fn_mk (T.def_number_of_table) sc_number_of_table (fun _ _ _ _ _ _ us hl => match us, hl with | [_, _], _ => rfl) ?len ?body
  case len =>
    rintro ds d ⟨a, b, c, e, p, _, _, _, _, _, _, _, _, _, rfl, _⟩
    rfl
  case body =>
    rintro f cdv A outer s H E hr ds d ⟨a, b, c, e, p, hp, k1, k2, k3, k4, k5, k6, k7, k8, rfl, rfl⟩
    refine ⟨_, (pss_cons (ps_expr (pe_fn (ok_check_odd T) hr (by decide) (by rfl) (pa_cons (pv 1) pa_nil)))
        (pss_cons (ps_expr (pe_fn (ok_check_table T) hr (by decide) (by rfl) (pa_cons (pv 0) (pa_cons (pv 1) pa_nil))))
        (pss_cons (ps_asg (pv 0) (pg_tup rfl (pgs_cons (pg_tup rfl (pgs_cons (pg_name (i := 2) sc_number_of_table.nd rfl (Or.inl rfl)) (pgs_cons (pg_name (i := 3) sc_number_of_table.nd rfl (Or.inl rfl)) pgs_nil))) (pgs_cons (pg_tup rfl (pgs_cons (pg_name (i := 4) sc_number_of_table.nd rfl (Or.inl rfl)) (pgs_cons (pg_name (i := 5) sc_number_of_table.nd rfl (Or.inl rfl)) pgs_nil))) pgs_nil))))
        (pss_cons (ps_asg (pe_fn (ok_root_pair T) hr (by decide) (by rfl) (pa_cons (pv 1) pa_nil)) (pg_tup rfl (pgs_cons (pg_name (i := 6) sc_number_of_table.nd rfl (Or.inl rfl)) (pgs_cons (pg_name (i := 7) sc_number_of_table.nd rfl (Or.inl rfl)) pgs_nil))))
        (pss_cons (ps_set (i := 8) sc_number_of_table.nd rfl (Or.inl rfl) (pe_op op_fdiv (pe_op op_add (pv 1) pe_int) pe_int))
        (pss_cons (ps_par (i := 9) (j := 10) rfl sc_number_of_table.nd rfl rfl (by decide) rfl rfl (pa_cons (pe_op op_mul (pe_op op_sub (pv 2) (pv 5)) (pv 8)) (pa_cons (pe_op op_mul (pe_op op_add (pv 3) (pv 4)) (pv 8)) pa_nil)) (by rfl))
        (pss_cons (ps_set (i := 11) sc_number_of_table.nd rfl (Or.inl rfl) (pe_tup (pa_cons (pe_op op_mul (pe_op op_add (pv 2) (pv 5)) (pv 8)) (pa_cons (pe_un un_neg (pe_op op_add (pe_op op_mul (pv 9) (pv 6)) (pe_op op_mul (pv 10) (pv 7)))) (pa_cons (pe_op op_mul (pe_op op_sub (pv 4) (pv 3)) (pv 8)) (pa_cons (pe_op op_sub (pe_op op_mul (pv 10) (pv 6)) (pe_op op_mul (pv 9) (pv 7))) pa_nil))))))
        (pss_one (ps_ret (pe_fn (ok_of_integers T) hr (by decide) (by rfl) (pa_cons (pe_lc (own := [("part", 12)]) (g := (gName 12)) rfl sc_number_of_table.nd (pi_tup (pv 11)) (blkOk_by (own := [("part", 12)]) (N := N_number_of_table) (sc := defScope (top 53)) (by decide +kernel)) (fun _ _ _ _ _ => (pg_name (i := 12) sc_number_of_table.nd rfl (Or.inl rfl))) (fun _ _ _ _ _ => pts_nil) (fun _ _ _ _ _ => (pe_op op_mod (pv 12) (pv 1)))) pa_nil))))))))))), ?_⟩
    obtain ⟨_, h1, h2, _, _⟩ := wp6 p hp
    obtain ⟨_, _, _, x1, x2, y1⟩ := roots6 p hp
    have mh : ∀ i : Int, CMul i (hf p) := fun i => .inr (hf6 h1 h2)
    have mx : ∀ i : Int, CMul i (rx p) := fun i => .inr ⟨by omega, by omega⟩
    have my : ∀ i : Int, CMul i (ry p : Int) := fun i => .inr ⟨by omega, by omega⟩
    have md : (0 : Int) < p := by omega
    refine run_seq (run_drop (ev_call (ea_cons (ev_var rfl) ea_nil) ⟨p, hp, rfl, rfl⟩) ?_)
    refine run_seq (run_drop (ev_call (ea_cons (ev_var rfl) (ea_cons (ev_var rfl) ea_nil)) ⟨a, b, c, e, p, k1, k2, k3, k4, k5, k6, k7, k8, rfl, rfl⟩) ?_)
    refine run_seq (run_asgG (js := [2, 3, 4, 5]) (d := tab4 a b c e) (ev_var rfl) (eg_tup (egs_cons (js := [2, 3]) (eg_tup (egs_names rfl)) (egs_cons (js := [4, 5]) (eg_tup (egs_names rfl)) egs_nil))) [.dat (tab4 a b c e), .dat (.int p), .dat (.int a), .dat (.int b), .dat (.int c), .dat (.int e), .un, .un, .un, .un, .un, .un, .un] ?_ rfl ?_ ?_)
    · refine run_seq (run_unpackT [6, 7] (ds := [.int (rx p), .int (ry p)]) (ev_call (ea_cons (ev_var rfl) ea_nil) ⟨p, hp, rfl, rfl⟩) rfl rfl ?_)
      refine run_seq (run_asg (d := .int (hf p)) (ev_I (ev_I0 (ev_var rfl) ev_int) ev_int (⟨by decide, by decide⟩)) ?_)
      show Run K _ [.dat (tab4 a b c e), .dat (.int p), .dat (.int a), .dat (.int b), .dat (.int c), .dat (.int e), .dat (.int (rx p)), .dat (.int (ry p)), .dat (.int (hf p)), .un, .un, .un, .un] _ _
      refine run_seq (run_par (d := .int ((a - e) * hf p)) (e := .int ((b + c) * hf p)) (ea_cons (ev_I (ev_I0 (ev_var rfl) (ev_var rfl)) (ev_var rfl) (mh _)) (ea_cons (ev_I (ev_I0 (ev_var rfl) (ev_var rfl)) (ev_var rfl) (mh _)) ea_nil)) ?_)
      show Run K _ [.dat (tab4 a b c e), .dat (.int p), .dat (.int a), .dat (.int b), .dat (.int c), .dat (.int e), .dat (.int (rx p)), .dat (.int (ry p)), .dat (.int (hf p)), .dat (.int ((a - e) * hf p)), .dat (.int ((b + c) * hf p)), .un, .un] _ _
      refine run_seq (run_asg (d := .tuple [.int ((a + e) * hf p), .int (-((a - e) * hf p * rx p + (b + c) * hf p * (ry p : Int))), .int ((c - b) * hf p), .int ((b + c) * hf p * rx p - (a - e) * hf p * (ry p : Int))]) (ev_tup (ea_cons (ev_I (ev_I0 (ev_var rfl) (ev_var rfl)) (ev_var rfl) (mh _)) (ea_cons (ev_neg (ev_I0 (ev_I (ev_var rfl) (ev_var rfl) (mx _)) (ev_I (ev_var rfl) (ev_var rfl) (my _)))) (ea_cons (ev_I (ev_I0 (ev_var rfl) (ev_var rfl)) (ev_var rfl) (mh _)) (ea_cons (ev_I0 (ev_I (ev_var rfl) (ev_var rfl) (mx _)) (ev_I (ev_var rfl) (ev_var rfl) (my _))) ea_nil)))) (sz 4)) ?_)
      show Run K _ [.dat (tab4 a b c e), .dat (.int p), .dat (.int a), .dat (.int b), .dat (.int c), .dat (.int e), .dat (.int (rx p)), .dat (.int (ry p)), .dat (.int (hf p)), .dat (.int ((a - e) * hf p)), .dat (.int ((b + c) * hf p)), .dat (.tuple [.int ((a + e) * hf p), .int (-((a - e) * hf p * rx p + (b + c) * hf p * (ry p : Int))), .int ((c - b) * hf p), .int ((b + c) * hf p * rx p - (a - e) * hf p * (ry p : Int))]), .un] _ _
      exact run_ret (ev_call (ea_cons (ev_lcI [(a + e) * hf p, -((a - e) * hf p * rx p + (b + c) * hf p * (ry p : Int)), (c - b) * hf p, (b + c) * hf p * rx p - (a - e) * hf p * (ry p : Int)] (f := fun z => .int (z % p)) (ei_tup (ev_var rfl)) rfl (by simp) (by decide) (fun z hz => ⟨_, eg_name, (ev_I (ev_var rfl) (ev_var rfl) md)⟩)) ea_nil) ⟨_, _, _, _, rfl, rfl⟩) rfl
    · intro j hj
      match j, hj with
      | 0, _ => rfl
      | 1, _ => rfl
      | 2, hj => exact absurd (by decide) hj
      | 3, hj => exact absurd (by decide) hj
      | 4, hj => exact absurd (by decide) hj
      | 5, hj => exact absurd (by decide) hj
      | j + 6, _ => rfl
    · intro j hj s hs
      rcases List.mem_cons.mp hj with rfl | hj
      · cases hs; exact .inl ⟨_, rfl, rfl⟩
      rcases List.mem_cons.mp hj with rfl | hj
      · cases hs; exact .inl ⟨_, rfl, rfl⟩
      rcases List.mem_cons.mp hj with rfl | hj
      · cases hs; exact .inl ⟨_, rfl, rfl⟩
      rcases List.mem_cons.mp hj with rfl | hj
      · cases hs; exact .inl ⟨_, rfl, rfl⟩
      cases hj
def lineV (p : Int) (q : Qt) : D :=
  if t1 p q ≠ 0 then .tuple [.int 1, .int (t3 p q * powL p 5 (t1 p q) (p - 2) 1 % p)] else if t3 p q ≠ 0 then .tuple [.int 0, .int 1] else
  if t2 p q ≠ 0 then .tuple [.int 1, .int (t4 p q * powL p 5 (t2 p q) (p - 2) 1 % p)] else if t4 p q ≠ 0 then .tuple [.int 0, .int 1] else .none
def R_line_of (ds : List D) (d : D) : Prop := ∃ (q : Qt) (p : Int), q.ok ∧ q ≠ Qt.zero ∧ q.n4 ≤ Qt.lim ∧ p ∈ primes6 ∧ q.nrm % p = 0 ∧ ds = [q.D, .int p] ∧ d = lineV p q
def Wl (p : Int) (q : Qt) (i : Nat) (r : List Sl) : Prop := (1 ≤ i → t1 p q = 0 ∧ t3 p q = 0) ∧ (2 ≤ i → t2 p q = 0 ∧ t4 p q = 0) ∧ ∃ s1 s2, r = [.dat q.D, .dat (.int p), .dat (tab4 (t1 p q) (t2 p q) (t3 p q) (t4 p q)), s1, s2]
theorem nz_of {a : Int} (h : (!(a == (0 : Int))) = true) : a ≠ 0 := fun z => by
  rw [z] at h
  cases h
theorem z_of {a : Int} (h : (!(a == (0 : Int))) = false) : a = 0 := by
  rw [Bool.not_eq_false'] at h
  exact eq_of_beq h
abbrev N_line_of : List Str := ["number", "prime", "table", "u", "v"]
theorem sc_line_of : FnScope N_line_of ["number", "prime"] (defScope (top 55)) := ⟨rfl, rfl, rfl, by decide +kernel, rfl, by decide +kernel, by decide +kernel⟩
theorem ok_line_of (T : Txt K mg) : Fn P w K mg base 7 "line_of" R_line_of := by
  refine fn_mk (T.def_line_of) sc_line_of (fun _ _ _ _ _ _ us hl => match us, hl with | [_, _], _ => rfl) ?len ?body
  case len =>
    rintro ds d ⟨q, p, _, _, _, _, _, rfl, _⟩
    rfl
  case body =>
    rintro f cdv A outer s H E hr ds d ⟨q, p, hq, hz, hl, hp, hm, rfl, rfl⟩
    refine ⟨_, (pss_cons (ps_expr (pe_fn (ok_check_not_zero T) hr (by decide) (by rfl) (pa_cons (pv 0) pa_nil)))
        (pss_cons (ps_expr (pe_fn (ok_check_odd T) hr (by decide) (by rfl) (pa_cons (pv 1) pa_nil)))
        (pss_cons (ps_set (i := 2) sc_line_of.nd rfl (Or.inl rfl) (pe_fn (ok_table_of T) hr (by decide) (by rfl) (pa_cons (pv 0) (pa_cons (pv 1) pa_nil))))
        (pss_cons (ps_if (pt_cmpR op_ne (pe_op op_mod (pe_fn (ok_norm T) hr (by decide) (by rfl) (pa_cons (pv 0) pa_nil)) (pv 1)) pe_int (nomark _)) (pss_one (ps_ret pe_non)) pss_nil)
        (pss_cons (ps_for PassesOwn.never rfl (pi_zipS K (by rfl) T.b_zip (pv 2)) (pg_tup rfl (pgs_cons (pg_name (i := 3) sc_line_of.nd rfl (Or.inl rfl)) (pgs_cons (pg_name (i := 4) sc_line_of.nd rfl (Or.inl rfl)) pgs_nil))) (pss_cons (ps_if (pt_cmpR op_ne (pv 3) pe_int (nomark _)) (pss_one (ps_ret (pe_tup (pa_cons pe_int (pa_cons (pe_op op_mod (pe_op op_mul (pv 4) (pe_fn (ok_pow_of T) hr (by decide) (by rfl) (pa_cons (pv 3) (pa_cons (pe_op op_sub (pv 1) pe_int) (pa_cons (pv 1) pa_nil))))) (pv 1)) pa_nil))))) pss_nil)
        (pss_one (ps_if (pt_cmpR op_ne (pv 4) pe_int (nomark _)) (pss_one (ps_ret (pe_tup (pa_cons pe_int (pa_cons pe_int pa_nil))))) pss_nil))))
        (pss_one (ps_ret pe_non))))))), ?_⟩
    obtain ⟨_, h1, h2, _, _⟩ := wp6 p hp
    have sq : q.sm big := Qt.sm_mono (Qt.lim_sm hl) (by decide)
    have md : (0 : Int) < p := by omega
    have tm : ∀ x : Int, 0 ≤ x % p ∧ x % p < p := fun x => ⟨Int.emod_nonneg x (by omega), Int.emod_lt_of_pos x md⟩
    have turn : ∀ (u v : Int) (fin : List Sl → Prop) (R : D → Prop), 0 ≤ u → u < p → 0 ≤ v → v < p → (u ≠ 0 → R (.tuple [.int 1, .int (v * powL p 5 u (p - 2) 1 % p)])) → (u = 0 → v ≠ 0 → R (.tuple [.int 0, .int 1])) → (u = 0 → v = 0 → fin [.dat q.D, .dat (.int p), .dat (tab4 (t1 p q) (t2 p q) (t3 p q) (t4 p q)), .dat (.int u), .dat (.int v)]) →
        Run K (tSeq (tIfS (tTest (tOp rNe (tVar 3) (tC (.int 0)))) (tRet (tTup (tCons (tC (.int 1)) (tCons (tOp (rI (fun x j => 0 < j) fun i j => .int (i % j)) (tOp (rI CMul fun i j => .int (i * j)) (tVar 4) (tCall (spD K R_pow_of) [] E0 (tCons (tVar 3) (tCons (tOp (rI0 fun i j => .int (i - j)) (tVar 1) (tC (.int 2))) (tCons (tVar 1) tNil))))) (tVar 1)) tNil)))) tNext) (tIfS (tTest (tOp rNe (tVar 4) (tC (.int 0)))) (tRet (tTup (tCons (tC (.int 0)) (tCons (tC (.int 1)) tNil)))) tNext)) [.dat q.D, .dat (.int p), .dat (tab4 (t1 p q) (t2 p q) (t3 p q) (t4 p q)), .dat (.int u), .dat (.int v)] fin R := fun u v fin R u1 u2 v1 v2 r1 r2 r3 => by
      refine run_seq (run_if (et_test (ev_neI (ev_var rfl) ev_int)) (fun h => run_ret (ev_tup (ea_cons ev_int (ea_cons (ev_I (ev_I (j := powL p 5 u (p - 2) 1) (ev_var rfl) (ev_call (ea_cons (ev_var rfl) (ea_cons (ev_I0 (ev_var rfl) ev_int) (ea_cons (ev_var rfl) ea_nil))) ⟨u, p - 2, p, u1, by omega, by omega, by omega, by omega, by omega, rfl, rfl⟩) (.inl ⟨by omega, by omega⟩)) (ev_var rfl) md) ea_nil)) (sz 2)) (r1 (nz_of h))) (fun h => run_next ?_))
      have u0 := z_of h
      exact run_if (et_test (ev_neI (ev_var rfl) ev_int)) (fun h => run_ret (ev_tup (ea_cons ev_int (ea_cons ev_int ea_nil)) (sz 2)) (r2 u0 (nz_of h))) (fun h => run_next (r3 u0 (z_of h)))
    refine run_seq (run_drop (ev_call (ea_cons (ev_var rfl) ea_nil) ⟨q, hq, hz, rfl, rfl⟩) ?_)
    refine run_seq (run_drop (ev_call (ea_cons (ev_var rfl) ea_nil) ⟨p, hp, rfl, rfl⟩) ?_)
    refine run_seq (run_asg (d := tab4 (t1 p q) (t2 p q) (t3 p q) (t4 p q)) (ev_call (ea_cons (ev_var rfl) (ea_cons (ev_var rfl) ea_nil)) ⟨q, p, hq, hp, rfl, rfl⟩) ?_)
    refine run_seq (run_if (et_test (ev_neI (ev_I (i := q.nrm) (j := p) (ev_call (ea_cons (ev_var rfl) ea_nil) ⟨q, hq, sq, rfl, rfl⟩) (ev_var rfl) md) ev_int)) (fun h => ?_) (fun h => run_next ?_))
    · exact absurd hm (nz_of h)
    show Run K _ [.dat q.D, .dat (.int p), .dat (tab4 (t1 p q) (t2 p q) (t3 p q) (t4 p q)), .un, .un] _ _
    refine run_seq (run_forT [3, 4] (ds := [.tuple [.int (t1 p q), .int (t3 p q)], .tuple [.int (t2 p q), .int (t4 p q)]]) (ei_zipS (ds := [.int (t1 p q), .int (t2 p q)]) (es := [.int (t3 p q), .int (t4 p q)]) (ev_var rfl)) rfl (Wl p q) ⟨fun h => absurd h (by decide), fun h => absurd h (by decide), .un, .un, rfl⟩ (fun i d r hd w => ?_) ?_)
    · obtain ⟨w1, w2, s1, s2, rfl⟩ := w
      match i, hd, w1, w2 with
      | 0, hd, w1, w2 =>
        cases hd
        refine ⟨_, rfl, rfl, turn (t1 p q) (t3 p q) _ _ (tm _).1 (tm _).2 (tm _).1 (tm _).2 (fun h => ?_) (fun h g => ?_) (fun h g => ⟨fun _ => ⟨h, g⟩, fun z => absurd z (by decide), _, _, rfl⟩)⟩
        · unfold lineV
          rw [if_pos h]
        · unfold lineV
          rw [if_neg (fun z => z h), if_pos g]
      | 1, hd, w1, w2 =>
        cases hd
        obtain ⟨e1, e3⟩ := w1 (Nat.le_refl 1)
        refine ⟨_, rfl, rfl, turn (t2 p q) (t4 p q) _ _ (tm _).1 (tm _).2 (tm _).1 (tm _).2 (fun h => ?_) (fun h g => ?_) (fun h g => ⟨fun _ => ⟨e1, e3⟩, fun _ => ⟨h, g⟩, _, _, rfl⟩)⟩
        · unfold lineV
          rw [if_neg (fun z => z e1), if_neg (fun z => z e3), if_pos h]
        · unfold lineV
          rw [if_neg (fun z => z e1), if_neg (fun z => z e3), if_neg (fun z => z h), if_pos g]
    · rintro r ⟨w1, w2, s1, s2, rfl⟩
      obtain ⟨e1, e3⟩ := w1 (show 1 ≤ 2 by decide)
      obtain ⟨e2, e4⟩ := w2 (show 2 ≤ 2 by decide)
      refine run_ret ev_non ?_
      unfold lineV
      rw [if_neg (fun z => z e1), if_neg (fun z => z e3), if_neg (fun z => z e2), if_neg (fun z => z e4)]
def R_prime_of_line (ds : List D) (d : D) : Prop := ∃ (p u v : Int), p ∈ primes6 ∧ (u, v) ∈ linesL p ∧ ds = [.int p, .tuple [.int u, .int v]] ∧ d = (lp (numT p u 0 v 0) p).D
theorem lines_mem {p u v : Int} (h : (u, v) ∈ linesL p) (h1 : 3 ≤ p) : 0 ≤ u ∧ u < p ∧ 0 ≤ v ∧ v < p := by
  unfold linesL at h
  rcases List.mem_cons.mp h with z | z
  · cases z
    omega
  · obtain ⟨m, hm, e⟩ := List.mem_map.mp z
    cases e
    have := List.mem_range.mp hm
    omega
theorem eqv_pair (x y : Int × Int) : PyData.eqv (encP x) (encP y) = decide (x = y) := by
  show ((x.1 == y.1) && ((x.2 == y.2) && true)) = _
  obtain ⟨a, b⟩ := x
  obtain ⟨c, d⟩ := y
  rw [Bool.and_true, Bool.eq_iff_iff]
  simp only [Bool.and_eq_true, beq_iff_eq, decide_eq_true_eq, Prod.mk.injEq]
theorem numT_ok {p a b c d : Int} (h1 : 3 ≤ p) (h2 : p ≤ 17) : (numT p a b c d).ok ∧ (numT p a b c d).n4 ≤ Qt.lim := by
  have tm : ∀ x : Int, 0 ≤ x % p ∧ x % p ≤ 16 := fun x => ⟨Int.emod_nonneg x (by omega), by have := Int.emod_lt_of_pos x (show (0 : Int) < p by omega); omega⟩
  have key : ∀ x y z t : Int, (0 ≤ x ∧ x ≤ 16) → (0 ≤ y ∧ y ≤ 16) → (0 ≤ z ∧ z ≤ 16) → (0 ≤ t ∧ t ≤ 16) → (⟨2 * x, 2 * y, 2 * z, 2 * t⟩ : Qt).ok ∧ (⟨2 * x, 2 * y, 2 * z, 2 * t⟩ : Qt).n4 ≤ Qt.lim := fun x y z t hx hy hz ht => by
    refine ⟨?_, ?_⟩
    · unfold Qt.ok
      simp only
      omega
    · unfold Qt.n4
      simp only
      have sqb : ∀ u : Int, 0 ≤ u ∧ u ≤ 16 → 2 * u * (2 * u) ≤ 32 * 32 := fun u hu => Int.mul_le_mul (by omega) (by omega) (by omega) (by omega)
      have := sqb x hx
      have := sqb y hy
      have := sqb z hz
      have := sqb t ht
      simp only [Qt.lim]
      omega
  exact key _ _ _ _ (tm _) (tm _) (tm _) (tm _)
abbrev N_prime_of_line : List Str := ["prime", "line", "u", "v"]
theorem sc_prime_of_line : FnScope N_prime_of_line ["prime", "line"] (defScope (top 57)) := ⟨rfl, rfl, rfl, by decide +kernel, rfl, by decide +kernel, by decide +kernel⟩
theorem ok_prime_of_line (T : Txt K mg) : Fn P w K mg base 8 "prime_of_line" R_prime_of_line := by
  refine fn_mk (T.def_prime_of_line) sc_prime_of_line (fun _ _ _ _ _ _ us hl => match us, hl with | [_, _], _ => rfl) ?len ?body
  case len =>
    rintro ds d ⟨p, u, v, _, _, rfl, _⟩
    rfl
  case body =>
    rintro f cdv A outer s H E hr ds d ⟨p, u, v, hp, hm, rfl, rfl⟩
    refine ⟨_, (pss_cons (ps_if (PW.pt (pw_or (pt_not (pt_val (pe_fn (ok_is_pair T) hr (by decide) (by rfl) (pa_cons (pv 1) pa_nil)))) (pw_or1 (pt_cmpR (op_notInK K (hu65 hr)) (pe_tupleK K (by rfl) T.b_tuple (pv 1)) (pe_fn (ok_lines T) hr (by decide) (by rfl) (pa_cons (pv 0) pa_nil)) (by rfl))))) pss_never pss_nil)
        (pss_cons (ps_asg (pv 1) (pg_tup rfl (pgs_cons (pg_name (i := 2) sc_prime_of_line.nd rfl (Or.inl rfl)) (pgs_cons (pg_name (i := 3) sc_prime_of_line.nd rfl (Or.inl rfl)) pgs_nil))))
        (pss_one (ps_ret (pe_fn (ok_left_common T) hr (by decide) (by rfl) (pa_cons (pe_fn (ok_number_of_table T) hr (by decide) (by rfl) (pa_cons (pe_tup (pa_cons (pe_tup (pa_cons (pv 2) (pa_cons pe_int pa_nil))) (pa_cons (pe_tup (pa_cons (pv 3) (pa_cons pe_int pa_nil))) pa_nil))) (pa_cons (pv 0) pa_nil))) (pa_cons (pe_tup (pa_cons (pe_op op_mul pe_int (pv 0)) (pa_cons pe_int (pa_cons pe_int (pa_cons pe_int pa_nil))))) pa_nil))))))), ?_⟩
    obtain ⟨_, h1, h2, _, _⟩ := wp6 p hp
    obtain ⟨u1, u2, v1, v2⟩ := lines_mem hm h1
    obtain ⟨n1, n2⟩ := numT_ok (a := u) (b := 0) (c := v) (d := 0) h1 h2
    refine run_seq (run_if (et_or (et_not (et_B (ev_call (ea_cons (ev_var rfl) ea_nil) ⟨u, v, rfl, rfl⟩))) (fun _ => (et_test (ev_notInD (d := encP (u, v)) (ds := (linesL p).map encP) (ev_tupT (ev_var rfl)) (ev_call (ea_cons (ev_var rfl) ea_nil) ⟨p, hp, rfl, rfl⟩) rfl (shaped_pairs _))))) (fun h => ?_) (fun h => run_next ?_))
    · have e : (((linesL p).map encP).any fun z => PyData.eqv z (encP (u, v))) = true := List.any_eq_true.mpr ⟨_, List.mem_map_of_mem hm, by rw [eqv_pair]; exact decide_eq_true rfl⟩
      rw [e] at h
      cases h
    refine run_seq (run_unpackT [2, 3] (ev_var rfl) rfl rfl ?_)
    show Run K _ [.dat (.int p), .dat (.tuple [.int u, .int v]), .dat (.int u), .dat (.int v)] _ _
    exact run_ret (ev_call (ea_cons (ev_call (ea_cons (ev_tup (ea_cons (ev_tup (ea_cons (ev_var rfl) (ea_cons ev_int ea_nil)) (sz 2)) (ea_cons (ev_tup (ea_cons (ev_var rfl) (ea_cons ev_int ea_nil)) (sz 2)) ea_nil)) (sz 2)) (ea_cons (ev_var rfl) ea_nil)) ⟨u, 0, v, 0, p, hp, u1, u2, by omega, by omega, v1, v2, by omega, by omega, rfl, rfl⟩) (ea_cons (ev_tup (ea_cons (ev_I ev_int (ev_var rfl) (.inl ⟨by omega, by omega⟩)) (ea_cons ev_int (ea_cons ev_int (ea_cons ev_int ea_nil)))) (sz 4)) ea_nil)) ⟨numT p u 0 v 0, pp p, n1, pp_ok p, .inr (pp_ne (by omega)), n2, pp_lim (by omega) (by omega), rfl, rfl⟩) rfl
end
end Tp

-- FC
/-! the law's helpers -/
namespace Tp
open PySem PySem.Spec PyProof.Rows L2 DL
section
variable {P : Program} {w : World} {K : PySem.W.Frag} {mg : Str → Option Value} {base : Heap}
def absI (c : Int) : Int := if c < 0 then -c else c
def rowGo (b : Bool) : Nat → Int → Int → Int → List Int
  | 0, _, _, _ => []
  | n + 1, k, rest, mixed => if b = true then rest % 1009 :: rowGo b n (k + 1) (rest / 1009) ((mixed * 16807 + 271 * (k + 3)) % 2147483629) else ((mixed * 16807 + 271 * (k + 3)) % 2147483629) / 7 % 1009 :: rowGo b n (k + 1) rest ((mixed * 16807 + 271 * (k + 3)) % 2147483629)
def bigC (c : Int) : Bool := decide (absI c ≥ 10 ^ 18)
def rowL (c : Int) (m : Nat) : List Int := rowGo (bigC c) m 0 (absI c) ((absI c * 48271 + 69621) % 2147483647)
theorem rowGo_len (b : Bool) : ∀ (n : Nat) (k r x : Int), (rowGo b n k r x).length = n
  | 0, _, _, _ => rfl
  | n + 1, k, r, x => by
    unfold rowGo
    split
    · rw [List.length_cons, rowGo_len b n]
    · rw [List.length_cons, rowGo_len b n]
def R_l_row (ds : List D) (d : D) : Prop := ∃ (c : Int) (m : Nat), m ≤ 100 ∧ ds = [.int c, .int m] ∧ d = .list ((rowL c m).map PyData.int)
def Wrow (c : Int) (m i : Nat) (r : List Sl) : Prop := ∃ (rest mixed : Int) (acc : List Int) (s5 : Sl), acc.length = i ∧ acc ++ rowGo (bigC c) (m - i) i rest mixed = rowL c m ∧ r = [.dat (.int c), .dat (.int m), .own (acc.map PyData.int), .dat (.int rest), .dat (.int mixed), s5]
abbrev N_l_row : List Str := ["_law_cell", "_law_many", "_law_row_here", "_law_rest", "_law_mixed", "_law_k"]
theorem sc_l_row : FnScope N_l_row ["_law_cell", "_law_many"] (defScope (top 59)) := ⟨rfl, rfl, rfl, by decide +kernel, rfl, by decide +kernel, by decide +kernel⟩
theorem ok_l_row (T : Txt K mg) : Fn P w K mg base 1 "_law_row" R_l_row := by
  refine fn_mk (T.def_l_row) sc_l_row (fun _ _ _ _ _ _ us hl => match us, hl with | [_, _], _ => rfl) ?len ?body
  case len =>
    rintro ds d ⟨c, m, _, rfl, _⟩
    rfl
  case body =>
    rintro f cdv A outer s H E hr ds d ⟨c, m, hm, rfl, rfl⟩
    refine ⟨_, (pss_cons (ps_set (i := 2) sc_l_row.nd rfl (Or.inl rfl) (pe_lst pa_nil))
        (pss_cons (ps_set (i := 3) sc_l_row.nd rfl (Or.inl rfl) (pe_callB cb_abs (by rfl) T.b_abs (by decide +kernel) (pa_cons (pv 0) pa_nil)))
        (pss_cons (ps_set (i := 4) sc_l_row.nd rfl (Or.inl rfl) (pe_op op_mod (pe_callTy ct_int (by rfl) T.b_int (by decide +kernel) (pa_cons (pe_op op_add (pe_op op_mul (pv 3) pe_int) pe_int) pa_nil)) pe_int))
        (pss_cons (ps_for PassesOwn.never rfl (pi_range1 (by rfl) T.b_range (pa_cons (pv 1) pa_nil)) (pg_name (i := 5) sc_l_row.nd rfl (Or.inl rfl)) (pss_cons (ps_set (i := 4) sc_l_row.nd rfl (Or.inl rfl) (pe_op op_mod (pe_callTy ct_int (by rfl) T.b_int (by decide +kernel) (pa_cons (pe_op op_add (pe_op op_mul (pv 4) pe_int) (pe_op op_mul pe_int (pe_op op_add (pv 5) pe_int))) pa_nil)) pe_int))
        (pss_one (ps_if (pt_cmpR op_ge (pe_callB cb_abs (by rfl) T.b_abs (by decide +kernel) (pa_cons (pv 0) pa_nil)) (pe_op op_pow pe_int pe_int) (nomark _)) (pss_cons (ps_expr (pe_bm PySem.F.plainAttrs_list PySem.F.slot_list_append PySem.F.type_list_append mt_append (pv 2) (pa_cons (pe_op op_mod (pe_callTy ct_int (by rfl) T.b_int (by decide +kernel) (pa_cons (pv 3) pa_nil)) pe_int) pa_nil)))
        (pss_one (ps_set (i := 3) sc_l_row.nd rfl (Or.inl rfl) (pe_op op_fdiv (pv 3) pe_int)))) (pss_one (ps_expr (pe_bm PySem.F.plainAttrs_list PySem.F.slot_list_append PySem.F.type_list_append mt_append (pv 2) (pa_cons (pe_op op_mod (pe_callTy ct_int (by rfl) T.b_int (by decide +kernel) (pa_cons (pe_op op_fdiv (pv 4) pe_int) pa_nil)) pe_int) pa_nil))))))))
        (pss_one (ps_ret (pv 2))))))), ?_⟩
    refine run_seq (run_new (run_seq (run_asg (d := .int (absI c)) (ev_abs (ea_cons (ev_var rfl) ea_nil)) ?_)))
    show Run K _ [.dat (.int c), .dat (.int m), .own [], .dat (.int (absI c)), .un, .un] _ _
    refine run_seq (run_asg (d := .int ((absI c * 48271 + 69621) % 2147483647)) (ev_I (ev_intI (ea_cons (ev_I0 (ev_I (ev_var rfl) ev_int (.inr ⟨by decide, by decide⟩)) ev_int) ea_nil)) ev_int (show (0 : Int) < 2147483647 by decide)) ?_)
    show Run K _ [.dat (.int c), .dat (.int m), .own [], .dat (.int (absI c)), .dat (.int ((absI c * 48271 + 69621) % 2147483647)), .un] _ _
    refine run_seq (run_forN (ei_rng1 (j := (m : Int)) (ea_cons (ev_var rfl) ea_nil) (by omega) (by omega)) (Wrow c m) ⟨_, _, [], .un, rfl, rfl, rfl⟩ (fun i d r hd w => ?_) ?_)
    · obtain ⟨rest, mixed, acc, s5, k1, k2, rfl⟩ := w
      have hi : i < m := by
        have h := (List.getElem?_eq_some_iff.mp hd).1
        rw [rangeD_len] at h
        omega
      rw [rangeD_get hd]
      show Run K _ [.dat (.int c), .dat (.int m), .own (acc.map PyData.int), .dat (.int rest), .dat (.int mixed), .dat (.int (0 + (i : Int)))] _ _
      rw [Int.zero_add]
      refine run_seq (run_asg (d := .int ((mixed * 16807 + 271 * ((i : Int) + 3)) % 2147483629)) (ev_I (ev_intI (ea_cons (ev_I0 (ev_I (ev_var rfl) ev_int (.inr ⟨by decide, by decide⟩)) (ev_I ev_int (ev_I0 (ev_var rfl) ev_int) (.inl ⟨by decide, by decide⟩))) ea_nil)) ev_int (show (0 : Int) < 2147483629 by decide)) ?_)
      show Run K _ [.dat (.int c), .dat (.int m), .own (acc.map PyData.int), .dat (.int rest), .dat (.int ((mixed * 16807 + 271 * ((i : Int) + 3)) % 2147483629)), .dat (.int (i : Int))] _ _
      have em : m - i = (m - (i + 1)) + 1 := by omega
      rw [em] at k2
      unfold rowGo at k2
      refine run_if (b := bigC c) (et_test (ev_B0 (i := absI c) (j := 10 ^ 18) (ev_abs (ea_cons (ev_var rfl) ea_nil)) (ev_I ev_int ev_int (⟨by decide, by decide, by decide⟩)))) (fun h => ?_) (fun h => ?_)
      · rw [if_pos h] at k2
        refine run_seq (run_append rfl (ev_I (ev_intI (ea_cons (ev_var rfl) ea_nil)) ev_int (show (0 : Int) < 1009 by decide)) (by rw [List.length_map]; omega) ?_)
        show Run K _ [.dat (.int c), .dat (.int m), .own (acc.map PyData.int ++ [.int (rest % 1009)]), .dat (.int rest), .dat (.int ((mixed * 16807 + 271 * ((i : Int) + 3)) % 2147483629)), .dat (.int (i : Int))] _ _
        refine run_asg (d := .int (rest / 1009)) (ev_I (ev_var rfl) ev_int (⟨by decide, by decide⟩)) ⟨rest / 1009, (mixed * 16807 + 271 * ((i : Int) + 3)) % 2147483629, acc ++ [rest % 1009], .dat (.int (i : Int)), ?_, ?_, ?_⟩
        · rw [List.length_append, k1]
          rfl
        · rw [← k2, List.append_assoc]
          rfl
        · rw [List.map_append]
          rfl
      · rw [if_neg (by rw [h]; exact Bool.false_ne_true)] at k2
        refine run_append rfl (ev_I (ev_intI (ea_cons (ev_I (ev_var rfl) ev_int (⟨by decide, by decide⟩)) ea_nil)) ev_int (show (0 : Int) < 1009 by decide)) (by rw [List.length_map]; omega) ⟨rest, (mixed * 16807 + 271 * ((i : Int) + 3)) % 2147483629, acc ++ [((mixed * 16807 + 271 * ((i : Int) + 3)) % 2147483629) / 7 % 1009], .dat (.int (i : Int)), ?_, ?_, ?_⟩
        · rw [List.length_append, k1]
          rfl
        · rw [← k2, List.append_assoc]
          rfl
        · rw [List.map_append]
          rfl
    · rintro r ⟨rest, mixed, acc, s5, k1, k2, rfl⟩
      rw [rangeD_len] at k2
      have e0 : m - ((m : Int)).toNat = 0 := by omega
      rw [e0] at k2
      refine run_ret (ev_var rfl) ?_
      rw [← k2]
      show PyData.list (acc.map PyData.int) = PyData.list ((acc ++ []).map PyData.int)
      rw [List.append_nil]
def R_l_pick (ds : List D) (d : D) : Prop := ∃ (l : List Int) (i : Nat) (m : Int), i < l.length ∧ 0 < m ∧ ds = [.list (l.map PyData.int), .int i, .int m] ∧ d = .int (l.getD i 0 % m)
theorem atI_nat {α : Type} {l : List α} {i : Nat} (h : i < l.length) : atI l (i : Int) = l[i]? := by
  unfold atI ixN
  rw [if_pos (by omega), if_pos (by omega)]
  rfl
abbrev N_l_pick : List Str := ["_law_numbers_here", "_law_at", "_law_most"]
theorem sc_l_pick : FnScope N_l_pick ["_law_numbers_here", "_law_at", "_law_most"] (defScope (top 61)) := ⟨rfl, rfl, rfl, by decide +kernel, rfl, by decide +kernel, by decide +kernel⟩
theorem ok_l_pick (T : Txt K mg) : Fn P w K mg base 1 "_law_pick" R_l_pick := by
  refine fn_mk (T.def_l_pick) sc_l_pick (fun _ _ _ _ _ _ us hl => match us, hl with | [_, _, _], _ => rfl) ?len ?body
  case len =>
    rintro ds d ⟨l, i, m, _, _, rfl, _⟩
    rfl
  case body =>
    rintro f cdv A outer s H E hr ds d ⟨l, i, m, hi, hm, rfl, rfl⟩
    refine ⟨_, (pss_one (ps_ret (pe_op op_mod (pe_callTy ct_int (by rfl) T.b_int (by decide +kernel) (pa_cons (pe_ix (ix_listK K) (pv 0) (pv 1) (fun _ _ => rfl)) pa_nil)) (pv 2)))), ?_⟩
    refine run_ret (ev_I (i := l.getD i 0) (j := m) (ev_intI (ea_cons (ev_ixL (ev_var rfl) (ev_var rfl) ?_) ea_nil)) (ev_var rfl) hm) rfl
    rw [atI_nat (by rw [List.length_map]; exact hi), List.getElem?_map, List.getElem?_eq_getElem hi, List.getD_eq_getElem?_getD, List.getElem?_eq_getElem hi]
    rfl
def R_l_product (ds : List D) (d : D) : Prop := ∃ x y : Qt, y.sm big ∧ ds = [x.D, y.D] ∧ d = (x.mul y).D
theorem big64 {i : Int} (h : -big ≤ i ∧ i ≤ big) : -2 ^ 64 < i ∧ i < 2 ^ 64 := by
  unfold big at h
  omega
abbrev N_l_product : List Str := ["_law_one", "_law_other", "_law_a", "_law_b", "_law_c", "_law_d", "_law_e", "_law_f", "_law_g", "_law_h", "_law_first", "_law_second", "_law_third", "_law_fourth"]
theorem sc_l_product : FnScope N_l_product ["_law_one", "_law_other"] (defScope (top 62)) := ⟨rfl, rfl, rfl, by decide +kernel, rfl, by decide +kernel, by decide +kernel⟩
theorem ok_l_product (T : Txt K mg) : Fn P w K mg base 1 "_law_product" R_l_product := by
  refine fn_mk (T.def_l_product) sc_l_product (fun _ _ _ _ _ _ us hl => match us, hl with | [_, _], _ => rfl) ?len ?body
  case len =>
    rintro ds d ⟨x, y, _, rfl, _⟩
    rfl
  case body =>
    rintro f cdv A outer s H E hr ds d ⟨x, y, hs, rfl, rfl⟩
    refine ⟨_, (pss_cons (ps_asg (pv 0) (pg_tup rfl (pgs_cons (pg_name (i := 2) sc_l_product.nd rfl (Or.inl rfl)) (pgs_cons (pg_name (i := 3) sc_l_product.nd rfl (Or.inl rfl)) (pgs_cons (pg_name (i := 4) sc_l_product.nd rfl (Or.inl rfl)) (pgs_cons (pg_name (i := 5) sc_l_product.nd rfl (Or.inl rfl)) pgs_nil))))))
        (pss_cons (ps_asg (pv 1) (pg_tup rfl (pgs_cons (pg_name (i := 6) sc_l_product.nd rfl (Or.inl rfl)) (pgs_cons (pg_name (i := 7) sc_l_product.nd rfl (Or.inl rfl)) (pgs_cons (pg_name (i := 8) sc_l_product.nd rfl (Or.inl rfl)) (pgs_cons (pg_name (i := 9) sc_l_product.nd rfl (Or.inl rfl)) pgs_nil))))))
        (pss_cons (ps_set (i := 10) sc_l_product.nd rfl (Or.inl rfl) (pe_op op_sub (pe_op op_sub (pe_op op_sub (pe_op op_mul (pv 2) (pv 6)) (pe_op op_mul (pv 3) (pv 7))) (pe_op op_mul (pv 4) (pv 8))) (pe_op op_mul (pv 5) (pv 9))))
        (pss_cons (ps_set (i := 11) sc_l_product.nd rfl (Or.inl rfl) (pe_op op_sub (pe_op op_add (pe_op op_add (pe_op op_mul (pv 2) (pv 7)) (pe_op op_mul (pv 3) (pv 6))) (pe_op op_mul (pv 4) (pv 9))) (pe_op op_mul (pv 5) (pv 8))))
        (pss_cons (ps_set (i := 12) sc_l_product.nd rfl (Or.inl rfl) (pe_op op_add (pe_op op_add (pe_op op_sub (pe_op op_mul (pv 2) (pv 8)) (pe_op op_mul (pv 3) (pv 9))) (pe_op op_mul (pv 4) (pv 6))) (pe_op op_mul (pv 5) (pv 7))))
        (pss_cons (ps_set (i := 13) sc_l_product.nd rfl (Or.inl rfl) (pe_op op_add (pe_op op_sub (pe_op op_add (pe_op op_mul (pv 2) (pv 9)) (pe_op op_mul (pv 3) (pv 8))) (pe_op op_mul (pv 4) (pv 7))) (pe_op op_mul (pv 5) (pv 6))))
        (pss_one (ps_ret (pe_tup (pa_cons (pe_op op_fdiv (pv 10) pe_int) (pa_cons (pe_op op_fdiv (pv 11) pe_int) (pa_cons (pe_op op_fdiv (pv 12) pe_int) (pa_cons (pe_op op_fdiv (pv 13) pe_int) pa_nil))))))))))))), ?_⟩
    have ma : ∀ i : Int, CMul i y.a := fun i => .inr (big64 hs.1)
    have mb : ∀ i : Int, CMul i y.b := fun i => .inr (big64 hs.2.1)
    have mc : ∀ i : Int, CMul i y.c := fun i => .inr (big64 hs.2.2.1)
    have md : ∀ i : Int, CMul i y.d := fun i => .inr (big64 hs.2.2.2)
    refine run_seq (run_unpackT [2, 3, 4, 5] (ds := [.int x.a, .int x.b, .int x.c, .int x.d]) (ev_var rfl) rfl rfl ?_)
    refine run_seq (run_unpackT [6, 7, 8, 9] (ds := [.int y.a, .int y.b, .int y.c, .int y.d]) (ev_var rfl) rfl rfl ?_)
    show Run K _ [.dat x.D, .dat y.D, .dat (.int x.a), .dat (.int x.b), .dat (.int x.c), .dat (.int x.d), .dat (.int y.a), .dat (.int y.b), .dat (.int y.c), .dat (.int y.d), .un, .un, .un, .un] _ _
    refine run_seq (run_asg (d := .int (x.a * y.a - x.b * y.b - x.c * y.c - x.d * y.d)) (ev_I0 (ev_I0 (ev_I0 (ev_I (ev_var rfl) (ev_var rfl) (ma _)) (ev_I (ev_var rfl) (ev_var rfl) (mb _))) (ev_I (ev_var rfl) (ev_var rfl) (mc _))) (ev_I (ev_var rfl) (ev_var rfl) (md _))) ?_)
    show Run K _ [.dat x.D, .dat y.D, .dat (.int x.a), .dat (.int x.b), .dat (.int x.c), .dat (.int x.d), .dat (.int y.a), .dat (.int y.b), .dat (.int y.c), .dat (.int y.d), .dat (.int (x.a * y.a - x.b * y.b - x.c * y.c - x.d * y.d)), .un, .un, .un] _ _
    refine run_seq (run_asg (d := .int (x.a * y.b + x.b * y.a + x.c * y.d - x.d * y.c)) (ev_I0 (ev_I0 (ev_I0 (ev_I (ev_var rfl) (ev_var rfl) (mb _)) (ev_I (ev_var rfl) (ev_var rfl) (ma _))) (ev_I (ev_var rfl) (ev_var rfl) (md _))) (ev_I (ev_var rfl) (ev_var rfl) (mc _))) ?_)
    show Run K _ [.dat x.D, .dat y.D, .dat (.int x.a), .dat (.int x.b), .dat (.int x.c), .dat (.int x.d), .dat (.int y.a), .dat (.int y.b), .dat (.int y.c), .dat (.int y.d), .dat (.int (x.a * y.a - x.b * y.b - x.c * y.c - x.d * y.d)), .dat (.int (x.a * y.b + x.b * y.a + x.c * y.d - x.d * y.c)), .un, .un] _ _
    refine run_seq (run_asg (d := .int (x.a * y.c - x.b * y.d + x.c * y.a + x.d * y.b)) (ev_I0 (ev_I0 (ev_I0 (ev_I (ev_var rfl) (ev_var rfl) (mc _)) (ev_I (ev_var rfl) (ev_var rfl) (md _))) (ev_I (ev_var rfl) (ev_var rfl) (ma _))) (ev_I (ev_var rfl) (ev_var rfl) (mb _))) ?_)
    show Run K _ [.dat x.D, .dat y.D, .dat (.int x.a), .dat (.int x.b), .dat (.int x.c), .dat (.int x.d), .dat (.int y.a), .dat (.int y.b), .dat (.int y.c), .dat (.int y.d), .dat (.int (x.a * y.a - x.b * y.b - x.c * y.c - x.d * y.d)), .dat (.int (x.a * y.b + x.b * y.a + x.c * y.d - x.d * y.c)), .dat (.int (x.a * y.c - x.b * y.d + x.c * y.a + x.d * y.b)), .un] _ _
    refine run_seq (run_asg (d := .int (x.a * y.d + x.b * y.c - x.c * y.b + x.d * y.a)) (ev_I0 (ev_I0 (ev_I0 (ev_I (ev_var rfl) (ev_var rfl) (md _)) (ev_I (ev_var rfl) (ev_var rfl) (mc _))) (ev_I (ev_var rfl) (ev_var rfl) (mb _))) (ev_I (ev_var rfl) (ev_var rfl) (ma _))) ?_)
    show Run K _ [.dat x.D, .dat y.D, .dat (.int x.a), .dat (.int x.b), .dat (.int x.c), .dat (.int x.d), .dat (.int y.a), .dat (.int y.b), .dat (.int y.c), .dat (.int y.d), .dat (.int (x.a * y.a - x.b * y.b - x.c * y.c - x.d * y.d)), .dat (.int (x.a * y.b + x.b * y.a + x.c * y.d - x.d * y.c)), .dat (.int (x.a * y.c - x.b * y.d + x.c * y.a + x.d * y.b)), .dat (.int (x.a * y.d + x.b * y.c - x.c * y.b + x.d * y.a))] _ _
    exact run_ret (ev_tup (ea_cons (ev_I (ev_var rfl) ev_int (⟨by decide, by decide⟩)) (ea_cons (ev_I (ev_var rfl) ev_int (⟨by decide, by decide⟩)) (ea_cons (ev_I (ev_var rfl) ev_int (⟨by decide, by decide⟩)) (ea_cons (ev_I (ev_var rfl) ev_int (⟨by decide, by decide⟩)) ea_nil)))) (sz 4)) rfl
def R_l_conjugate (ds : List D) (d : D) : Prop := ∃ q : Qt, ds = [q.D] ∧ d = q.conj.D
abbrev N_l_conjugate : List Str := ["_law_number"]
theorem sc_l_conjugate : FnScope N_l_conjugate ["_law_number"] (defScope (top 63)) := ⟨rfl, rfl, rfl, by decide +kernel, rfl, by decide +kernel, by decide +kernel⟩
theorem ok_l_conjugate (T : Txt K mg) : Fn P w K mg base 1 "_law_conjugate" R_l_conjugate := by
  refine fn_mk (T.def_l_conjugate) sc_l_conjugate (fun _ _ _ _ _ _ us hl => match us, hl with | [_], _ => rfl) ?len ?body
  case len =>
    rintro ds d ⟨q, rfl, _⟩
    rfl
  case body =>
    rintro f cdv A outer s H E hr ds d ⟨q, rfl, rfl⟩
    refine ⟨_, (pss_one (ps_ret (pe_tup (pa_cons (pe_ix (ix_tupK K) (pv 0) pe_int (fun _ _ => rfl)) (pa_cons (pe_un un_neg (pe_ix (ix_tupK K) (pv 0) pe_int (fun _ _ => rfl))) (pa_cons (pe_un un_neg (pe_ix (ix_tupK K) (pv 0) pe_int (fun _ _ => rfl))) (pa_cons (pe_un un_neg (pe_ix (ix_tupK K) (pv 0) pe_int (fun _ _ => rfl))) pa_nil))))))), ?_⟩
    exact run_ret (ev_tup (ea_cons (ev_ixT (ds := [.int q.a, .int q.b, .int q.c, .int q.d]) (ev_var rfl) ev_int rfl) (ea_cons (ev_neg (ev_ixT (ds := [.int q.a, .int q.b, .int q.c, .int q.d]) (ev_var rfl) ev_int rfl)) (ea_cons (ev_neg (ev_ixT (ds := [.int q.a, .int q.b, .int q.c, .int q.d]) (ev_var rfl) ev_int rfl)) (ea_cons (ev_neg (ev_ixT (ds := [.int q.a, .int q.b, .int q.c, .int q.d]) (ev_var rfl) ev_int rfl)) ea_nil)))) (sz 4)) rfl
def R_l_norm (ds : List D) (d : D) : Prop := ∃ q : Qt, q.sm big ∧ ds = [q.D] ∧ d = .int q.nrm
abbrev N_l_norm : List Str := ["_law_number", "_law_part"]
theorem sc_l_norm : FnScope N_l_norm ["_law_number"] (defScope (top 64)) := ⟨rfl, rfl, rfl, by decide +kernel, rfl, by decide +kernel, by decide +kernel⟩
theorem ok_l_norm (T : Txt K mg) : Fn P w K mg base 1 "_law_norm" R_l_norm := by
  refine fn_mk (T.def_l_norm) sc_l_norm (fun _ _ _ _ _ _ us hl => match us, hl with | [_], _ => rfl) ?len ?body
  case len =>
    rintro ds d ⟨q, _, rfl, _⟩
    rfl
  case body =>
    rintro f cdv A outer s H E hr ds d ⟨q, hs, rfl, rfl⟩
    refine ⟨_, (pss_one (ps_ret (pe_op op_fdiv (pe_callB (cr_sumK K rfl) (by rfl) T.b_sum (by decide +kernel) (pa_cons (pe_lc (own := [("_law_part", 1)]) (g := (gName 1)) rfl sc_l_norm.nd (pi_tup (pv 0)) (blkOk_by (own := [("_law_part", 1)]) (N := N_l_norm) (sc := defScope (top 64)) (by decide +kernel)) (fun _ _ _ _ _ => (pg_name (i := 1) sc_l_norm.nd rfl (Or.inl rfl))) (fun _ _ _ _ _ => pts_nil) (fun _ _ _ _ _ => (pe_op op_mul (pv 1) (pv 1)))) pa_nil)) pe_int))), ?_⟩
    refine run_ret (ev_I (ev_sum (ns := [q.a, q.b, q.c, q.d].map fun z => z * z) (ea_cons (ev_lcI [q.a, q.b, q.c, q.d] (f := fun z => .int (z * z)) (ei_tup (ev_var rfl)) rfl (by simp) (by decide) (fun z hz => ⟨_, eg_name, (ev_I (ev_var rfl) (ev_var rfl) (.inl (big64 ?_)))⟩)) ea_nil)) ev_int (⟨by decide, by decide⟩)) ?_
    · rcases List.mem_cons.mp hz with rfl | hz
      · exact hs.1
      rcases List.mem_cons.mp hz with rfl | hz
      · exact hs.2.1
      rcases List.mem_cons.mp hz with rfl | hz
      · exact hs.2.2.1
      rcases List.mem_cons.mp hz with rfl | hz
      · exact hs.2.2.2
      cases hz
    · unfold Qt.nrm Qt.n4
      simp only [List.map_cons, List.map_nil, List.sum_cons, List.sum_nil, Int.add_zero]
      congr 2
      omega
end
end Tp

-- FD
/-! the law's helpers: numbers, units -/
namespace Tp
open PySem PySem.Spec PyProof.Rows L2 DL
section
variable {P : Program} {w : World} {K : PySem.W.Frag} {mg : Str → Option Value} {base : Heap}
def eachN (n : Nat) : Nat := 1 + 40 / max 1 n
def flatN (ns : List Int) : List Int := ns.flatMap fun c => rowL c (eachN ns.length)
def numsL (ns : List Int) : List Int := ((flatN ns) ++ List.replicate (40 - (flatN ns).length) 0).take 40
theorem rowL_len (c : Int) (m : Nat) : (rowL c m).length = m := rowGo_len _ _ _ _ _
theorem flatN_len (ns : List Int) : (flatN ns).length = ns.length * eachN ns.length := by
  unfold flatN
  have h : ∀ l : List Int, (l.flatMap fun c => rowL c (eachN ns.length)).length = l.length * eachN ns.length := by
    intro l
    induction l with
    | nil => simp
    | cons a l ih => rw [List.flatMap_cons, List.length_append, ih, rowL_len, List.length_cons, Nat.succ_mul, Nat.add_comm]
  exact h ns
theorem eachN_le (n : Nat) : eachN n ≤ 41 := by
  unfold eachN
  have := Nat.div_le_self 40 (max 1 n)
  omega
theorem numsL_len (ns : List Int) : (numsL ns).length = 40 := by
  unfold numsL
  rw [List.length_take, List.length_append, List.length_replicate]
  omega
def R_l_numbers (ds : List D) (d : D) : Prop := ∃ ns : List Int, ns.length ≤ 63 ∧ ds = [.list (ns.map PyData.int), .int 40] ∧ d = .list ((numsL ns).map PyData.int)
theorem cut63 {l : List D} (h : l.length ≤ 63) : DL.cutD l none (some 63) = l := by
  unfold DL.cutD
  rw [HT.sIx_none, show (some (63 : Int)) = some ((63 : Nat) : Int) from rfl, HT.sIx_nat, Nat.min_eq_right h, List.drop_zero, Nat.sub_zero, List.take_length]
theorem cut40 (l : List Int) (h : 40 ≤ l.length) : DL.cutD (l.map PyData.int) none (some 40) = (l.take 40).map PyData.int := by
  unfold DL.cutD
  rw [HT.sIx_none, show (some (40 : Int)) = some ((40 : Nat) : Int) from rfl, HT.sIx_nat, List.length_map, Nat.min_eq_left h, List.drop_zero, Nat.sub_zero, List.map_take]
def rN (ns acc : List Int) (s5 s6 : Sl) : List Sl := [.dat (.list (ns.map PyData.int)), .dat (.int 40), .dat (.list (ns.map PyData.int)), .dat (.int (eachN ns.length : Nat)), .own (acc.map PyData.int), s5, s6]
abbrev N_l_numbers : List Str := ["_law_script", "_law_many", "_law_cells", "_law_each", "_law_numbers_here", "_law_cell", "_law_number"]
theorem sc_l_numbers : FnScope N_l_numbers ["_law_script", "_law_many"] (defScope (top 60)) := ⟨rfl, rfl, rfl, by decide +kernel, rfl, by decide +kernel, by decide +kernel⟩
theorem ok_l_numbers (T : Txt K mg) : Fn P w K mg base 2 "_law_numbers" R_l_numbers := by
  refine fn_mk (T.def_l_numbers) sc_l_numbers (fun _ _ _ _ _ _ us hl => match us, hl with | [_, _], _ => rfl) ?len ?body
  case len =>
    rintro ds d ⟨ns, _, rfl, _⟩
    rfl
  case body =>
    rintro f cdv A outer s H E hr ds d ⟨ns, hn, rfl, rfl⟩
    refine ⟨_, (pss_cons (ps_set (i := 2) sc_l_numbers.nd rfl (Or.inl rfl) (pe_slice sl_list (pv 0) po_none (po_some pe_int)))
        (pss_cons (ps_set (i := 3) sc_l_numbers.nd rfl (Or.inl rfl) (pe_op op_add pe_int (pe_op op_fdiv (pv 1) (pe_callB (cb_maxI rfl) (by rfl) T.b_max (by decide +kernel) (pa_cons pe_int (pa_cons (pe_callB (cb_lenK K) (by rfl) T.b_len PySem.boot_len (pa_cons (pv 2) pa_nil)) pa_nil))))))
        (pss_cons (ps_set (i := 4) sc_l_numbers.nd rfl (Or.inl rfl) (pe_lst pa_nil))
        (pss_cons (ps_for PassesOwn.never rfl (pi_list (pv 2)) (pg_name (i := 5) sc_l_numbers.nd rfl (Or.inl rfl)) (pss_one (ps_for PassesOwn.never rfl (pi_list (pe_fn (ok_l_row T) hr (by decide) (by rfl) (pa_cons (pv 5) (pa_cons (pv 3) pa_nil)))) (pg_name (i := 6) sc_l_numbers.nd rfl (Or.inl rfl)) (pss_one (ps_expr (pe_bm PySem.F.plainAttrs_list PySem.F.slot_list_append PySem.F.type_list_append mt_append (pv 4) (pa_cons (pv 6) pa_nil)))))))
        (pss_cons (ps_while PassesOwn.never (pt_cmpR op_lt (pe_callB (cb_lenK K) (by rfl) T.b_len PySem.boot_len (pa_cons (pv 4) pa_nil)) (pv 1) (nomark _)) (pss_one (ps_expr (pe_bm PySem.F.plainAttrs_list PySem.F.slot_list_append PySem.F.type_list_append mt_append (pv 4) (pa_cons pe_int pa_nil)))))
        (pss_one (ps_ret (pe_slice sl_list (pv 4) po_none (po_some (pv 1)))))))))), ?_⟩
    have e41 := eachN_le ns.length
    refine run_seq (run_asg (d := .list (ns.map PyData.int)) ((ev_slice0 (ev_var rfl) ev_int).to (by rw [cut63 (by rw [List.length_map]; exact hn)])) ?_)
    show Run K _ [.dat (.list (ns.map PyData.int)), .dat (.int 40), .dat (.list (ns.map PyData.int)), .un, .un, .un, .un] _ _
    refine run_seq (run_asg (d := .int (eachN ns.length : Nat)) ((ev_I0 (k := 1 + 40 / (if (ns.map PyData.int).length > (1 : Int) then ((ns.map PyData.int).length : Int) else 1)) ev_int (ev_I (ev_var rfl) (ev_maxI (ea_cons ev_int (ea_cons (ev_lenL (ea_cons (ev_var rfl) ea_nil)) ea_nil))) (⟨by split <;> omega, by rw [List.length_map]; split <;> omega⟩))).to ?_) ?_)
    · rw [List.length_map]
      unfold eachN
      congr 1
      split
      · have : max 1 ns.length = ns.length := by omega
        rw [this, Int.natCast_add, Int.natCast_ediv]
        rfl
      · have : max 1 ns.length = 1 := by omega
        rw [this]
        rfl
    refine run_seq (run_new ?_)
    show Run K _ (rN ns [] .un .un) _ _
    refine run_seq (run_forN (ei_list (ev_var rfl)) (fun i r => ∃ s5 s6, r = rN ns ((ns.take i).flatMap fun c => rowL c (eachN ns.length)) s5 s6) ⟨.un, .un, rfl⟩ (fun i d r hd w => ?_) ?_)
    · obtain ⟨s5, s6, rfl⟩ := w
      rw [List.getElem?_map] at hd
      cases e : ns[i]? with
      | none =>
        rw [e] at hd
        cases hd
      | some c =>
        rw [e] at hd
        cases hd
        have hi := (List.getElem?_eq_some_iff.mp e).1
        show Run K _ [.dat (.list (ns.map PyData.int)), .dat (.int 40), .dat (.list (ns.map PyData.int)), .dat (.int (eachN ns.length : Nat)), .own (((ns.take i).flatMap fun c => rowL c (eachN ns.length)).map PyData.int), .dat (.int c), s6] _ _
        have fl : ((ns.take i).flatMap fun c => rowL c (eachN ns.length)).length = i * eachN ns.length := by
          have h : ∀ l : List Int, (l.flatMap fun c => rowL c (eachN ns.length)).length = l.length * eachN ns.length := by
            intro l
            induction l with
            | nil => simp
            | cons a l ih => rw [List.flatMap_cons, List.length_append, ih, rowL_len, List.length_cons, Nat.succ_mul, Nat.add_comm]
          rw [h, List.length_take, Nat.min_eq_left (Nat.le_of_lt hi)]
        have fb : i * eachN ns.length ≤ 63 * 41 := Nat.mul_le_mul (by omega) e41
        refine run_forN (ei_list (ev_call (ea_cons (ev_var rfl) (ea_cons (ev_var rfl) ea_nil)) ⟨c, eachN ns.length, by omega, rfl, rfl⟩)) (fun j r => ∃ s6, r = rN ns (((ns.take i).flatMap fun c => rowL c (eachN ns.length)) ++ (rowL c (eachN ns.length)).take j) (.dat (.int c)) s6) ⟨s6, ?_⟩ (fun j d r hd w => ?_) ?_
        · rw [List.take_zero, List.append_nil]
          rfl
        · obtain ⟨s6, rfl⟩ := w
          rw [List.getElem?_map] at hd
          cases e2 : (rowL c (eachN ns.length))[j]? with
          | none =>
            rw [e2] at hd
            cases hd
          | some x =>
            rw [e2] at hd
            cases hd
            have hj := (List.getElem?_eq_some_iff.mp e2).1
            rw [rowL_len] at hj
            show Run K _ [.dat (.list (ns.map PyData.int)), .dat (.int 40), .dat (.list (ns.map PyData.int)), .dat (.int (eachN ns.length : Nat)), .own ((((ns.take i).flatMap fun c => rowL c (eachN ns.length)) ++ (rowL c (eachN ns.length)).take j).map PyData.int), .dat (.int c), .dat (.int x)] _ _
            refine run_append rfl (ev_var rfl) ?_ ⟨.dat (.int x), ?_⟩
            · rw [List.length_map, List.length_append, fl, List.length_take]
              omega
            · rw [List.take_add_one, e2, ← List.append_assoc]
              unfold rN
              rw [List.map_append (l₁ := ((ns.take i).flatMap fun c => rowL c (eachN ns.length)) ++ (rowL c (eachN ns.length)).take j)]
              rfl
        · rintro r ⟨s6, rfl⟩
          refine ⟨.dat (.int c), s6, ?_⟩
          rw [List.length_map, List.take_length, List.take_add_one, e, List.flatMap_append]
          congr 1
          show _ = _ ++ (rowL c (eachN ns.length) ++ [])
          rw [List.append_nil]
    · rintro r ⟨s5, s6, rfl⟩
      rw [List.length_map, List.take_length]
      have fb : (flatN ns).length ≤ 63 * 41 := by
        rw [flatN_len]
        exact Nat.mul_le_mul hn e41
      refine run_seq (run_while (fun m r => ∃ k : Nat, m = 40 - ((flatN ns).length + k) ∧ (k = 0 ∨ (flatN ns).length + k ≤ 40) ∧ r = rN ns (flatN ns ++ List.replicate k 0) s5 s6) (40 - (flatN ns).length) ⟨0, rfl, .inl rfl, by rw [List.replicate_zero, List.append_nil]; rfl⟩ ?_)
      rintro m r ⟨k, rfl, hk, rfl⟩
      have hlen : ((flatN ns ++ List.replicate k 0).map PyData.int).length = (flatN ns).length + k := by rw [List.length_map, List.length_append, List.length_replicate]
      refine ⟨_, et_test (ev_B0 (ev_lenL (ds := (flatN ns ++ List.replicate k 0).map PyData.int) (ea_cons (ev_var rfl) ea_nil)) (ev_var rfl)), fun h => ?_, fun h => ?_⟩
      · have h1 := of_decide_eq_true h
        rw [hlen] at h1
        refine run_append (ds := (flatN ns ++ List.replicate k 0).map PyData.int) rfl ev_int (by rw [hlen]; omega) ⟨_, by omega, k + 1, rfl, .inr (by omega), ?_⟩
        unfold rN
        rw [List.replicate_succ', ← List.append_assoc, List.map_append (l₁ := flatN ns ++ List.replicate k 0)]
        rfl
      · have h1 := of_decide_eq_false h
        rw [hlen] at h1
        have ek : k = 40 - (flatN ns).length := by omega
        subst ek
        refine run_ret (ev_slice0 (ds := (flatN ns ++ List.replicate (40 - (flatN ns).length) 0).map PyData.int) (ev_var rfl) (ev_var rfl)) ?_
        rw [cut40 _ (by rw [List.length_append, List.length_replicate]; omega)]
        rfl
end
end Tp

-- FE
/-! the law's helpers: units, division, primes -/
namespace Tp
open PySem PySem.Spec PyProof.Rows L2 DL
section
variable {P : Program} {w : World} {K : PySem.W.Frag} {mg : Str → Option Value} {base : Heap}
def uA (k : Int) : Qt := ⟨k % 2 * 2 - 1, k / 2 % 2 * 2 - 1, k / 4 % 2 * 2 - 1, k / 8 * 2 - 1⟩
def eqI (j k : Int) : Int := if (j == k) = true then 1 else 0
def uB (s k : Int) : Qt := ⟨s * eqI 0 k, s * eqI 1 k, s * eqI 2 k, s * eqI 3 k⟩
def uL1 (i : Nat) : List Qt := (List.range i).map fun k : Nat => uA (k : Int)
def uL2 (i : Nat) : List Qt := uL1 16 ++ (List.range i).flatMap fun k : Nat => [uB 2 (k : Int), uB (-2) (k : Int)]
theorem uL_units : Qt.sort (uL2 4) = Qt.units := by decide +kernel
theorem uL1_len (i : Nat) : (uL1 i).length = i := by
  unfold uL1
  rw [List.length_map, List.length_range]
theorem uL2_len {i : Nat} (h : i ≤ 4) : (uL2 i).length ≤ 24 := by
  match i, h with
  | 0, _ => decide
  | 1, _ => decide
  | 2, _ => decide
  | 3, _ => decide
  | 4, _ => decide
def R_l_units (ds : List D) (d : D) : Prop := ds = [] ∧ d = .list (Qt.units.map Qt.D)
abbrev N_l_units : List Str := ["_law_found", "_law_k", "_law_j"]
theorem sc_l_units : FnScope N_l_units [] (defScope (top 65)) := ⟨rfl, rfl, rfl, by decide +kernel, rfl, by decide +kernel, by decide +kernel⟩
theorem ok_l_units (T : Txt K mg) : Fn P w K mg base 1 "_law_units" R_l_units := by
  refine fn_mk (T.def_l_units) sc_l_units (fun _ _ _ _ _ _ us hl => match us, hl with | [], _ => rfl) ?len ?body
  case len =>
    rintro ds d ⟨rfl, _⟩
    rfl
  case body =>
    rintro f cdv A outer s H E hr ds d ⟨rfl, rfl⟩
    refine ⟨_, (pss_cons (ps_set (i := 0) sc_l_units.nd rfl (Or.inl rfl) (pe_lst pa_nil))
        (pss_cons (ps_for PassesOwn.never rfl (pi_range1 (by rfl) T.b_range (pa_cons pe_int pa_nil)) (pg_name (i := 1) sc_l_units.nd rfl (Or.inr rfl)) (pss_one (ps_expr (pe_bm PySem.F.plainAttrs_list PySem.F.slot_list_append PySem.F.type_list_append mt_append (pv 0) (pa_cons (pe_tup (pa_cons (pe_op op_sub (pe_op op_mul (pe_op op_mod (pv 1) pe_int) pe_int) pe_int) (pa_cons (pe_op op_sub (pe_op op_mul (pe_op op_mod (pe_op op_fdiv (pv 1) pe_int) pe_int) pe_int) pe_int) (pa_cons (pe_op op_sub (pe_op op_mul (pe_op op_mod (pe_op op_fdiv (pv 1) pe_int) pe_int) pe_int) pe_int) (pa_cons (pe_op op_sub (pe_op op_mul (pe_op op_fdiv (pv 1) pe_int) pe_int) pe_int) pa_nil))))) pa_nil)))))
        (pss_cons (ps_for PassesOwn.never rfl (pi_range1 (by rfl) T.b_range (pa_cons pe_int pa_nil)) (pg_name (i := 1) sc_l_units.nd rfl (Or.inr rfl)) (pss_cons (ps_expr (pe_bm PySem.F.plainAttrs_list PySem.F.slot_list_append PySem.F.type_list_append mt_append (pv 0) (pa_cons (pe_tupleK K (by rfl) T.b_tuple (pe_lc (own := [("_law_j", 2)]) (g := (gName 2)) rfl sc_l_units.nd (pi_range1 (by rfl) T.b_range (pa_cons pe_int pa_nil)) (blkOk_by (own := [("_law_j", 2)]) (N := N_l_units) (sc := defScope (top 65)) (by decide +kernel)) (fun _ _ _ _ _ => (pg_name (i := 2) sc_l_units.nd rfl (Or.inl rfl))) (fun _ _ _ _ _ => pts_nil) (fun _ _ _ _ _ => (pe_op op_mul pe_int (pe_callTy ct_int (by rfl) T.b_int (by decide +kernel) (pa_cons (pe_cmpR op_eq (pv 2) (pv 1) (nomark _)) pa_nil)))))) pa_nil)))
        (pss_one (ps_expr (pe_bm PySem.F.plainAttrs_list PySem.F.slot_list_append PySem.F.type_list_append mt_append (pv 0) (pa_cons (pe_tupleK K (by rfl) T.b_tuple (pe_lc (own := [("_law_j", 2)]) (g := (gName 2)) rfl sc_l_units.nd (pi_range1 (by rfl) T.b_range (pa_cons pe_int pa_nil)) (blkOk_by (own := [("_law_j", 2)]) (N := N_l_units) (sc := defScope (top 65)) (by decide +kernel)) (fun _ _ _ _ _ => (pg_name (i := 2) sc_l_units.nd rfl (Or.inl rfl))) (fun _ _ _ _ _ => pts_nil) (fun _ _ _ _ _ => (pe_op op_mul (pe_un un_neg pe_int) (pe_callTy ct_int (by rfl) T.b_int (by decide +kernel) (pa_cons (pe_cmpR op_eq (pv 2) (pv 1) (nomark _)) pa_nil)))))) pa_nil))))))
        (pss_one (ps_ret (pe_callB (cr_sortD hr.units) (by rfl) T.b_sorted (by decide +kernel) (pa_cons (pv 0) pa_nil))))))), ?_⟩
    refine run_seq (run_new ?_)
    show Run K _ [.own [], .un, .un] _ _
    refine run_seq (run_forN (ei_rng1 (j := 16) (ea_cons ev_int ea_nil) (by decide) (by decide)) (fun i r => ∃ s1 s2, r = [.own ((uL1 i).map Qt.D), s1, s2]) ⟨.un, .un, rfl⟩ (fun i d r hd w => ?_) ?_)
    · obtain ⟨s1, s2, rfl⟩ := w
      have hi : i < 16 := by
        have h := (List.getElem?_eq_some_iff.mp hd).1
        rw [rangeD_len] at h
        exact h
      rw [rangeD_get hd]
      show Run K _ [.own ((uL1 i).map Qt.D), .dat (.int (0 + (i : Int))), s2] _ _
      rw [Int.zero_add]
      have m2 : ∀ x : Int, CMul x 2 := fun x => .inr ⟨by decide, by decide⟩
      have d2 : (0 : Int) < 2 := by decide
      refine run_append (d := (uA (i : Int)).D) rfl (ev_tup (ea_cons (ev_I0 (ev_I (ev_I (ev_var rfl) ev_int d2) ev_int (m2 _)) ev_int) (ea_cons (ev_I0 (ev_I (ev_I (ev_I (ev_var rfl) ev_int (⟨by decide, by decide⟩)) ev_int d2) ev_int (m2 _)) ev_int) (ea_cons (ev_I0 (ev_I (ev_I (ev_I (ev_var rfl) ev_int (⟨by decide, by decide⟩)) ev_int d2) ev_int (m2 _)) ev_int) (ea_cons (ev_I0 (ev_I (ev_I (ev_var rfl) ev_int (⟨by decide, by decide⟩)) ev_int (m2 _)) ev_int) ea_nil)))) (sz 4)) (by rw [List.length_map, uL1_len]; omega) ⟨.dat (.int (i : Int)), s2, ?_⟩
      have e : uL1 (i + 1) = uL1 i ++ [uA (i : Int)] := by
        unfold uL1
        rw [List.range_succ, List.map_append]
        rfl
      rw [e, List.map_append]
      rfl
    · rintro r ⟨s1, s2, rfl⟩
      rw [rangeD_len]
      show Run K _ [.own ((uL2 0).map Qt.D), s1, s2] _ _
      refine run_seq (run_forN (ei_rng1 (j := 4) (ea_cons ev_int ea_nil) (by decide) (by decide)) (fun i r => ∃ s1 s2, r = [.own ((uL2 i).map Qt.D), s1, s2]) ⟨s1, s2, rfl⟩ (fun i d r hd w => ?_) ?_)
      · obtain ⟨s1, s2, rfl⟩ := w
        have hi : i < 4 := by
          have h := (List.getElem?_eq_some_iff.mp hd).1
          rw [rangeD_len] at h
          exact h
        rw [rangeD_get hd]
        show Run K _ [.own ((uL2 i).map Qt.D), .dat (.int (0 + (i : Int))), s2] _ _
        rw [Int.zero_add]
        have hl := uL2_len (Nat.le_of_lt hi)
        refine run_seq (run_append (d := (uB 2 (i : Int)).D) rfl (ev_tupL (ev_lcI [0, 1, 2, 3] (f := fun j => .int (2 * eqI j (i : Int))) (ei_rng1 (j := 4) (ea_cons ev_int ea_nil) (by decide) (by decide)) rfl (by decide) (by decide) (fun j hj => ⟨_, eg_name, (ev_I ev_int (ev_intB (ea_cons (ev_eqI (ev_var rfl) (ev_var rfl)) ea_nil)) (.inl ⟨by decide, by decide⟩))⟩))) (by rw [List.length_map]; omega) ?_)
        show Run K _ [.own ((uL2 i).map Qt.D ++ [(uB 2 (i : Int)).D]), .dat (.int (i : Int)), s2] _ _
        refine run_append (d := (uB (-2) (i : Int)).D) rfl (ev_tupL (ev_lcI [0, 1, 2, 3] (f := fun j => .int (-2 * eqI j (i : Int))) (ei_rng1 (j := 4) (ea_cons ev_int ea_nil) (by decide) (by decide)) rfl (by decide) (by decide) (fun j hj => ⟨_, eg_name, (ev_I (ev_neg ev_int) (ev_intB (ea_cons (ev_eqI (ev_var rfl) (ev_var rfl)) ea_nil)) (.inl ⟨by decide, by decide⟩))⟩))) (by rw [List.length_append, List.length_map]; simp; omega) ⟨.dat (.int (i : Int)), s2, ?_⟩
        have e : uL2 (i + 1) = uL2 i ++ [uB 2 (i : Int), uB (-2) (i : Int)] := by
          unfold uL2
          rw [List.range_succ, List.flatMap_append, ← List.append_assoc]
          rfl
        rw [e, List.map_append]
        show [Sl.own ((uL2 i).map Qt.D ++ [(uB 2 (i : Int)).D] ++ [(uB (-2) (i : Int)).D]), _, _] = _
        rw [List.append_assoc]
        rfl
      · rintro r ⟨s1, s2, rfl⟩
        rw [rangeD_len]
        show Run K _ [.own ((uL2 4).map Qt.D), s1, s2] _ _
        refine run_ret (ev_sortD (ea_cons (ev_var rfl) ea_nil) (alike_qt _) (sortable_qt _) (depths_qt _)) ?_
        rw [sortD_qt, uL_units]
def lcan (q : Qt) : Qt := (Qt.units.tail.map q.mul).foldl (fun a y => if Qt.lt a y = true then y else a) (q.mul ⟨-2, 0, 0, 0⟩)
def R_l_canonical (ds : List D) (d : D) : Prop := ∃ q : Qt, ds = [q.D] ∧ d = (lcan q).D
abbrev N_l_canonical : List Str := ["_law_number", "_law_unit"]
theorem sc_l_canonical : FnScope N_l_canonical ["_law_number"] (defScope (top 66)) := ⟨rfl, rfl, rfl, by decide +kernel, rfl, by decide +kernel, by decide +kernel⟩
theorem ok_l_canonical (T : Txt K mg) : Fn P w K mg base 2 "_law_canonical" R_l_canonical := by
  refine fn_mk (T.def_l_canonical) sc_l_canonical (fun _ _ _ _ _ _ us hl => match us, hl with | [_], _ => rfl) ?len ?body
  case len =>
    rintro ds d ⟨q, rfl, _⟩
    rfl
  case body =>
    rintro f cdv A outer s H E hr ds d ⟨q, rfl, rfl⟩
    refine ⟨_, (pss_one (ps_ret (pe_callB (cr_maxD rfl hr.units) (by rfl) T.b_max (by decide +kernel) (pa_cons (pe_lc (own := [("_law_unit", 1)]) (g := (gName 1)) rfl sc_l_canonical.nd (pi_list (pe_fn0 (ok_l_units T) hr (by decide) (by rfl))) (blkOk_by (own := [("_law_unit", 1)]) (N := N_l_canonical) (sc := defScope (top 66)) (by decide +kernel)) (fun _ _ _ _ _ => (pg_name (i := 1) sc_l_canonical.nd rfl (Or.inl rfl))) (fun _ _ _ _ _ => pts_nil) (fun _ _ _ _ _ => (pe_fn (ok_l_product T) hr (by decide) (by rfl) (pa_cons (pv 0) (pa_cons (pv 1) pa_nil))))) pa_nil)))), ?_⟩
    refine run_ret (ev_maxD (d := (q.mul ⟨-2, 0, 0, 0⟩).D) (ds := (Qt.units.tail.map q.mul).map Qt.D) (ea_cons ((ev_lcM Qt.D Qt.units (f := fun u => (q.mul u).D) (ei_list (ev_call ea_nil ⟨rfl, rfl⟩)) rfl (by decide) (by decide) (fun u hu => ⟨_, eg_name, (ev_call (ea_cons (ev_var rfl) (ea_cons (ev_var rfl) ea_nil)) ⟨q, u, (unit_ok u hu).2, rfl, rfl⟩)⟩)).to rfl) ea_nil) (alikeAll_qt (q.mul ⟨-2, 0, 0, 0⟩ :: Qt.units.tail.map q.mul)) ?_) ?_
    · exact (flat_shape ((q.mul ⟨-2, 0, 0, 0⟩ :: Qt.units.tail.map q.mul).map Qt.D) fun d h => by
        obtain ⟨x, _, rfl⟩ := List.mem_map.mp h
        exact ⟨rfl, depth_qt x⟩).2
    · rw [maxD_qt]
      rfl
def divs (n : Int) (w : Qt) : Option Qt :=
  if ([w.a, w.b, w.c, w.d].map fun z => !(z % n == 0)).any id = true then none else
  if ([w.a / n, w.b / n, w.c / n, w.d / n].map fun z => !((z - w.a / n) % 2 == 0)).any id = true then none else some ⟨w.a / n, w.b / n, w.c / n, w.d / n⟩
def ldv (f q : Qt) : Option Qt := divs f.nrm (f.conj.mul q)
def optD : Option Qt → D
  | none => .none
  | some q => q.D
theorem ev_notO {ρ : List (Option D)} {ta : TE} {o : Option Qt} (ha : Evd K ta ρ (optD o)) : Evd K (tOp (fun x y H Q => y = .non ∧ Q (.bl (!decide (x = .non))) H) ta (tC .non)) ρ (.bool o.isSome) := by
  cases o with
  | none => exact ev_notN ha
  | some q => exact ev_notN ha
def R_l_divides (ds : List D) (d : D) : Prop := ∃ f q : Qt, f.sm big ∧ q.sm big ∧ 0 < f.nrm ∧ f.nrm < 1073741824 ∧ ds = [f.D, q.D] ∧ d = optD (ldv f q)
abbrev N_l_divides : List Str := ["_law_factor", "_law_number", "_law_whole", "_law_value", "_law_part", "_law_shares", "_law_share"]
theorem sc_l_divides : FnScope N_l_divides ["_law_factor", "_law_number"] (defScope (top 68)) := ⟨rfl, rfl, rfl, by decide +kernel, rfl, by decide +kernel, by decide +kernel⟩
theorem ok_l_divides (T : Txt K mg) : Fn P w K mg base 2 "_law_divides" R_l_divides := by
  refine fn_mk (T.def_l_divides) sc_l_divides (fun _ _ _ _ _ _ us hl => match us, hl with | [_, _], _ => rfl) ?len ?body
  case len =>
    rintro ds d ⟨f, q, _, _, _, _, rfl, _⟩
    rfl
  case body =>
    rintro f cdv A outer s H E hr ds d ⟨f, q, hf, hq, h1, h2, rfl, rfl⟩
    refine ⟨_, (pss_cons (ps_set (i := 2) sc_l_divides.nd rfl (Or.inl rfl) (pe_fn (ok_l_product T) hr (by decide) (by rfl) (pa_cons (pe_fn (ok_l_conjugate T) hr (by decide) (by rfl) (pa_cons (pv 0) pa_nil)) (pa_cons (pv 1) pa_nil))))
        (pss_cons (ps_set (i := 3) sc_l_divides.nd rfl (Or.inr rfl) (pe_fn (ok_l_norm T) hr (by decide) (by rfl) (pa_cons (pv 0) pa_nil)))
        (pss_cons (ps_if (pt_val (pe_callB (cr_anyK K rfl) (by rfl) T.b_any (by decide +kernel) (pa_cons (pe_lc (own := [("_law_part", 4)]) (g := (gName 4)) rfl sc_l_divides.nd (pi_tup (pv 2)) (blkOk_by (own := [("_law_part", 4)]) (N := N_l_divides) (sc := defScope (top 68)) (by decide +kernel)) (fun _ _ _ _ _ => (pg_name (i := 4) sc_l_divides.nd rfl (Or.inl rfl))) (fun _ _ _ _ _ => pts_nil) (fun _ _ _ _ _ => (pe_cmpR op_ne (pe_op op_mod (pe_callTy ct_int (by rfl) T.b_int (by decide +kernel) (pa_cons (pv 4) pa_nil)) (pv 3)) pe_int (nomark _)))) pa_nil))) (pss_one (ps_ret pe_non)) pss_nil)
        (pss_cons (ps_set (i := 5) sc_l_divides.nd rfl (Or.inr rfl) (pe_lc (own := [("_law_part", 4)]) (g := (gName 4)) rfl sc_l_divides.nd (pi_tup (pv 2)) (blkOk_by (own := [("_law_part", 4)]) (N := N_l_divides) (sc := defScope (top 68)) (by decide +kernel)) (fun _ _ _ _ _ => (pg_name (i := 4) sc_l_divides.nd rfl (Or.inl rfl))) (fun _ _ _ _ _ => pts_nil) (fun _ _ _ _ _ => (pe_op op_fdiv (pv 4) (pv 3)))))
        (pss_cons (ps_if (pt_val (pe_callB (cr_anyK K rfl) (by rfl) T.b_any (by decide +kernel) (pa_cons (pe_lc (own := [("_law_share", 6)]) (g := (gName 6)) rfl sc_l_divides.nd (pi_list (pv 5)) (blkOk_by (own := [("_law_share", 6)]) (N := N_l_divides) (sc := defScope (top 68)) (by decide +kernel)) (fun _ _ _ _ _ => (pg_name (i := 6) sc_l_divides.nd rfl (Or.inl rfl))) (fun _ _ _ _ _ => pts_nil) (fun _ _ _ _ _ => (pe_cmpR op_ne (pe_op op_mod (pe_callTy ct_int (by rfl) T.b_int (by decide +kernel) (pa_cons (pe_op op_sub (pv 6) (pe_ix (ix_listK K) (pv 5) pe_int (fun _ _ => rfl))) pa_nil)) pe_int) pe_int (nomark _)))) pa_nil))) (pss_one (ps_ret pe_non)) pss_nil)
        (pss_one (ps_ret (pe_tupleK K (by rfl) T.b_tuple (pv 5))))))))), ?_⟩
    refine run_seq (run_asg (d := (f.conj.mul q).D) (ev_call (ea_cons (ev_call (ea_cons (ev_var rfl) ea_nil) ⟨f, rfl, rfl⟩) (ea_cons (ev_var rfl) ea_nil)) ⟨f.conj, q, hq, rfl, rfl⟩) ?_)
    refine run_seq (run_asg (d := .int f.nrm) (ev_call (ea_cons (ev_var rfl) ea_nil) ⟨f, hf, rfl, rfl⟩) ?_)
    unfold ldv divs
    generalize f.conj.mul q = v
    generalize hn : f.nrm = n at h1 h2
    show Run K _ [.dat f.D, .dat q.D, .dat v.D, .dat (.int n), .un, .un, .un] _ _
    refine run_seq (run_if (et_B (ev_any (ns := [v.a, v.b, v.c, v.d].map fun z => !(z % n == 0)) (ea_cons (ev_lcI [v.a, v.b, v.c, v.d] (f := fun z => .bool (!(z % n == 0))) (ei_tup (ev_var rfl)) rfl (by simp) (by decide) (fun z hz => ⟨_, eg_name, (ev_neI (ev_I (ev_intI (ea_cons (ev_var rfl) ea_nil)) (ev_var rfl) h1) ev_int)⟩)) ea_nil))) (fun h => run_ret ev_non ?_) (fun h => run_next ?_))
    · rw [if_pos h]
      rfl
    rw [if_neg (by rw [h]; exact Bool.false_ne_true)]
    refine run_seq (run_asg (d := .list ([v.a / n, v.b / n, v.c / n, v.d / n].map PyData.int)) (ev_lcI [v.a, v.b, v.c, v.d] (f := fun z => .int (z / n)) (ei_tup (ev_var rfl)) rfl (by simp) (by decide) (fun z hz => ⟨_, eg_name, (ev_I (ev_var rfl) (ev_var rfl) (⟨h1, h2⟩))⟩)) ?_)
    show Run K _ [.dat f.D, .dat q.D, .dat v.D, .dat (.int n), .un, .dat (.list ([v.a / n, v.b / n, v.c / n, v.d / n].map PyData.int)), .un] _ _
    refine run_seq (run_if (et_B (ev_any (ns := [v.a / n, v.b / n, v.c / n, v.d / n].map fun z => !((z - v.a / n) % 2 == 0)) (ea_cons (ev_lcI [v.a / n, v.b / n, v.c / n, v.d / n] (f := fun z => .bool (!((z - v.a / n) % 2 == 0))) (ei_list (ev_var rfl)) rfl (by simp) (by decide) (fun z hz => ⟨_, eg_name, (ev_neI (ev_I (ev_intI (ea_cons (ev_I0 (ev_var rfl) (ev_ixL (ds := [v.a / n, v.b / n, v.c / n, v.d / n].map PyData.int) (ev_var rfl) ev_int rfl)) ea_nil)) ev_int (show (0 : Int) < 2 by decide)) ev_int)⟩)) ea_nil))) (fun h => run_ret ev_non ?_) (fun h => run_next ?_))
    · rw [if_pos h]
      rfl
    rw [if_neg (by rw [h]; exact Bool.false_ne_true)]
    exact run_ret (ev_tupL (ev_var rfl)) rfl
def plist : List Int := [2, 3, 5, 7, 11, 13]
def lprim (q : Qt) : Bool := plist.all fun p => (ldv (pp p) q).isNone
def R_l_is_primitive (ds : List D) (d : D) : Prop := ∃ q : Qt, q.sm big ∧ ds = [q.D] ∧ d = .bool (lprim q)
theorem pp_sm : ∀ p ∈ plist, (pp p).sm big ∧ 0 < (pp p).nrm ∧ (pp p).nrm < 1073741824 := by decide +kernel
abbrev N_l_is_primitive : List Str := ["_law_number", "_law_prime"]
theorem sc_l_is_primitive : FnScope N_l_is_primitive ["_law_number"] (defScope (top 69)) := ⟨rfl, rfl, rfl, by decide +kernel, rfl, by decide +kernel, by decide +kernel⟩
theorem ok_l_is_primitive (T : Txt K mg) : Fn P w K mg base 3 "_law_is_primitive" R_l_is_primitive := by
  refine fn_mk (T.def_l_is_primitive) sc_l_is_primitive (fun _ _ _ _ _ _ us hl => match us, hl with | [_], _ => rfl) ?len ?body
  case len =>
    rintro ds d ⟨q, _, rfl, _⟩
    rfl
  case body =>
    rintro f cdv A outer s H E hr ds d ⟨q, hq, rfl, rfl⟩
    refine ⟨_, (pss_cons (ps_for PassesOwn.never rfl (pi_list (pe_lst (pa_cons pe_int (pa_cons pe_int (pa_cons pe_int (pa_cons pe_int (pa_cons pe_int (pa_cons pe_int pa_nil)))))))) (pg_name (i := 1) sc_l_is_primitive.nd rfl (Or.inl rfl)) (pss_one (ps_if (pt_cmpR op_notN (pe_fn (ok_l_divides T) hr (by decide) (by rfl) (pa_cons (pe_tup (pa_cons (pe_op op_mul pe_int (pv 1)) (pa_cons pe_int (pa_cons pe_int (pa_cons pe_int pa_nil))))) (pa_cons (pv 0) pa_nil))) pe_non (nomark _)) (pss_one (ps_ret pe_bl)) pss_nil)))
        (pss_one (ps_ret pe_bl))), ?_⟩
    refine run_seq (run_forN (ds := plist.map PyData.int) (ei_list (ev_lst (ea_cons ev_int (ea_cons ev_int (ea_cons ev_int (ea_cons ev_int (ea_cons ev_int (ea_cons ev_int ea_nil)))))) (sz 6))) (fun i r => ((plist.take i).all fun p => (ldv (pp p) q).isNone) = true ∧ ∃ s1, r = [.dat q.D, s1]) ⟨rfl, .un, rfl⟩ (fun i d r hd w => ?_) ?_)
    · obtain ⟨w1, s1, rfl⟩ := w
      rw [List.getElem?_map] at hd
      cases e : plist[i]? with
      | none =>
        rw [e] at hd
        cases hd
      | some p =>
        rw [e] at hd
        cases hd
        have hm : p ∈ plist := List.mem_of_getElem? e
        obtain ⟨k1, k2, k3⟩ := pp_sm p hm
        show Run K _ [.dat q.D, .dat (.int p)] _ _
        have hp : -2 ^ 64 < p ∧ p < 2 ^ 64 := by
          have h : ∀ p ∈ plist, -2 ^ 64 < p ∧ p < 2 ^ 64 := by decide
          exact h p hm
        refine run_if (et_test (ev_notO (o := ldv (pp p) q) (ev_call (ea_cons (ev_tup (ea_cons (ev_I ev_int (ev_var rfl) (.inr hp)) (ea_cons ev_int (ea_cons ev_int (ea_cons ev_int ea_nil)))) (sz 4)) (ea_cons (ev_var rfl) ea_nil)) ⟨pp p, q, k1, hq, k2, k3, rfl, rfl⟩))) (fun h => run_ret ev_bl ?_) (fun h => run_next ?_)
        · have hs : (ldv (pp p) q).isNone = false := by
            cases z : ldv (pp p) q with
            | none =>
              rw [z] at h
              cases h
            | some s => rfl
          have : lprim q = false := by
            unfold lprim
            rw [List.all_eq_false]
            exact ⟨p, hm, by rw [hs]; exact Bool.false_ne_true⟩
          rw [this]
        · have hs : (ldv (pp p) q).isNone = true := by
            cases z : ldv (pp p) q with
            | none => rfl
            | some s =>
              rw [z] at h
              cases h
          refine ⟨?_, .dat (.int p), rfl⟩
          rw [List.take_add_one, e, List.all_append, w1]
          show (true && ((ldv (pp p) q).isNone && true)) = true
          rw [hs]
          rfl
    · rintro r ⟨w1, s1, rfl⟩
      refine run_ret ev_bl ?_
      have : lprim q = true := w1
      rw [this]
def R_l_all_product (ds : List D) (d : D) : Prop := ∃ l : List Qt, (∀ f ∈ l, f.sm big) ∧ ds = [.list (l.map Qt.D)] ∧ d = (l.foldl Qt.mul Qt.one).D
abbrev N_l_all_product : List Str := ["_law_factors", "_law_number", "_law_factor"]
theorem sc_l_all_product : FnScope N_l_all_product ["_law_factors"] (defScope (top 71)) := ⟨rfl, rfl, rfl, by decide +kernel, rfl, by decide +kernel, by decide +kernel⟩
theorem ok_l_all_product (T : Txt K mg) : Fn P w K mg base 2 "_law_all_product" R_l_all_product := by
  refine fn_mk (T.def_l_all_product) sc_l_all_product (fun _ _ _ _ _ _ us hl => match us, hl with | [_], _ => rfl) ?len ?body
  case len =>
    rintro ds d ⟨l, _, rfl, _⟩
    rfl
  case body =>
    rintro f cdv A outer s H E hr ds d ⟨l, hl, rfl, rfl⟩
    refine ⟨_, (pss_cons (ps_set (i := 1) sc_l_all_product.nd rfl (Or.inl rfl) (pe_tup (pa_cons pe_int (pa_cons pe_int (pa_cons pe_int (pa_cons pe_int pa_nil))))))
        (pss_cons (ps_for PassesOwn.never rfl (pi_list (pv 0)) (pg_name (i := 2) sc_l_all_product.nd rfl (Or.inl rfl)) (pss_one (ps_set (i := 1) sc_l_all_product.nd rfl (Or.inl rfl) (pe_fn (ok_l_product T) hr (by decide) (by rfl) (pa_cons (pv 1) (pa_cons (pv 2) pa_nil))))))
        (pss_one (ps_ret (pv 1))))), ?_⟩
    refine run_seq (run_asg (d := Qt.one.D) (ev_tup (ea_cons ev_int (ea_cons ev_int (ea_cons ev_int (ea_cons ev_int ea_nil)))) (sz 4)) ?_)
    show Run K _ [.dat (.list (l.map Qt.D)), .dat Qt.one.D, .un] _ _
    refine run_seq (run_forN (ei_list (ev_var rfl)) (fun i r => ∃ s2, r = [.dat (.list (l.map Qt.D)), .dat ((l.take i).foldl Qt.mul Qt.one).D, s2]) ⟨.un, rfl⟩ (fun i d r hd w => ?_) ?_)
    · obtain ⟨s2, rfl⟩ := w
      rw [List.getElem?_map] at hd
      cases e : l[i]? with
      | none =>
        rw [e] at hd
        cases hd
      | some f =>
        rw [e] at hd
        cases hd
        show Run K _ [.dat (.list (l.map Qt.D)), .dat ((l.take i).foldl Qt.mul Qt.one).D, .dat f.D] _ _
        refine run_asg (d := (((l.take i).foldl Qt.mul Qt.one).mul f).D) (ev_call (ea_cons (ev_var rfl) (ea_cons (ev_var rfl) ea_nil)) ⟨_, f, hl f (List.mem_of_getElem? e), rfl, rfl⟩) ⟨.dat f.D, ?_⟩
        rw [List.take_add_one, e, List.foldl_append]
        rfl
    · rintro r ⟨s2, rfl⟩
      rw [List.length_map, List.take_length]
      exact run_ret (ev_var rfl) rfl
end
end Tp

-- FF
/-! the law's helpers: primes -/
namespace Tp
open PySem PySem.Spec PyProof.Rows L2 DL
theorem foldl_grow {B : Nat} {step : List Qt → Int → List Qt} (hB : ∀ acc n, (step acc n).length ≤ acc.length + B) : ∀ (ns : List Int) (acc : List Qt), (ns.foldl step acc).length ≤ acc.length + ns.length * B
  | [], acc => by simp
  | n :: ns, acc => by
    have h1 := foldl_grow hB ns (step acc n)
    have h2 := hB acc n
    rw [List.foldl_cons, List.length_cons, Nat.succ_mul]
    omega
section
variable {K : PySem.W.Frag} {r : List Sl} {N : List Sl → Prop} {R : D → Prop} {T : TS}
theorem run_forAcc {i : Nat} {wi : TI} {ns : List Int} {ds : List D} (hi : EvI K wi (r.map strD) ds) (hds : ds = ns.map PyData.int) (St : List Qt → List Sl → Prop) (step : List Qt → Int → List Qt) (B L : Nat) (acc0 : List Qt) (h0 : St acc0 r)
    (hB : ∀ acc n, (step acc n).length ≤ acc.length + B) (h1 : acc0.length + ns.length * B ≤ L) (turn : ∀ n ∈ ns, ∀ acc r, acc.length + B ≤ L → St acc r → Run K T (r.set i (.dat (.int n))) (St (step acc n)) R)
    (hd : ∀ r, St (ns.foldl step acc0) r → N r) : Run K (tFor wi (gName i) T) r N R := by
  subst hds
  refine run_forN hi (fun k r => St ((ns.take k).foldl step acc0) r) h0 (fun k d r hk w => ?_) (fun r w => ?_)
  · rw [List.getElem?_map] at hk
    cases e : ns[k]? with
    | none =>
      rw [e] at hk
      cases hk
    | some n =>
      rw [e] at hk
      cases hk
      have hlt := (List.getElem?_eq_some_iff.mp e).1
      have g := foldl_grow hB (ns.take k) acc0
      rw [List.length_take, Nat.min_eq_left (Nat.le_of_lt hlt)] at g
      have e2 : (ns.take (k + 1)).foldl step acc0 = step ((ns.take k).foldl step acc0) n := by
        rw [List.take_add_one, e, List.foldl_append]
        rfl
      rw [e2]
      refine turn n (List.mem_of_getElem? e) _ _ ?_ w
      have : k * B + B ≤ ns.length * B := by
        rw [← Nat.succ_mul]
        exact Nat.mul_le_mul_right B hlt
      omega
  · rw [List.length_map, List.take_length] at w
    exact hd r w
end
def rangeI (lo : Int) (n : Nat) : List Int := (List.range n).map fun i : Nat => lo + (i : Int)
theorem rangeD_I (lo : Int) (n : Nat) : rangeD lo n = (rangeI lo n).map PyData.int := by
  unfold rangeD rangeI
  rw [List.map_map]
  rfl
theorem rangeI_len (lo : Int) (n : Nat) : (rangeI lo n).length = n := by
  unfold rangeI
  rw [List.length_map, List.length_range]
theorem rangeI_mem {lo : Int} {n : Nat} {x : Int} (h : x ∈ rangeI lo n) : lo ≤ x ∧ x < lo + n := by
  unfold rangeI at h
  obtain ⟨i, hi, rfl⟩ := List.mem_map.mp h
  have := List.mem_range.mp hi
  omega
def primes7 : List Int := [2, 3, 5, 7, 11, 13, 17]
def mstI (p : Int) (k : Nat) : Int := (List.range k).foldl (fun m i => if ((i : Nat) : Int) + 1 ≤ p ∧ (((i : Nat) : Int) + 1) * (((i : Nat) : Int) + 1) ≤ p then ((i : Nat) : Int) + 1 else m) 0
def mst (p : Int) : Int := mstI p 40
theorem mst7 : ∀ p ∈ primes7, 1 ≤ mst p ∧ mst p ≤ 4 ∧ 2 ≤ p ∧ p ≤ 17 := by decide +kernel
def sD (p a b c : Int) (acc : List Qt) (d : Int) : List Qt := if (d * d == p - a * a - b * b - c * c) = true then (if lcan ⟨2 * a, 2 * b, 2 * c, 2 * d⟩ ∈ acc then acc else acc ++ [lcan ⟨2 * a, 2 * b, 2 * c, 2 * d⟩]) else acc
def sC (p a b : Int) (acc : List Qt) (c : Int) : List Qt := (rangeI 0 (mst p + 1).toNat).foldl (sD p a b c) acc
def sB (p a : Int) (acc : List Qt) (b : Int) : List Qt := (rangeI (-mst p) (mst p + 1 - -mst p).toNat).foldl (sC p a b) acc
def sA (p : Int) (acc : List Qt) (a : Int) : List Qt := (rangeI (-mst p) (mst p + 1 - -mst p).toNat).foldl (sB p a) acc
def lprimes (p : Int) : List Qt := Qt.sort ((rangeI 0 (mst p + 1).toNat).foldl (sA p) [])
theorem sD_grow (p a b c : Int) (acc : List Qt) (d : Int) : (sD p a b c acc d).length ≤ acc.length + 1 := by
  unfold sD
  split
  · split
    · omega
    · rw [List.length_append, List.length_singleton]
      omega
  · omega
theorem sC_grow {p : Int} (h : mst p ≤ 4) (a b : Int) (acc : List Qt) (c : Int) : (sC p a b acc c).length ≤ acc.length + 5 := by
  have g := foldl_grow (sD_grow p a b c) (rangeI 0 (mst p + 1).toNat) acc
  rw [rangeI_len] at g
  unfold sC
  omega
theorem sB_grow {p : Int} (h : mst p ≤ 4) (a : Int) (acc : List Qt) (b : Int) : (sB p a acc b).length ≤ acc.length + 45 := by
  have g := foldl_grow (sC_grow h a b) (rangeI (-mst p) (mst p + 1 - -mst p).toNat) acc
  rw [rangeI_len] at g
  unfold sB
  omega
theorem sA_grow {p : Int} (h : mst p ≤ 4) (acc : List Qt) (a : Int) : (sA p acc a).length ≤ acc.length + 405 := by
  have g := foldl_grow (sB_grow h a) (rangeI (-mst p) (mst p + 1 - -mst p).toNat) acc
  rw [rangeI_len] at g
  unfold sA
  omega
section
variable {P : Program} {w : World} {K : PySem.W.Frag} {mg : Str → Option Value} {base : Heap}
def StA (p : Int) (acc : List Qt) (r : List Sl) : Prop := ∃ s3 s4 s5 s6 s7 s8 s9, r = [.dat (.int p), .own (acc.map Qt.D), .dat (.int (mst p)), s3, s4, s5, s6, s7, s8, s9]
def StB (p a : Int) (acc : List Qt) (r : List Sl) : Prop := ∃ s3 s5 s6 s7 s8 s9, r = [.dat (.int p), .own (acc.map Qt.D), .dat (.int (mst p)), s3, .dat (.int a), s5, s6, s7, s8, s9]
def StC (p a b : Int) (acc : List Qt) (r : List Sl) : Prop := ∃ s3 s6 s7 s8 s9, r = [.dat (.int p), .own (acc.map Qt.D), .dat (.int (mst p)), s3, .dat (.int a), .dat (.int b), s6, s7, s8, s9]
def StD (p a b c : Int) (acc : List Qt) (r : List Sl) : Prop := ∃ s3 s8 s9, r = [.dat (.int p), .own (acc.map Qt.D), .dat (.int (mst p)), s3, .dat (.int a), .dat (.int b), .dat (.int c), .dat (.int (p - a * a - b * b - c * c)), s8, s9]
theorem any_qt (acc : List Qt) (q : Qt) : ((acc.map Qt.D).any fun z => PyData.eqv z q.D) = decide (q ∈ acc) := by
  rw [Bool.eq_iff_iff, List.any_eq_true, decide_eq_true_eq]
  constructor
  · rintro ⟨d, h1, h2⟩
    obtain ⟨x, hx, rfl⟩ := List.mem_map.mp h1
    rw [eqv_qt, decide_eq_true_eq] at h2
    rw [← h2]
    exact hx
  · intro h
    exact ⟨q.D, List.mem_map_of_mem h, by rw [eqv_qt]; exact decide_eq_true rfl⟩
def R_l_primes (ds : List D) (d : D) : Prop := ∃ p : Int, p ∈ primes7 ∧ ds = [.int p] ∧ d = .list ((lprimes p).map Qt.D)
abbrev N_l_primes : List Str := ["_law_prime", "_law_found", "_law_most", "_law_k", "_law_a", "_law_b", "_law_c", "_law_rest", "_law_d", "_law_number"]
theorem sc_l_primes : FnScope N_l_primes ["_law_prime"] (defScope (top 67)) := ⟨rfl, rfl, rfl, by decide +kernel, rfl, by decide +kernel, by decide +kernel⟩
set_option maxHeartbeats 1000000 in
theorem ok_l_primes (T : Txt K mg) : Fn P w K mg base 3 "_law_primes" R_l_primes := by
  refine fn_mk (T.def_l_primes) sc_l_primes (fun _ _ _ _ _ _ us hl => match us, hl with | [_], _ => rfl) ?len ?body
  case len =>
    rintro ds d ⟨p, _, rfl, _⟩
    rfl
  case body =>
    rintro f cdv A outer s H E hr ds d ⟨p, hp, rfl, rfl⟩
    refine ⟨_, (pss_cons (ps_set (i := 1) sc_l_primes.nd rfl (Or.inl rfl) (pe_lst pa_nil))
        (pss_cons (ps_set (i := 2) sc_l_primes.nd rfl (Or.inl rfl) pe_int)
        (pss_cons (ps_for PassesOwn.never rfl (pi_range1 (by rfl) T.b_range (pa_cons pe_int pa_nil)) (pg_name (i := 3) sc_l_primes.nd rfl (Or.inl rfl)) (pss_one (ps_if (pt_cmpR op_le (pe_op op_mul (pe_op op_add (pv 3) pe_int) (pe_op op_add (pv 3) pe_int)) (pv 0) (nomark _)) (pss_one (ps_set (i := 2) sc_l_primes.nd rfl (Or.inl rfl) (pe_op op_add (pv 3) pe_int))) pss_nil)))
        (pss_cons (ps_for PassesOwn.never rfl (pi_range1 (by rfl) T.b_range (pa_cons (pe_op op_add (pv 2) pe_int) pa_nil)) (pg_name (i := 4) sc_l_primes.nd rfl (Or.inl rfl)) (pss_one (ps_for PassesOwn.never rfl (pi_range2 (by rfl) T.b_range (pa_cons (pe_un un_neg (pv 2)) (pa_cons (pe_op op_add (pv 2) pe_int) pa_nil))) (pg_name (i := 5) sc_l_primes.nd rfl (Or.inl rfl)) (pss_one (ps_for PassesOwn.never rfl (pi_range2 (by rfl) T.b_range (pa_cons (pe_un un_neg (pv 2)) (pa_cons (pe_op op_add (pv 2) pe_int) pa_nil))) (pg_name (i := 6) sc_l_primes.nd rfl (Or.inl rfl)) (pss_cons (ps_set (i := 7) sc_l_primes.nd rfl (Or.inl rfl) (pe_op op_sub (pe_op op_sub (pe_op op_sub (pv 0) (pe_op op_mul (pv 4) (pv 4))) (pe_op op_mul (pv 5) (pv 5))) (pe_op op_mul (pv 6) (pv 6))))
        (pss_one (ps_for PassesOwn.never rfl (pi_range1 (by rfl) T.b_range (pa_cons (pe_op op_add (pv 2) pe_int) pa_nil)) (pg_name (i := 8) sc_l_primes.nd rfl (Or.inl rfl)) (pss_one (ps_if (pt_cmpR op_eq (pe_op op_mul (pv 8) (pv 8)) (pv 7) (nomark _)) (pss_cons (ps_set (i := 9) sc_l_primes.nd rfl (Or.inl rfl) (pe_fn (ok_l_canonical T) hr (by decide) (by rfl) (pa_cons (pe_tup (pa_cons (pe_op op_mul pe_int (pv 4)) (pa_cons (pe_op op_mul pe_int (pv 5)) (pa_cons (pe_op op_mul pe_int (pv 6)) (pa_cons (pe_op op_mul pe_int (pv 8)) pa_nil))))) pa_nil)))
        (pss_one (ps_if (pt_cmpR (op_notInK K (hu65 hr)) (pv 9) (pv 1) (by rfl)) (pss_one (ps_expr (pe_bm PySem.F.plainAttrs_list PySem.F.slot_list_append PySem.F.type_list_append mt_append (pv 1) (pa_cons (pv 9) pa_nil)))) pss_nil))) pss_nil))))))))))
        (pss_one (ps_ret (pe_callB (cr_sortD hr.units) (by rfl) T.b_sorted (by decide +kernel) (pa_cons (pv 1) pa_nil)))))))), ?_⟩
    obtain ⟨m1, m4, p2, p17⟩ := mst7 p hp
    have sm : ∀ x : Int, -4 ≤ x → x ≤ 4 → ∀ y : Int, CMul x y := fun x h1 h2 y => .inl ⟨by omega, by omega⟩
    have m2 : ∀ y : Int, CMul 2 y := fun y => .inl ⟨by decide, by decide⟩
    refine run_seq (run_new (run_seq (run_asg ev_int ?_)))
    show Run K _ [.dat (.int p), .own [], .dat (.int 0), .un, .un, .un, .un, .un, .un, .un] _ _
    refine run_seq (run_forN (ei_rng1 (j := 40) (ea_cons ev_int ea_nil) (by decide) (by decide)) (fun k r => ∃ s3, r = [.dat (.int p), .own [], .dat (.int (mstI p k)), s3, .un, .un, .un, .un, .un, .un]) ⟨.un, rfl⟩ (fun k d r hk w => ?_) ?_)
    · obtain ⟨s3, rfl⟩ := w
      rw [rangeD_get hk, Int.zero_add]
      have hk40 : k < 40 := by
        have h := (List.getElem?_eq_some_iff.mp hk).1
        rw [rangeD_len] at h
        exact h
      show Run K _ [.dat (.int p), .own [], .dat (.int (mstI p k)), .dat (.int (k : Int)), .un, .un, .un, .un, .un, .un] _ _
      have em : mstI p (k + 1) = if (k : Int) + 1 ≤ p ∧ ((k : Int) + 1) * ((k : Int) + 1) ≤ p then (k : Int) + 1 else mstI p k := by
        unfold mstI
        rw [List.range_succ, List.foldl_append]
        rfl
      refine run_if (et_test (ev_B0 (i := ((k : Int) + 1) * ((k : Int) + 1)) (j := p) (ev_I (ev_I0 (ev_var rfl) ev_int) (ev_I0 (ev_var rfl) ev_int) (.inl ⟨by omega, by omega⟩)) (ev_var rfl))) (fun h => ?_) (fun h => run_next ?_)
      · have h1 : ((k : Int) + 1) * ((k : Int) + 1) ≤ p := of_decide_eq_true h
        have h2 : (k : Int) + 1 ≤ p := by
          have : ((k : Int) + 1) * 1 ≤ ((k : Int) + 1) * ((k : Int) + 1) := Int.mul_le_mul_of_nonneg_left (by omega) (by omega)
          omega
        rw [if_pos ⟨h2, h1⟩] at em
        rw [em]
        exact run_asg (ev_I0 (ev_var rfl) ev_int) ⟨_, rfl⟩
      · have h1 : ¬ ((k : Int) + 1) * ((k : Int) + 1) ≤ p := of_decide_eq_false h
        rw [if_neg (fun z => h1 z.2)] at em
        rw [em]
        exact ⟨_, rfl⟩
    · rintro r ⟨s3, rfl⟩
      rw [rangeD_len]
      show Run K _ [.dat (.int p), .own [], .dat (.int (mst p)), s3, .un, .un, .un, .un, .un, .un] _ _
      refine run_seq (run_forAcc (ns := rangeI 0 (mst p + 1).toNat) (ei_rng1 (j := mst p + 1) (ea_cons (ev_I0 (ev_var rfl) ev_int) ea_nil) (by omega) (by omega)) (rangeD_I _ _) (StA p) (sA p) 405 5000 [] ⟨_, _, _, _, _, _, _, rfl⟩ (sA_grow m4) (by rw [rangeI_len, List.length_nil]; omega) (fun a ha acc r hL w => ?_) ?_)
      · obtain ⟨s3, s4, s5, s6, s7, s8, s9, rfl⟩ := w
        obtain ⟨a1, a2⟩ := rangeI_mem ha
        show Run K _ [.dat (.int p), .own (acc.map Qt.D), .dat (.int (mst p)), s3, .dat (.int a), s5, s6, s7, s8, s9] _ _
        refine run_forAcc (ns := rangeI (-mst p) (mst p + 1 - -mst p).toNat) (ei_rng2 (i := -mst p) (j := mst p + 1) (ea_cons (ev_neg (ev_var rfl)) (ea_cons (ev_I0 (ev_var rfl) ev_int) ea_nil)) ⟨by omega, by omega, by omega, by omega⟩) (rangeD_I _ _) (StB p a) (sB p a) 45 5000 acc ⟨_, _, _, _, _, _, rfl⟩ (sB_grow m4 a) (by rw [rangeI_len]; omega) (fun b hb acc r hL w => ?_) ?_
        · obtain ⟨s3, s5, s6, s7, s8, s9, rfl⟩ := w
          obtain ⟨b1, b2⟩ := rangeI_mem hb
          show Run K _ [.dat (.int p), .own (acc.map Qt.D), .dat (.int (mst p)), s3, .dat (.int a), .dat (.int b), s6, s7, s8, s9] _ _
          refine run_forAcc (ns := rangeI (-mst p) (mst p + 1 - -mst p).toNat) (ei_rng2 (i := -mst p) (j := mst p + 1) (ea_cons (ev_neg (ev_var rfl)) (ea_cons (ev_I0 (ev_var rfl) ev_int) ea_nil)) ⟨by omega, by omega, by omega, by omega⟩) (rangeD_I _ _) (StC p a b) (sC p a b) 5 5000 acc ⟨_, _, _, _, _, rfl⟩ (sC_grow m4 a b) (by rw [rangeI_len]; omega) (fun c hc acc r hL w => ?_) ?_
          · obtain ⟨s3, s6, s7, s8, s9, rfl⟩ := w
            obtain ⟨c1, c2⟩ := rangeI_mem hc
            show Run K _ [.dat (.int p), .own (acc.map Qt.D), .dat (.int (mst p)), s3, .dat (.int a), .dat (.int b), .dat (.int c), s7, s8, s9] _ _
            refine run_seq (run_asg (d := .int (p - a * a - b * b - c * c)) (ev_I0 (ev_I0 (ev_I0 (ev_var rfl) (ev_I (ev_var rfl) (ev_var rfl) (sm a (by omega) (by omega) _))) (ev_I (ev_var rfl) (ev_var rfl) (sm b (by omega) (by omega) _))) (ev_I (ev_var rfl) (ev_var rfl) (sm c (by omega) (by omega) _))) ?_)
            show Run K _ [.dat (.int p), .own (acc.map Qt.D), .dat (.int (mst p)), s3, .dat (.int a), .dat (.int b), .dat (.int c), .dat (.int (p - a * a - b * b - c * c)), s8, s9] _ _
            refine run_forAcc (ns := rangeI 0 (mst p + 1).toNat) (ei_rng1 (j := mst p + 1) (ea_cons (ev_I0 (ev_var rfl) ev_int) ea_nil) (by omega) (by omega)) (rangeD_I _ _) (StD p a b c) (sD p a b c) 1 5000 acc ⟨_, _, _, rfl⟩ (sD_grow p a b c) (by rw [rangeI_len]; omega) (fun d hd acc r hL w => ?_) ?_
            · obtain ⟨s3, s8, s9, rfl⟩ := w
              obtain ⟨d1, d2⟩ := rangeI_mem hd
              show Run K _ [.dat (.int p), .own (acc.map Qt.D), .dat (.int (mst p)), s3, .dat (.int a), .dat (.int b), .dat (.int c), .dat (.int (p - a * a - b * b - c * c)), .dat (.int d), s9] _ _
              refine run_if (b := (d * d == p - a * a - b * b - c * c)) (et_test (ev_eqI (ev_I (ev_var rfl) (ev_var rfl) (sm d (by omega) (by omega) _)) (ev_var rfl))) (fun h => ?_) (fun h => run_next ?_)
              · refine run_seq (run_asg (d := (lcan ⟨2 * a, 2 * b, 2 * c, 2 * d⟩).D) (ev_call (ea_cons (ev_tup (ea_cons (ev_I ev_int (ev_var rfl) (m2 _)) (ea_cons (ev_I ev_int (ev_var rfl) (m2 _)) (ea_cons (ev_I ev_int (ev_var rfl) (m2 _)) (ea_cons (ev_I ev_int (ev_var rfl) (m2 _)) ea_nil)))) (sz 4)) ea_nil) ⟨⟨2 * a, 2 * b, 2 * c, 2 * d⟩, rfl, rfl⟩) ?_)
                show Run K _ [.dat (.int p), .own (acc.map Qt.D), .dat (.int (mst p)), s3, .dat (.int a), .dat (.int b), .dat (.int c), .dat (.int (p - a * a - b * b - c * c)), .dat (.int d), .dat (lcan ⟨2 * a, 2 * b, 2 * c, 2 * d⟩).D] _ _
                have es : sD p a b c acc d = if lcan ⟨2 * a, 2 * b, 2 * c, 2 * d⟩ ∈ acc then acc else acc ++ [lcan ⟨2 * a, 2 * b, 2 * c, 2 * d⟩] := if_pos h
                rw [es]
                refine run_if (et_test ((ev_notInD (d := (lcan ⟨2 * a, 2 * b, 2 * c, 2 * d⟩).D) (ds := acc.map Qt.D) (ev_var rfl) (ev_var rfl) rfl (shaped_qts _)).to (by rw [any_qt]))) (fun h2 => ?_) (fun h2 => run_next ?_)
                · have hn : ¬ lcan ⟨2 * a, 2 * b, 2 * c, 2 * d⟩ ∈ acc := fun z => by
                    rw [decide_eq_true z] at h2
                    cases h2
                  rw [if_neg hn]
                  refine run_append (ds := acc.map Qt.D) rfl (ev_var rfl) (by rw [List.length_map]; omega) ⟨s3, .dat (.int d), .dat (lcan ⟨2 * a, 2 * b, 2 * c, 2 * d⟩).D, ?_⟩
                  · rw [List.map_append]
                    rfl
                · have hn : lcan ⟨2 * a, 2 * b, 2 * c, 2 * d⟩ ∈ acc := by
                    by_cases z : lcan ⟨2 * a, 2 * b, 2 * c, 2 * d⟩ ∈ acc
                    · exact z
                    · rw [decide_eq_false z] at h2
                      cases h2
                  rw [if_pos hn]
                  exact ⟨_, _, _, rfl⟩
              · have es : sD p a b c acc d = acc := if_neg (by rw [h]; exact Bool.false_ne_true)
                rw [es]
                exact ⟨_, _, _, rfl⟩
            · rintro r ⟨s3, s8, s9, rfl⟩
              exact ⟨_, _, _, _, _, rfl⟩
          · rintro r ⟨s3, s6, s7, s8, s9, rfl⟩
            exact ⟨_, _, _, _, _, _, rfl⟩
        · rintro r ⟨s3, s5, s6, s7, s8, s9, rfl⟩
          exact ⟨_, _, _, _, _, _, _, rfl⟩
      · rintro r ⟨s3, s4, s5, s6, s7, s8, s9, rfl⟩
        refine run_ret (ev_sortD (ea_cons (ev_var rfl) ea_nil) (alike_qt _) (sortable_qt _) (depths_qt _)) ?_
        rw [sortD_qt]
        rfl
end
end Tp

-- FG
/-! the law's helpers: drawn factors (a dict of its own) -/
namespace Tp
open PySem PySem.Spec PyProof.Rows L2 DL
def fpr : List Int := [3, 5, 3, 7, 2, 5]
def facF (l : List Int) (at_ k : Nat) : Qt :=
  ((lprimes (fpr.getD (l.getD (at_ + 3 * k) 0 % 6).toNat 0)).getD (l.getD (at_ + 3 * k + 1) 0 % ((lprimes (fpr.getD (l.getD (at_ + 3 * k) 0 % 6).toNat 0)).length : Int)).toNat Qt.one).mul (Qt.units.getD (l.getD (at_ + 3 * k + 2) 0 % 24).toNat Qt.one)
def facL (l : List Int) (at_ m : Nat) : List Qt := (List.range m).map (facF l at_)
theorem lprimes_ok : ∀ p ∈ primes7, 0 < (lprimes p).length ∧ ((lprimes p).length : Int) ≤ 1000 ∧ ∀ q ∈ lprimes p, q.ok ∧ q.sm 100 ∧ q.nrm = p := by decide +kernel
def R_l_drawn (ds : List D) (d : D) : Prop := ∃ (l : List Int) (at_ m : Nat), at_ + 3 * m < l.length ∧ m ≤ 20 ∧ l.length ≤ 100 ∧ ds = [.list (l.map PyData.int), .int at_, .int m] ∧ d = .list ((facL l at_ m).map Qt.D)
theorem tseq_mid {A B : TS} {Dn : Ends} {σ : L2.St} {H : Hp} (Mid : L2.St → Hp → Prop) (h1 : ∀ nx : L2.St → Hp → Prop, (∀ σ' H', Mid σ' H' → nx σ' H') → A { Dn with nx := nx } σ H) (h2 : ∀ σ' H', Mid σ' H' → B Dn σ' H') : tSeq A B Dn σ H := h1 _ h2
section
variable {P : Program} {w : World} {K : PySem.W.Frag} {mg : Str → Option Value} {base : Heap}
def KnOk (K : PySem.W.Frag) (H : Hp) (kvs : List (Key × V)) : Prop := ∀ (p : Int) (v : V), valV kvs (Sum.inl p : Key) = some v → Dq K H v (.list ((lprimes p).map Qt.D))
theorem atI_getD {l : List Int} {f : Int → D} {i : Nat} (h : i < l.length) : atI (l.map f) (i : Int) = some (f (l.getD i 0)) := by
  rw [atI_nat (by rw [List.length_map]; exact h), List.getElem?_map, List.getElem?_eq_getElem h, List.getD_eq_getElem?_getD, List.getElem?_eq_getElem h]
  rfl
theorem atI_qt {l : List Qt} {i : Int} (h0 : 0 ≤ i) (h : i < l.length) : atI (l.map Qt.D) i = some (l.getD i.toNat Qt.one).D := by
  obtain ⟨n, rfl⟩ := Int.eq_ofNat_of_zero_le h0
  have hn : n < l.length := by omega
  rw [Int.toNat_natCast, show atI (l.map Qt.D) ((n : Nat) : Int) = _ from atI_nat (by rw [List.length_map]; exact hn), List.getElem?_map, List.getElem?_eq_getElem hn, List.getD_eq_getElem?_getD, List.getElem?_eq_getElem hn]
  rfl
theorem getD_mem {l : List Qt} {i : Nat} (h : i < l.length) : l.getD i Qt.one ∈ l := by
  rw [List.getD_eq_getElem?_getD, List.getElem?_eq_getElem h]
  exact List.getElem_mem h
theorem unit_sm (i : Nat) (h : i < 24) : (Qt.units.getD i Qt.one) ∈ Qt.units := getD_mem h
abbrev N_l_drawn : List Str := ["_law_numbers_here", "_law_at", "_law_many", "_law_factors", "_law_known", "_law_k", "_law_prime", "_law_found", "_law_unit"]
theorem sc_l_drawn : FnScope N_l_drawn ["_law_numbers_here", "_law_at", "_law_many"] (defScope (top 70)) := ⟨rfl, rfl, rfl, by decide +kernel, rfl, by decide +kernel, by decide +kernel⟩
set_option maxHeartbeats 1000000 in
theorem ok_l_drawn_factors (T : Txt K mg) : Fn P w K mg base 4 "_law_drawn_factors" R_l_drawn := by
  refine fn_mk (T.def_l_drawn_factors) sc_l_drawn (fun _ _ _ _ _ _ us hl => match us, hl with | [_, _, _], _ => rfl) ?len ?body
  case len =>
    rintro ds d ⟨l, at_, m, _, _, _, rfl, _⟩
    rfl
  case body =>
    rintro fa cdv A outer s H E hr ds d ⟨l, at_, m, hlen, hm, hl100, rfl, rfl⟩
    refine ⟨_, (pss_cons (ps_set (i := 3) sc_l_drawn.nd rfl (Or.inl rfl) (pe_lst pa_nil))
      (pss_cons (ps_set (i := 4) sc_l_drawn.nd rfl (Or.inl rfl) pe_dnewK)
      (pss_cons (ps_for PassesOwn.never rfl (pi_range1 (by rfl) T.b_range (pa_cons (pv 2) pa_nil)) (pg_name (i := 5) sc_l_drawn.nd rfl (Or.inl rfl))
        (pss_cons (ps_set (i := 6) sc_l_drawn.nd rfl (Or.inl rfl) (pe_ix (ix_listK K) (pe_lst (pa_cons pe_int (pa_cons pe_int (pa_cons pe_int (pa_cons pe_int (pa_cons pe_int (pa_cons pe_int pa_nil))))))) (pe_fn (ok_l_pick T) hr (by decide) (by rfl) (pa_cons (pv 0) (pa_cons (pe_op op_add (pv 1) (pe_op op_mul pe_int (pv 5))) (pa_cons pe_int pa_nil)))) (fun _ _ => rfl)))
        (pss_cons (ps_if (pt_cmp (pc_dnotin (hu1 hr) (pv 6) (pv 4)) (by rfl)) (pss_one (ps_dput (hu1 hr) (pv 4) (pv 6) (pe_fn (ok_l_primes T) hr (by decide) (by rfl) (pa_cons (pv 6) pa_nil)) (by rfl))) pss_nil)
        (pss_cons (ps_set (i := 7) sc_l_drawn.nd rfl (Or.inl rfl) (pe_dget (hu1 hr) (pv 4) (pv 6) (fun _ _ => rfl)))
        (pss_cons (ps_set (i := 8) sc_l_drawn.nd rfl (Or.inl rfl) (pe_ix (ix_listK K) (pe_fn0 (ok_l_units T) hr (by decide) (by rfl)) (pe_fn (ok_l_pick T) hr (by decide) (by rfl) (pa_cons (pv 0) (pa_cons (pe_op op_add (pe_op op_add (pv 1) (pe_op op_mul pe_int (pv 5))) pe_int) (pa_cons pe_int pa_nil)))) (fun _ _ => rfl)))
        (pss_one (ps_expr (pe_bm PySem.F.plainAttrs_list PySem.F.slot_list_append PySem.F.type_list_append mt_append (pv 3) (pa_cons (pe_fn (ok_l_product T) hr (by decide) (by rfl)
          (pa_cons (pe_ix (ix_listK K) (pv 7) (pe_fn (ok_l_pick T) hr (by decide) (by rfl) (pa_cons (pv 0) (pa_cons (pe_op op_add (pe_op op_add (pv 1) (pe_op op_mul pe_int (pv 5))) pe_int) (pa_cons (pe_callB (cb_lenK K) (by rfl) T.b_len PySem.boot_len (pa_cons (pv 7) pa_nil)) pa_nil)))) (fun _ _ => rfl)) (pa_cons (pv 8) pa_nil))) pa_nil)))))))))
      (pss_one (ps_ret (pv 3)))))), ?_⟩
    refine run_seq (run_new ?_)
    intro H0 O Pw H1 σ E1 S nx rt
    obtain ⟨v0, v1, v2, f, o4, o5, o6, o7, o8, rfl, d0, d1, d2, fP, hf⟩ : ∃ v0 v1 v2 f o4 o5 o6 o7 o8, σ = [some v0, some v1, some v2, some (.ref f), o4, o5, o6, o7, o8] ∧ Dq K (hide H1 (Pw ++ O)) v0 (.list (l.map PyData.int)) ∧ v1 = .int (at_ : Int) ∧ v2 = .int (m : Int) ∧ f ∈ Pw ∧ H1 f = some (.lst []) := by
      obtain ⟨v0, g0, d0⟩ := S.dat 0 _ rfl
      obtain ⟨v1, g1, d1⟩ := S.dat 1 _ rfl
      obtain ⟨v2, g2, d2⟩ := S.dat 2 _ rfl
      obtain ⟨f, xs, g3, fP, hf, al⟩ := S.own 3 _ rfl
      cases al
      have hl := S.len
      match σ, hl, g0, g1, g2, g3 with
      | [_, _, _, _, o4, o5, o6, o7, o8], _, g0, g1, g2, g3 =>
        cases g0; cases g1; cases g2; cases g3
        exact ⟨_, _, _, _, _, _, _, _, _, rfl, d0, d1.int_inv, d2.int_inv, fP, hf⟩
    subst d1 d2
    have f0 := (S.mine f fP).1
    intro a ha
    have kn0 : Known H1 (Pw ++ O) := S.knownAll
    have s1 : Same H1 (upd H1 a (.dK [])) := same_upd ha
    have a0 : H0 a = none := S.same.free ha
    have nfa : f ≠ a := fun z => by
      rw [z, ha] at hf
      cases hf
    have mo0 : Same (hide H1 (Pw ++ O)) (hide (upd H1 a (.dK [])) (a :: (Pw ++ O))) := same_more (P := [a]) s1 fun q hq => by rw [List.mem_singleton.mp hq]; exact ha
    have fO2 : f ∈ a :: (Pw ++ O) := List.mem_cons_of_mem _ (List.mem_append_left _ fP)
    have aO2 : a ∈ a :: (Pw ++ O) := List.mem_cons_self
    have hsz : ∀ n : Nat, n ≤ 1000 → n < sizeLine := fun n h => Nat.lt_of_le_of_lt h (by decide)
    refine ⟨.int (m : Int), rfl, (m : Int), rfl, by omega, by omega, fun i mm σ' H' => mm = m - i ∧ i ≤ m ∧ ∃ o5 o6 o7 o8 xs kvs, σ' = [some v0, some (.int (at_ : Int)), some (.int (m : Int)), some (.ref f), some (.ref a), o5, o6, o7, o8] ∧ Same H0 H' ∧ Known H' (a :: (Pw ++ O)) ∧ H' f = some (.lst xs) ∧ H' a = some (.dK kvs) ∧ kvs.length ≤ i ∧
      DqAll K (hide H' (a :: (Pw ++ O))) xs ((facL l at_ i).map Qt.D) ∧ KnOk K (hide H' (a :: (Pw ++ O))) kvs ∧ Dq K (hide H' (a :: (Pw ++ O))) v0 (.list (l.map PyData.int)),
      ⟨_, rfl, Nat.zero_le _, o5, o6, o7, o8, [], [], rfl, S.same.trans s1, Known.cons kn0 ha, s1 _ _ hf, upd_same, Nat.le_refl _, .nil, (fun p v e => by cases e), Dq.mono mo0 d0⟩, ?_⟩
    rintro i mm σ' H' ⟨rfl, hi, o5, o6, o7, o8, xs, kvs, rfl, sm, kn, ef, ea, hkl, hxs, hkn, hv0⟩
    have etn : ((m : Int)).toNat = m := Int.toNat_natCast m
    by_cases hlt : i < m
    · refine .inr ⟨by show i < ((m : Int)).toNat; omega, fun σ' H' => ∃ o5 o6 o7 o8 xs kvs, σ' = [some v0, some (.int (at_ : Int)), some (.int (m : Int)), some (.ref f), some (.ref a), o5, o6, o7, o8] ∧ Same H0 H' ∧ Known H' (a :: (Pw ++ O)) ∧ H' f = some (.lst xs) ∧ H' a = some (.dK kvs) ∧ kvs.length ≤ i + 1 ∧
        DqAll K (hide H' (a :: (Pw ++ O))) xs ((facL l at_ (i + 1)).map Qt.D) ∧ KnOk K (hide H' (a :: (Pw ++ O))) kvs ∧ Dq K (hide H' (a :: (Pw ++ O))) v0 (.list (l.map PyData.int)), fun σ' H' h => ⟨m - (i + 1), by omega, rfl, hlt, h⟩, ?_⟩
      rintro x H3 ⟨rfl, rfl⟩
      dsimp only [gName, List.set]
      rw [Int.zero_add]
      have ok1 : EnvOk K (hide H3 (a :: (Pw ++ O))) [some v0, some (.int (at_ : Int)), some (.int (m : Int)), some (.ref f), some (.ref a), some (.int (i : Int)), o6, o7, o8] [some (.list (l.map PyData.int)), some (.int (at_ : Int)), some (.int (m : Int)), none, none, some (.int (i : Int)), none, none, none] := ⟨rfl, fun j d hj => by
        match j, hj with
        | 0, hj => cases hj; exact ⟨_, rfl, hv0⟩
        | 1, hj => cases hj; exact ⟨_, rfl, .int _⟩
        | 2, hj => cases hj; exact ⟨_, rfl, .int _⟩
        | 5, hj => cases hj; exact ⟨_, rfl, .int _⟩
        | n + 6, hj => rcases n with _ | _ | _ | n <;> cases hj⟩
      have c3 : ∀ x : Int, CMul 3 x := fun x => .inl ⟨by decide, by decide⟩
      have i1 : (at_ : Int) + 3 * (i : Int) = ((at_ + 3 * i : Nat) : Int) := by omega
      have i2 : (at_ : Int) + 3 * (i : Int) + 1 = ((at_ + 3 * i + 1 : Nat) : Int) := by omega
      have i3 : (at_ : Int) + 3 * (i : Int) + 2 = ((at_ + 3 * i + 2 : Nat) : Int) := by omega
      have r6 : 0 ≤ l.getD (at_ + 3 * i) 0 % 6 ∧ l.getD (at_ + 3 * i) 0 % 6 < 6 := by omega
      -- the prime
      have hp7 : ∀ j : Nat, j < 6 → fpr.getD j 0 ∈ primes7 := by decide
      have at6 : ∀ j : Int, 0 ≤ j → j < 6 → atI [PyData.int 3, .int 5, .int 3, .int 7, .int 2, .int 5] j = some (.int (fpr.getD j.toNat 0)) := fun j h1 h2 => by
        obtain ⟨n, rfl⟩ := Int.eq_ofNat_of_zero_le h1
        exact atI_getD (l := fpr) (f := PyData.int) (i := n) (by show n < 6; omega)
      have hpm := hp7 (l.getD (at_ + 3 * i) 0 % 6).toNat (by omega)
      have facE : facF l at_ i = ((lprimes (fpr.getD (l.getD (at_ + 3 * i) 0 % 6).toNat 0)).getD (l.getD (at_ + 3 * i + 1) 0 % ((lprimes (fpr.getD (l.getD (at_ + 3 * i) 0 % 6).toNat 0)).length : Int)).toNat Qt.one).mul (Qt.units.getD (l.getD (at_ + 3 * i + 2) 0 % 24).toNat Qt.one) := rfl
      generalize hp : fpr.getD (l.getD (at_ + 3 * i) 0 % 6).toNat 0 = p at hpm facE
      have hev6 : Evd K (tOp (rIxL K) (tLst (tCons (tC (.int 3)) (tCons (tC (.int 5)) (tCons (tC (.int 3)) (tCons (tC (.int 7)) (tCons (tC (.int 2)) (tCons (tC (.int 5)) tNil))))))) (tCall (spD K R_l_pick) [] E0 (tCons (tVar 0) (tCons (tOp (rI0 fun i j => .int (i + j)) (tVar 1) (tOp (rI CMul fun i j => .int (i * j)) (tC (.int 3)) (tVar 5))) (tCons (tC (.int 6)) tNil))))) [some (.list (l.map PyData.int)), some (.int (at_ : Int)), some (.int (m : Int)), none, none, some (.int (i : Int)), none, none, none] (.int p) :=
        ev_ixL (ev_lst (ea_cons ev_int (ea_cons ev_int (ea_cons ev_int (ea_cons ev_int (ea_cons ev_int (ea_cons ev_int ea_nil)))))) (sz 6)) (ev_call (ea_cons (ev_var rfl) (ea_cons ((ev_I0 (ev_var rfl) (ev_I ev_int (ev_var rfl) (c3 _))).to (congrArg PyData.int i1)) (ea_cons ev_int ea_nil))) ⟨l, at_ + 3 * i, 6, by omega, by decide, rfl, rfl⟩) ((at6 _ r6.1 r6.2).trans (by rw [hp]))
      refine hev6 (a :: (Pw ++ O)) _ H3 kn ok1 _ fun v6 H4 s4 d6 => ?_
      rw [d6.int_inv]
      have kn4 := kn.mono s4
      have sh4 := Same.hide (O := a :: (Pw ++ O)) s4
      have ea4 := s4 _ _ ea
      have ef4 := s4 _ _ ef
      dsimp only [gName, List.set]
      have ok4 : ∀ (H : Hp), Same (hide H4 (a :: (Pw ++ O))) (hide H (a :: (Pw ++ O))) → EnvOk K (hide H (a :: (Pw ++ O))) [some v0, some (.int (at_ : Int)), some (.int (m : Int)), some (.ref f), some (.ref a), some (.int (i : Int)), some (.int p), o7, o8] [some (.list (l.map PyData.int)), some (.int (at_ : Int)), some (.int (m : Int)), none, none, some (.int (i : Int)), some (.int p), none, none] := fun H sh => ⟨rfl, fun j d hj => by
        match j, hj with
        | 0, hj => cases hj; exact ⟨_, rfl, Dq.mono (sh4.trans sh) hv0⟩
        | 1, hj => cases hj; exact ⟨_, rfl, .int _⟩
        | 2, hj => cases hj; exact ⟨_, rfl, .int _⟩
        | 5, hj => cases hj; exact ⟨_, rfl, .int _⟩
        | 6, hj => cases hj; exact ⟨_, rfl, .int _⟩
        | n + 7, hj => rcases n with _ | _ | n <;> cases hj⟩
      refine tseq_mid (fun σ' H' => ∃ kvs' v, σ' = [some v0, some (.int (at_ : Int)), some (.int (m : Int)), some (.ref f), some (.ref a), some (.int (i : Int)), some (.int p), o7, o8] ∧ Same H0 H' ∧ Known H' (a :: (Pw ++ O)) ∧ Same (hide H4 (a :: (Pw ++ O))) (hide H' (a :: (Pw ++ O))) ∧ H' f = some (.lst xs) ∧ H' a = some (.dK kvs') ∧ kvs'.length ≤ i + 1 ∧ KnOk K (hide H' (a :: (Pw ++ O))) kvs' ∧ valV kvs' (Sum.inl p : Key) = some v) (fun nx' hnx => ?_) ?_
      · refine ⟨.int p, rfl, .ref a, rfl, a, valV kvs (Sum.inl p : Key), rfl, DGet.k (k := Sum.inl p) ea4, _, rfl, ?_⟩
        cases e : valV kvs (Sum.inl p : Key) with
        | some v =>
          refine iteF (hnx _ _ ⟨kvs, v, rfl, sm.trans s4, kn4, Same.refl _, ef4, ea4, by omega, fun q u hq => Dq.mono sh4 (hkn q u hq), e⟩)
        | none =>
          refine iteT ?_
          have hevL : Evd K (tCall (spD K R_l_primes) [] E0 (tCons (tVar 6) tNil)) [some (.list (l.map PyData.int)), some (.int (at_ : Int)), some (.int (m : Int)), none, none, some (.int (i : Int)), some (.int p), none, none] (.list ((lprimes p).map Qt.D)) := ev_call (ea_cons (ev_var rfl) ea_nil) ⟨p, hpm, rfl, rfl⟩
          refine hevL (a :: (Pw ++ O)) _ H4 kn4 (ok4 H4 (Same.refl _)) _ fun v H5 s5 d5 => ⟨.ref a, rfl, .int p, rfl, a, _, rfl, DPut.k (k := Sum.inl p) (s5 _ _ ea4) (hsz _ (by omega)), hnx _ _ ?_⟩
          have hd : hide (upd H5 a (.dK (putK kvs (Sum.inl p) v))) (a :: (Pw ++ O)) = hide H5 (a :: (Pw ++ O)) := hide_upd_in aO2
          have sh5 := Same.hide (O := a :: (Pw ++ O)) s5
          refine ⟨putK kvs (Sum.inl p) v, v, rfl, ?_, ?_, ?_, ?_, upd_same, ?_, ?_, ?_⟩
          · intro b o hb
            rw [upd_ne (ne_of_none hb a0)]
            exact s5 _ _ (s4 _ _ (sm _ _ hb))
          · intro q hq z
            by_cases c : q = a
            · rw [c, upd_same] at z
              cases z
            · rw [upd_ne c] at z
              exact (kn4.mono s5) q hq z
          · rw [hd]
            exact sh5
          · rw [upd_ne nfa]
            exact s5 _ _ ef4
          · have := length_putK kvs (Sum.inl p : Key) v
            omega
          · intro q u hq
            rw [hd]
            rw [valV_put] at hq
            by_cases c : (Sum.inl q : Key) = Sum.inl p
            · rw [if_pos c] at hq
              cases hq
              rw [Sum.inl.inj c]
              exact d5
            · rw [if_neg c] at hq
              exact Dq.mono (sh4.trans sh5) (hkn q u hq)
          · rw [valV_put, if_pos rfl]
      · rintro σ' H6 ⟨kvs6, v7, rfl, sm6, kn6, sh6, ef6, ea6, hkl6, hkn6, e6⟩
        refine ⟨.ref a, rfl, .int p, rfl, a, v7, rfl, by rw [← e6]; exact DGet.k (k := Sum.inl p) ea6, ?_⟩
        have d7 := hkn6 p v7 e6
        obtain ⟨pl0, pl1, pl2⟩ := lprimes_ok p hpm
        dsimp only [gName, List.set]
        have ok7 : EnvOk K (hide H6 (a :: (Pw ++ O))) [some v0, some (.int (at_ : Int)), some (.int (m : Int)), some (.ref f), some (.ref a), some (.int (i : Int)), some (.int p), some v7, o8] [some (.list (l.map PyData.int)), some (.int (at_ : Int)), some (.int (m : Int)), none, none, some (.int (i : Int)), some (.int p), some (.list ((lprimes p).map Qt.D)), none] := (ok4 H6 sh6).set (i := 7) d7
        have r24 : 0 ≤ l.getD (at_ + 3 * i + 2) 0 % 24 ∧ l.getD (at_ + 3 * i + 2) 0 % 24 < 24 := by omega
        have hev8 : Evd K (tOp (rIxL K) (tCall (spD K R_l_units) [] E0 tNil) (tCall (spD K R_l_pick) [] E0 (tCons (tVar 0) (tCons (tOp (rI0 fun i j => .int (i + j)) (tOp (rI0 fun i j => .int (i + j)) (tVar 1) (tOp (rI CMul fun i j => .int (i * j)) (tC (.int 3)) (tVar 5))) (tC (.int 2))) (tCons (tC (.int 24)) tNil))))) [some (.list (l.map PyData.int)), some (.int (at_ : Int)), some (.int (m : Int)), none, none, some (.int (i : Int)), some (.int p), some (.list ((lprimes p).map Qt.D)), none] (Qt.units.getD (l.getD (at_ + 3 * i + 2) 0 % 24).toNat Qt.one).D :=
          ev_ixL (ev_call ea_nil ⟨rfl, rfl⟩) (ev_call (ea_cons (ev_var rfl) (ea_cons ((ev_I0 (ev_I0 (ev_var rfl) (ev_I ev_int (ev_var rfl) (c3 _))) ev_int).to (congrArg PyData.int i3)) (ea_cons ev_int ea_nil))) ⟨l, at_ + 3 * i + 2, 24, by omega, by decide, rfl, rfl⟩) (atI_qt r24.1 r24.2)
        refine hev8 (a :: (Pw ++ O)) _ H6 kn6 ok7 _ fun v8 H7 s7 d8 => ?_
        have sh7 := Same.hide (O := a :: (Pw ++ O)) s7
        have ok8 : EnvOk K (hide H7 (a :: (Pw ++ O))) [some v0, some (.int (at_ : Int)), some (.int (m : Int)), some (.ref f), some (.ref a), some (.int (i : Int)), some (.int p), some v7, some v8] [some (.list (l.map PyData.int)), some (.int (at_ : Int)), some (.int (m : Int)), none, none, some (.int (i : Int)), some (.int p), some (.list ((lprimes p).map Qt.D)), some (Qt.units.getD (l.getD (at_ + 3 * i + 2) 0 % 24).toNat Qt.one).D] := (ok7.mono sh7).set (i := 8) d8
        have rL : 0 ≤ l.getD (at_ + 3 * i + 1) 0 % ((lprimes p).length : Int) ∧ l.getD (at_ + 3 * i + 1) 0 % ((lprimes p).length : Int) < ((lprimes p).length : Int) := ⟨Int.emod_nonneg _ (by omega), Int.emod_lt_of_pos _ (by omega)⟩
        have hev9 : Evd K (tCall (spD K R_l_product) [] E0 (tCons (tOp (rIxL K) (tVar 7) (tCall (spD K R_l_pick) [] E0 (tCons (tVar 0) (tCons (tOp (rI0 fun i j => .int (i + j)) (tOp (rI0 fun i j => .int (i + j)) (tVar 1) (tOp (rI CMul fun i j => .int (i * j)) (tC (.int 3)) (tVar 5))) (tC (.int 1))) (tCons (tCB (rLenS K) (tCons (tVar 7) tNil)) tNil))))) (tCons (tVar 8) tNil))) [some (.list (l.map PyData.int)), some (.int (at_ : Int)), some (.int (m : Int)), none, none, some (.int (i : Int)), some (.int p), some (.list ((lprimes p).map Qt.D)), some (Qt.units.getD (l.getD (at_ + 3 * i + 2) 0 % 24).toNat Qt.one).D] (facF l at_ i).D :=
          ev_call (ea_cons (ev_ixL (ds := (lprimes p).map Qt.D) (ev_var rfl) (ev_call (ea_cons (ev_var rfl) (ea_cons ((ev_I0 (ev_I0 (ev_var rfl) (ev_I ev_int (ev_var rfl) (c3 _))) ev_int).to (congrArg PyData.int i2)) (ea_cons ((ev_lenL (ds := (lprimes p).map Qt.D) (ea_cons (ev_var rfl) ea_nil)).to (by rw [List.length_map])) ea_nil))) ⟨l, at_ + 3 * i + 1, ((lprimes p).length : Int), by omega, by omega, rfl, rfl⟩) (atI_qt rL.1 rL.2)) (ea_cons (ev_var rfl) ea_nil)) ⟨_, _, (unit_ok _ (unit_sm _ (by omega))).2, rfl, by rw [facE]⟩
        refine ⟨.ref f, rfl, .inl ⟨rfl, xs, SqL.of (s7 _ _ ef6)⟩, hev9 (a :: (Pw ++ O)) _ H7 (kn6.mono s7) ok8 _ fun v9 H8 s8 d9 => ?_⟩
        have sh8 := Same.hide (O := a :: (Pw ++ O)) s8
        have hd : hide (upd H8 f (.lst (xs ++ [v9]))) (a :: (Pw ++ O)) = hide H8 (a :: (Pw ++ O)) := hide_upd_in fO2
        have lx : xs.length = i := by
          have := DqAll.length hxs
          rw [this, List.length_map]
          unfold facL
          rw [List.length_map, List.length_range]
        have ef8 := s8 _ _ (s7 _ _ ef6)
        refine ⟨f, xs, v9, rfl, rfl, ef8, hsz _ (by omega), _, _, _, _, xs ++ [v9], kvs6, rfl, ?_, ?_, upd_same, ?_, hkl6, ?_, ?_, ?_⟩
        · intro b o hb
          rw [upd_ne (ne_of_none hb f0)]
          exact s8 _ _ (s7 _ _ (sm6 _ _ hb))
        · intro q hq z
          by_cases c : q = f
          · rw [c, upd_same] at z
            cases z
          · rw [upd_ne c] at z
            exact ((kn6.mono s7).mono s8) q hq z
        · rw [upd_ne (fun z => nfa z.symm)]
          exact s8 _ _ (s7 _ _ ea6)
        · rw [hd]
          have e : facL l at_ (i + 1) = facL l at_ i ++ [facF l at_ i] := by
            unfold facL
            rw [List.range_succ, List.map_append]
            rfl
          rw [e, List.map_append]
          exact DqAll.append (DqAll.mono (sh4.trans (sh6.trans (sh7.trans sh8))) hxs) (.cons d9 .nil)
        · intro q u hq
          rw [hd]
          exact Dq.mono (sh7.trans sh8) (hkn6 q u hq)
        · rw [hd]
          exact Dq.mono (sh4.trans (sh6.trans (sh7.trans sh8))) hv0
    · have e : i = m := by omega
      subst e
      refine .inl ⟨by show ((i : Int)).toNat ≤ i; omega, .ref f, rfl, ?_⟩
      refine rt _ (.ref f) H' rfl sm (.lst (SqL.of ?_) (DqAll.mono (same_less (P := a :: Pw)) hxs))
      rw [hide_out (S.known.new f0)]
      exact ef
end
end Tp

-- QP
/-! the plain law: common divisors, contents -/
namespace Tp
open PySem Qt
theorem pp_mul (p : Int) (c : Qt) : (pp p).mul c = smul p c := by
  unfold pp mul smul
  have h : ∀ x : Int, 2 * p * x / 2 = p * x := fun x => by
    rw [Int.mul_assoc]
    exact Int.mul_ediv_cancel_left _ (by decide)
  simp only [Int.zero_mul, Int.sub_zero, Int.add_zero, h]
theorem pp_nrm (p : Int) : (pp p).nrm = p * p := by
  unfold nrm
  rw [pp_n4]
  exact Int.mul_ediv_cancel_left _ (by decide)
theorem dv_pp {p : Int} {q : Qt} : Dv (pp p) q ↔ ∃ c : Qt, c.ok ∧ q = smul p c := by
  unfold Dv
  constructor
  · rintro ⟨c, k, e⟩
    exact ⟨c, k, by rw [e, pp_mul]⟩
  · rintro ⟨c, k, e⟩
    exact ⟨c, k, by rw [e, pp_mul]⟩
theorem ldv_some {p : Int} {q : Qt} (hp : 1 ≤ p) (h : Dv (pp p) q) : ldv (pp p) q ≠ none := by
  obtain ⟨c, k, rfl⟩ := dv_pp.mp h
  unfold ldv
  have e1 : (pp p).conj = pp p := rfl
  rw [e1, pp_mul, pp_nrm]
  have hz : p * p ≠ 0 := by
    have : 1 * 1 ≤ p * p := Int.mul_le_mul hp hp (by decide) (by omega)
    omega
  have m : ∀ x : Int, p * (p * x) % (p * p) = 0 := fun x => by rw [← Int.mul_assoc]; exact Int.mul_emod_right _ _
  have d : ∀ x : Int, p * (p * x) / (p * p) = x := fun x => by rw [← Int.mul_assoc]; exact Int.mul_ediv_cancel_left _ hz
  unfold divs smul
  simp only [m, d, List.map_cons, List.map_nil, List.any_cons, List.any_nil, id]
  have k2 : (c.b - c.a) % 2 = 0 ∧ (c.c - c.a) % 2 = 0 ∧ (c.d - c.a) % 2 = 0 := by
    unfold Qt.ok at k
    omega
  rw [if_neg (by decide), Int.sub_self, k2.1, k2.2.1, k2.2.2, if_neg (by decide)]
  exact fun z => by cases z
theorem not_dv {p : Int} {q : Qt} (hp : 1 ≤ p) (h : ldv (pp p) q = none) : ¬ Dv (pp p) q := fun d => ldv_some hp d h
theorem prime6 : ∀ p ∈ primes6, ∀ a ∈ List.range 18, ∀ b ∈ List.range 18, (a : Int) * b = p → a = 1 ∨ b = 1 := by decide +kernel
theorem prime_parts {p a b : Int} (hp : p ∈ primes6) (ha : 0 ≤ a) (hb : 0 ≤ b) (h : a * b = p) : a = 1 ∨ b = 1 := by
  obtain ⟨_, h1, h2, _, _⟩ := wp6 p hp
  have a1 : 1 ≤ a := by
    rcases Int.lt_or_le 0 a with z | z
    · omega
    · have : a = 0 := by omega
      rw [this, Int.zero_mul] at h
      omega
  have b1 : 1 ≤ b := by
    rcases Int.lt_or_le 0 b with z | z
    · omega
    · have : b = 0 := by omega
      rw [this, Int.mul_zero] at h
      omega
  have a2 : a * 1 ≤ a * b := Int.mul_le_mul_of_nonneg_left b1 ha
  have b2 : 1 * b ≤ a * b := Int.mul_le_mul_of_nonneg_right a1 hb
  have := prime6 p hp a.toNat (List.mem_range.mpr (by omega)) b.toNat (List.mem_range.mpr (by omega)) (by rw [Int.toNat_of_nonneg ha, Int.toNat_of_nonneg hb]; exact h)
  omega
theorem dv_trans {a b c : Qt} (ha : a.ok) (hb : b.ok) (h1 : Dv a b) (h2 : Dv b c) : Dv a c := by
  obtain ⟨s, ks, rfl⟩ := h1
  obtain ⟨t, kt, rfl⟩ := h2
  exact ⟨s.mul t, (mul_all ks kt).2, mul_assoc ha ks kt⟩
/-- the left prime of a number that p does not divide -/
theorem lp_first {p : Int} {f X : Qt} (hp : p ∈ primes6) (hf : f.ok) (nf : f.nrm = p) (cf : canon f = f) (hX : X.ok) (lim : (f.mul X).n4 ≤ lim) (hd : ¬ Dv (pp p) (f.mul X)) : lp (f.mul X) p = f := by
  obtain ⟨_, h1, h2, _, _⟩ := wp6 p hp
  have kN := (mul_all hf hX).2
  have lP := pp_lim (show (1 : Int) ≤ p by omega) (show p ≤ 100 by omega)
  obtain ⟨dN, dP⟩ := gcl_dv kN (pp_ok p) lim lP
  have kg := gcl_ok kN (pp_ok p) lim lP
  have kc := (mul_all (conj_ok hf) one_ok).2
  have fP : Dv f (pp p) := ⟨f.conj.mul one, kc, by
    rw [mul_conj one_ok hf, nf]
    unfold pp smul one
    simp only [Int.mul_zero]
    rw [Int.mul_comm]⟩
  obtain ⟨h, kh, eh⟩ := gcl_great kN (pp_ok p) lim lP hf ⟨X, hX, rfl⟩ fP
  obtain ⟨k, kk, ek⟩ := dP
  have n1 : (pp p).nrm = (gcl (f.mul X) (pp p)).nrm * k.nrm := by
    rw [← nrm_mul kg kk, ← ek]
  rw [pp_nrm] at n1
  have n2 : (gcl (f.mul X) (pp p)).nrm = p * h.nrm := by
    conv => lhs; rw [eh]
    rw [nrm_mul hf kh, nf]
  rw [n2, Int.mul_assoc] at n1
  have n3 : p = h.nrm * k.nrm := Int.eq_of_mul_eq_mul_left (by omega) n1
  rcases prime_parts hp (nrm_nonneg kh) (nrm_nonneg kk) n3.symm with z | z
  · unfold lp
    rw [eh, canon_unit hf (unit_of_nrm kh z), cf]
  · exfalso
    apply hd
    have ku := unit_of_nrm kk z
    obtain ⟨i1, i2⟩ := unit_inv k ku
    have kki := unit_ok' _ i2
    have eg : gcl (f.mul X) (pp p) = (pp p).mul k.conj := by
      conv => rhs; rw [ek]
      rw [mul_assoc kg kk kki, i1, mul_one]
    exact dv_trans (pp_ok p) kg ⟨k.conj, kki, eg⟩ dN
/-! ### contents -/
theorem smul_one' (q : Qt) : smul 1 q = q := by
  unfold smul
  simp only [Int.one_mul]
theorem smul_smul (m n : Int) (q : Qt) : smul m (smul n q) = smul (m * n) q := by
  unfold smul
  simp only [Int.mul_assoc]
theorem cont_dv {q : Qt} (hq : q.ok) (hz : q ≠ zero) : 1 ≤ cont q ∧ ∃ c : Qt, c.ok ∧ q = smul (cont q) c := by
  have ec : cont q = if par (q.a / ((Nat.gcd ((Nat.gcd q.a.natAbs q.b.natAbs : Nat) : Int).natAbs ((Nat.gcd q.c.natAbs q.d.natAbs : Nat) : Int).natAbs : Nat) : Int)) (q.b / ((Nat.gcd ((Nat.gcd q.a.natAbs q.b.natAbs : Nat) : Int).natAbs ((Nat.gcd q.c.natAbs q.d.natAbs : Nat) : Int).natAbs : Nat) : Int)) (q.c / ((Nat.gcd ((Nat.gcd q.a.natAbs q.b.natAbs : Nat) : Int).natAbs ((Nat.gcd q.c.natAbs q.d.natAbs : Nat) : Int).natAbs : Nat) : Int)) (q.d / ((Nat.gcd ((Nat.gcd q.a.natAbs q.b.natAbs : Nat) : Int).natAbs ((Nat.gcd q.c.natAbs q.d.natAbs : Nat) : Int).natAbs : Nat) : Int)) = true then ((Nat.gcd ((Nat.gcd q.a.natAbs q.b.natAbs : Nat) : Int).natAbs ((Nat.gcd q.c.natAbs q.d.natAbs : Nat) : Int).natAbs : Nat) : Int) else ((Nat.gcd ((Nat.gcd q.a.natAbs q.b.natAbs : Nat) : Int).natAbs ((Nat.gcd q.c.natAbs q.d.natAbs : Nat) : Int).natAbs : Nat) : Int) / 2 := rfl
  rw [Int.natAbs_natCast, Int.natAbs_natCast] at ec
  have g0 := gcd_pos hz
  have g1 := Nat.gcd_dvd_left (Nat.gcd q.a.natAbs q.b.natAbs) (Nat.gcd q.c.natAbs q.d.natAbs)
  have g2 := Nat.gcd_dvd_right (Nat.gcd q.a.natAbs q.b.natAbs) (Nat.gcd q.c.natAbs q.d.natAbs)
  have ha := Int.ofNat_dvd_left.mpr (Nat.dvd_trans g1 (Nat.gcd_dvd_left q.a.natAbs q.b.natAbs))
  have hb := Int.ofNat_dvd_left.mpr (Nat.dvd_trans g1 (Nat.gcd_dvd_right q.a.natAbs q.b.natAbs))
  have hc := Int.ofNat_dvd_left.mpr (Nat.dvd_trans g2 (Nat.gcd_dvd_left q.c.natAbs q.d.natAbs))
  have hd := Int.ofNat_dvd_left.mpr (Nat.dvd_trans g2 (Nat.gcd_dvd_right q.c.natAbs q.d.natAbs))
  generalize ((Nat.gcd (Nat.gcd q.a.natAbs q.b.natAbs) (Nat.gcd q.c.natAbs q.d.natAbs) : Nat)) = g at ec g0 ha hb hc hd
  have hg : (0 : Int) < (g : Int) := by omega
  obtain ⟨a, ea⟩ := ha
  obtain ⟨b, eb⟩ := hb
  obtain ⟨c, e3⟩ := hc
  obtain ⟨d, ed⟩ := hd
  have da : ∀ {x y : Int}, x = (g : Int) * y → x / (g : Int) = y := fun {x y} e => by rw [e]; exact Int.mul_ediv_cancel_left _ (by omega)
  rw [da ea, da eb, da e3, da ed] at ec
  by_cases hpar : par a b c d = true
  · rw [if_pos hpar] at ec
    rw [ec]
    refine ⟨by omega, ⟨a, b, c, d⟩, par_ok.mp hpar, ?_⟩
    exact Qt.ext ea eb e3 ed
  · rw [if_neg hpar] at ec
    have ge : (g : Int) % 2 = 0 := by
      rcases Int.emod_two_eq (g : Int) with z | z
      · exact z
      · exfalso
        apply hpar
        rw [par_ok]
        unfold Qt.ok at hq ⊢
        have pm : ∀ y : Int, ((g : Int) * y) % 2 = y % 2 := fun y => by
          rw [Int.mul_emod, z, Int.one_mul, Int.emod_emod]
        rw [ea, eb, e3, ed, pm, pm, pm, pm] at hq
        exact hq
    have g2 : (g : Int) = 2 * ((g : Int) / 2) := by omega
    rw [ec]
    refine ⟨by omega, ⟨2 * a, 2 * b, 2 * c, 2 * d⟩, ?_, ?_⟩
    · unfold Qt.ok
      simp only
      omega
    · have fx : ∀ {x y : Int}, x = (g : Int) * y → x = (g : Int) / 2 * (2 * y) := fun {x y} e => by
        rw [e]
        conv => lhs; rw [g2]
        rw [Int.mul_comm 2, Int.mul_assoc]
      exact Qt.ext (fx ea) (fx eb) (fx e3) (fx ed)
end Tp

-- QR
/-! the plain law: lines of tables -/
namespace Tp
open PySem Qt
def T1 (p : Int) (q : Qt) : Int := q.a * hf p + q.b * hf p * rx p + q.d * hf p * (ry p : Int)
def T2 (p : Int) (q : Qt) : Int := q.b * hf p * (ry p : Int) - q.c * hf p - q.d * hf p * rx p
def T3 (p : Int) (q : Qt) : Int := q.b * hf p * (ry p : Int) + q.c * hf p - q.d * hf p * rx p
def T4 (p : Int) (q : Qt) : Int := q.a * hf p - q.b * hf p * rx p - q.d * hf p * (ry p : Int)
theorem base6 : ∀ p ∈ primes6, 2 * hf p = p + 1 ∧ (rx p * rx p + (ry p : Int) * ry p + 1) % p = 0 ∧ p % 2 = 1 := by decide +kernel
theorem tmul1 {p h x y e fa fb fc fd ra rb rc rd A B C E : Int} (hh : 2 * h = p + 1) (hx : x * x + y * y + 1 = p * e)
    (eA : 2 * A = fa * ra - fb * rb - fc * rc - fd * rd) (eB : 2 * B = fa * rb + fb * ra + fc * rd - fd * rc) (eC : 2 * C = fa * rc - fb * rd + fc * ra + fd * rb) (eE : 2 * E = fa * rd + fb * rc - fc * rb + fd * ra) :
    p ∣ (A * h + B * h * x + E * h * y) - ((fa * h + fb * h * x + fd * h * y) * (ra * h + rb * h * x + rd * h * y) + (fb * h * y - fc * h - fd * h * x) * (rb * h * y + rc * h - rd * h * x)) := by
  refine ⟨-(h * (A + B * x + E * y)) - h * h * e * (fb * rb + fd * rd), ?_⟩
  grind
theorem tmul2 {p h x y e fa fb fc fd ra rb rc rd A B C E : Int} (hh : 2 * h = p + 1) (hx : x * x + y * y + 1 = p * e)
    (eA : 2 * A = fa * ra - fb * rb - fc * rc - fd * rd) (eB : 2 * B = fa * rb + fb * ra + fc * rd - fd * rc) (eC : 2 * C = fa * rc - fb * rd + fc * ra + fd * rb) (eE : 2 * E = fa * rd + fb * rc - fc * rb + fd * ra) :
    p ∣ (B * h * y - C * h - E * h * x) - ((fa * h + fb * h * x + fd * h * y) * (rb * h * y - rc * h - rd * h * x) + (fb * h * y - fc * h - fd * h * x) * (ra * h - rb * h * x - rd * h * y)) := by
  refine ⟨-(h * (B * y - C - E * x)) - h * h * e * (fd * rb - fb * rd), ?_⟩
  grind
theorem tmul3 {p h x y e fa fb fc fd ra rb rc rd A B C E : Int} (hh : 2 * h = p + 1) (hx : x * x + y * y + 1 = p * e)
    (eA : 2 * A = fa * ra - fb * rb - fc * rc - fd * rd) (eB : 2 * B = fa * rb + fb * ra + fc * rd - fd * rc) (eC : 2 * C = fa * rc - fb * rd + fc * ra + fd * rb) (eE : 2 * E = fa * rd + fb * rc - fc * rb + fd * ra) :
    p ∣ (B * h * y + C * h - E * h * x) - ((fb * h * y + fc * h - fd * h * x) * (ra * h + rb * h * x + rd * h * y) + (fa * h - fb * h * x - fd * h * y) * (rb * h * y + rc * h - rd * h * x)) := by
  refine ⟨-(h * (B * y + C - E * x)) - h * h * e * (fb * rd - fd * rb), ?_⟩
  grind
theorem tmul4 {p h x y e fa fb fc fd ra rb rc rd A B C E : Int} (hh : 2 * h = p + 1) (hx : x * x + y * y + 1 = p * e)
    (eA : 2 * A = fa * ra - fb * rb - fc * rc - fd * rd) (eB : 2 * B = fa * rb + fb * ra + fc * rd - fd * rc) (eC : 2 * C = fa * rc - fb * rd + fc * ra + fd * rb) (eE : 2 * E = fa * rd + fb * rc - fc * rb + fd * ra) :
    p ∣ (A * h - B * h * x - E * h * y) - ((fb * h * y + fc * h - fd * h * x) * (rb * h * y - rc * h - rd * h * x) + (fa * h - fb * h * x - fd * h * y) * (ra * h - rb * h * x - rd * h * y)) := by
  refine ⟨-(h * (A - B * x - E * y)) - h * h * e * (fb * rb + fd * rd), ?_⟩
  grind
/-- a multiple of a line -/
theorem col_mult {p s u t v m1 r1 r3 N : Int} (h : p ∣ N - (t * r1 + v * r3)) (h1 : p ∣ t - s * u) (h2 : p ∣ v - m1 * u) : p ∣ N - (s * r1 + m1 * r3) * u := by
  obtain ⟨k, hk⟩ := h
  obtain ⟨k1, hk1⟩ := h1
  obtain ⟨k2, hk2⟩ := h2
  refine ⟨k + k1 * r1 + k2 * r3, ?_⟩
  grind
theorem zero_parts {p h x y e a b c d k1 k2 k3 k4 : Int} (hh : 2 * h = p + 1) (hx : x * x + y * y + 1 = p * e) (e1 : a * h + b * h * x + d * h * y = p * k1) (e2 : b * h * y - c * h - d * h * x = p * k2)
    (e3 : b * h * y + c * h - d * h * x = p * k3) (e4 : a * h - b * h * x - d * h * y = p * k4) : p ∣ a ∧ p ∣ b ∧ p ∣ c ∧ p ∣ d := by
  have ea : a = p * (k1 + k4 - a) := by
    clear hx e2 e3
    grind
  have ec : c = p * (k3 - k2 - c) := by
    clear hx e1 e4 ea
    grind
  have m1 : b * x + d * y = p * (k1 - k4 - (b * x + d * y)) := by
    clear hx e2 e3 ea ec
    grind
  have m2 : b * y - d * x = p * (k2 + k3 - (b * y - d * x)) := by
    clear hx e1 e4 ea ec m1
    grind
  generalize k1 - k4 - (b * x + d * y) = n1 at m1
  generalize k2 + k3 - (b * y - d * x) = n2 at m2
  have eb : b = p * (e * b - x * n1 - y * n2) := by
    clear e1 e2 e3 e4 ea ec hh
    grind
  have ed : d = p * (e * d - y * n1 + x * n2) := by
    clear e1 e2 e3 e4 ea ec hh eb
    grind
  exact ⟨⟨_, ea⟩, ⟨_, eb⟩, ⟨_, ec⟩, ⟨_, ed⟩⟩
def colU (p a b : Int) : Int × Int := if a ≠ 0 then (1, b * powL p 5 a (p - 2) 1 % p) else (0, 1)
def lineU (p : Int) (q : Qt) : Int × Int := if t1 p q ≠ 0 ∨ t3 p q ≠ 0 then colU p (t1 p q) (t3 p q) else colU p (t2 p q) (t4 p q)
theorem lineV_U {p : Int} {q : Qt} (h : t1 p q ≠ 0 ∨ t3 p q ≠ 0 ∨ t2 p q ≠ 0 ∨ t4 p q ≠ 0) : lineV p q = encP (lineU p q) := by
  unfold lineV lineU colU
  by_cases h1 : t1 p q ≠ 0
  · rw [if_pos h1, if_pos (.inl h1), if_pos h1]
    rfl
  · by_cases h3 : t3 p q ≠ 0
    · rw [if_neg h1, if_pos h3, if_pos (.inr h3), if_neg h1]
      rfl
    · rw [if_neg h1, if_neg h3, if_neg (show ¬ (t1 p q ≠ 0 ∨ t3 p q ≠ 0) from fun z => z.elim h1 h3)]
      by_cases h2 : t2 p q ≠ 0
      · rw [if_pos h2, if_pos h2]
        rfl
      · have h4 : t4 p q ≠ 0 := by
          rcases h with z | z | z | z
          · exact absurd z h1
          · exact absurd z h3
          · exact absurd z h2
          · exact z
        rw [if_neg h2, if_neg h2, if_pos h4]
        rfl
theorem lines_check : ∀ p ∈ primes6, ∀ l ∈ linesL p, ∀ m ∈ List.range p.toNat, m ≠ 0 → ((m : Int) * l.1 % p ≠ 0 ∨ (m : Int) * l.2 % p ≠ 0) ∧ colU p ((m : Int) * l.1 % p) ((m : Int) * l.2 % p) = l := by decide +kernel
def sOf (l : Int × Int) (a b : Int) : Int := if l.1 = 1 then a else b
theorem firsts_check : ∀ p ∈ primes6, ∀ f ∈ lprimes p, lineU p f ∈ linesL p ∧ (t1 p f ≠ 0 ∨ t3 p f ≠ 0 ∨ t2 p f ≠ 0 ∨ t4 p f ≠ 0) ∧
    t1 p f = sOf (lineU p f) (t1 p f) (t3 p f) * (lineU p f).1 % p ∧ t3 p f = sOf (lineU p f) (t1 p f) (t3 p f) * (lineU p f).2 % p ∧
    t2 p f = sOf (lineU p f) (t2 p f) (t4 p f) * (lineU p f).1 % p ∧ t4 p f = sOf (lineU p f) (t2 p f) (t4 p f) * (lineU p f).2 % p := by decide +kernel
theorem firsts_prime : ∀ p ∈ primes6, ∀ f ∈ lprimes p, lp (numT p (lineU p f).1 0 (lineU p f).2 0) p = f ∧ canon f = f := by decide +kernel
end Tp

-- QS
/-! the plain law: the whole -/
namespace Tp
open PySem Qt
theorem emod_of {p a b : Int} (h : p ∣ a - b) : a % p = b % p := Int.emod_eq_emod_iff_emod_sub_eq_zero.mpr (Int.emod_eq_zero_of_dvd h)
theorem of_emod {p a b : Int} (h : a % p = b % p) : p ∣ a - b := Int.dvd_of_emod_eq_zero (Int.emod_eq_emod_iff_emod_sub_eq_zero.mp h)
theorem emod_mulL (a u p : Int) : a % p * u % p = a * u % p := by
  rw [Int.mul_emod, Int.emod_emod, ← Int.mul_emod]
structure LineOk (p : Int) (f N : Qt) : Prop where
  one : lineV p f = encP (lineU p f)
  two : lineV p N = encP (lineU p f)
  mem : lineU p f ∈ linesL p
  back : lp (numT p (lineU p f).1 0 (lineU p f).2 0) p = f
theorem line_same {p : Int} {f X : Qt} (hp : p ∈ primes6) (fm : f ∈ lprimes p) (kf : f.ok) (kX : X.ok) (hd : ¬ Dv (pp p) (f.mul X)) : LineOk p f (f.mul X) := by
  obtain ⟨c1, c2, c3, c4, c5, c6⟩ := firsts_check p hp f fm
  obtain ⟨b1, b2, b3⟩ := base6 p hp
  obtain ⟨_, p1, p2, _, _⟩ := wp6 p hp
  obtain ⟨⟨eA, eB, eC, eE⟩, kN⟩ := mul_all kf kX
  obtain ⟨e, he⟩ := Int.dvd_of_emod_eq_zero b2
  refine ⟨lineV_U c2, ?_, c1, (firsts_prime p hp f fm).1⟩
  have q1 := tmul1 b1 he eA eB eC eE
  have q2 := tmul2 b1 he eA eB eC eE
  have q3 := tmul3 b1 he eA eB eC eE
  have q4 := tmul4 b1 he eA eB eC eE
  generalize hl : lineU p f = l at c1 c3 c4 c5 c6 ⊢
  generalize sOf l (t1 p f) (t3 p f) = s at c3 c4
  generalize sOf l (t2 p f) (t4 p f) = m at c5 c6
  have r1 := col_mult q1 (of_emod c3) (of_emod c5)
  have r2 := col_mult q2 (of_emod c3) (of_emod c5)
  have r3 := col_mult q3 (of_emod c4) (of_emod c6)
  have r4 := col_mult q4 (of_emod c4) (of_emod c6)
  generalize hM1 : (s * (X.a * hf p + X.b * hf p * rx p + X.d * hf p * (ry p : Int)) + m * (X.b * hf p * (ry p : Int) + X.c * hf p - X.d * hf p * rx p)) = M1 at r1 r3
  generalize hM2 : (s * (X.b * hf p * (ry p : Int) - X.c * hf p - X.d * hf p * rx p) + m * (X.a * hf p - X.b * hf p * rx p - X.d * hf p * (ry p : Int))) = M2 at r2 r4
  have g1 : t1 p (f.mul X) = M1 % p * l.1 % p := (emod_of r1).trans (emod_mulL _ _ _).symm
  have g2 : t2 p (f.mul X) = M2 % p * l.1 % p := (emod_of r2).trans (emod_mulL _ _ _).symm
  have g3 : t3 p (f.mul X) = M1 % p * l.2 % p := (emod_of r3).trans (emod_mulL _ _ _).symm
  have g4 : t4 p (f.mul X) = M2 % p * l.2 % p := (emod_of r4).trans (emod_mulL _ _ _).symm
  have chk : ∀ M : Int, M % p ≠ 0 → (M % p * l.1 % p ≠ 0 ∨ M % p * l.2 % p ≠ 0) ∧ colU p (M % p * l.1 % p) (M % p * l.2 % p) = l := fun M hM => by
    have h0 := Int.emod_nonneg M (show p ≠ 0 by omega)
    have h1 := Int.emod_lt_of_pos M (show (0 : Int) < p by omega)
    have := lines_check p hp l c1 (M % p).toNat (List.mem_range.mpr (by omega)) (by omega)
    rw [Int.toNat_of_nonneg h0] at this
    exact this
  by_cases z1 : M1 % p = 0
  · by_cases z2 : M2 % p = 0
    · exfalso
      apply hd
      rw [z1, Int.zero_mul, Int.zero_emod] at g1 g3
      rw [z2, Int.zero_mul, Int.zero_emod] at g2 g4
      obtain ⟨k1, d1⟩ := Int.dvd_of_emod_eq_zero (show T1 p (f.mul X) % p = 0 from g1)
      obtain ⟨k2, d2⟩ := Int.dvd_of_emod_eq_zero (show T2 p (f.mul X) % p = 0 from g2)
      obtain ⟨k3, d3⟩ := Int.dvd_of_emod_eq_zero (show T3 p (f.mul X) % p = 0 from g3)
      obtain ⟨k4, d4⟩ := Int.dvd_of_emod_eq_zero (show T4 p (f.mul X) % p = 0 from g4)
      obtain ⟨⟨a, ha⟩, ⟨b, hb⟩, ⟨c, hc⟩, ⟨d, hdd⟩⟩ := zero_parts b1 he d1 d2 d3 d4
      refine dv_pp.mpr ⟨⟨a, b, c, d⟩, ?_, Qt.ext ha hb hc hdd⟩
      unfold Qt.ok at kN ⊢
      have pm : ∀ y : Int, (p * y) % 2 = y % 2 := fun y => by
        rw [Int.mul_emod, b3, Int.one_mul, Int.emod_emod]
      rw [ha, hb, hc, hdd, pm, pm, pm, pm] at kN
      exact kN
    · obtain ⟨k1, k2⟩ := chk M2 z2
      rw [z1, Int.zero_mul, Int.zero_emod] at g1 g3
      rw [← g2, ← g4] at k1 k2
      have : lineU p (f.mul X) = l := by
        unfold lineU
        rw [if_neg (fun z => z.elim (fun y => y g1) (fun y => y g3)), k2]
      rw [lineV_U (.inr (.inr k1)), this]
  · obtain ⟨k1, k2⟩ := chk M1 z1
    rw [← g1, ← g3] at k1 k2
    have : lineU p (f.mul X) = l := by
      unfold lineU
      rw [if_pos k1, k2]
    rw [lineV_U (k1.elim .inl fun z => .inr (.inl z)), this]
/-! ### products -/
def prodI : List Int → Int
  | [] => 1
  | a :: l => a * prodI l
theorem fold_mul : ∀ (l : List Qt) (q : Qt), q.ok → (∀ x ∈ l, x.ok) → l.foldl mul q = q.mul (l.foldl mul one) ∧ (l.foldl mul one).ok ∧ (l.foldl mul one).nrm = prodI (l.map nrm)
  | [], q, hq, _ => ⟨mul_one.symm, one_ok, by decide⟩
  | x :: l, q, hq, h => by
    have kx := h x List.mem_cons_self
    have hl : ∀ y ∈ l, y.ok := fun y hy => h y (List.mem_cons_of_mem _ hy)
    obtain ⟨e1, k1, n1⟩ := fold_mul l (q.mul x) (mul_all hq kx).2 hl
    obtain ⟨e2, k2, n2⟩ := fold_mul l x kx hl
    have e3 : (x :: l).foldl mul one = x.mul (l.foldl mul one) := by
      rw [List.foldl_cons, one_mul, e2]
    refine ⟨?_, ?_, ?_⟩
    · rw [e3, List.foldl_cons, e1, mul_assoc hq kx k1]
    · rw [e3]
      exact (mul_all kx k1).2
    · rw [e3, nrm_mul kx k1, n1, List.map_cons]
      rfl
def small : List Int := [2, 3, 5, 7]
def combs : List (List Int) := [] :: (small.map fun a => [a]) ++ small.flatMap fun a => small.map fun b => [a, b]
theorem combs_mem {l : List Int} (h : ∀ x ∈ l, x ∈ small) (hl : l.length ≤ 2) : l ∈ combs := by
  match l, h, hl with
  | [], _, _ => exact List.mem_append_left _ List.mem_cons_self
  | [a], h, _ =>
    exact List.mem_append_left _ (List.mem_cons_of_mem _ (List.mem_map_of_mem (h a List.mem_cons_self)))
  | [a, b], h, _ =>
    exact List.mem_append_right _ (List.mem_flatMap.mpr ⟨a, h a List.mem_cons_self, List.mem_map_of_mem (h b (List.mem_cons_of_mem _ List.mem_cons_self))⟩)
theorem combs_ok : ∀ p ∈ primes6, ∀ l ∈ combs, okW (p * (p * prodI l)) = true ∧ sortI (p :: p :: sortI l) = primeList (p * (p * prodI l)) ∧ p * (p * prodI l) ≤ 14161 ∧ 0 < prodI l := by decide +kernel
theorem combs_cont : ∀ p ∈ primes6, ∀ l ∈ combs, ∀ c ∈ List.range 120, 2 ≤ c → p * (p * prodI l) % ((c : Int) * c) = 0 → ∃ r ∈ p :: plist, (c : Int) % r = 0 := by decide +kernel
end Tp

-- QV
/-! the plain law: what the law's own numbers are -/
namespace Tp
open PySem Qt
theorem cont_one {p : Int} {N : Qt} {l : List Int} (hp : p ∈ primes6) (hl : l ∈ combs) (kN : N.ok) (zN : N ≠ zero) (en : N.nrm = p * (p * prodI l)) (hd : ¬ Dv (pp p) N) (hprim : lprim N = true) : cont N = 1 := by
  obtain ⟨h1, c, kc, ec⟩ := cont_dv kN zN
  obtain ⟨_, _, b1, _⟩ := combs_ok p hp l hl
  generalize cont N = g at h1 ec ⊢
  rcases Int.lt_or_le 1 g with z | z
  · exfalso
    have en2 : N.nrm = g * g * c.nrm := by
      have : N = (pp g).mul c := by rw [pp_mul]; exact ec
      rw [this, nrm_mul (pp_ok g) kc, pp_nrm]
    have cz : c ≠ zero := fun e => zN (by
      rw [ec, e]
      unfold smul zero
      simp only [Int.mul_zero])
    have c1 := nrm_pos kc cz
    have g2 : g * g ≤ g * g * c.nrm := by
      have : g * g * 1 ≤ g * g * c.nrm := Int.mul_le_mul_of_nonneg_left (by omega) (sq_nonneg g)
      omega
    have g3 : g ≤ 119 := by
      rcases Int.lt_or_le 119 g with y | y
      · have : 120 * 120 ≤ g * g := Int.mul_le_mul (by omega) (by omega) (by decide) (by omega)
        omega
      · exact y
    obtain ⟨r, hr, er⟩ := combs_cont p hp l hl g.toNat (List.mem_range.mpr (by omega)) (by omega) (by
      rw [Int.toNat_of_nonneg (by omega), ← en, en2]
      exact Int.mul_emod_right _ _)
    rw [Int.toNat_of_nonneg (by omega)] at er
    obtain ⟨t, et⟩ := Int.dvd_of_emod_eq_zero er
    have dv : Dv (pp r) N := dv_pp.mpr ⟨smul t c, smul_ok kc, by rw [smul_smul, ← et]; exact ec⟩
    rcases List.mem_cons.mp hr with rfl | hr
    · exact hd dv
    · have r1 : 1 ≤ r := by
        have h : ∀ r ∈ plist, (1 : Int) ≤ r := by decide
        exact h r hr
      unfold lprim at hprim
      rw [List.all_eq_true] at hprim
      have := hprim r hr
      rw [Option.isNone_iff_eq_none] at this
      exact ldv_some r1 dv this
  · omega
theorem nrm17_sm {q : Qt} (k : q.ok) (h : q.nrm ≤ 17) : q.sm 8 ∧ q.n4 ≤ lim := by
  have e := n4_nrm k
  refine ⟨sm_of_n4 (C := 68) (by omega) (by decide) (by decide), ?_⟩
  simp only [lim]
  omega
theorem six7 : ∀ p ∈ primes6, p ∈ primes7 := by decide
structure FacOk (x : Qt) : Prop where
  ok : x.ok
  sml : x.nrm ∈ small
  sm : x.sm big
theorem small_le : ∀ x ∈ small, x ≤ 7 ∧ 2 ≤ x := by decide
theorem facF_ok (l : List Int) (a k : Nat) : FacOk (facF l a k) := by
  have hf : ∀ j : Nat, j < 6 → fpr.getD j 0 ∈ primes7 ∧ fpr.getD j 0 ∈ small := by decide
  have h6 : (l.getD (a + 3 * k) 0 % 6).toNat < 6 := by omega
  obtain ⟨p7, ps⟩ := hf _ h6
  have eF : facF l a k = ((lprimes (fpr.getD (l.getD (a + 3 * k) 0 % 6).toNat 0)).getD (l.getD (a + 3 * k + 1) 0 % ((lprimes (fpr.getD (l.getD (a + 3 * k) 0 % 6).toNat 0)).length : Int)).toNat one).mul (units.getD (l.getD (a + 3 * k + 2) 0 % 24).toNat one) := rfl
  generalize fpr.getD (l.getD (a + 3 * k) 0 % 6).toNat 0 = p at p7 ps eF
  obtain ⟨l0, l1, l2⟩ := lprimes_ok p p7
  have ix : (l.getD (a + 3 * k + 1) 0 % ((lprimes p).length : Int)).toNat < (lprimes p).length := by
    have h0 := Int.emod_nonneg (l.getD (a + 3 * k + 1) 0) (show ((lprimes p).length : Int) ≠ 0 by omega)
    have h1 := Int.emod_lt_of_pos (l.getD (a + 3 * k + 1) 0) (show (0 : Int) < ((lprimes p).length : Int) by omega)
    omega
  obtain ⟨q1, q2, q3⟩ := l2 _ (getD_mem ix)
  have um := unit_sm (l.getD (a + 3 * k + 2) 0 % 24).toNat (by omega)
  have uk := unit_ok' _ um
  have un : (units.getD (l.getD (a + 3 * k + 2) 0 % 24).toNat one).nrm = 1 := by
    unfold nrm
    rw [unit_n4 _ um]
    rfl
  rw [eF]
  have k := (mul_all q1 uk).2
  have n := nrm_mul q1 uk
  rw [q3, un, Int.mul_one] at n
  have sl := small_le p ps
  exact ⟨k, by rw [n]; exact ps, sm_mono (nrm17_sm k (by omega)).1 (by decide)⟩
structure NumOk (p : Int) (f s : Qt) (facs : List Qt) (N : Qt) : Prop where
  num : N = f.mul (s.mul (facs.foldl mul one))
  ok : N.ok
  ne : N ≠ zero
  lim : N.n4 ≤ Qt.lim
  nrm : N.nrm = p * (p * prodI (facs.map Qt.nrm))
  comb : facs.map Qt.nrm ∈ combs
  fok : f.ok
  sok : s.ok
  rok : (facs.foldl mul one).ok
  fn : f.nrm = p
  sn : s.nrm = p
  fz : f ≠ zero
  fl : f.n4 ≤ Qt.lim
  cf : canon f = f
  cs : canon s = s
  fsm : f.sm big
  ssm : s.sm big
theorem num_ok {p : Int} {f s : Qt} {facs : List Qt} (hp : p ∈ primes6) (hf : f ∈ lprimes p) (hs : s ∈ lprimes p) (hx : ∀ x ∈ facs, FacOk x) (hl : facs.length ≤ 2) : NumOk p f s facs ((f :: s :: facs).foldl mul one) := by
  obtain ⟨_, p1, p2, _, _⟩ := wp6 p hp
  obtain ⟨_, _, l2⟩ := lprimes_ok p (six7 p hp)
  obtain ⟨kf, f1, nf⟩ := l2 f hf
  obtain ⟨ks, s1, nS⟩ := l2 s hs
  have kx : ∀ x ∈ facs, x.ok := fun x h => (hx x h).ok
  obtain ⟨e1, k1, n1⟩ := fold_mul facs (f.mul s) (mul_all kf ks).2 kx
  have eN : (f :: s :: facs).foldl mul one = f.mul (s.mul (facs.foldl mul one)) := by
    rw [List.foldl_cons, one_mul, List.foldl_cons, e1, mul_assoc kf ks k1]
  have kS := (mul_all ks k1).2
  have kN := (mul_all kf kS).2
  have nN : (f.mul (s.mul (facs.foldl mul one))).nrm = p * (p * prodI (facs.map Qt.nrm)) := by
    rw [nrm_mul kf kS, nrm_mul ks k1, nf, nS, n1]
  have hc : facs.map Qt.nrm ∈ combs := combs_mem (fun x h => by
    obtain ⟨y, hy, rfl⟩ := List.mem_map.mp h
    exact (hx y hy).sml) (by rw [List.length_map]; exact hl)
  obtain ⟨_, _, b1, b2⟩ := combs_ok p hp _ hc
  have n4 := n4_nrm kN
  have fz : f ≠ zero := fun e => by
    rw [e] at nf
    have : zero.nrm = 0 := by decide
    omega
  rw [eN]
  refine ⟨rfl, kN, ?_, ?_, nN, hc, kf, ks, k1, nf, nS, fz, (nrm17_sm kf (by omega)).2, (firsts_prime p hp f hf).2, (firsts_prime p hp s hs).2, sm_mono f1 (by decide), sm_mono s1 (by decide)⟩
  · refine ne_of_n4 ?_
    have h1 : 0 < p * prodI (facs.map Qt.nrm) := Int.mul_pos (by omega) b2
    have h2 : 0 < p * (p * prodI (facs.map Qt.nrm)) := Int.mul_pos (by omega) h1
    omega
  · simp only [Qt.lim]
    omega
structure LawOk (p : Int) (f s : Qt) (facs : List Qt) (N : Qt) : Prop where
  lpN : lp N p = f
  line : LineOk p f N
  mod : N.nrm % p = 0
  row : ∀ qs, (rowF N (p :: p :: qs)).1 = f :: s :: (rowF (facs.foldl mul one) qs).1
theorem law_ok {p : Int} {f s : Qt} {facs : List Qt} {N : Qt} (hp : p ∈ primes6) (hf : f ∈ lprimes p) (n : NumOk p f s facs N) (hd : ¬ Dv (pp p) N) : LawOk p f s facs N := by
  obtain ⟨_, p1, p2, _, _⟩ := wp6 p hp
  have kS := (mul_all n.sok n.rok).2
  have e := n.num
  have lN := n.lim
  have hd2 := hd
  rw [e] at lN hd2
  have z1 : lp N p = f := by
    rw [e]
    exact lp_first hp n.fok n.fn n.cf kS lN hd2
  have hd3 : ¬ Dv (pp p) (s.mul (facs.foldl mul one)) := fun d => by
    obtain ⟨c, kc, ec⟩ := dv_pp.mp d
    refine hd2 (dv_pp.mpr ⟨f.mul c, (mul_all n.fok kc).2, ?_⟩)
    rw [ec, mul_smul n.fok kc]
  have lS : (s.mul (facs.foldl mul one)).n4 ≤ Qt.lim := by
    have h := n4_mul n.fok kS
    have hf4 : 4 ≤ f.n4 := by
      have := n4_nrm n.fok
      have := n.fn
      omega
    have h0 := n4_nonneg (s.mul (facs.foldl mul one))
    have h5 : 4 * (s.mul (facs.foldl mul one)).n4 ≤ f.n4 * (s.mul (facs.foldl mul one)).n4 := Int.mul_le_mul_of_nonneg_right hf4 h0
    omega
  have z2 : lp (s.mul (facs.foldl mul one)) p = s := lp_first hp n.sok n.sn n.cs n.rok lS hd3
  have sz : s ≠ zero := fun e => by
    have h := n.sn
    rw [e] at h
    have : zero.nrm = 0 := by decide
    omega
  refine ⟨z1, ?_, ?_, fun qs => ?_⟩
  · rw [e]
    exact line_same hp hf n.fok kS hd2
  · rw [n.nrm]
    exact Int.mul_emod_right _ _
  · rw [rowF_cons, rowF_cons, z1]
    have q1 : quo N f = s.mul (facs.foldl mul one) := by
      rw [e]
      exact (quo_exact n.fok n.fz kS).1
    rw [q1, z2, (quo_exact n.sok sz n.rok).1]
end Tp

-- FL
/-! the law -/
namespace Tp
open PySem PySem.Spec PyProof.Rows L2 DL
section
variable {P : Program} {w : World} {K : PySem.W.Frag} {mg : Str → Option Value} {base : Heap}
theorem fn_mkF {x : Str} {st : Stmt} {N ps : List Str} {k : Nat} {f : Addr} {fd : FuncData} {R : List D → D → Prop} (F : FunD K x x (defArgs st) (defBody st) (defScope st) [] [] f fd) (S : FnScope N ps (defScope st))
    (len : ∀ ds d, R ds d → ds.length = ps.length)
    (body : ∀ (f : Addr) (cdv : Value) (A : Around) (outer : List Env) (s : Shared) (H : Hp) (E : XK), Room k (A.deeper (envOfC x (defScope st) s.heap.objs.size f cdv)) → ∀ ds d, R ds d →
      ∃ T, PSs (cxOf CX0 P w K mg base N x (defScope st) f cdv A outer s H E).nox (defBody st) T ∧ Run K T (startD N ds) (fun _ => d = .none) (fun d' => d' = d)) : FnOk P w K mg base CX0 (k + 1) f fd ps (spD K R) := by
  refine F.ok S (fun vs H Q E h => ?_) (fun cdv A outer s H vs Q E hr h => ?_)
  · obtain ⟨O, ds, d, kO, al, r, _⟩ := h
    rw [DqAll.length al]
    exact len ds d r
  · obtain ⟨O, ds, d, kO, al, r, q⟩ := h
    obtain ⟨T, h1, h2⟩ := body f cdv A outer s H E hr ds d r
    refine ⟨T, h1.nox, ?_⟩
    refine h2 H O [] H (start N vs) _ (st_start kO al) (fun r' P' H' σ' n S' m => ?_) (fun d' v H' e s1 dv => ?_)
    · exact q .non H' S'.same (by rw [n]; exact .non)
    · subst e
      exact q v H' s1 dv
theorem p6_at : ∀ j : Nat, j < 6 → primes6.getD j 0 ∈ primes6 := by decide
theorem at_p6 {j : Int} (h1 : 0 ≤ j) (h2 : j < 6) : atI [PyData.int 3, .int 5, .int 7, .int 11, .int 13, .int 17] j = some (.int (primes6.getD j.toNat 0)) := by
  obtain ⟨n, rfl⟩ := Int.eq_ofNat_of_zero_le h1
  exact atI_getD (l := primes6) (f := PyData.int) (i := n) (by show n < 6; omega)
theorem cut2 (a b : D) (l : List D) : DL.cutD (a :: b :: l) none (some 2) = [a, b] := by
  unfold DL.cutD
  rw [HT.sIx_none, show (some (2 : Int)) = some ((2 : Nat) : Int) from rfl, HT.sIx_nat, List.drop_zero, Nat.sub_zero, Nat.min_eq_left (by simp)]
  rfl
def R_law (ds : List D) (d : D) : Prop := ∃ ns : List Int, ns.length ≤ 63 ∧ ds = [.list (ns.map PyData.int)] ∧ d = .bool true
abbrev N_law : List Str := ["_law_script", "_law_numbers_here", "_law_prime", "_law_found", "_law_first", "_law_second", "_law_factors", "_law_number", "_law_line", "_law_order_here", "_law_factor"]
theorem sc_law : FnScope N_law ["_law_script"] (defScope (top 73)) := ⟨rfl, rfl, rfl, by decide +kernel, rfl, by decide +kernel, by decide +kernel⟩
set_option maxHeartbeats 1000000 in
theorem ok_law (T : Txt K mg) {fl : Addr} {fd : FuncData} (F : FunD K "law" "law" (defArgs (top 73)) (defBody (top 73)) (defScope (top 73)) [] [] fl fd) : FnOk P w K mg base CX0 10 fl fd ["_law_script"] (spD K R_law) := by
  refine fn_mkF F sc_law ?len ?body
  case len =>
    rintro ds d ⟨ns, _, rfl, _⟩
    rfl
  case body =>
    rintro f cdv A outer s H E hr ds d ⟨ns, hns, rfl, rfl⟩
    refine ⟨_, (pss_cons (ps_set (i := 1) sc_law.nd rfl (Or.inl rfl) (pe_fn (ok_l_numbers T) hr (by decide) (by rfl) (pa_cons (pv 0) (pa_cons pe_int pa_nil))))
        (pss_cons (ps_set (i := 2) sc_law.nd rfl (Or.inl rfl) (pe_ix (ix_listK K) (pe_lst (pa_cons pe_int (pa_cons pe_int (pa_cons pe_int (pa_cons pe_int (pa_cons pe_int (pa_cons pe_int pa_nil))))))) (pe_fn (ok_l_pick T) hr (by decide) (by rfl) (pa_cons (pv 1) (pa_cons pe_int (pa_cons pe_int pa_nil)))) (fun _ _ => rfl)))
        (pss_cons (ps_set (i := 3) sc_law.nd rfl (Or.inl rfl) (pe_fn (ok_l_primes T) hr (by decide) (by rfl) (pa_cons (pv 2) pa_nil)))
        (pss_cons (ps_set (i := 4) sc_law.nd rfl (Or.inl rfl) (pe_ix (ix_listK K) (pv 3) (pe_fn (ok_l_pick T) hr (by decide) (by rfl) (pa_cons (pv 1) (pa_cons pe_int (pa_cons (pe_callB (cb_lenK K) (by rfl) T.b_len PySem.boot_len (pa_cons (pv 3) pa_nil)) pa_nil)))) (fun _ _ => rfl)))
        (pss_cons (ps_set (i := 5) sc_law.nd rfl (Or.inl rfl) (pe_ix (ix_listK K) (pv 3) (pe_fn (ok_l_pick T) hr (by decide) (by rfl) (pa_cons (pv 1) (pa_cons pe_int (pa_cons (pe_callB (cb_lenK K) (by rfl) T.b_len PySem.boot_len (pa_cons (pv 3) pa_nil)) pa_nil)))) (fun _ _ => rfl)))
        (pss_cons (ps_set (i := 6) sc_law.nd rfl (Or.inl rfl) (pe_fn (ok_l_drawn_factors T) hr (by decide) (by rfl) (pa_cons (pv 1) (pa_cons pe_int (pa_cons (pe_fn (ok_l_pick T) hr (by decide) (by rfl) (pa_cons (pv 1) (pa_cons pe_int (pa_cons pe_int pa_nil)))) pa_nil)))))
        (pss_cons (ps_set (i := 7) sc_law.nd rfl (Or.inl rfl) (pe_fn (ok_l_all_product T) hr (by decide) (by rfl) (pa_cons (pe_op op_catS (pe_lst (pa_cons (pv 4) (pa_cons (pv 5) pa_nil))) (pv 6)) pa_nil)))
        (pss_cons (ps_if (pt_cmpR op_notN (pe_fn (ok_l_divides T) hr (by decide) (by rfl) (pa_cons (pe_tup (pa_cons (pe_op op_mul pe_int (pv 2)) (pa_cons pe_int (pa_cons pe_int (pa_cons pe_int pa_nil))))) (pa_cons (pv 7) pa_nil))) pe_non (nomark _)) (pss_one (ps_ret pe_bl)) pss_nil)
        (pss_cons (ps_set (i := 8) sc_law.nd rfl (Or.inl rfl) (pe_fn (ok_line_of T) hr (by decide) (by rfl) (pa_cons (pv 7) (pa_cons (pv 2) pa_nil))))
        (pss_cons (ps_if (PW.pt (pw_or (pt_cmpR (op_neK K hr.units) (pv 8) (pe_fn (ok_line_of T) hr (by decide) (by rfl) (pa_cons (pv 4) (pa_cons (pv 2) pa_nil))) (nomark _)) (pw_or1 (pt_cmpR (op_neK K hr.units) (pe_fn (ok_prime_of_line T) hr (by decide) (by rfl) (pa_cons (pv 2) (pa_cons (pv 8) pa_nil))) (pv 4) (nomark _))))) (pss_one (ps_ret pe_bl)) pss_nil)
        (pss_cons (ps_if (pt_cmpR (op_neK K hr.units) (pe_fn (ok_left_primes T) hr (by decide) (by rfl) (pa_cons (pv 7) (pa_cons (pv 2) pa_nil))) (pe_lst (pa_cons (pv 4) pa_nil)) (nomark _)) (pss_one (ps_ret pe_bl)) pss_nil)
        (pss_cons (ps_if (pt_not (pt_val (pe_fn (ok_l_is_primitive T) hr (by decide) (by rfl) (pa_cons (pv 7) pa_nil)))) (pss_one (ps_ret pe_bl)) pss_nil)
        (pss_cons (ps_set (i := 9) sc_law.nd rfl (Or.inl rfl) (pe_op op_catS (pe_lst (pa_cons (pv 2) (pa_cons (pv 2) pa_nil))) (pe_callB (cr_sortD hr.units) (by rfl) T.b_sorted (by decide +kernel) (pa_cons (pe_lc (own := [("_law_factor", 10)]) (g := (gName 10)) rfl sc_law.nd (pi_list (pv 6)) (blkOk_by (own := [("_law_factor", 10)]) (N := N_law) (sc := defScope (top 73)) (by decide +kernel)) (fun _ _ _ _ _ => (pg_name (i := 10) sc_law.nd rfl (Or.inl rfl))) (fun _ _ _ _ _ => pts_nil) (fun _ _ _ _ _ => (pe_fn (ok_l_norm T) hr (by decide) (by rfl) (pa_cons (pv 10) pa_nil)))) pa_nil))))
        (pss_one (ps_ret (pe_cmpR (op_eqK K hr.units) (pe_slice sl_list (pe_ix (ix_tupK K) (pe_fn (ok_row_of T) hr (by decide) (by rfl) (pa_cons (pv 7) (pa_cons (pv 9) pa_nil))) pe_int (fun _ _ => rfl)) po_none (po_some pe_int)) (pe_lst (pa_cons (pv 4) (pa_cons (pv 5) pa_nil))) (nomark _))))))))))))))))), ?_⟩
    have hlen := numsL_len ns
    refine run_seq (run_asg (d := .list ((numsL ns).map PyData.int)) (ev_call (ea_cons (ev_var rfl) (ea_cons ev_int ea_nil)) ⟨ns, hns, rfl, rfl⟩) ?_)
    generalize numsL ns = l at hlen
    have r6 : 0 ≤ l.getD 0 0 % 6 ∧ l.getD 0 0 % 6 < 6 := by omega
    have hp6 := p6_at (l.getD 0 0 % 6).toNat (by omega)
    have hat := at_p6 r6.1 r6.2
    generalize primes6.getD (l.getD 0 0 % 6).toNat 0 = p at hp6 hat
    obtain ⟨_, p1, p2, _, _⟩ := wp6 p hp6
    obtain ⟨f0, f1000, _⟩ := lprimes_ok p (six7 p hp6)
    show Run K _ [.dat (.list (ns.map PyData.int)), .dat (.list (l.map PyData.int)), .un, .un, .un, .un, .un, .un, .un, .un, .un] _ _
    refine run_seq (run_asg (d := .int p) (ev_ixL (ev_lst (ea_cons ev_int (ea_cons ev_int (ea_cons ev_int (ea_cons ev_int (ea_cons ev_int (ea_cons ev_int ea_nil)))))) (sz 6)) (ev_call (ea_cons (ev_var rfl) (ea_cons ev_int (ea_cons ev_int ea_nil))) ⟨l, 0, 6, by omega, by decide, rfl, rfl⟩) hat) ?_)
    refine run_seq (run_asg (d := .list ((lprimes p).map Qt.D)) (ev_call (ea_cons (ev_var rfl) ea_nil) ⟨p, six7 p hp6, rfl, rfl⟩) ?_)
    show Run K _ [.dat (.list (ns.map PyData.int)), .dat (.list (l.map PyData.int)), .dat (.int p), .dat (.list ((lprimes p).map Qt.D)), .un, .un, .un, .un, .un, .un, .un] _ _
    have rL : ∀ x : Int, 0 ≤ x % ((lprimes p).length : Int) ∧ x % ((lprimes p).length : Int) < ((lprimes p).length : Int) := fun x => ⟨Int.emod_nonneg _ (by omega), Int.emod_lt_of_pos _ (by omega)⟩
    have m1 := rL (l.getD 1 0)
    have m2 := rL (l.getD 2 0)
    have a1 := atI_qt m1.1 m1.2
    have a2 := atI_qt m2.1 m2.2
    have hf : (lprimes p).getD (l.getD 1 0 % ((lprimes p).length : Int)).toNat Qt.one ∈ lprimes p := getD_mem (by omega)
    have hs : (lprimes p).getD (l.getD 2 0 % ((lprimes p).length : Int)).toNat Qt.one ∈ lprimes p := getD_mem (by omega)
    generalize (lprimes p).getD (l.getD 1 0 % ((lprimes p).length : Int)).toNat Qt.one = f1 at a1 hf
    generalize (lprimes p).getD (l.getD 2 0 % ((lprimes p).length : Int)).toNat Qt.one = s1 at a2 hs
    refine run_seq (run_asg (d := f1.D) (ev_ixL (ev_var rfl) (ev_call (ea_cons (ev_var rfl) (ea_cons ev_int (ea_cons ((ev_lenL (ds := (lprimes p).map Qt.D) (ea_cons (ev_var rfl) ea_nil)).to (by rw [List.length_map])) ea_nil))) ⟨l, 1, ((lprimes p).length : Int), by omega, by omega, rfl, rfl⟩) a1) ?_)
    show Run K _ [.dat (.list (ns.map PyData.int)), .dat (.list (l.map PyData.int)), .dat (.int p), .dat (.list ((lprimes p).map Qt.D)), .dat f1.D, .un, .un, .un, .un, .un, .un] _ _
    refine run_seq (run_asg (d := s1.D) (ev_ixL (ev_var rfl) (ev_call (ea_cons (ev_var rfl) (ea_cons ev_int (ea_cons ((ev_lenL (ds := (lprimes p).map Qt.D) (ea_cons (ev_var rfl) ea_nil)).to (by rw [List.length_map])) ea_nil))) ⟨l, 2, ((lprimes p).length : Int), by omega, by omega, rfl, rfl⟩) a2) ?_)
    have hm : (l.getD 3 0 % 3).toNat ≤ 2 := by omega
    have em : l.getD 3 0 % 3 = ((l.getD 3 0 % 3).toNat : Int) := by omega
    have hfac : ∀ x ∈ facL l 4 (l.getD 3 0 % 3).toNat, FacOk x := fun x hx => by
      unfold facL at hx
      obtain ⟨k, _, rfl⟩ := List.mem_map.mp hx
      exact facF_ok l 4 k
    have lfac : (facL l 4 (l.getD 3 0 % 3).toNat).length ≤ 2 := by
      unfold facL
      rw [List.length_map, List.length_range]
      exact hm
    show Run K _ [.dat (.list (ns.map PyData.int)), .dat (.list (l.map PyData.int)), .dat (.int p), .dat (.list ((lprimes p).map Qt.D)), .dat f1.D, .dat s1.D, .un, .un, .un, .un, .un] _ _
    refine run_seq (run_asg (d := .list ((facL l 4 (l.getD 3 0 % 3).toNat).map Qt.D)) (ev_call (ea_cons (ev_var rfl) (ea_cons ev_int (ea_cons ((ev_call (ea_cons (ev_var rfl) (ea_cons ev_int (ea_cons ev_int ea_nil))) ⟨l, 3, 3, by omega, by decide, rfl, rfl⟩).to (congrArg PyData.int em)) ea_nil))) ⟨l, 4, (l.getD 3 0 % 3).toNat, by omega, by omega, by omega, rfl, rfl⟩) ?_)
    generalize facL l 4 (l.getD 3 0 % 3).toNat = facs at hfac lfac
    have no := num_ok hp6 hf hs hfac lfac
    show Run K _ [.dat (.list (ns.map PyData.int)), .dat (.list (l.map PyData.int)), .dat (.int p), .dat (.list ((lprimes p).map Qt.D)), .dat f1.D, .dat s1.D, .dat (.list (facs.map Qt.D)), .un, .un, .un, .un] _ _
    refine run_seq (run_asg (d := ((f1 :: s1 :: facs).foldl Qt.mul Qt.one).D) (ev_call (ea_cons (ev_catL (ds := [f1.D, s1.D]) (ev_lst (ea_cons (ev_var rfl) (ea_cons (ev_var rfl) ea_nil)) (sz 2)) (ev_var rfl) (by simp) (by rw [List.length_map]; omega)) ea_nil) ⟨f1 :: s1 :: facs, fun x hx => ?_, rfl, rfl⟩) ?_)
    · rcases List.mem_cons.mp hx with rfl | hx
      · exact no.fsm
      rcases List.mem_cons.mp hx with rfl | hx
      · exact no.ssm
      exact (hfac x hx).sm
    generalize (f1 :: s1 :: facs).foldl Qt.mul Qt.one = N at no
    have smN : N.sm big := Qt.sm_mono (Qt.lim_sm no.lim) (by decide)
    have ppk : (pp p).sm big := Qt.sm_mono (Qt.lim_sm (pp_lim (by omega) (by omega))) (by decide)
    have ppn : 0 < (pp p).nrm ∧ (pp p).nrm < 1073741824 := by
      rw [pp_nrm]
      have h1 : 1 * 1 ≤ p * p := Int.mul_le_mul (by omega) (by omega) (by decide) (by omega)
      have h2 : p * p ≤ 17 * 17 := Int.mul_le_mul (by omega) (by omega) (by omega) (by omega)
      omega
    show Run K _ [.dat (.list (ns.map PyData.int)), .dat (.list (l.map PyData.int)), .dat (.int p), .dat (.list ((lprimes p).map Qt.D)), .dat f1.D, .dat s1.D, .dat (.list (facs.map Qt.D)), .dat N.D, .un, .un, .un] _ _
    refine run_seq (run_if (et_test (ev_notO (o := ldv (pp p) N) (ev_call (ea_cons (ev_tup (ea_cons (ev_I ev_int (ev_var rfl) (.inl ⟨by decide, by decide⟩)) (ea_cons ev_int (ea_cons ev_int (ea_cons ev_int ea_nil)))) (sz 4)) (ea_cons (ev_var rfl) ea_nil)) ⟨pp p, N, ppk, smN, ppn.1, ppn.2, rfl, rfl⟩))) (fun h => run_ret ev_bl rfl) (fun h => run_next ?_))
    have hnd : ¬ Qt.Dv (pp p) N := not_dv (by omega) (by
      cases z : ldv (pp p) N with
      | none => rfl
      | some q =>
        rw [z] at h
        cases h)
    clear h
    have lo := law_ok hp6 hf no hnd
    refine run_seq (run_asg (d := encP (lineU p f1)) ((ev_call (ea_cons (ev_var rfl) (ea_cons (ev_var rfl) ea_nil)) ⟨N, p, no.ok, no.ne, no.lim, hp6, lo.mod, rfl, rfl⟩).to lo.line.two) ?_)
    show Run K _ [.dat (.list (ns.map PyData.int)), .dat (.list (l.map PyData.int)), .dat (.int p), .dat (.list ((lprimes p).map Qt.D)), .dat f1.D, .dat s1.D, .dat (.list (facs.map Qt.D)), .dat N.D, .dat (encP (lineU p f1)), .un, .un] _ _
    have fm : f1.nrm % p = 0 := by
      rw [no.fn]
      exact Int.emod_self
    refine run_seq (run_if (et_or (et_test (ev_neD (d := encP (lineU p f1)) (d' := encP (lineU p f1)) (ev_var rfl) ((ev_call (ea_cons (ev_var rfl) (ea_cons (ev_var rfl) ea_nil)) ⟨f1, p, no.fok, no.fz, no.fl, hp6, fm, rfl, rfl⟩).to lo.line.one) rfl rfl)) (fun _ => (et_test (ev_neD (d := f1.D) (d' := f1.D) ((ev_call (ea_cons (ev_var rfl) (ea_cons (ev_var rfl) ea_nil)) ⟨p, (lineU p f1).1, (lineU p f1).2, hp6, lo.line.mem, rfl, rfl⟩).to (by rw [lo.line.back])) (ev_var rfl) rfl rfl)))) (fun h => ?_) (fun h => run_next ?_))
    · rw [eqv_pair, eqv_qt, decide_eq_true rfl, decide_eq_true rfl] at h
      cases h
    clear h
    refine run_seq (run_if (et_test (ev_neD (d := .list ([f1].map Qt.D)) (d' := .list ([f1].map Qt.D)) ((ev_call (ea_cons (ev_var rfl) (ea_cons (ev_var rfl) ea_nil)) ⟨N, p, no.ok, no.ne, no.lim, hp6, lo.mod, by rw [lo.lpN]; exact no.fn, rfl, rfl⟩).to (by rw [lo.lpN]; rfl)) (ev_lst (ea_cons (ev_var rfl) ea_nil) (sz 1)) (shaped_qts _) (shaped_qts _))) (fun h => ?_) (fun h => run_next ?_))
    · rw [eqv_qts, decide_eq_true rfl] at h
      cases h
    clear h
    refine run_seq (run_if (et_not (et_B (ev_call (ea_cons (ev_var rfl) ea_nil) ⟨N, smN, rfl, rfl⟩))) (fun h => run_ret ev_bl rfl) (fun h => run_next ?_))
    have hprim : lprim N = true := by
      cases z : lprim N with
      | true => rfl
      | false =>
        rw [z] at h
        cases h
    have hcont := cont_one hp6 no.comb no.ok no.ne no.nrm hnd hprim
    obtain ⟨w1, w2, w3, w4⟩ := combs_ok p hp6 _ no.comb
    have hev : Evd K (tCB (rSortD K) (tCons (tLc (iList K (tVar 6)) (gName 10) tYes (tCall (spD K R_l_norm) [] E0 (tCons (tVar 10) tNil)) [10]) tNil)) [some (.list (ns.map PyData.int)), some (.list (l.map PyData.int)), some (.int p), some (.list ((lprimes p).map Qt.D)), some f1.D, some s1.D, some (.list (facs.map Qt.D)), some N.D, some (encP (lineU p f1)), none, none] (.list ((sortI (facs.map Qt.nrm)).map PyData.int)) :=
      (ev_sortD (ds := (facs.map Qt.nrm).map PyData.int) (ea_cons ((ev_lcM Qt.D facs (f := fun x => .int x.nrm) (ei_list (ev_var rfl)) rfl (by omega) (by decide) (fun x hx => ⟨_, eg_name, (ev_call (ea_cons (ev_var rfl) ea_nil) ⟨x, (hfac x hx).sm, rfl, rfl⟩)⟩)).to (by rw [List.map_map]; rfl)) ea_nil) (alike_I _) (sortable_I _) (depths_I _)).to (by rw [sortD_I])
    have ls : (sortI (facs.map Qt.nrm)).length ≤ 2 := by
      rw [(sortI_perm _).length_eq, List.length_map]
      exact lfac
    refine run_seq (run_asg (d := .list ((p :: p :: sortI (facs.map Qt.nrm)).map PyData.int)) (ev_catL (ds := [.int p, .int p]) (ev_lst (ea_cons (ev_var rfl) (ea_cons (ev_var rfl) ea_nil)) (sz 2)) hev (by simp) (by rw [List.length_map]; omega)) ?_)
    show Run K _ [.dat (.list (ns.map PyData.int)), .dat (.list (l.map PyData.int)), .dat (.int p), .dat (.list ((lprimes p).map Qt.D)), .dat f1.D, .dat s1.D, .dat (.list (facs.map Qt.D)), .dat N.D, .dat (encP (lineU p f1)), .dat (.list ((p :: p :: sortI (facs.map Qt.nrm)).map PyData.int)), .un] _ _
    refine run_ret (ev_eqD (d := .list ([f1, s1].map Qt.D)) (d' := .list ([f1, s1].map Qt.D)) ((ev_slice0 (ds := (rowF N (p :: p :: sortI (facs.map Qt.nrm))).1.map Qt.D) (ev_ixT (ds := [.list ((rowF N (p :: p :: sortI (facs.map Qt.nrm))).1.map Qt.D), (rowF N (p :: p :: sortI (facs.map Qt.nrm))).2.D]) (ev_call (ea_cons (ev_var rfl) (ea_cons (ev_var rfl) ea_nil)) ⟨N, p :: p :: sortI (facs.map Qt.nrm), no.ok, no.ne, no.lim, hcont, by rw [no.nrm]; exact w1, by rw [no.nrm]; exact w2, fun q hq => ?_, by simp; omega, rfl, rfl⟩) ev_int rfl) ev_int).to ?_) (ev_lst (ea_cons (ev_var rfl) (ea_cons (ev_var rfl) ea_nil)) (sz 2)) (shaped_qts _) (shaped_qts _)) ?_
    · rw [lo.row, List.map_cons, List.map_cons, cut2]
      rfl
    · rw [eqv_qts, decide_eq_true rfl]
    · rcases List.mem_cons.mp hq with rfl | hq
      · omega
      rcases List.mem_cons.mp hq with rfl | hq
      · omega
      obtain ⟨x, hx, rfl⟩ := List.mem_map.mp ((sortI_perm _).mem_iff.mp hq)
      have := small_le _ (hfac x hx).sml
      omega
end
end Tp

-- TF
/-! behind the top: what the head tells -/
namespace Tp
open PySem PySem.Spec PyProof.Rows L2 DL
def D_is_number : He.DefD := ⟨("is_number", none), "is_number", "is_number", defArgs (top 9), defBody (top 9), defScope (top 9), [], []⟩
def D_check_number : He.DefD := ⟨("check_number", none), "check_number", "check_number", defArgs (top 10), defBody (top 10), defScope (top 10), [], []⟩
def D_check_not_zero : He.DefD := ⟨("check_not_zero", none), "check_not_zero", "check_not_zero", defArgs (top 11), defBody (top 11), defScope (top 11), [], []⟩
def D_of_integers : He.DefD := ⟨("of_integers", none), "of_integers", "of_integers", defArgs (top 12), defBody (top 12), defScope (top 12), [], []⟩
def D_conjugate : He.DefD := ⟨("conjugate", none), "conjugate", "conjugate", defArgs (top 13), defBody (top 13), defScope (top 13), [], []⟩
def D_norm : He.DefD := ⟨("norm", none), "norm", "norm", defArgs (top 14), defBody (top 14), defScope (top 14), [], []⟩
def D_less : He.DefD := ⟨("less", none), "less", "less", defArgs (top 15), defBody (top 15), defScope (top 15), [], []⟩
def D_product : He.DefD := ⟨("product", none), "product", "product", defArgs (top 16), defBody (top 16), defScope (top 16), [], []⟩
def D_units : He.DefD := ⟨("units", none), "units", "units", defArgs (top 17), defBody (top 17), defScope (top 17), [], []⟩
def D_associates : He.DefD := ⟨("associates", none), "associates", "associates", defArgs (top 18), defBody (top 18), defScope (top 18), [], []⟩
def D_canonical : He.DefD := ⟨("canonical", none), "canonical", "canonical", defArgs (top 19), defBody (top 19), defScope (top 19), [], []⟩
def D_content : He.DefD := ⟨("content", none), "content", "content", defArgs (top 20), defBody (top 20), defScope (top 20), [], []⟩
def D_is_primitive : He.DefD := ⟨("is_primitive", none), "is_primitive", "is_primitive", defArgs (top 21), defBody (top 21), defScope (top 21), [], []⟩
def D_distance_of : He.DefD := ⟨("distance_of", none), "distance_of", "distance_of", defArgs (top 24), defBody (top 24), defScope (top 24), [], []⟩
def D_nearest : He.DefD := ⟨("nearest", none), "nearest", "nearest", defArgs (top 25), defBody (top 25), defScope (top 25), [], []⟩
def D_check_pair : He.DefD := ⟨("check_pair", none), "check_pair", "check_pair", defArgs (top 26), defBody (top 26), defScope (top 26), [], []⟩
def D_divided_left : He.DefD := ⟨("divided_left", none), "divided_left", "divided_left", defArgs (top 27), defBody (top 27), defScope (top 27), [], []⟩
def D_left_quotient : He.DefD := ⟨("left_quotient", none), "left_quotient", "left_quotient", defArgs (top 28), defBody (top 28), defScope (top 28), [], []⟩
def D_steps_of : He.DefD := ⟨("steps_of", none), "steps_of", "steps_of", defArgs (top 30), defBody (top 30), defScope (top 30), [], []⟩
def D_check_some : He.DefD := ⟨("check_some", none), "check_some", "check_some", defArgs (top 31), defBody (top 31), defScope (top 31), [], []⟩
def D_left_common : He.DefD := ⟨("left_common", none), "left_common", "left_common", defArgs (top 32), defBody (top 32), defScope (top 32), [], []⟩
def D_whole_primes : He.DefD := ⟨("whole_primes", none), "whole_primes", "whole_primes", defArgs (top 36), defBody (top 36), defScope (top 36), [], []⟩
def D_is_prime : He.DefD := ⟨("is_prime", none), "is_prime", "is_prime", defArgs (top 37), defBody (top 37), defScope (top 37), [], []⟩
def D_prime_list : He.DefD := ⟨("prime_list", none), "prime_list", "prime_list", defArgs (top 38), defBody (top 38), defScope (top 38), [], []⟩
def D_check_prime : He.DefD := ⟨("check_prime", none), "check_prime", "check_prime", defArgs (top 39), defBody (top 39), defScope (top 39), [], []⟩
def D_check_order : He.DefD := ⟨("check_order", none), "check_order", "check_order", defArgs (top 40), defBody (top 40), defScope (top 40), [], []⟩
def D_left_prime : He.DefD := ⟨("left_prime", none), "left_prime", "left_prime", defArgs (top 42), defBody (top 42), defScope (top 42), [], []⟩
def D_left_primes : He.DefD := ⟨("left_primes", none), "left_primes", "left_primes", defArgs (top 43), defBody (top 43), defScope (top 43), [], []⟩
def D_row_of : He.DefD := ⟨("row_of", none), "row_of", "row_of", defArgs (top 44), defBody (top 44), defScope (top 44), [], []⟩
def D_check_odd : He.DefD := ⟨("check_odd", none), "check_odd", "check_odd", defArgs (top 47), defBody (top 47), defScope (top 47), [], []⟩
def D_roots_by_square : He.DefD := ⟨("roots_by_square", none), "roots_by_square", "roots_by_square", defArgs (top 48), defBody (top 48), defScope (top 48), [], []⟩
def D_root_pair : He.DefD := ⟨("root_pair", none), "root_pair", "root_pair", defArgs (top 49), defBody (top 49), defScope (top 49), [], []⟩
def D_table_of : He.DefD := ⟨("table_of", none), "table_of", "table_of", defArgs (top 50), defBody (top 50), defScope (top 50), [], []⟩
def D_is_pair : He.DefD := ⟨("is_pair", none), "is_pair", "is_pair", defArgs (top 51), defBody (top 51), defScope (top 51), [], []⟩
def D_check_table : He.DefD := ⟨("check_table", none), "check_table", "check_table", defArgs (top 52), defBody (top 52), defScope (top 52), [], []⟩
def D_number_of_table : He.DefD := ⟨("number_of_table", none), "number_of_table", "number_of_table", defArgs (top 53), defBody (top 53), defScope (top 53), [], []⟩
def D_lines : He.DefD := ⟨("lines", none), "lines", "lines", defArgs (top 54), defBody (top 54), defScope (top 54), [], []⟩
def D_line_of : He.DefD := ⟨("line_of", none), "line_of", "line_of", defArgs (top 55), defBody (top 55), defScope (top 55), [], []⟩
def D_pow_of : He.DefD := ⟨("pow_of", none), "pow_of", "pow_of", defArgs (top 56), defBody (top 56), defScope (top 56), [], []⟩
def D_prime_of_line : He.DefD := ⟨("prime_of_line", none), "prime_of_line", "prime_of_line", defArgs (top 57), defBody (top 57), defScope (top 57), [], []⟩
def D_law_row : He.DefD := ⟨("_law_row", none), "_law_row", "_law_row", defArgs (top 59), defBody (top 59), defScope (top 59), [], []⟩
def D_law_numbers : He.DefD := ⟨("_law_numbers", none), "_law_numbers", "_law_numbers", defArgs (top 60), defBody (top 60), defScope (top 60), [], []⟩
def D_law_pick : He.DefD := ⟨("_law_pick", none), "_law_pick", "_law_pick", defArgs (top 61), defBody (top 61), defScope (top 61), [], []⟩
def D_law_product : He.DefD := ⟨("_law_product", none), "_law_product", "_law_product", defArgs (top 62), defBody (top 62), defScope (top 62), [], []⟩
def D_law_conjugate : He.DefD := ⟨("_law_conjugate", none), "_law_conjugate", "_law_conjugate", defArgs (top 63), defBody (top 63), defScope (top 63), [], []⟩
def D_law_norm : He.DefD := ⟨("_law_norm", none), "_law_norm", "_law_norm", defArgs (top 64), defBody (top 64), defScope (top 64), [], []⟩
def D_law_units : He.DefD := ⟨("_law_units", none), "_law_units", "_law_units", defArgs (top 65), defBody (top 65), defScope (top 65), [], []⟩
def D_law_canonical : He.DefD := ⟨("_law_canonical", none), "_law_canonical", "_law_canonical", defArgs (top 66), defBody (top 66), defScope (top 66), [], []⟩
def D_law_primes : He.DefD := ⟨("_law_primes", none), "_law_primes", "_law_primes", defArgs (top 67), defBody (top 67), defScope (top 67), [], []⟩
def D_law_divides : He.DefD := ⟨("_law_divides", none), "_law_divides", "_law_divides", defArgs (top 68), defBody (top 68), defScope (top 68), [], []⟩
def D_law_is_primitive : He.DefD := ⟨("_law_is_primitive", none), "_law_is_primitive", "_law_is_primitive", defArgs (top 69), defBody (top 69), defScope (top 69), [], []⟩
def D_law_drawn_factors : He.DefD := ⟨("_law_drawn_factors", none), "_law_drawn_factors", "_law_drawn_factors", defArgs (top 70), defBody (top 70), defScope (top 70), [], []⟩
def D_law_all_product : He.DefD := ⟨("_law_all_product", none), "_law_all_product", "_law_all_product", defArgs (top 71), defBody (top 71), defScope (top 71), [], []⟩
def D_law : He.DefD := ⟨("law", none), "law", "law", defArgs (top 73), defBody (top 73), defScope (top 73), [], []⟩
def fn : List He.DefD := [D_is_number, D_check_number, D_check_not_zero, D_of_integers, D_conjugate, D_norm, D_less, D_product, D_units, D_associates, D_canonical, D_content, D_is_primitive, D_distance_of, D_nearest, D_check_pair, D_divided_left, D_left_quotient, D_steps_of, D_check_some, D_left_common, D_whole_primes, D_is_prime, D_prime_list, D_check_prime, D_check_order, D_left_prime, D_left_primes, D_row_of, D_check_odd, D_roots_by_square, D_root_pair, D_table_of, D_is_pair, D_check_table, D_number_of_table, D_lines, D_line_of, D_pow_of, D_prime_of_line, D_law_row, D_law_numbers, D_law_pick, D_law_product, D_law_conjugate, D_law_norm, D_law_units, D_law_canonical, D_law_primes, D_law_divides, D_law_is_primitive, D_law_drawn_factors, D_law_all_product, D_law]
def fa : List He.Fa := [.glo "is_number", .glo "check_number", .glo "check_not_zero", .glo "of_integers", .glo "conjugate", .glo "norm", .glo "less", .glo "product", .glo "units", .glo "associates", .glo "canonical", .glo "content", .glo "is_primitive", .glo "distance_of", .glo "nearest", .glo "check_pair", .glo "divided_left", .glo "left_quotient", .glo "steps_of", .glo "check_some", .glo "left_common", .glo "whole_primes", .glo "is_prime", .glo "prime_list", .glo "check_prime", .glo "check_order", .glo "left_prime", .glo "left_primes", .glo "row_of", .glo "check_odd", .glo "roots_by_square", .glo "root_pair", .glo "table_of", .glo "is_pair", .glo "check_table", .glo "number_of_table", .glo "lines", .glo "line_of", .glo "pow_of", .glo "prime_of_line", .glo "_law_row", .glo "_law_numbers", .glo "_law_pick", .glo "_law_product", .glo "_law_conjugate", .glo "_law_norm", .glo "_law_units", .glo "_law_canonical", .glo "_law_primes", .glo "_law_divides", .glo "_law_is_primitive", .glo "_law_drawn_factors", .glo "_law_all_product", .glo "law", .free "len", .free "tuple", .free "sorted", .free "zip", .free "sum", .free "max", .free "range", .free "all", .free "any", .free "isinstance", .free "int", .free "abs", .free "list", .int "PARTS" 4, .int "MOST_VALUE" 1000000000000, .int "MOST_PRIME" 1000, .int "MOST_ODD" 10000]

def gx (K : PySem.W.Frag) : Bool := He.tupB K "ZERO_numbers" [.int 0, .int 0, .int 0, .int 0] && (He.tupB K "ONE" [.int 2, .int 0, .int 0, .int 0] && (He.tupB K "ZERO_dividing" [.int 0, .int 0, .int 0, .int 0] &&
  (He.eqO (PySem.W.nsIn K mainGlobals "gcd") (some (some (.builtin "math.gcd"))) && (He.Fa.ok K (.glo "ZERO_numbers") && (He.Fa.ok K (.glo "ONE") && He.Fa.ok K (.glo "ZERO_dividing"))))))
abbrev AlX : Type := Bool × He.AlD
def SaysX (K : PySem.W.Frag) : Prop := gx K = true ∧ He.SaysD fa fn K
def obsXG (n : Nat) (g : Addr → Option Obj) : AlX := (gx (He.frG g (He.asD g n)), He.obsDG n fa fn g)

section
variable {K : PySem.W.Frag} {h : Heap} {mg : Str → Option Value}
theorem def_at {x : Str} {st : Stmt} (X : K.In h) (G : h.Ns mainGlobals mg) (F : ∃ fd : FuncData, FunD K x x (defArgs st) (defBody st) (defScope st) [] [] (He.ga K x) fd) (c : (He.Fa.glo x).ok K = true) : DefAt K mg x st := by
  obtain ⟨fd, F⟩ := F
  exact ⟨_, fd, F, He.glo_ok X G c⟩
theorem int_at {x : Str} {i : Int} (X : K.In h) (G : h.Ns mainGlobals mg) (c : (He.Fa.int x i).ok K = true) : ∃ u, mg x = some u ∧ RelV (.int i) u := by
  obtain ⟨t, e⟩ := He.int_ok X G c
  exact ⟨_, e, t, rfl⟩
theorem txt_of (X : K.In h) (G : h.Ns mainGlobals mg) (c : SaysX K) : Txt K mg := by
  obtain ⟨g, s⟩ := c
  obtain ⟨g1, g⟩ := He.ba g
  obtain ⟨g2, g⟩ := He.ba g
  obtain ⟨g3, g⟩ := He.ba g
  obtain ⟨g4, g⟩ := He.ba g
  obtain ⟨g5, g⟩ := He.ba g
  obtain ⟨g6, g7⟩ := He.ba g
  exact {
    b_len := He.free_ok X G (s.fact 54 rfl)
    b_tuple := He.free_ok X G (s.fact 55 rfl)
    b_sorted := He.free_ok X G (s.fact 56 rfl)
    b_zip := He.free_ok X G (s.fact 57 rfl)
    b_sum := He.free_ok X G (s.fact 58 rfl)
    b_max := He.free_ok X G (s.fact 59 rfl)
    b_range := He.free_ok X G (s.fact 60 rfl)
    b_all := He.free_ok X G (s.fact 61 rfl)
    b_any := He.free_ok X G (s.fact 62 rfl)
    b_isinstance := He.free_ok X G (s.fact 63 rfl)
    b_int := He.free_ok X G (s.fact 64 rfl)
    b_abs := He.free_ok X G (s.fact 65 rfl)
    b_list := He.free_ok X G (s.fact 66 rfl)
    gcd := PySem.W.mg_of X G (He.eqO_ok g4)
    PARTS := int_at X G (s.fact 67 rfl)
    MOST_VALUE := int_at X G (s.fact 68 rfl)
    MOST_PRIME := int_at X G (s.fact 69 rfl)
    MOST_ODD := int_at X G (s.fact 70 rfl)
    ZERO_numbers := ⟨_, He.glo_ok X G g5, rfl⟩
    t_ZERO_numbers := fun H => He.tupB_ok g1 H
    ONE := ⟨_, He.glo_ok X G g6, rfl⟩
    t_ONE := fun H => He.tupB_ok g2 H
    ZERO_dividing := ⟨_, He.glo_ok X G g7, rfl⟩
    t_ZERO_dividing := fun H => He.tupB_ok g3 H
    def_is_number := def_at X G (s.def_ 0 rfl) (s.fact 0 rfl)
    def_check_number := def_at X G (s.def_ 1 rfl) (s.fact 1 rfl)
    def_check_not_zero := def_at X G (s.def_ 2 rfl) (s.fact 2 rfl)
    def_of_integers := def_at X G (s.def_ 3 rfl) (s.fact 3 rfl)
    def_conjugate := def_at X G (s.def_ 4 rfl) (s.fact 4 rfl)
    def_norm := def_at X G (s.def_ 5 rfl) (s.fact 5 rfl)
    def_less := def_at X G (s.def_ 6 rfl) (s.fact 6 rfl)
    def_product := def_at X G (s.def_ 7 rfl) (s.fact 7 rfl)
    def_units := def_at X G (s.def_ 8 rfl) (s.fact 8 rfl)
    def_associates := def_at X G (s.def_ 9 rfl) (s.fact 9 rfl)
    def_canonical := def_at X G (s.def_ 10 rfl) (s.fact 10 rfl)
    def_content := def_at X G (s.def_ 11 rfl) (s.fact 11 rfl)
    def_is_primitive := def_at X G (s.def_ 12 rfl) (s.fact 12 rfl)
    def_distance_of := def_at X G (s.def_ 13 rfl) (s.fact 13 rfl)
    def_nearest := def_at X G (s.def_ 14 rfl) (s.fact 14 rfl)
    def_check_pair := def_at X G (s.def_ 15 rfl) (s.fact 15 rfl)
    def_divided_left := def_at X G (s.def_ 16 rfl) (s.fact 16 rfl)
    def_left_quotient := def_at X G (s.def_ 17 rfl) (s.fact 17 rfl)
    def_steps_of := def_at X G (s.def_ 18 rfl) (s.fact 18 rfl)
    def_check_some := def_at X G (s.def_ 19 rfl) (s.fact 19 rfl)
    def_left_common := def_at X G (s.def_ 20 rfl) (s.fact 20 rfl)
    def_whole_primes := def_at X G (s.def_ 21 rfl) (s.fact 21 rfl)
    def_is_prime := def_at X G (s.def_ 22 rfl) (s.fact 22 rfl)
    def_prime_list := def_at X G (s.def_ 23 rfl) (s.fact 23 rfl)
    def_check_prime := def_at X G (s.def_ 24 rfl) (s.fact 24 rfl)
    def_check_order := def_at X G (s.def_ 25 rfl) (s.fact 25 rfl)
    def_left_prime := def_at X G (s.def_ 26 rfl) (s.fact 26 rfl)
    def_left_primes := def_at X G (s.def_ 27 rfl) (s.fact 27 rfl)
    def_row_of := def_at X G (s.def_ 28 rfl) (s.fact 28 rfl)
    def_check_odd := def_at X G (s.def_ 29 rfl) (s.fact 29 rfl)
    def_roots_by_square := def_at X G (s.def_ 30 rfl) (s.fact 30 rfl)
    def_root_pair := def_at X G (s.def_ 31 rfl) (s.fact 31 rfl)
    def_table_of := def_at X G (s.def_ 32 rfl) (s.fact 32 rfl)
    def_is_pair := def_at X G (s.def_ 33 rfl) (s.fact 33 rfl)
    def_check_table := def_at X G (s.def_ 34 rfl) (s.fact 34 rfl)
    def_number_of_table := def_at X G (s.def_ 35 rfl) (s.fact 35 rfl)
    def_lines := def_at X G (s.def_ 36 rfl) (s.fact 36 rfl)
    def_line_of := def_at X G (s.def_ 37 rfl) (s.fact 37 rfl)
    def_pow_of := def_at X G (s.def_ 38 rfl) (s.fact 38 rfl)
    def_prime_of_line := def_at X G (s.def_ 39 rfl) (s.fact 39 rfl)
    def_l_row := def_at X G (s.def_ 40 rfl) (s.fact 40 rfl)
    def_l_numbers := def_at X G (s.def_ 41 rfl) (s.fact 41 rfl)
    def_l_pick := def_at X G (s.def_ 42 rfl) (s.fact 42 rfl)
    def_l_product := def_at X G (s.def_ 43 rfl) (s.fact 43 rfl)
    def_l_conjugate := def_at X G (s.def_ 44 rfl) (s.fact 44 rfl)
    def_l_norm := def_at X G (s.def_ 45 rfl) (s.fact 45 rfl)
    def_l_units := def_at X G (s.def_ 46 rfl) (s.fact 46 rfl)
    def_l_canonical := def_at X G (s.def_ 47 rfl) (s.fact 47 rfl)
    def_l_primes := def_at X G (s.def_ 48 rfl) (s.fact 48 rfl)
    def_l_divides := def_at X G (s.def_ 49 rfl) (s.fact 49 rfl)
    def_l_is_primitive := def_at X G (s.def_ 50 rfl) (s.fact 50 rfl)
    def_l_drawn_factors := def_at X G (s.def_ 51 rfl) (s.fact 51 rfl)
    def_l_all_product := def_at X G (s.def_ 52 rfl) (s.fact 52 rfl)
    def_law := def_at X G (s.def_ 53 rfl) (s.fact 53 rfl) }
theorem facts {P : Program} {w : World} {fa : Addr} (X : K.In h) (G : h.Ns mainGlobals mg) (hfa : mg ("law" : Str) = some (.ref fa)) (c : SaysX K) :
    ∃ fd : FuncData, (∀ (s : Shared) (v : Value), BindsTo s fd ⟨[v], []⟩ [("_law_script", v)]) ∧ ∀ base : Heap, K.In base → base.Ns mainGlobals mg → FnOk P w K mg base CX0 10 fa fd ["_law_script"] (spD K R_law) := by
  have T := txt_of X G c
  obtain ⟨fd, F⟩ := c.2.def_ 53 (d := D_law) rfl
  have e := hfa.symm.trans (He.glo_ok X G (c.2.fact 53 (f := .glo "law") rfl))
  cases e
  have b := FunD.bindsA (ps := ["_law_script"]) F fun _ _ _ _ _ _ us hl => match us, hl with | [_], _ => rfl
  exact ⟨fd, fun s v => b s [v] rfl, fun base _ _ => ok_law T F⟩
theorem says {a : Addr} {ns : List Int} {H : Hp} (hl : ns.length ≤ 63) (hS : SqL K H a (ns.map V.int)) : spD K R_law [.ref a] H (fun v _ => v = .bl true) (fun _ _ _ => False) := by
  refine ⟨[], [.list (ns.map PyData.int)], .bool true, (fun p hp => by cases hp), .cons (.lst (hide0.seq hS) DqAll.of_ints) .nil, ⟨ns, hl, rfl, rfl⟩, fun v H' _ dv => dv.bool_inv⟩
end
end Tp

-- ZZ
set_option maxHeartbeats 0
namespace Tp
open PySem PySem.Spec PyProof.Rows L2
def hk : PySem.W.Hook where
  α := AlX
  obs := fun s => obsXG 4 s.heap.get?
  val := fun _ => (true, He.valD fn)
  says := fun _ h => ∃ K : PySem.W.Frag, K.In h ∧ SaysX K
  of := fun _ _ e => ⟨_, He.frG_in, congrArg (fun z : AlX => z.1) e, congrArg (fun z : AlX => z.2) e⟩
  keeps := fun _ _ _ ⟨K, hK, c⟩ k => ⟨K, PySem.W.Frag.In.keeps hK k, c⟩
def ob (s : PySem.W.SharedT) : AlX := obsXG 4 (HandSHeadRun.getT s)
theorem ob_eq (s : PySem.W.SharedT) : ob s = hk.obs s.abs := by
  have e : HandSHeadRun.getT s = s.abs.heap.get? := funext (HandSHeadRun.getT_eq s)
  show obsXG 4 (HandSHeadRun.getT s) = obsXG 4 s.abs.heap.get?
  rw [e]
def lo0 : List PySem.Str := [("gcd" : PySem.Str), ("isqrt" : PySem.Str), ("TurnprimesError" : PySem.Str), ("InvalidNumber" : PySem.Str), ("InvalidQuestion" : PySem.Str), ("ZERO_numbers" : PySem.Str), ("ONE" : PySem.Str), ("PARTS" : PySem.Str), ("is_number" : PySem.Str), ("check_number" : PySem.Str), ("check_not_zero" : PySem.Str), ("of_integers" : PySem.Str)]
def lo1 : List PySem.Str := [("conjugate" : PySem.Str), ("norm" : PySem.Str), ("less" : PySem.Str), ("product" : PySem.Str), ("units" : PySem.Str), ("associates" : PySem.Str), ("canonical" : PySem.Str), ("content" : PySem.Str), ("is_primitive" : PySem.Str), ("ZERO_dividing" : PySem.Str), ("distance_of" : PySem.Str), ("nearest" : PySem.Str)]
def lo2 : List PySem.Str := [("check_pair" : PySem.Str), ("divided_left" : PySem.Str), ("left_quotient" : PySem.Str), ("steps_of" : PySem.Str), ("check_some" : PySem.Str), ("left_common" : PySem.Str), ("MOST_VALUE" : PySem.Str), ("MOST_PRIME" : PySem.Str), ("whole_primes" : PySem.Str), ("is_prime" : PySem.Str), ("prime_list" : PySem.Str), ("check_prime" : PySem.Str)]
def lo3 : List PySem.Str := [("check_order" : PySem.Str), ("primes_of" : PySem.Str), ("left_prime" : PySem.Str), ("left_primes" : PySem.Str), ("row_of" : PySem.Str), ("MOST_ODD" : PySem.Str), ("check_odd" : PySem.Str), ("roots_by_square" : PySem.Str), ("root_pair" : PySem.Str), ("table_of" : PySem.Str), ("is_pair" : PySem.Str), ("check_table" : PySem.Str)]
def lo4 : List PySem.Str := [("number_of_table" : PySem.Str), ("lines" : PySem.Str), ("line_of" : PySem.Str), ("pow_of" : PySem.Str), ("prime_of_line" : PySem.Str), ("_law_row" : PySem.Str), ("_law_numbers" : PySem.Str), ("_law_pick" : PySem.Str), ("_law_product" : PySem.Str), ("_law_conjugate" : PySem.Str), ("_law_norm" : PySem.Str), ("_law_units" : PySem.Str)]
def lo5 : List PySem.Str := [("_law_canonical" : PySem.Str), ("_law_primes" : PySem.Str), ("_law_divides" : PySem.Str), ("_law_is_primitive" : PySem.Str), ("_law_drawn_factors" : PySem.Str), ("_law_all_product" : PySem.Str), ("_law_order" : PySem.Str)]
def loose : List PySem.Str := lo0 ++ (lo1 ++ (lo2 ++ (lo3 ++ (lo4 ++ (lo5)))))
abbrev R : PySem.W.OpenRow := PySem.W.OpenLaw.row PySem.Challenge.rw_turnprimes_k84_whole_lines

end Tp
open PySem PySem.W PySem.Calls PyProof.Rows
theorem PySem.Challenge.cw_turnprimes_k84_whole_lines_holds : PySem.Challenge.rw_turnprimes_k84_whole_lines.Holds := by
  w_on; o_law; o_head Tp.hk
  case hw => w_witness2
  case hc =>
    refine L2.walk_ofE (l := PySem.Challenge.rw_turnprimes_k84_whole_lines) (n := 63) (k := 10) (x := "_law_script") (CX := L2.CX0) rfl (by decide) (by kernel_rfl) ⟨rfl, by decide, by decide⟩ ?F (fun _ _ _ _ z => z)
    intro w mg fa h Y G hmg0
    obtain ⟨K, KX, c⟩ := Y
    have hmg : mg ("law" : PySem.Str) = some (.ref fa) := by
      exact hmg0
    obtain ⟨fd, hb, hF⟩ := Tp.facts (P := (PySem.Challenge.rw_turnprimes_k84_whole_lines).prog) (w := w) KX G hmg c
    exact ⟨K, fd, _, KX, hb, fun H a ns hl _ hS => Tp.says hl hS, hF⟩
