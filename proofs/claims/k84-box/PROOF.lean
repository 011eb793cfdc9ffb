import PyProof.Rows.All
import Wide.All
import OpenK.AllK
import Wide.FinOn
import HandS.ForMost
import HandS.TupAny
import HandS.Zip
import HandS.Gcd
import HandS.ExcInit
import HandS.ExcOwn
import HandS.WordsExc
import HandS.TupSets
import HandS.IsInst
import HandS.Evl
import HandS.DictComp
import HandS.TryMany
import HandS.ExcField
import HandS.TupMul
import PySem.Challenge.RW_polywork_k84_box_points_of_simplices
set_option Elab.async false
set_option linter.all false
set_option maxRecDepth 100000
/-! A layer over the hand layer: values as data trees, a base of what is known and does not change. -/
namespace D8
open PySem PySem.Spec PyProof.Rows L2

/-! ### the base B of unchanging objects within the heap H -/
structure Grow (B H B' H' : Hp) : Prop where
  b : Same B B'
  h : Same H H'
  i : Same B' H'
  k : ∀ a, H a ≠ none → B' a = B a
theorem Grow.refl {B H : Hp} (s : Same B H) : Grow B H B H := ⟨Same.refl _, Same.refl _, s, fun _ _ => rfl⟩
theorem Grow.trans {B H B1 H1 B2 H2 : Hp} (g : Grow B H B1 H1) (g2 : Grow B1 H1 B2 H2) : Grow B H B2 H2 :=
  ⟨g.b.trans g2.b, g.h.trans g2.h, g2.i, fun a ha => by
    have h1 : H1 a ≠ none := fun z => by
      cases e : H a with
      | none => exact ha e
      | some o => rw [g.h a o e] at z; cases z
    rw [g2.k a h1, g.k a ha]⟩
theorem base_none {B H : Hp} (s : Same B H) {p : Addr} (h : H p = none) : B p = none := s.free h
theorem Grow.new {B H : Hp} {p : Addr} {o : HO} (s : Same B H) (h : H p = none) : Grow B H (upd B p o) (upd H p o) where
  b := fun a u e => by rw [upd_ne (ne_of_none e (base_none s h))]; exact e
  h := fun a u e => by rw [upd_ne (ne_of_none e h)]; exact e
  i := fun a u e => by
    by_cases q : a = p
    · subst q; rw [upd_same] at e ⊢; exact e
    · rw [upd_ne q] at e ⊢; exact s a u e
  k := fun a ha => by
    have q : a ≠ p := fun z => ha (by rw [z]; exact h)
    rw [upd_ne q]
/-- the base may be made larger beforehand -/
theorem Grow.over {B H B1 H1 C : Hp} (g : Grow B H B1 H1) (s : Same B C) (t : Same C H) : ∃ C1, Grow C H C1 H1 ∧ Same B1 C1 := by
  refine ⟨fun a => match C a with | some o => some o | none => B1 a, ⟨fun a o e => ?_, g.h, fun a o e => ?_, fun a ha => ?_⟩, fun a o e => ?_⟩
  · show (match C a with | some o => some o | none => B1 a) = some o
    rw [e]
  · have e' : (match C a with | some o => some o | none => B1 a) = some o := e
    cases q : C a with
    | some o' => rw [q] at e'; cases e'; exact g.h _ _ (t _ _ q)
    | none => rw [q] at e'; exact g.i _ _ e'
  · show (match C a with | some o => some o | none => B1 a) = C a
    cases q : C a with
    | some o' => rfl
    | none =>
      show B1 a = none
      rw [g.k a ha]
      cases r : B a with
      | none => rfl
      | some o => rw [s _ _ r] at q; cases q
  · show (match C a with | some o => some o | none => B1 a) = some o
    cases q : C a with
    | none => exact e
    | some o' =>
      show some o' = some o
      have h1 : H a ≠ none := fun z => by rw [t _ _ q] at z; cases z
      have h2 := g.k a h1
      rw [e] at h2
      have h3 := s _ _ h2.symm
      rw [q] at h3
      exact h3
/-- a thing that is not in the base may change -/
theorem same_mut {B H : Hp} {p : Addr} {o : HO} (s : Same B H) (h : B p = none) : Same B (upd H p o) := fun a u e => by
  rw [upd_ne (ne_of_none e h)]; exact s a u e
theorem Grow.none {B H B' H' : Hp} (g : Grow B H B' H') {p : Addr} {o : HO} (hb : B p = none) (h : H p = some o) : B' p = none := by
  rw [g.k p (by rw [h]; exact Option.some_ne_none o)]; exact hb

/-! ### data in the base -/
mutual
def DD (H : Hp) : PyData → V → Prop
  | .none, v => v = .non
  | .bool b, v => v = .bl b
  | .int i, v => v = .int i
  | .str s, v => v = .str s
  | .list ds, v => ∃ a xs, v = .ref a ∧ H a = some (.lst xs) ∧ DDs H ds xs
  | .tuple ds, v => ∃ a xs, v = .ref a ∧ H a = some (.tup xs) ∧ DDs H ds xs
  | .dict _, _ => False
def DDs (H : Hp) : List PyData → List V → Prop
  | [], xs => xs = []
  | d :: ds, xs => ∃ v r, xs = v :: r ∧ DD H d v ∧ DDs H ds r
end
mutual
theorem DD.mono {H H' : Hp} (s : Same H H') : ∀ {d : PyData} {v : V}, DD H d v → DD H' d v
  | .none, _, h => h
  | .bool _, _, h => h
  | .int _, _, h => h
  | .str _, _, h => h
  | .list ds, _, ⟨a, xs, e, h, q⟩ => ⟨a, xs, e, s _ _ h, DDs.mono s q⟩
  | .tuple ds, _, ⟨a, xs, e, h, q⟩ => ⟨a, xs, e, s _ _ h, DDs.mono s q⟩
  | .dict _, _, h => h
theorem DDs.mono {H H' : Hp} (s : Same H H') : ∀ {ds : List PyData} {xs : List V}, DDs H ds xs → DDs H' ds xs
  | [], _, h => h
  | _ :: _, _, ⟨v, r, e, h, q⟩ => ⟨v, r, e, DD.mono s h, DDs.mono s q⟩
end
theorem DDs.nil {H : Hp} : DDs H [] [] := rfl
theorem DDs.cons {H : Hp} {d : PyData} {ds : List PyData} {v : V} {xs : List V} (h : DD H d v) (q : DDs H ds xs) : DDs H (d :: ds) (v :: xs) := ⟨v, xs, rfl, h, q⟩
theorem DDs.one {H : Hp} {d : PyData} {v : V} (h : DD H d v) : DDs H [d] [v] := .cons h .nil
theorem DDs.length {H : Hp} : ∀ {ds : List PyData} {xs : List V}, DDs H ds xs → xs.length = ds.length
  | [], _, h => by cases h; rfl
  | d :: ds, _, ⟨v, r, e, h, q⟩ => by subst e; simp [DDs.length q]
theorem DDs.get {H : Hp} : ∀ {ds : List PyData} {xs : List V} {i : Nat} {d : PyData}, DDs H ds xs → ds[i]? = some d → ∃ v, xs[i]? = some v ∧ DD H d v
  | [], _, _, _, _, e => by simp at e
  | d :: ds, _, 0, d', ⟨v, r, e, h, q⟩, z => by subst e; simp at z; subst z; exact ⟨v, rfl, h⟩
  | d :: ds, _, i + 1, d', ⟨v, r, e, h, q⟩, z => by
    subst e
    obtain ⟨u, h1, h2⟩ := DDs.get (i := i) q (by simpa using z)
    exact ⟨u, by simpa using h1, h2⟩
theorem DDs.getV {H : Hp} {ds : List PyData} {xs : List V} {i : Nat} {v : V} (q : DDs H ds xs) (e : xs[i]? = some v) : ∃ d, ds[i]? = some d ∧ DD H d v := by
  have hl : i < ds.length := by rw [← q.length]; exact (List.getElem?_eq_some_iff.mp e).1
  obtain ⟨u, h1, h2⟩ := q.get (List.getElem?_eq_getElem hl)
  rw [e] at h1
  cases h1
  exact ⟨_, List.getElem?_eq_getElem hl, h2⟩
theorem DDs.append {H : Hp} : ∀ {ds es : List PyData} {xs ys : List V}, DDs H ds xs → DDs H es ys → DDs H (ds ++ es) (xs ++ ys)
  | [], _, _, _, h, q => by cases h; exact q
  | d :: ds, _, _, _, ⟨v, r, e, h, p⟩, q => by subst e; exact .cons h (DDs.append p q)
theorem DDs.take {H : Hp} : ∀ (n : Nat) {ds : List PyData} {xs : List V}, DDs H ds xs → DDs H (ds.take n) (xs.take n)
  | 0, _, _, _ => rfl
  | n + 1, [], _, h => by cases h; rfl
  | n + 1, d :: ds, _, ⟨v, r, e, h, q⟩ => by subst e; exact .cons h (DDs.take n q)
theorem DDs.drop {H : Hp} : ∀ (n : Nat) {ds : List PyData} {xs : List V}, DDs H ds xs → DDs H (ds.drop n) (xs.drop n)
  | 0, _, _, h => h
  | n + 1, [], _, h => by cases h; rfl
  | n + 1, d :: ds, _, ⟨v, r, e, h, q⟩ => by subst e; exact DDs.drop n q
theorem DDs.atI {H : Hp} {ds : List PyData} {xs : List V} {i : Int} {d : PyData} (q : DDs H ds xs) (e : L2.atI ds i = some d) : ∃ v, L2.atI xs i = some v ∧ DD H d v := by
  unfold L2.atI at e ⊢
  rw [q.length]
  cases z : ixN ds.length i with
  | none => rw [z] at e; cases e
  | some j =>
    rw [z] at e
    exact q.get e
abbrev iL (ns : List Int) : List PyData := ns.map .int
theorem DDs.toI {H : Hp} : ∀ {ns : List Int} {xs : List V}, DDs H (D8.iL ns) xs → xs = ns.map V.int
  | [], _, h => h
  | n :: ns, _, ⟨v, r, e, h, q⟩ => by
    subst e
    have h' : v = .int n := h
    rw [h', DDs.toI q]
    rfl
theorem DDs.of_iL {H : Hp} : ∀ (ns : List Int), DDs H (D8.iL ns) (ns.map V.int)
  | [] => rfl
  | n :: ns => .cons rfl (DDs.of_iL ns)
theorem DDs.bools {H : Hp} : ∀ {bs : List Bool} {xs : List V}, DDs H (bs.map .bool) xs → xs = bs.map V.bl
  | [], _, h => h
  | n :: ns, _, ⟨v, r, e, h, q⟩ => by
    subst e
    have h' : v = .bl n := h
    rw [h', DDs.bools q]
    rfl
mutual
theorem DD.dp {K : PySem.W.Frag} {H : Hp} : ∀ {d : PyData} {v : V}, DD H d v → Dp K H v d
  | .none, _, h => by cases h; exact .non
  | .bool _, _, h => by cases h; exact .bl _
  | .int _, _, h => by cases h; exact .int _
  | .str _, _, h => by cases h; exact .str _
  | .list ds, _, ⟨a, xs, e, h, q⟩ => by subst e; exact .lst (.inl (.inl h)) (DDs.dp q)
  | .tuple ds, _, ⟨a, xs, e, h, q⟩ => by subst e; exact .tup (.inl (.inl h)) (DDs.dp q)
  | .dict _, _, h => h.elim
theorem DDs.dp {K : PySem.W.Frag} {H : Hp} : ∀ {ds : List PyData} {xs : List V}, DDs H ds xs → DpAll K H xs ds
  | [], _, h => by cases h; exact .nil
  | _ :: _, _, ⟨v, r, e, h, q⟩ => by subst e; exact .cons (DD.dp h) (DDs.dp q)
end
theorem sql {K : PySem.W.Frag} {H : Hp} {a : Addr} {xs : List V} (h : H a = some (.lst xs)) : SqL K H a xs := .inl (.inl h)
theorem sqt {K : PySem.W.Frag} {H : Hp} {a : Addr} {xs : List V} (h : H a = some (.tup xs)) : SqT K H a xs := .inl (.inl h)

/-! ### expressions that evaluate to data -/
def EvD (te : TE) (σ : L2.St) (B : Hp) (d : PyData) : Prop := ∀ H, Same B H → ∀ Q : VK, (∀ v B' H', Grow B H B' H' → DD B' d v → Q v H') → te σ H Q
def EvT (tt : TT) (σ : L2.St) (B : Hp) (b : Bool) : Prop := ∀ H, Same B H → ∀ Q : Bool → Hp → Prop, (∀ B' H', Grow B H B' H' → Q b H') → tt σ H Q
def EvA (ta : TA) (σ : L2.St) (B : Hp) (ds : List PyData) : Prop := ∀ H, Same B H → ∀ Q : List V → Hp → Prop, (∀ vs B' H', Grow B H B' H' → DDs B' ds vs → Q vs H') → ta σ H Q
/-- a value operation -/
def Rv (r : Hp → VK → Prop) (B : Hp) (d : PyData) : Prop := ∀ H, Same B H → ∀ Q : VK, (∀ v B' H', Grow B H B' H' → DD B' d v → Q v H') → r H Q
section
variable {σ : L2.St} {B B' H : Hp} {ta tb te : TE} {d x y z : PyData} {tt tu : TT}
theorem EvD.mono (h : EvD te σ B d) (s : Same B B') : EvD te σ B' d := fun H t Q q =>
  h H (s.trans t) Q fun v B1 H1 g hd => by
    obtain ⟨C1, g1, s1⟩ := g.over s t
    exact q v C1 H1 g1 (hd.mono s1)
theorem EvT.mono {b : Bool} (h : EvT tt σ B b) (s : Same B B') : EvT tt σ B' b := fun H t Q q =>
  h H (s.trans t) Q fun B1 H1 g => by
    obtain ⟨C1, g1, s1⟩ := g.over s t
    exact q C1 H1 g1
theorem EvA.mono {ta : TA} {ds : List PyData} (h : EvA ta σ B ds) (s : Same B B') : EvA ta σ B' ds := fun H t Q q =>
  h H (s.trans t) Q fun v B1 H1 g hd => by
    obtain ⟨C1, g1, s1⟩ := g.over s t
    exact q v C1 H1 g1 (hd.mono s1)
theorem evd_var {i : Nat} {v : V} (h : σ[i]? = some (some v)) (hd : DD B d v) : EvD (tVar i) σ B d := fun H s Q q => ⟨v, h, q v B H (Grow.refl s) hd⟩
theorem evd_c {v : V} (hd : DD B d v) : EvD (tC v) σ B d := fun H s Q q => q v B H (Grow.refl s) hd
theorem evd_int {n : Int} : EvD (tC (.int n)) σ B (.int n) := evd_c rfl
theorem evd_bl {b : Bool} : EvD (tC (.bl b)) σ B (.bool b) := evd_c rfl
theorem evd_str {b : Str} : EvD (tC (.str b)) σ B (.str b) := evd_c rfl
theorem evd_op {r : R2} (ha : EvD ta σ B x) (hb : EvD tb σ B y) (hr : ∀ v w B', Same B B' → DD B' x v → DD B' y w → Rv (r v w) B' z) : EvD (tOp r ta tb) σ B z := fun H s Q q =>
  ha H s _ fun v B1 H1 g1 d1 => (hb.mono g1.b) H1 g1.i _ fun w B2 H2 g2 d2 => hr v w B2 (g1.b.trans g2.b) (d1.mono g2.b) d2 H2 g2.i Q fun u B3 H3 g3 d3 => q u B3 H3 ((g1.trans g2).trans g3) d3
theorem evd_I0 {g : Int → Int → V} {i j : Int} (ha : EvD ta σ B (.int i)) (hb : EvD tb σ B (.int j)) (hz : DD (fun _ => none) z (g i j)) : EvD (tOp (rI0 g) ta tb) σ B z :=
  evd_op ha hb fun v w B' s dv dw H t Q q => ⟨i, j, dv, dw, q _ B' H (Grow.refl t) (hz.mono (H := fun _ => none) (fun _ _ e => by cases e))⟩
theorem evd_I {C : Int → Int → Prop} {g : Int → Int → V} {i j : Int} (ha : EvD ta σ B (.int i)) (hb : EvD tb σ B (.int j)) (hc : C i j) (hz : DD (fun _ => none) z (g i j)) : EvD (tOp (rI C g) ta tb) σ B z :=
  evd_op ha hb fun v w B' s dv dw H t Q q => ⟨i, j, dv, dw, hc, q _ B' H (Grow.refl t) (hz.mono (H := fun _ => none) (fun _ _ e => by cases e))⟩
theorem evd_add {i j : Int} (ha : EvD ta σ B (.int i)) (hb : EvD tb σ B (.int j)) : EvD (tOp (rI0 fun i j => .int (i + j)) ta tb) σ B (.int (i + j)) := evd_I0 ha hb rfl
theorem evd_sub {i j : Int} (ha : EvD ta σ B (.int i)) (hb : EvD tb σ B (.int j)) : EvD (tOp (rI0 fun i j => .int (i - j)) ta tb) σ B (.int (i - j)) := evd_I0 ha hb rfl
theorem evd_mul {i j : Int} (ha : EvD ta σ B (.int i)) (hb : EvD tb σ B (.int j)) (hc : CMul i j) : EvD (tOp (rI CMul fun i j => .int (i * j)) ta tb) σ B (.int (i * j)) := evd_I ha hb hc rfl
theorem evd_un {r : V → Hp → VK → Prop} (ha : EvD ta σ B x) (hr : ∀ v B', Same B B' → DD B' x v → Rv (r v) B' z) : EvD (tUn r ta) σ B z := fun H s Q q =>
  ha H s _ fun v B1 H1 g1 d1 => hr v B1 g1.b d1 H1 g1.i Q fun u B3 H3 g3 d3 => q u B3 H3 (g1.trans g3) d3
theorem evd_neg {i : Int} (ha : EvD ta σ B (.int i)) : EvD (tUn (rU fun i => .int (-i)) ta) σ B (.int (-i)) :=
  evd_un ha fun v B' s dv H t Q q => ⟨i, dv, q _ B' H (Grow.refl t) rfl⟩
theorem evd_eqI {i j : Int} (ha : EvD ta σ B (.int i)) (hb : EvD tb σ B (.int j)) : EvD (tOp rEq ta tb) σ B (.bool (decide (i = j))) :=
  evd_op ha hb fun v w B' s dv dw H t Q q => by
    cases dv; cases dw
    exact ⟨rfl, q _ B' H (Grow.refl t) (by show V.bl _ = V.bl _; congr 1; simp)⟩
theorem evd_neI {i j : Int} (ha : EvD ta σ B (.int i)) (hb : EvD tb σ B (.int j)) : EvD (tOp rNe ta tb) σ B (.bool (!decide (i = j))) :=
  evd_op ha hb fun v w B' s dv dw H t Q q => by
    cases dv; cases dw
    exact ⟨rfl, q _ B' H (Grow.refl t) (by show V.bl _ = V.bl _; congr 1; simp)⟩
theorem evd_ixL {K : PySem.W.Frag} {ds : List PyData} {i : Int} (ha : EvD ta σ B (.list ds)) (hb : EvD tb σ B (.int i)) (he : atI ds i = some d) : EvD (tOp (rIxL K) ta tb) σ B d :=
  evd_op ha hb fun v w B' s dv dw H t Q q => by
    obtain ⟨a, xs, e, h, p⟩ := dv
    obtain ⟨u, e1, e2⟩ := p.atI he
    exact ⟨a, xs, i, u, e, dw, sql (t _ _ h), e1, q u B' H (Grow.refl t) e2⟩
theorem evd_ixT {K : PySem.W.Frag} {ds : List PyData} {i : Int} (ha : EvD ta σ B (.tuple ds)) (hb : EvD tb σ B (.int i)) (he : atI ds i = some d) : EvD (tOp (rIxT K) ta tb) σ B d :=
  evd_op ha hb fun v w B' s dv dw H t Q q => by
    obtain ⟨a, xs, e, h, p⟩ := dv
    obtain ⟨u, e1, e2⟩ := p.atI he
    exact ⟨a, xs, i, u, e, dw, sqt (t _ _ h), e1, q u B' H (Grow.refl t) e2⟩
theorem evd_cat {ds es : List PyData} (ha : EvD ta σ B (.list ds)) (hb : EvD tb σ B (.list es)) (hl : ds.length + es.length ≤ sizeLine) : EvD (tOp rCat ta tb) σ B (.list (ds ++ es)) :=
  evd_op ha hb fun v w B' s dv dw H t Q q => by
    obtain ⟨a, xs, e, h, p⟩ := dv
    obtain ⟨b, ys, e', h', p'⟩ := dw
    exact ⟨a, b, xs, ys, e, e', t _ _ h, t _ _ h', by rw [p.length, p'.length]; exact hl, fun l hl => q _ _ _ (Grow.new t hl) ⟨l, _, rfl, upd_same, (p.append p').mono (Grow.new t hl).b⟩⟩
theorem evd_catA {K : PySem.W.Frag} {ds es : List PyData} (ha : EvD ta σ B (.tuple ds)) (hb : EvD tb σ B (.tuple es)) (hl : ds.length + es.length ≤ sizeLine) : EvD (tOp (rCatA K) ta tb) σ B (.tuple (ds ++ es)) :=
  evd_op ha hb fun v w B' s dv dw H t Q q => by
    obtain ⟨a, xs, e, h, p⟩ := dv
    obtain ⟨b, ys, e', h', p'⟩ := dw
    refine ⟨a, b, xs, ys, e, e', sqt (t _ _ h), sqt (t _ _ h'), by rw [p.length, p'.length]; exact hl, fun z => ?_, fun _ z => ?_, fun _ _ l hl => ?_⟩
    · have e0 : ds = [] := List.length_eq_zero_iff.mp (by rw [← p.length, z]; rfl)
      subst e0
      exact q _ _ _ (Grow.refl t) ⟨b, ys, rfl, h', p'⟩
    · have e0 : es = [] := List.length_eq_zero_iff.mp (by rw [← p'.length, z]; rfl)
      subst e0
      exact q _ _ _ (Grow.refl t) ⟨a, xs, rfl, h, by rw [List.append_nil]; exact p⟩
    · exact q _ _ _ (Grow.new t hl) ⟨l, _, rfl, upd_same, (p.append p').mono (Grow.new t hl).b⟩
theorem ddrep {n : Nat} {ds : List PyData} {xs : List V} (p : DDs B ds xs) : DDs B (List.replicate n ds).flatten (List.replicate n xs).flatten := by
  induction n with
  | zero => rfl
  | succ n ih => rw [List.replicate_succ, List.replicate_succ, List.flatten_cons, List.flatten_cons]; exact p.append ih
theorem evd_rep {ds : List PyData} {k : Int} (ha : EvD ta σ B (.list ds)) (hb : EvD tb σ B (.int k)) (h1 : -(2 ^ 63) ≤ k) (h2 : k < 2 ^ 63) (hl : ds.length * k.toNat ≤ sizeLine) : EvD (tOp rRep ta tb) σ B (.list (List.replicate k.toNat ds).flatten) :=
  evd_op ha hb fun v w B' s dv dw H t Q q => by
    obtain ⟨a, xs, e, h, p⟩ := dv
    exact ⟨a, k, xs, e, dw, t _ _ h, h1, h2, by rw [p.length]; exact hl, fun l hl => q _ _ _ (Grow.new t hl) ⟨l, _, rfl, upd_same, (ddrep p).mono (Grow.new t hl).b⟩⟩
/-! arguments, displays, calls of built-ins -/
theorem eva_nil : EvA tNil σ B [] := fun H s Q q => q _ B H (Grow.refl s) rfl
theorem eva_cons {tr : TA} {ds : List PyData} (ha : EvD ta σ B d) (hr : EvA tr σ B ds) : EvA (tCons ta tr) σ B (d :: ds) := fun H s Q q =>
  ha H s _ fun v B1 H1 g1 d1 => (hr.mono g1.b) H1 g1.i _ fun vs B2 H2 g2 d2 => q _ B2 H2 (g1.trans g2) (.cons (d1.mono g2.b) d2)
theorem evd_tup {t : TA} {ds : List PyData} (ha : EvA t σ B ds) (hl : ds.length ≤ sizeLine) : EvD (tTup t) σ B (.tuple ds) := fun H s Q q =>
  ha H s _ fun vs B1 H1 g1 d1 => ⟨by rw [d1.length]; exact hl, fun p hp => q _ _ _ (g1.trans (Grow.new g1.i hp)) ⟨p, _, rfl, upd_same, d1.mono (Grow.new g1.i hp).b⟩⟩
theorem evd_lst {t : TA} {ds : List PyData} (ha : EvA t σ B ds) (hl : ds.length ≤ sizeLine) : EvD (tLst t) σ B (.list ds) := fun H s Q q =>
  ha H s _ fun vs B1 H1 g1 d1 => ⟨by rw [d1.length]; exact hl, fun p hp => q _ _ _ (g1.trans (Grow.new g1.i hp)) ⟨p, _, rfl, upd_same, d1.mono (Grow.new g1.i hp).b⟩⟩
theorem evd_cb {r : List V → Hp → VK → Prop} {t : TA} {ds : List PyData} (ha : EvA t σ B ds) (hr : ∀ vs B', Same B B' → DDs B' ds vs → Rv (r vs) B' z) : EvD (tCB r t) σ B z := fun H s Q q =>
  ha H s _ fun vs B1 H1 g1 d1 => hr vs B1 g1.b d1 H1 g1.i Q fun u B3 H3 g3 d3 => q u B3 H3 (g1.trans g3) d3
theorem evd_lenL {K : PySem.W.Frag} {ds : List PyData} (ha : EvD ta σ B (.list ds)) : EvD (tCB (fun xs H Q => ∃ p ys, xs = [.ref p] ∧ (SqL K H p ys ∨ SqT K H p ys) ∧ Q (.int ys.length) H) (tCons ta tNil)) σ B (.int ds.length) :=
  evd_cb (eva_cons ha eva_nil) fun vs B' s dv H t Q q => by
    obtain ⟨_, _, rfl, ⟨a, xs, rfl, h, p⟩, rfl⟩ := dv
    exact ⟨a, xs, rfl, .inl (sql (t _ _ h)), q _ _ _ (Grow.refl t) (by rw [p.length]; rfl)⟩
theorem evd_lenT {K : PySem.W.Frag} {ds : List PyData} (ha : EvD ta σ B (.tuple ds)) : EvD (tCB (fun xs H Q => ∃ p ys, xs = [.ref p] ∧ (SqL K H p ys ∨ SqT K H p ys) ∧ Q (.int ys.length) H) (tCons ta tNil)) σ B (.int ds.length) :=
  evd_cb (eva_cons ha eva_nil) fun vs B' s dv H t Q q => by
    obtain ⟨_, _, rfl, ⟨a, xs, rfl, h, p⟩, rfl⟩ := dv
    exact ⟨a, xs, rfl, .inr (sqt (t _ _ h)), q _ _ _ (Grow.refl t) (by rw [p.length]; rfl)⟩
theorem evd_listL {K : PySem.W.Frag} {ds : List PyData} (ha : EvD ta σ B (.list ds)) : EvD (tCB (fun xs H Q => ∃ p ys, xs = [.ref p] ∧ (SqL K H p ys ∨ SqT K H p ys) ∧ ∀ l, H l = none → Q (.ref l) (upd H l (.lst ys))) (tCons ta tNil)) σ B (.list ds) :=
  evd_cb (eva_cons ha eva_nil) fun vs B' s dv H t Q q => by
    obtain ⟨_, _, rfl, ⟨a, xs, rfl, h, p⟩, rfl⟩ := dv
    exact ⟨a, xs, rfl, .inl (sql (t _ _ h)), fun l hl => q _ _ _ (Grow.new t hl) ⟨l, _, rfl, upd_same, p.mono (Grow.new t hl).b⟩⟩
theorem evd_listT {K : PySem.W.Frag} {ds : List PyData} (ha : EvD ta σ B (.tuple ds)) : EvD (tCB (fun xs H Q => ∃ p ys, xs = [.ref p] ∧ (SqL K H p ys ∨ SqT K H p ys) ∧ ∀ l, H l = none → Q (.ref l) (upd H l (.lst ys))) (tCons ta tNil)) σ B (.list ds) :=
  evd_cb (eva_cons ha eva_nil) fun vs B' s dv H t Q q => by
    obtain ⟨_, _, rfl, ⟨a, xs, rfl, h, p⟩, rfl⟩ := dv
    exact ⟨a, xs, rfl, .inr (sqt (t _ _ h)), fun l hl => q _ _ _ (Grow.new t hl) ⟨l, _, rfl, upd_same, p.mono (Grow.new t hl).b⟩⟩
theorem evd_tupleL {K : PySem.W.Frag} {ds : List PyData} (ha : EvD ta σ B (.list ds)) : EvD (tCB (fun xs H Q => ∃ p ys, xs = [.ref p] ∧ ((SqL K H p ys ∧ ∀ l, H l = none → Q (.ref l) (upd H l (.tup ys))) ∨ (SqT K H p ys ∧ Q (.ref p) H))) (tCons ta tNil)) σ B (.tuple ds) :=
  evd_cb (eva_cons ha eva_nil) fun vs B' s dv H t Q q => by
    obtain ⟨_, _, rfl, ⟨a, xs, rfl, h, p⟩, rfl⟩ := dv
    exact ⟨a, xs, rfl, .inl ⟨sql (t _ _ h), fun l hl => q _ _ _ (Grow.new t hl) ⟨l, _, rfl, upd_same, p.mono (Grow.new t hl).b⟩⟩⟩
theorem evd_sum {K : PySem.W.Frag} {ns : List Int} (ha : EvD ta σ B (.list (iL ns))) : EvD (tCB (rSum K) (tCons ta tNil)) σ B (.int ns.sum) :=
  evd_cb (eva_cons ha eva_nil) fun vs B' s dv H t Q q => by
    obtain ⟨_, _, rfl, ⟨a, xs, rfl, h, p⟩, rfl⟩ := dv
    have e := p.toI
    subst e
    exact ⟨a, ns, rfl, sql (t _ _ h), q _ _ _ (Grow.refl t) rfl⟩
theorem evd_any {K : PySem.W.Frag} {bs : List Bool} (ha : EvD ta σ B (.list (bs.map .bool))) : EvD (tCB (rAny K) (tCons ta tNil)) σ B (.bool (bs.any id)) :=
  evd_cb (eva_cons ha eva_nil) fun vs B' s dv H t Q q => by
    obtain ⟨_, _, rfl, ⟨a, xs, rfl, h, p⟩, rfl⟩ := dv
    have e := p.bools
    subst e
    exact ⟨a, bs, rfl, sql (t _ _ h), q _ _ _ (Grow.refl t) rfl⟩
theorem evd_abs {i : Int} (ha : EvD ta σ B (.int i)) : EvD (tCB (fun xs H Q => ∃ i, xs = [.int i] ∧ Q (.int (if i < 0 then -i else i)) H) (tCons ta tNil)) σ B (.int i.natAbs) :=
  evd_cb (eva_cons ha eva_nil) fun vs B' s dv H t Q q => by
    obtain ⟨_, _, rfl, rfl, rfl⟩ := dv
    exact ⟨i, rfl, q _ _ _ (Grow.refl t) (by show V.int _ = V.int _; congr 1; split <;> omega)⟩
theorem evd_int1 {i : Int} (ha : EvD ta σ B (.int i)) : EvD (tCB (fun xs H Q => (∃ i, xs = [.int i] ∧ Q (.int i) H) ∨ ∃ k, xs = [.bl k] ∧ Q (.int (if k then 1 else 0)) H) (tCons ta tNil)) σ B (.int i) :=
  evd_cb (eva_cons ha eva_nil) fun vs B' s dv H t Q q => by
    obtain ⟨_, _, rfl, rfl, rfl⟩ := dv
    exact .inl ⟨i, rfl, q _ _ _ (Grow.refl t) rfl⟩
theorem evd_intB {b : Bool} (ha : EvD ta σ B (.bool b)) : EvD (tCB (fun xs H Q => (∃ i, xs = [.int i] ∧ Q (.int i) H) ∨ ∃ k, xs = [.bl k] ∧ Q (.int (if k then 1 else 0)) H) (tCons ta tNil)) σ B (.int (if b then 1 else 0)) :=
  evd_cb (eva_cons ha eva_nil) fun vs B' s dv H t Q q => by
    obtain ⟨_, _, rfl, rfl, rfl⟩ := dv
    exact .inr ⟨b, rfl, q _ _ _ (Grow.refl t) rfl⟩
theorem evd_min2 {i j : Int} (ha : EvD ta σ B (.int i)) (hb : EvD tb σ B (.int j)) : EvD (tCB (fun xs H Q => ∃ i j, xs = [.int i, .int j] ∧ Q (.int (if j < i then j else i)) H) (tCons ta (tCons tb tNil))) σ B (.int (min i j)) :=
  evd_cb (eva_cons ha (eva_cons hb eva_nil)) fun vs B' s dv H t Q q => by
    obtain ⟨_, _, rfl, rfl, _, _, rfl, rfl, rfl⟩ := dv
    exact ⟨i, j, rfl, q _ _ _ (Grow.refl t) (by show V.int _ = V.int _; congr 1; split <;> omega)⟩
theorem evd_max2 {i j : Int} (ha : EvD ta σ B (.int i)) (hb : EvD tb σ B (.int j)) : EvD (tCB (fun xs H Q => ∃ i j, xs = [.int i, .int j] ∧ Q (.int (if j > i then j else i)) H) (tCons ta (tCons tb tNil))) σ B (.int (max i j)) :=
  evd_cb (eva_cons ha (eva_cons hb eva_nil)) fun vs B' s dv H t Q q => by
    obtain ⟨_, _, rfl, rfl, _, _, rfl, rfl, rfl⟩ := dv
    exact ⟨i, j, rfl, q _ _ _ (Grow.refl t) (by show V.int _ = V.int _; congr 1; split <;> omega)⟩
end
end D8

/-! The data layer, further: slices, walks, comprehensions, loops, tests, calls. -/
namespace D8
open PySem PySem.Spec PyProof.Rows L2

section
variable {σ : L2.St} {B B' H : Hp} {ta tb te : TE} {d x y z : PyData} {tt tu : TT}
/-! ### slices -/
def EvO (to : TO) (σ : L2.St) (B : Hp) (o : Option Int) : Prop := ∀ H, Same B H → ∀ Q : Option Int → Hp → Prop, (∀ B' H', Grow B H B' H' → Q o H') → to σ H Q
theorem EvO.mono {to : TO} {o : Option Int} (h : EvO to σ B o) (s : Same B B') : EvO to σ B' o := fun H t Q q =>
  h H (s.trans t) Q fun B1 H1 g => by
    obtain ⟨C1, g1, s1⟩ := g.over s t
    exact q C1 H1 g1
theorem evo_none : EvO tNoPart σ B none := fun H s Q q => q B H (Grow.refl s)
theorem evo_some {i : Int} (h : EvD ta σ B (.int i)) : EvO (tPart ta) σ B (some i) := fun H s Q q => h H s _ fun v B' H' g e => ⟨i, e, q B' H' g⟩
def cutP (ds : List PyData) (lo hi : Option Int) : List PyData := (ds.drop (HT.sIx ds.length 0 lo)).take (HT.sIx ds.length ds.length hi - HT.sIx ds.length 0 lo)
theorem DDs.cut {ds : List PyData} {xs : List V} (h : DDs B ds xs) (lo hi : Option Int) : DDs B (cutP ds lo hi) (cutV xs lo hi) := by
  unfold cutP cutV
  rw [h.length]
  exact (h.drop _).take _
theorem evd_slL {K : PySem.W.Frag} {tl th : TO} {ds : List PyData} {lo hi : Option Int} (ha : EvD ta σ B (.list ds)) (hl : EvO tl σ B lo) (hh : EvO th σ B hi) : EvD (tSl (rSlL K) ta tl th) σ B (.list (cutP ds lo hi)) := fun H s Q q =>
  ha H s _ fun v B1 H1 g1 d1 => (hl.mono g1.b) H1 g1.i _ fun B2 H2 g2 => (hh.mono (g1.b.trans g2.b)) H2 g2.i _ fun B3 H3 g3 => by
    obtain ⟨a, xs, e, h, p⟩ := d1
    have g := (g1.trans g2).trans g3
    exact ⟨a, xs, e, sql (g3.i _ _ (g3.b _ _ (g2.b _ _ h))), fun l hl => q _ _ _ (g.trans (Grow.new g3.i hl)) ⟨l, _, rfl, upd_same, ((p.mono (g2.b.trans g3.b)).cut lo hi).mono (Grow.new g3.i hl).b⟩⟩
theorem cutV_all {xs : List V} {lo hi : Option Int} (h : HT.sIx xs.length 0 lo = 0 ∧ HT.sIx xs.length xs.length hi = xs.length) : cutV xs lo hi = xs := by
  unfold cutV
  rw [h.1, h.2]
  simp
theorem evd_slA {K : PySem.W.Frag} {tl th : TO} {ds : List PyData} {lo hi : Option Int} (ha : EvD ta σ B (.tuple ds)) (hl : EvO tl σ B lo) (hh : EvO th σ B hi) : EvD (tSl (rSlA K) ta tl th) σ B (.tuple (cutP ds lo hi)) := fun H s Q q =>
  ha H s _ fun v B1 H1 g1 d1 => (hl.mono g1.b) H1 g1.i _ fun B2 H2 g2 => (hh.mono (g1.b.trans g2.b)) H2 g2.i _ fun B3 H3 g3 => by
    obtain ⟨a, xs, e, h, p⟩ := d1
    have g := (g1.trans g2).trans g3
    have h3 := g3.b _ _ (g2.b _ _ h)
    have p3 := (p.mono (g2.b.trans g3.b)).cut lo hi
    refine ⟨a, xs, e, sqt (g3.i _ _ h3), fun z => ?_, fun _ l hl => ?_⟩
    · rw [cutV_all z] at p3
      exact q _ _ _ g ⟨a, xs, rfl, h3, p3⟩
    · exact q _ _ _ (g.trans (Grow.new g3.i hl)) ⟨l, _, rfl, upd_same, p3.mono (Grow.new g3.i hl).b⟩

/-! ### tests -/
theorem evt_test {b : Bool} (h : EvD te σ B (.bool b)) : EvT (tTest te) σ B b := fun H s Q q => h H s _ fun v B' H' g e => ⟨b, e, q B' H' g⟩
theorem evt_B {b : Bool} (h : EvD te σ B (.bool b)) : EvT (tB te) σ B b := fun H s Q q => h H s _ fun v B' H' g e => ⟨b, e, q B' H' g⟩
theorem evt_not {b : Bool} (h : EvT tt σ B b) : EvT (tNot tt) σ B (!b) := fun H s Q q => h H s _ q
theorem evt_and {a b : Bool} (h : EvT tt σ B a) (h2 : a = true → EvT tu σ B b) : EvT (tAnd tt tu) σ B (a && b) := fun H s Q q => h H s _ fun B1 H1 g => by
  cases a with
  | true => exact (if_pos rfl).mpr (((h2 rfl).mono g.b) H1 g.i Q fun B2 H2 g2 => q B2 H2 (g.trans g2))
  | false => exact q B1 H1 g
theorem evt_or {a b : Bool} (h : EvT tt σ B a) (h2 : a = false → EvT tu σ B b) : EvT (tOr tt tu) σ B (a || b) := fun H s Q q => h H s _ fun B1 H1 g => by
  cases a with
  | false => exact ((h2 rfl).mono g.b) H1 g.i Q fun B2 H2 g2 => q B2 H2 (g.trans g2)
  | true => exact (if_pos rfl).mpr (q B1 H1 g)
theorem evt_truthL {K : PySem.W.Frag} {ds : List PyData} (h : EvD te σ B (.list ds)) : EvT (fun σ H Q => te σ H fun x H' => ∃ k, TruV K x H' k ∧ Q k H') σ B (!ds.isEmpty) := fun H s Q q => h H s _ fun v B' H' g e => by
  obtain ⟨a, xs, rfl, h1, p⟩ := e
  have e0 : xs.isEmpty = ds.isEmpty := by
    have := p.length
    cases xs <;> cases ds <;> simp_all
  exact ⟨!ds.isEmpty, Or.inl ⟨xs, sql (g.i _ _ h1), by rw [e0]⟩, q B' H' g⟩
theorem evd_if {b : Bool} (h : EvT tt σ B b) (h1 : b = true → EvD ta σ B d) (h2 : b = false → EvD tb σ B d) : EvD (tIf tt ta tb) σ B d := fun H s Q q => h H s _ fun B1 H1 g => by
  cases b with
  | true => exact (if_pos rfl).mpr (((h1 rfl).mono g.b) H1 g.i Q fun v B2 H2 g2 => q v B2 H2 (g.trans g2))
  | false => exact (if_neg (by decide)).mpr (((h2 rfl).mono g.b) H1 g.i Q fun v B2 H2 g2 => q v B2 H2 (g.trans g2))

/-! ### walks -/
structure WalkD (J : It) (B1 : Hp) (es : List PyData) : Prop where
  stop : ∀ i H', Same B1 H' → es.length ≤ i → J.stop i H'
  go : ∀ i H', Same B1 H' → i < es.length → J.go i H'
  yld : ∀ i d B' H' x H'', es[i]? = some d → Same B1 B' → Same B' H' → J.yld i H' x H'' → ∃ B'', Grow B' H' B'' H'' ∧ DD B'' d x
def EvI (wi : TI) (σ : L2.St) (B : Hp) (es : List PyData) : Prop := ∀ H, Same B H → ∀ R : It → Hp → Prop, (∀ J B1 H1, Grow B H B1 H1 → WalkD J B1 es → R J H1) → wi σ H R
theorem EvI.mono {wi : TI} {es : List PyData} (h : EvI wi σ B es) (s : Same B B') : EvI wi σ B' es := fun H t R q =>
  h H (s.trans t) R fun J B1 H1 g w => by
    obtain ⟨C1, g1, s1⟩ := g.over s t
    exact q J C1 H1 g1 ⟨fun i H' s' => w.stop i H' (s1.trans s'), fun i H' s' => w.go i H' (s1.trans s'), fun i d B' H' x H'' e s' => w.yld i d B' H' x H'' e (s1.trans s')⟩
theorem walk_list {K : PySem.W.Frag} {B1 : Hp} {a : Addr} {xs : List V} {ds : List PyData} (h : B1 a = some (.lst xs)) (p : DDs B1 ds xs) : WalkD (Itl K a) B1 ds where
  stop := fun i H' s hi => ⟨xs, sql (s _ _ h), by rw [p.length]; exact hi⟩
  go := fun i H' s hi => ⟨xs, _, sql (s _ _ h), List.getElem?_eq_getElem (by rw [p.length]; exact hi)⟩
  yld := fun i d B' H' x H'' e s t y => by
    obtain ⟨rfl, f⟩ := y
    obtain ⟨v, e1, e2⟩ := p.get e
    have q := f xs (sql (t _ _ (s _ _ h)))
    rw [e1] at q
    cases q
    exact ⟨B', Grow.refl t, e2.mono s⟩
theorem walk_tup {K : PySem.W.Frag} {B1 : Hp} {a : Addr} {xs : List V} {ds : List PyData} (h : B1 a = some (.tup xs)) (p : DDs B1 ds xs) : WalkD (Itt K a) B1 ds where
  stop := fun i H' s hi => ⟨xs, sqt (s _ _ h), by rw [p.length]; exact hi⟩
  go := fun i H' s hi => ⟨xs, _, sqt (s _ _ h), List.getElem?_eq_getElem (by rw [p.length]; exact hi)⟩
  yld := fun i d B' H' x H'' e s t y => by
    obtain ⟨rfl, f⟩ := y
    obtain ⟨v, e1, e2⟩ := p.get e
    have q := f xs (sqt (t _ _ (s _ _ h)))
    rw [e1] at q
    cases q
    exact ⟨B', Grow.refl t, e2.mono s⟩
abbrev rngL (lo : Int) (n : Nat) : List PyData := (List.range n).map fun i => .int (lo + (i : Nat))
theorem walk_rng {B1 : Hp} {lo : Int} {n : Nat} : WalkD (Itr lo n) B1 (rngL lo n) where
  stop := fun i H' s hi => by
    rw [List.length_map, List.length_range] at hi
    exact hi
  go := fun i H' s hi => by
    rw [List.length_map, List.length_range] at hi
    exact hi
  yld := fun i d B' H' x H'' e s t y => by
    obtain ⟨rfl, rfl⟩ := y
    have hi : i < n := by
      have := (List.getElem?_eq_some_iff.mp e).1
      simpa using this
    rw [List.getElem?_map, List.getElem?_range hi] at e
    cases e
    exact ⟨B', Grow.refl t, rfl⟩
theorem evi_list {K : PySem.W.Frag} {ds : List PyData} (h : EvD ta σ B (.list ds)) : EvI (iList K ta) σ B ds := fun H s R q => h H s _ fun v B1 H1 g e => by
  obtain ⟨a, xs, rfl, h1, p⟩ := e
  exact ⟨a, rfl, ⟨xs, sql (g.i _ _ h1)⟩, q _ B1 H1 g (walk_list h1 p)⟩
theorem evi_tup {K : PySem.W.Frag} {ds : List PyData} (h : EvD ta σ B (.tuple ds)) : EvI (iTup K ta) σ B ds := fun H s R q => h H s _ fun v B1 H1 g e => by
  obtain ⟨a, xs, rfl, h1, p⟩ := e
  exact ⟨a, rfl, ⟨xs, sqt (g.i _ _ h1)⟩, q _ B1 H1 g (walk_tup h1 p)⟩
theorem evi_rng1 {j : Int} (h : EvD ta σ B (.int j)) (h1 : -(2 ^ 62) ≤ j) (h2 : j < 2 ^ 62) : EvI (iRng1 (tCons ta tNil)) σ B (rngL 0 j.toNat) := fun H s R q => h H s _ fun v B1 H1 g e => by
  cases e
  exact ⟨j, rfl, h1, h2, q _ B1 H1 g walk_rng⟩
theorem evi_rng2 {i j : Int} (h : EvD ta σ B (.int i)) (h' : EvD tb σ B (.int j)) (hb : -(2 ^ 62) ≤ i ∧ i < 2 ^ 62 ∧ -(2 ^ 62) ≤ j ∧ j < 2 ^ 62) : EvI (iRng2 (tCons ta (tCons tb tNil))) σ B (rngL i (j - i).toNat) := fun H s R q =>
  h H s _ fun v B1 H1 g e => (h'.mono g.b) H1 g.i _ fun v' B2 H2 g2 e' => by
    cases e
    cases e'
    exact ⟨i, j, rfl, hb, q _ B2 H2 (g.trans g2) walk_rng⟩
abbrev zipL (ds es : List PyData) : List PyData := List.zipWith (fun d e => .tuple [d, e]) ds es
theorem zipL_get {ds es : List PyData} {i : Nat} {d : PyData} (h : (zipL ds es)[i]? = some d) : ∃ a b, ds[i]? = some a ∧ es[i]? = some b ∧ d = .tuple [a, b] := by
  rw [List.getElem?_zipWith] at h
  cases h1 : ds[i]? with
  | none => rw [h1] at h; cases h
  | some a =>
    cases h2 : es[i]? with
    | none => rw [h1, h2] at h; cases h
    | some b => rw [h1, h2] at h; cases h; exact ⟨a, b, rfl, rfl, rfl⟩
theorem walk_zip {K : PySem.W.Frag} {B1 : Hp} {a b : Addr} {xs ys : List V} {ds es : List PyData} (h : B1 a = some (.lst xs)) (p : DDs B1 ds xs) (h' : B1 b = some (.lst ys)) (p' : DDs B1 es ys) : WalkD (Itz K a b) B1 (zipL ds es) where
  stop := fun i H' s hi => ⟨xs, ys, sql (s _ _ h), sql (s _ _ h'), by
    rw [p.length, p'.length]
    rw [List.length_zipWith] at hi
    omega⟩
  go := fun i H' s hi => by
    rw [List.length_zipWith] at hi
    exact ⟨xs, ys, _, _, sql (s _ _ h), sql (s _ _ h'), List.getElem?_eq_getElem (by rw [p.length]; omega), List.getElem?_eq_getElem (by rw [p'.length]; omega)⟩
  yld := fun i d B' H' x H'' e s t y => by
    obtain ⟨T, u, v, rfl, hT, rfl, f1, f2⟩ := y
    obtain ⟨d1, d2, e1, e2, rfl⟩ := zipL_get e
    obtain ⟨u', q1, r1⟩ := p.get e1
    obtain ⟨v', q2, r2⟩ := p'.get e2
    have z1 := f1 xs (sql (t _ _ (s _ _ h)))
    have z2 := f2 ys (sql (t _ _ (s _ _ h')))
    rw [q1] at z1
    rw [q2] at z2
    cases z1
    cases z2
    exact ⟨_, Grow.new t hT, T, _, rfl, upd_same, (DDs.cons r1 (DDs.one r2)).mono (s.trans (Grow.new t hT).b)⟩
theorem walk_zipT {K : PySem.W.Frag} {B1 : Hp} {a b : Addr} {xs ys : List V} {ds es : List PyData} (h : B1 a = some (.tup xs)) (p : DDs B1 ds xs) (h' : B1 b = some (.tup ys)) (p' : DDs B1 es ys) : WalkD (RZ.ItzT K a b) B1 (zipL ds es) where
  stop := fun i H' s hi => ⟨xs, ys, sqt (s _ _ h), sqt (s _ _ h'), by
    rw [p.length, p'.length]
    rw [List.length_zipWith] at hi
    omega⟩
  go := fun i H' s hi => by
    rw [List.length_zipWith] at hi
    exact ⟨xs, ys, _, _, sqt (s _ _ h), sqt (s _ _ h'), List.getElem?_eq_getElem (by rw [p.length]; omega), List.getElem?_eq_getElem (by rw [p'.length]; omega)⟩
  yld := fun i d B' H' x H'' e s t y => by
    obtain ⟨T, u, v, rfl, hT, rfl, f1, f2⟩ := y
    obtain ⟨d1, d2, e1, e2, rfl⟩ := zipL_get e
    obtain ⟨u', q1, r1⟩ := p.get e1
    obtain ⟨v', q2, r2⟩ := p'.get e2
    have z1 := f1 xs (sqt (t _ _ (s _ _ h)))
    have z2 := f2 ys (sqt (t _ _ (s _ _ h')))
    rw [q1] at z1
    rw [q2] at z2
    cases z1
    cases z2
    exact ⟨_, Grow.new t hT, T, _, rfl, upd_same, (DDs.cons r1 (DDs.one r2)).mono (s.trans (Grow.new t hT).b)⟩
theorem evi_zip {K : PySem.W.Frag} {ds es : List PyData} (h : EvD ta σ B (.list ds)) (h' : EvD tb σ B (.list es)) : EvI (iZip K (tCons ta (tCons tb tNil))) σ B (zipL ds es) := fun H s R q =>
  h H s _ fun v B1 H1 g e => (h'.mono g.b) H1 g.i _ fun v' B2 H2 g2 e' => by
    obtain ⟨a, xs, rfl, h1, p⟩ := e
    obtain ⟨b, ys, rfl, h1', p'⟩ := e'
    exact ⟨a, b, xs, ys, rfl, sql (g2.i _ _ (g2.b _ _ h1)), sql (g2.i _ _ h1'), q _ B2 H2 (g.trans g2) (walk_zip (g2.b _ _ h1) (p.mono g2.b) h1' p')⟩
theorem evi_zipT {K : PySem.W.Frag} {ds es : List PyData} (h : EvD ta σ B (.tuple ds)) (h' : EvD tb σ B (.tuple es)) : EvI (RZ.iZipA K (tCons ta (tCons tb tNil))) σ B (zipL ds es) := fun H s R q =>
  h H s _ fun v B1 H1 g e => (h'.mono g.b) H1 g.i _ fun v' B2 H2 g2 e' => by
    obtain ⟨a, xs, rfl, h1, p⟩ := e
    obtain ⟨b, ys, rfl, h1', p'⟩ := e'
    exact ⟨a, b, xs, ys, rfl, .inr ⟨sqt (g2.i _ _ (g2.b _ _ h1)), sqt (g2.i _ _ h1'), q _ B2 H2 (g.trans g2) (walk_zipT (g2.b _ _ h1) (p.mono g2.b) h1' p')⟩⟩

/-! ### targets -/
def EvG (g : TG) (σ : L2.St) (B : Hp) (d : PyData) (post : L2.St → Prop) : Prop := ∀ v H, DD B d v → Same B H → ∀ Q : L2.St → Hp → Prop, (∀ σ', post σ' → Q σ' H) → g v σ H Q
theorem evg_name {i : Nat} : EvG (gName i) σ B d (fun σ' => ∃ v, DD B d v ∧ σ' = σ.set i (some v)) := fun v H hd s Q q => q _ ⟨v, hd, rfl⟩
theorem evg_pair {K : PySem.W.Frag} {i j : Nat} {e : PyData} : EvG (gTup K 2 (gCons (gName i) (gCons (gName j) gNil))) σ B (.tuple [d, e]) (fun σ' => ∃ v w, DD B d v ∧ DD B e w ∧ σ' = (σ.set i (some v)).set j (some w)) := fun v H hd s Q q => by
  obtain ⟨a, xs, rfl, h, ⟨x1, _, rfl, h1, ⟨x2, _, rfl, h2, rfl⟩⟩⟩ := hd
  exact ⟨a, [x1, x2], rfl, sqt (s _ _ h), rfl, x1, [x2], rfl, x2, [], rfl, rfl, q _ ⟨x1, x2, h1, h2, rfl⟩⟩

/-! ### comprehensions -/
theorem evd_lc {wi : TI} {g : TG} {vs : List Nat} {es : List PyData} {p : PyData → Bool} {f : PyData → PyData} (hi : EvI wi σ B es) (hl : es.length ≤ sizeLine) (post : Hp → PyData → L2.St → Prop)
    (hg : ∀ d B', d ∈ es → Same B B' → EvG g (wipe σ vs) B' d (post B' d)) (hw : ∀ B' d σ', post B' d σ' → wipe σ' vs = wipe σ vs)
    (ht : ∀ d B' σ', d ∈ es → Same B B' → post B' d σ' → EvT tt σ' B' (p d)) (he : ∀ d B' σ', d ∈ es → p d = true → Same B B' → post B' d σ' → EvD te σ' B' (f d)) :
    EvD (tLc wi g tt te vs) σ B (.list ((es.filter p).map f)) := fun H s Q q => hi H s _ fun J B1 H1 g1 W D hD => by
  have b1 : B1 D = none := base_none g1.i hD
  have inv0 : Grow B1 H1 B1 (upd H1 D (.lst [])) := ⟨Same.refl _, (Grow.new g1.i hD).h, g1.i.trans (Grow.new g1.i hD).h, fun _ _ => rfl⟩
  refine ⟨fun i m H' => i + m = es.length ∧ ∃ B' acc, Grow B1 H1 B' H' ∧ B' D = none ∧ H' D = some (.lst acc) ∧ DDs B' (((es.take i).filter p).map f) acc, ⟨es.length, by omega, B1, [], inv0, b1, upd_same, rfl⟩, ?_⟩
  rintro i m H' ⟨hm, B', acc, gr, bD, hD', pa⟩
  by_cases hlt : i < es.length
  · refine .inr ⟨W.go i H' (gr.b.trans gr.i) hlt, fun H2 => ∃ B' acc, Grow B1 H1 B' H2 ∧ B' D = none ∧ H2 D = some (.lst acc) ∧ DDs B' (((es.take (i + 1)).filter p).map f) acc, fun H2 n => ⟨m - 1, by omega, by omega, n⟩, fun x H2 y => ?_⟩
    have hd : es[i]? = some es[i] := List.getElem?_eq_getElem hlt
    have hmem : es[i] ∈ es := List.getElem_mem hlt
    have htake : es.take (i + 1) = es.take i ++ [es[i]] := by rw [List.take_add_one, hd]; rfl
    obtain ⟨B2, g2, dx⟩ := W.yld i _ B' H' x H2 hd gr.b gr.i y
    have s2 : Same B B2 := g1.b.trans (gr.b.trans g2.b)
    refine hg _ B2 hmem s2 x H2 dx g2.i _ fun σ' po => ⟨hw _ _ _ po, ?_⟩
    refine ht _ B2 σ' hmem s2 po H2 g2.i _ fun B3 H3 g3 => ?_
    have b3 : B3 D = none := (g2.trans g3).none bD hD'
    have h3 : H3 D = some (.lst acc) := g3.h _ _ (g2.h _ _ hD')
    have gt := gr.trans (g2.trans g3)
    rw [htake, List.filter_append, List.map_append]
    cases hp : p es[i] with
    | false =>
      refine (if_neg (by decide)).mpr ⟨B3, acc, gt, b3, h3, ?_⟩
      rw [List.filter_cons_of_neg (by rw [hp]; decide)]
      simpa using pa.mono (g2.b.trans g3.b)
    | true =>
      refine (if_pos rfl).mpr ?_
      refine (he _ B2 σ' hmem hp s2 po).mono g3.b H3 g3.i _ fun v B4 H4 g4 dv => ?_
      have b4 : B4 D = none := g4.none b3 h3
      have h4 : H4 D = some (.lst acc) := g4.h _ _ h3
      refine ⟨acc, h4, ?_, B4, acc ++ [v], ⟨(gt.trans g4).b, ?_, same_mut g4.i b4, (gt.trans g4).k⟩, b4, upd_same, ?_⟩
      · rw [pa.length, List.length_map]
        have := List.length_filter_le p (es.take i)
        rw [List.length_take] at this
        omega
      · intro a o ha
        rw [upd_ne (ne_of_none ha hD)]
        exact (gt.trans g4).h a o ha
      · rw [List.filter_cons_of_pos (by rw [hp])]
        exact (pa.mono (g2.b.trans (g3.b.trans g4.b))).append (DDs.one dv)
  · have ei : i = es.length := by omega
    subst ei
    refine .inl ⟨W.stop _ H' (gr.b.trans gr.i) (Nat.le_refl _), ?_⟩
    rw [List.take_length] at pa
    have hB : Same B' (upd B' D (.lst acc)) := fun a o ha => by rw [upd_ne (ne_of_none ha bD)]; exact ha
    refine q _ (upd B' D (.lst acc)) H' ⟨(g1.b.trans gr.b).trans hB, g1.h.trans gr.h, fun a o ha => ?_, fun a ha => ?_⟩ ⟨D, acc, rfl, upd_same, pa.mono hB⟩
    · by_cases e : a = D
      · subst e; rw [upd_same] at ha; rw [hD']; exact ha
      · rw [upd_ne e] at ha; exact gr.i a o ha
    · have e : a ≠ D := fun z => by
        subst z
        have h1 : H1 a ≠ none := fun z => by
          cases w : H a with
          | none => exact ha w
          | some o => rw [g1.h a o w] at z; cases z
        exact h1 hD
      rw [upd_ne e, gr.k a (fun z => by
        cases w : H a with
        | none => exact ha w
        | some o => rw [g1.h a o w] at z; cases z), g1.k a ha]
theorem evt_yes : EvT tYes σ B true := fun H s Q q => q B H (Grow.refl s)
/-- one name, no test -/
theorem evd_lcN {wi : TI} {i : Nat} {es : List PyData} {f : PyData → PyData} (hi : EvI wi σ B es) (hl : es.length ≤ sizeLine)
    (he : ∀ d B' v, d ∈ es → Same B B' → DD B' d v → EvD te ((wipe σ [i]).set i (some v)) B' (f d)) : EvD (tLc wi (gName i) tYes te [i]) σ B (.list (es.map f)) := by
  have h := evd_lc (p := fun _ => true) (tt := tYes) (f := f) (te := te) (vs := [i]) (g := gName i) hi hl (fun B' d σ' => ∃ v, DD B' d v ∧ σ' = (wipe σ [i]).set i (some v)) (fun d B' _ _ => evg_name)
    (fun B' d σ' ⟨v, _, e⟩ => by
      subst e
      show (((σ.set i none).set i (some v)).set i none) = σ.set i none
      rw [List.set_set, List.set_set]) (fun _ _ _ _ _ _ => evt_yes) (fun d B' σ' hm _ s ⟨v, hv, e⟩ => by subst e; exact he d B' v hm s hv)
  rw [List.filter_eq_self.mpr (fun _ _ => rfl)] at h
  exact h
/-- one name, a test -/
theorem evd_lcF {wi : TI} {i : Nat} {es : List PyData} {p : PyData → Bool} {f : PyData → PyData} (hi : EvI wi σ B es) (hl : es.length ≤ sizeLine)
    (ht : ∀ d B' v, d ∈ es → Same B B' → DD B' d v → EvT tt ((wipe σ [i]).set i (some v)) B' (p d))
    (he : ∀ d B' v, d ∈ es → p d = true → Same B B' → DD B' d v → EvD te ((wipe σ [i]).set i (some v)) B' (f d)) : EvD (tLc wi (gName i) tt te [i]) σ B (.list ((es.filter p).map f)) :=
  evd_lc hi hl (fun B' d σ' => ∃ v, DD B' d v ∧ σ' = (wipe σ [i]).set i (some v)) (fun d B' _ _ => evg_name)
    (fun B' d σ' ⟨v, _, e⟩ => by
      subst e
      show (((σ.set i none).set i (some v)).set i none) = σ.set i none
      rw [List.set_set, List.set_set]) (fun d B' σ' hm s ⟨v, hv, e⟩ => by subst e; exact ht d B' v hm s hv) (fun d B' σ' hm hp s ⟨v, hv, e⟩ => by subst e; exact he d B' v hm hp s hv)
/-- two names of a pair, no test -/
theorem evd_lc2 {K : PySem.W.Frag} {wi : TI} {i j : Nat} {es : List PyData} {f : PyData → PyData} (hi : EvI wi σ B es) (hl : es.length ≤ sizeLine) (hp : ∀ d ∈ es, ∃ a b, d = .tuple [a, b])
    (hw : ∀ v w, wipe (((wipe σ [i, j]).set i (some v)).set j (some w)) [i, j] = wipe σ [i, j])
    (he : ∀ a b B' v w, .tuple [a, b] ∈ es → Same B B' → DD B' a v → DD B' b w → EvD te (((wipe σ [i, j]).set i (some v)).set j (some w)) B' (f (.tuple [a, b]))) :
    EvD (tLc wi (gTup K 2 (gCons (gName i) (gCons (gName j) gNil))) tYes te [i, j]) σ B (.list (es.map f)) := by
  have h := evd_lc (p := fun _ => true) (tt := tYes) (f := f) (te := te) (vs := [i, j]) (g := gTup K 2 (gCons (gName i) (gCons (gName j) gNil))) hi hl
    (fun B' d σ' => ∃ a b v w, d = .tuple [a, b] ∧ DD B' a v ∧ DD B' b w ∧ σ' = ((wipe σ [i, j]).set i (some v)).set j (some w))
    (fun d B' hm s v H hd t Q q => by
      obtain ⟨a, b, rfl⟩ := hp d hm
      exact evg_pair v H hd t Q fun σ' ⟨x, y, h1, h2, e⟩ => q σ' ⟨a, b, x, y, rfl, h1, h2, e⟩)
    (fun B' d σ' ⟨a, b, v, w, _, _, _, e⟩ => by subst e; exact hw v w) (fun _ _ _ _ _ _ => evt_yes)
    (fun d B' σ' hm _ s ⟨a, b, v, w, ed, hv, hw', e⟩ => by subst e; subst ed; exact he a b B' v w hm s hv hw')
  rw [List.filter_eq_self.mpr (fun _ _ => rfl)] at h
  exact h

/-! ### loops -/
theorem for_D {wi : TI} {g : TG} {tb : TS} {D : Ends} {es : List PyData} (hi : EvI wi σ B es) (s : Same B H)
    (k : ∀ B1 H1, Grow B H B1 H1 → ∃ P : Nat → L2.St → Hp → Hp → Prop, P 0 σ B1 H1 ∧ (∀ i σ' B' H', P i σ' B' H' → Same B1 B' ∧ Same B' H') ∧
      (∀ i d σ' B' H', es[i]? = some d → P i σ' B' H' → ∀ v B2 H2, Grow B' H' B2 H2 → DD B2 d v →
        g v σ' H2 fun σ2 H3 => tb { D with nx := fun s h => ∃ b, P (i + 1) s b h, ct := fun s h => ∃ b, P (i + 1) s b h, bk := D.nx } σ2 H3) ∧
      (∀ σ' B' H', P es.length σ' B' H' → D.nx σ' H')) : tFor wi g tb D σ H := hi H s _ fun J B1 H1 g1 W => by
  obtain ⟨P, p0, ps, pt, pe⟩ := k B1 H1 g1
  refine ⟨fun i m σ' H' => i + m = es.length ∧ ∃ B', P i σ' B' H', ⟨es.length, by omega, B1, p0⟩, ?_⟩
  rintro i m σ' H' ⟨hm, B', hp⟩
  obtain ⟨s1, s2⟩ := ps i σ' B' H' hp
  by_cases hlt : i < es.length
  · refine .inr ⟨W.go i H' (s1.trans s2) hlt, fun σ2 H2 => ∃ B2, P (i + 1) σ2 B2 H2, fun σ2 H2 n => ⟨m - 1, by omega, by omega, n⟩, fun x H2 y => ?_⟩
    have hd : es[i]? = some es[i] := List.getElem?_eq_getElem hlt
    obtain ⟨B2, g2, dx⟩ := W.yld i _ B' H' x H2 hd s1 s2 y
    exact pt i _ σ' B' H' hd hp x B2 H2 g2 dx
  · have ei : i = es.length := by omega
    subst ei
    exact .inl ⟨W.stop _ H' (s1.trans s2) (Nat.le_refl _), pe σ' B' H' hp⟩

/-! ### calls of defs by promises on data -/
def SpD (pre : List PyData → Prop) (post : List PyData → PyData → Prop) : Sp := fun vs H Q _ => ∃ B ds, Same B H ∧ DDs B ds vs ∧ pre ds ∧ ∀ d v B' H', post ds d → Grow B H B' H' → DD B' d v → Q v H'
theorem evd_call {pre : List PyData → Prop} {post : List PyData → PyData → Prop} {E : XK} {t : TA} {ds : List PyData} (ha : EvA t σ B ds) (hp : pre ds) (hq : ∀ d, post ds d → d = z) : EvD (tCall (SpD pre post) [] E t) σ B z := fun H s Q q =>
  ha H s _ fun vs B1 H1 g1 d1 => by
    rw [List.append_nil]
    exact ⟨B1, ds, g1.i, d1, hp, fun d v B' H' hd g e => q v B' H' (g1.trans g) (by rw [← hq d hd]; exact e)⟩
/-- a call whose answer is one of several -/
theorem call_D {pre : List PyData → Prop} {post : List PyData → PyData → Prop} {E : XK} {t : TA} {ds : List PyData} {Q : VK} (ha : EvA t σ B ds) (hp : pre ds) (s : Same B H)
    (q : ∀ d v B' H', post ds d → Grow B H B' H' → DD B' d v → Q v H') : tCall (SpD pre post) [] E t σ H Q :=
  ha H s _ fun vs B1 H1 g1 d1 => by
    rw [List.append_nil]
    exact ⟨B1, ds, g1.i, d1, hp, fun d v B' H' hd g e => q d v B' H' hd (g1.trans g) e⟩
theorem SpD.len {pre : List PyData → Prop} {post : List PyData → PyData → Prop} {n : Nat} (h : ∀ ds, pre ds → ds.length = n) : ∀ vs H Q E, SpD pre post vs H Q E → vs.length = n := fun vs H Q E ⟨B, ds, _, hd, hp, _⟩ => by
  rw [hd.length]; exact h ds hp
end
end D8

namespace K84
open PySem PySem.Spec PyProof.Rows L2 D8
def topS (i : Nat) : Stmt := PySem.Challenge.pw_polywork_k84_box_points_of_simplices.main.body.getD i (.Pass ⟨0, 0, 0, 0⟩)
abbrev s_width : Stmt := topS 7
abbrev N_width : List Str := ["rows", "row"]
theorem sc_width : FnScope N_width ["rows"] (defScope s_width) := ⟨rfl, rfl, rfl, by decide +kernel, rfl, by decide +kernel, by decide +kernel⟩
abbrev s_transposed : Stmt := topS 8
abbrev N_transposed : List Str := ["rows", "column", "row"]
theorem sc_transposed : FnScope N_transposed ["rows"] (defScope s_transposed) := ⟨rfl, rfl, rfl, by decide +kernel, rfl, by decide +kernel, by decide +kernel⟩
abbrev s_dot : Stmt := topS 9
abbrev N_dot : List Str := ["first", "second", "one", "two"]
theorem sc_dot : FnScope N_dot ["first", "second"] (defScope s_dot) := ⟨rfl, rfl, rfl, by decide +kernel, rfl, by decide +kernel, by decide +kernel⟩
abbrev s_determinant : Stmt := topS 10
abbrev N_determinant : List Str := ["rows", "work", "sign", "before", "at", "found", "row", "column", "total"]
theorem sc_determinant : FnScope N_determinant ["rows"] (defScope s_determinant) := ⟨rfl, rfl, rfl, by decide +kernel, rfl, by decide +kernel, by decide +kernel⟩
abbrev s_fraction : Stmt := topS 11
abbrev N_fraction : List Str := ["above", "below", "common"]
theorem sc_fraction : FnScope N_fraction ["above", "below"] (defScope s_fraction) := ⟨rfl, rfl, rfl, by decide +kernel, rfl, by decide +kernel, by decide +kernel⟩
abbrev s_solved : Stmt := topS 12
abbrev N_solved : List Str := ["rows", "values", "below", "found", "at", "changed", "row", "value"]
theorem sc_solved : FnScope N_solved ["rows", "values"] (defScope s_solved) := ⟨rfl, rfl, rfl, by decide +kernel, rfl, by decide +kernel, by decide +kernel⟩
abbrev s_lifted : Stmt := topS 15
abbrev N_lifted : List Str := ["points", "point"]
theorem sc_lifted : FnScope N_lifted ["points"] (defScope s_lifted) := ⟨rfl, rfl, rfl, by decide +kernel, rfl, by decide +kernel, by decide +kernel⟩
abbrev s_box_factors : Stmt := topS 16
abbrev N_box_factors : List Str := ["points", "rows", "size", "whole", "found", "at", "unit", "parts", "steps", "known", "longer", "start", "here", "place", "row", "above", "below", "entry", "step"]
theorem sc_box_factors : FnScope N_box_factors ["points"] (defScope s_box_factors) := ⟨rfl, rfl, rfl, by decide +kernel, rfl, by decide +kernel, by decide +kernel⟩
abbrev s_point_of : Stmt := topS 17
abbrev N_point_of : List Str := ["points", "whole", "factors", "rows", "found", "column"]
theorem sc_point_of : FnScope N_point_of ["points", "whole", "factors"] (defScope s_point_of) := ⟨rfl, rfl, rfl, by decide +kernel, rfl, by decide +kernel, by decide +kernel⟩
abbrev s_simplex_box : Stmt := topS 18
abbrev N_simplex_box : List Str := ["points", "rows", "whole", "found", "row", "factors"]
theorem sc_simplex_box : FnScope N_simplex_box ["points"] (defScope s_simplex_box) := ⟨rfl, rfl, rfl, by decide +kernel, rfl, by decide +kernel, by decide +kernel⟩
abbrev s_law_deck : Stmt := topS 20
abbrev N_law_deck : List Str := ["script", "cells", "each", "deck", "seed", "k", "cell", "rest", "at"]
theorem sc_law_deck : FnScope N_law_deck ["script", "cells", "each"] (defScope s_law_deck) := ⟨rfl, rfl, rfl, by decide +kernel, rfl, by decide +kernel, by decide +kernel⟩
abbrev s_law_take : Stmt := topS 21
abbrev N_law_take : List Str := ["deck", "many"]
theorem sc_law_take : FnScope N_law_take ["deck", "many"] (defScope s_law_take) := ⟨rfl, rfl, rfl, by decide +kernel, rfl, by decide +kernel, by decide +kernel⟩
abbrev s_law_plain : Stmt := topS 22
abbrev N_law_plain : List Str := ["value", "item"]
theorem sc_law_plain : FnScope N_law_plain ["value"] (defScope s_law_plain) := ⟨rfl, rfl, rfl, by decide +kernel, rfl, by decide +kernel, by decide +kernel⟩
abbrev s_law_orders : Stmt := topS 23
abbrev N_law_orders : List Str := ["size", "found", "turn", "longer", "row", "item"]
theorem sc_law_orders : FnScope N_law_orders ["size"] (defScope s_law_orders) := ⟨rfl, rfl, rfl, by decide +kernel, rfl, by decide +kernel, by decide +kernel⟩
abbrev s_law_sign : Stmt := topS 24
abbrev N_law_sign : List Str := ["order", "pairs", "at", "item"]
theorem sc_law_sign : FnScope N_law_sign ["order"] (defScope s_law_sign) := ⟨rfl, rfl, rfl, by decide +kernel, rfl, by decide +kernel, by decide +kernel⟩
abbrev s_law_determinant : Stmt := topS 25
abbrev N_law_determinant : List Str := ["rows", "total", "order", "part", "at"]
theorem sc_law_determinant : FnScope N_law_determinant ["rows"] (defScope s_law_determinant) := ⟨rfl, rfl, rfl, by decide +kernel, rfl, by decide +kernel, by decide +kernel⟩
abbrev s_law_less : Stmt := topS 26
abbrev N_law_less : List Str := ["one", "two", "first", "second"]
theorem sc_law_less : FnScope N_law_less ["one", "two"] (defScope s_law_less) := ⟨rfl, rfl, rfl, by decide +kernel, rfl, by decide +kernel, by decide +kernel⟩
abbrev s_law_choices : Stmt := topS 27
abbrev N_law_choices : List Str := ["size", "many", "found", "turn", "longer", "row", "least", "item"]
theorem sc_law_choices : FnScope N_law_choices ["size", "many"] (defScope s_law_choices) := ⟨rfl, rfl, rfl, by decide +kernel, rfl, by decide +kernel, by decide +kernel⟩
abbrev s_law_volume : Stmt := topS 28
abbrev N_law_volume : List Str := ["points", "first", "point"]
theorem sc_law_volume : FnScope N_law_volume ["points"] (defScope s_law_volume) := ⟨rfl, rfl, rfl, by decide +kernel, rfl, by decide +kernel, by decide +kernel⟩
abbrev s_law_is_full : Stmt := topS 29
abbrev N_law_is_full : List Str := ["points", "size", "row", "at"]
theorem sc_law_is_full : FnScope N_law_is_full ["points", "size"] (defScope s_law_is_full) := ⟨rfl, rfl, rfl, by decide +kernel, rfl, by decide +kernel, by decide +kernel⟩
abbrev s_law_points : Stmt := topS 30
abbrev N_law_points : List Str := ["deck", "size", "more", "low", "high", "found", "turn", "place", "at"]
theorem sc_law_points : FnScope N_law_points ["deck", "size", "more", "low", "high"] (defScope s_law_points) := ⟨rfl, rfl, rfl, by decide +kernel, rfl, by decide +kernel, by decide +kernel⟩
abbrev s_law_factors : Stmt := topS 31
abbrev N_law_factors : List Str := ["rows", "goal", "whole", "found", "at", "turned", "row", "entry"]
theorem sc_law_factors : FnScope N_law_factors ["rows", "goal"] (defScope s_law_factors) := ⟨rfl, rfl, rfl, by decide +kernel, rfl, by decide +kernel, by decide +kernel⟩
abbrev s_law_box : Stmt := topS 32
abbrev N_law_box : List Str := ["points", "rows", "size", "found", "at", "good", "point", "low", "high", "longer", "factors", "whole", "row", "entry"]
theorem sc_law_box : FnScope N_law_box ["points"] (defScope s_law_box) := ⟨rfl, rfl, rfl, by decide +kernel, rfl, by decide +kernel, by decide +kernel⟩
abbrev s_law_refusal : Stmt := topS 33
abbrev N_law_refusal : List Str := ["points", "error"]
theorem sc_law_refusal : FnScope N_law_refusal ["points"] (defScope s_law_refusal) := ⟨rfl, rfl, rfl, by decide +kernel, rfl, by decide +kernel, by decide +kernel⟩
abbrev s_law : Stmt := topS 34
abbrev N_law : List Str := ["script", "deck", "size", "points", "due", "told", "some", "place", "point", "at"]
theorem sc_law : FnScope N_law ["script"] (defScope s_law) := ⟨rfl, rfl, rfl, by decide +kernel, rfl, by decide +kernel, by decide +kernel⟩
structure DefAt (K : PySem.W.Frag) (mg : Str → Option Value) (x : Str) (st : Stmt) (f : Addr) (fd : FuncData) (ps : List Str) : Prop where
  F : Fun K x x st f fd
  g : mg x = some (.ref f)
  b : Binds K fd ps []
def innerS (i : Nat) : Stmt := match topS i with
  | .ClassDef _ _ _ body _ _ _ _ _ _ _ => body.getD 0 (.Pass ⟨0, 0, 0, 0⟩)
  | _ => .Pass ⟨0, 0, 0, 0⟩
abbrev s_iT : Stmt := innerS 4
abbrev s_iM : Stmt := innerS 5
/-- an error class of the program: its own __init__ takes a text -/
structure ErrAt (K : PySem.W.Frag) (mg : Str → Option Value) (x qual : Str) (st : Stmt) (C fI : Addr) (fd : FuncData) : Prop where
  gC : mg x = some (.ref C)
  oex : OexC K C
  ga : PySem.W.findIn K (.ref C) "__getattribute__" = some (some (.builtin "BaseException.__getattribute__"))
  gg : PySem.W.findIn K (.ref C) "__getattr__" = some none
  noN : PySem.W.findIn K (.ref C) "what" = some none
  iC : PySem.W.findIn K (.ref C) "__init__" = some (some (.ref fI))
  tI : PySem.W.typeIn K (.ref fI) = some (.type "function")
  hdC : PySem.W.hasDictIn K C = true
  F : Fun K "__init__" qual st fI fd
  b : Binds K fd ["self", "what"] []
structure PolyAt (K : PySem.W.Frag) (mg : Str → Option Value) (C : Addr) (mc : Value) : Prop where
  gC : mg "PolyError" = some (.ref C)
  sg : PySem.W.specialIn K (.ref C) "__getattribute__" = some (some (.builtin "type.__getattribute__"))
  rd : PySem.W.readsIn K C mc = true
  ini : PySem.W.findCls K (.ref C) mc "__init__" = some (.val (.builtin "ValueError.__init__"))
structure Mod (K : PySem.W.Frag) (mg : Str → Option Value) where
  m_len : mg "len" = none
  m_range : mg "range" = none
  m_zip : mg "zip" = none
  m_enumerate : mg "enumerate" = none
  m_sum : mg "sum" = none
  m_any : mg "any" = none
  m_sorted : mg "sorted" = none
  m_min : mg "min" = none
  m_max : mg "max" = none
  m_abs : mg "abs" = none
  m_int : mg "int" = none
  m_list : mg "list" = none
  m_tuple : mg "tuple" = none
  m_set : mg "set" = none
  m_isinstance : mg "isinstance" = none
  m_bool : mg "bool" = none
  m_str : mg "str" = none
  m_gcd : mg "gcd" = some (.builtin "math.gcd")
  tkM : Tok
  m_MOST_POINTS : mg "MOST_POINTS" = some (.int 2000 tkM)
  cP : Addr
  mcP : Value
  poly : PolyAt K mg cP mcP
  cT : Addr
  fiT : Addr
  fdT : FuncData
  errT : ErrAt K mg "InvalidTriangulation" "InvalidTriangulation.__init__" s_iT cT fiT fdT
  cM : Addr
  fiM : Addr
  fdM : FuncData
  errM : ErrAt K mg "TooMany" "TooMany.__init__" s_iM cM fiM fdM
  ett : PySem.W.exmOne K (.ref cT) (.ref cT) = some true
  emt : PySem.W.exmOne K (.ref cM) (.ref cT) = some false
  emm : PySem.W.exmOne K (.ref cM) (.ref cM) = some true
  f_width : Addr
  fd_width : FuncData
  d_width : DefAt K mg "width" s_width f_width fd_width ["rows"]
  f_transposed : Addr
  fd_transposed : FuncData
  d_transposed : DefAt K mg "transposed" s_transposed f_transposed fd_transposed ["rows"]
  f_dot : Addr
  fd_dot : FuncData
  d_dot : DefAt K mg "dot" s_dot f_dot fd_dot ["first", "second"]
  f_determinant : Addr
  fd_determinant : FuncData
  d_determinant : DefAt K mg "determinant" s_determinant f_determinant fd_determinant ["rows"]
  f_fraction : Addr
  fd_fraction : FuncData
  d_fraction : DefAt K mg "fraction" s_fraction f_fraction fd_fraction ["above", "below"]
  f_solved : Addr
  fd_solved : FuncData
  d_solved : DefAt K mg "solved" s_solved f_solved fd_solved ["rows", "values"]
  f_lifted : Addr
  fd_lifted : FuncData
  d_lifted : DefAt K mg "lifted" s_lifted f_lifted fd_lifted ["points"]
  f_box_factors : Addr
  fd_box_factors : FuncData
  d_box_factors : DefAt K mg "box_factors" s_box_factors f_box_factors fd_box_factors ["points"]
  f_point_of : Addr
  fd_point_of : FuncData
  d_point_of : DefAt K mg "point_of" s_point_of f_point_of fd_point_of ["points", "whole", "factors"]
  f_simplex_box : Addr
  fd_simplex_box : FuncData
  d_simplex_box : DefAt K mg "simplex_box" s_simplex_box f_simplex_box fd_simplex_box ["points"]
  f_law_deck : Addr
  fd_law_deck : FuncData
  d_law_deck : DefAt K mg "_law_deck" s_law_deck f_law_deck fd_law_deck ["script", "cells", "each"]
  f_law_take : Addr
  fd_law_take : FuncData
  d_law_take : DefAt K mg "_law_take" s_law_take f_law_take fd_law_take ["deck", "many"]
  f_law_plain : Addr
  fd_law_plain : FuncData
  d_law_plain : DefAt K mg "_law_plain" s_law_plain f_law_plain fd_law_plain ["value"]
  f_law_orders : Addr
  fd_law_orders : FuncData
  d_law_orders : DefAt K mg "_law_orders" s_law_orders f_law_orders fd_law_orders ["size"]
  f_law_sign : Addr
  fd_law_sign : FuncData
  d_law_sign : DefAt K mg "_law_sign" s_law_sign f_law_sign fd_law_sign ["order"]
  f_law_determinant : Addr
  fd_law_determinant : FuncData
  d_law_determinant : DefAt K mg "_law_determinant" s_law_determinant f_law_determinant fd_law_determinant ["rows"]
  f_law_less : Addr
  fd_law_less : FuncData
  d_law_less : DefAt K mg "_law_less" s_law_less f_law_less fd_law_less ["one", "two"]
  f_law_choices : Addr
  fd_law_choices : FuncData
  d_law_choices : DefAt K mg "_law_choices" s_law_choices f_law_choices fd_law_choices ["size", "many"]
  f_law_volume : Addr
  fd_law_volume : FuncData
  d_law_volume : DefAt K mg "_law_volume" s_law_volume f_law_volume fd_law_volume ["points"]
  f_law_is_full : Addr
  fd_law_is_full : FuncData
  d_law_is_full : DefAt K mg "_law_is_full" s_law_is_full f_law_is_full fd_law_is_full ["points", "size"]
  f_law_points : Addr
  fd_law_points : FuncData
  d_law_points : DefAt K mg "_law_points" s_law_points f_law_points fd_law_points ["deck", "size", "more", "low", "high"]
  f_law_factors : Addr
  fd_law_factors : FuncData
  d_law_factors : DefAt K mg "_law_factors" s_law_factors f_law_factors fd_law_factors ["rows", "goal"]
  f_law_box : Addr
  fd_law_box : FuncData
  d_law_box : DefAt K mg "_law_box" s_law_box f_law_box fd_law_box ["points"]
  f_law_refusal : Addr
  fd_law_refusal : FuncData
  d_law_refusal : DefAt K mg "_law_refusal" s_law_refusal f_law_refusal fd_law_refusal ["points"]
  f_law : Addr
  fd_law : FuncData
  d_law : DefAt K mg "law" s_law f_law fd_law ["script"]
end K84

set_option maxHeartbeats 1000000
namespace D8
open PySem PySem.Spec PyProof.Rows L2
section
variable {σ : L2.St} {B H : Hp} {te : TE} {d : PyData} {D : Ends} {u t : TS} {i : Nat} {tt : TT}
theorem ret_D (h : EvD te σ B d) (s : Same B H) (k : ∀ v B' H', Grow B H B' H' → DD B' d v → D.rt v H') : tRet te D σ H := h H s _ k
theorem seq_set (h : EvD te σ B d) (s : Same B H) (k : ∀ v B' H', Grow B H B' H' → DD B' d v → u D (σ.set i (some v)) H') : tSeq (tAsg te (gName i)) u D σ H := h H s _ k
theorem one_set (h : EvD te σ B d) (s : Same B H) (k : ∀ v B' H', Grow B H B' H' → DD B' d v → D.nx (σ.set i (some v)) H') : tAsg te (gName i) D σ H := h H s _ k
theorem seq_if {b : Bool} {t1 t2 : TS} (h : EvT tt σ B b) (s : Same B H) (k : ∀ B' H', Grow B H B' H' → if b = true then t1 { D with nx := u D } σ H' else t2 { D with nx := u D } σ H') : tSeq (tIfS tt t1 t2) u D σ H := h H s _ k
theorem one_if {b : Bool} {t1 t2 : TS} (h : EvT tt σ B b) (s : Same B H) (k : ∀ B' H', Grow B H B' H' → if b = true then t1 D σ H' else t2 D σ H') : tIfS tt t1 t2 D σ H := h H s _ k
/-- a new list that stays open to changes: it is not in the base -/
theorem seq_setNew {ta : TA} {ds : List PyData} (h : EvA ta σ B ds) (hl : ds.length ≤ sizeLine) (s : Same B H) (k : ∀ p xs B' H', H p = none → Grow B H B' H' → B' p = none → H' p = some (.lst xs) → DDs B' ds xs → u D (σ.set i (some (.ref p))) H') : tSeq (tAsg (tLst ta) (gName i)) u D σ H :=
  h H s _ fun vs B1 H1 g d1 => ⟨by rw [d1.length]; exact hl, fun p hp => k p vs B1 _ (g.h.free hp) ⟨g.b, fun a o e => by rw [upd_ne (ne_of_none (g.h _ _ e) hp)]; exact g.h _ _ e, same_mut g.i (base_none g.i hp), g.k⟩ (base_none g.i hp) upd_same d1⟩
theorem _root_.D8.Grow.mut {B H B' H' : Hp} {p : Addr} {o : HO} (g : Grow B H B' H') (h : H p = none) (hb : B' p = none) : Grow B H B' (upd H' p o) :=
  ⟨g.b, fun a u e => by rw [upd_ne (ne_of_none e h)]; exact g.h a u e, same_mut g.i hb, g.k⟩
end
section
variable {σ : L2.St} {B H : Hp} {te : TE} {d : PyData} {D : Ends} {i : Nat}
/-- p.append(e) where p is an open list at slot i -/
theorem app_D {K : PySem.W.Frag} {p : Addr} {acc : List V} (hx : σ[i]? = some (some (.ref p))) (hb : B p = none) (hp : H p = some (.lst acc)) (hl : acc.length < sizeLine) (h : EvD te σ B d) (s : Same B H)
    (k : ∀ v B' H', Grow B H B' H' → DD B' d v → B' p = none → Same B' (upd H' p (.lst (acc ++ [v]))) → D.nx σ (upd H' p (.lst (acc ++ [v])))) :
    tDrop (tBM K "list" rAppend (tVar i) (tCons te tNil)) D σ H :=
  ⟨.ref p, hx, .inl ⟨rfl, acc, sql hp⟩, h H s _ fun v B' H' g e => ⟨p, acc, v, rfl, rfl, g.h _ _ hp, hl, k v B' H' g e (g.none hb hp) (same_mut g.i (g.none hb hp))⟩⟩
/-- p.extend(e) -/
theorem ext_D {K : PySem.W.Frag} {p : Addr} {acc : List V} {ds : List PyData} (hx : σ[i]? = some (some (.ref p))) (hb : B p = none) (hp : H p = some (.lst acc)) (hl : acc.length + ds.length ≤ sizeLine) (h : EvD te σ B (.list ds)) (s : Same B H)
    (k : ∀ ys B' H', Grow B H B' H' → DDs B' ds ys → B' p = none → Same B' (upd H' p (.lst (acc ++ ys))) → D.nx σ (upd H' p (.lst (acc ++ ys)))) :
    tDrop (tBM K "list" rExtend (tVar i) (tCons te tNil)) D σ H :=
  ⟨.ref p, hx, .inl ⟨rfl, acc, sql hp⟩, h H s _ fun v B' H' g e => by
    obtain ⟨b, ys, rfl, hb', pd⟩ := e
    exact ⟨p, b, acc, ys, rfl, rfl, g.h _ _ hp, g.i _ _ hb', by rw [pd.length]; exact hl, k ys B' H' g pd (g.none hb hp) (same_mut g.i (g.none hb hp))⟩⟩
/-- an open list is closed: it enters the base -/
theorem close_D {p : Addr} {acc : List V} {B' H' : Hp} {ds : List PyData} (g : Grow B H B' H') (hn : H p = none) (hb : B' p = none) (hp : H' p = some (.lst acc)) (pd : DDs B' ds acc) :
    Grow B H (upd B' p (.lst acc)) H' ∧ DD (upd B' p (.lst acc)) (.list ds) (.ref p) := by
  have hB : Same B' (upd B' p (.lst acc)) := fun a o ha => by rw [upd_ne (ne_of_none ha hb)]; exact ha
  refine ⟨⟨g.b.trans hB, g.h, fun a o ha => ?_, fun a ha => ?_⟩, p, acc, rfl, upd_same, pd.mono hB⟩
  · by_cases e : a = p
    · subst e; rw [upd_same] at ha; rw [hp]; exact ha
    · rw [upd_ne e] at ha; exact g.i a o ha
  · have e : a ≠ p := fun z => ha (by rw [z]; exact hn)
    rw [upd_ne e, g.k a ha]
theorem close_S {p : Addr} {acc : List V} {B' H' : Hp} {ds : List PyData} (s : Same B' H') (hb : B' p = none) (hp : H' p = some (.lst acc)) (pd : DDs B' ds acc) :
    Same B' (upd B' p (.lst acc)) ∧ Same (upd B' p (.lst acc)) H' ∧ DD (upd B' p (.lst acc)) (.list ds) (.ref p) := by
  have hB : Same B' (upd B' p (.lst acc)) := fun a o ha => by rw [upd_ne (ne_of_none ha hb)]; exact ha
  refine ⟨hB, fun a o ha => ?_, p, acc, rfl, upd_same, pd.mono hB⟩
  by_cases e : a = p
  · subst e; rw [upd_same] at ha; rw [hp]; exact ha
  · rw [upd_ne e] at ha; exact s a o ha
end
abbrev pt (ns : List Int) : PyData := .tuple (iL ns)
theorem iL_inj {a b : List Int} (h : iL a = iL b) : a = b := by
  have := congrArg (List.map fun d => match d with | PyData.int i => i | _ => 0) h
  simpa [iL, List.map_map, Function.comp_def] using this
theorem pt_inj {a b : List Int} (h : pt a = pt b) : a = b := iL_inj (PyData.tuple.inj h)
abbrev ll (ns : List Int) : PyData := .list (iL ns)
theorem iL_get {ns : List Int} {i : Nat} {d : PyData} (h : (iL ns)[i]? = some d) : ∃ n, ns[i]? = some n ∧ d = .int n := by
  rw [List.getElem?_map] at h
  cases e : ns[i]? with
  | none => rw [e] at h; cases h
  | some n => rw [e] at h; cases h; exact ⟨n, rfl, rfl⟩
theorem iL_at {ns : List Int} {i : Nat} {n : Int} (h : ns[i]? = some n) : atI (iL ns) (i : Int) = some (.int n) := atI_nat (by rw [List.getElem?_map, h]; rfl)
theorem ge_sz {n : Nat} (h : n ≤ 100000) : n ≤ sizeLine := Nat.le_trans h (by decide)
theorem zipL_pairs {ds es : List PyData} : ∀ d ∈ zipL ds es, ∃ a b, d = .tuple [a, b] := fun d h => by
  obtain ⟨i, h1, h2⟩ := List.mem_iff_getElem.mp h
  obtain ⟨a, b, _, _, e⟩ := zipL_get (i := i) (List.getElem?_eq_some_iff.mpr ⟨h1, h2⟩)
  exact ⟨a, b, e⟩
/-! names of readings -/
abbrev rLenQ (K : PySem.W.Frag) : List V → Hp → VK → Prop := fun xs H Q => ∃ p ys, xs = [.ref p] ∧ (SqL K H p ys ∨ SqT K H p ys) ∧ Q (.int ys.length) H
abbrev rListQ (K : PySem.W.Frag) : List V → Hp → VK → Prop := fun xs H Q => ∃ p ys, xs = [.ref p] ∧ (SqL K H p ys ∨ SqT K H p ys) ∧ ∀ l, H l = none → Q (.ref l) (upd H l (.lst ys))
abbrev rTupQ (K : PySem.W.Frag) : List V → Hp → VK → Prop := fun xs H Q => ∃ p ys, xs = [.ref p] ∧ ((SqL K H p ys ∧ ∀ l, H l = none → Q (.ref l) (upd H l (.tup ys))) ∨ (SqT K H p ys ∧ Q (.ref p) H))
abbrev rInt1 : List V → Hp → VK → Prop := fun xs H Q => (∃ i, xs = [.int i] ∧ Q (.int i) H) ∨ ∃ k, xs = [.bl k] ∧ Q (.int (if k then 1 else 0)) H
abbrev rAbs1 : List V → Hp → VK → Prop := fun xs H Q => ∃ i, xs = [.int i] ∧ Q (.int (if i < 0 then -i else i)) H
abbrev rMin2 : List V → Hp → VK → Prop := fun xs H Q => ∃ i j, xs = [.int i, .int j] ∧ Q (.int (if j < i then j else i)) H
abbrev rMax2 : List V → Hp → VK → Prop := fun xs H Q => ∃ i j, xs = [.int i, .int j] ∧ Q (.int (if j > i then j else i)) H
end D8
namespace K84
open PySem PySem.Spec PyProof.Rows L2 D8
variable {P : Program} {w : World} {K : PySem.W.Frag} {mg : Str → Option Value} {base : Heap}
/-! ### _law_less -/
def subL (a b : List Int) : List Int := List.zipWith (· - ·) a b
def pairD (f : Int → Int → Int) : PyData → PyData
  | .tuple [.int a, .int b] => .int (f a b)
  | d => d
theorem pairD_map (f : Int → Int → Int) : ∀ a b : List Int, (zipL (iL a) (iL b)).map (pairD f) = iL (List.zipWith f a b)
  | [], _ => by simp [zipL]
  | _ :: _, [] => by simp [zipL]
  | x :: a, y :: b => by
    show pairD f (.tuple [.int x, .int y]) :: (zipL (iL a) (iL b)).map (pairD f) = _
    rw [pairD_map f a b]
    rfl
theorem zipL_int {a b : List Int} {x y : PyData} (h : .tuple [x, y] ∈ zipL (iL a) (iL b)) : ∃ m n, x = .int m ∧ y = .int n ∧ m ∈ a ∧ n ∈ b := by
  obtain ⟨i, h1, h2⟩ := List.mem_iff_getElem.mp h
  obtain ⟨u, v, e1, e2, e⟩ := zipL_get (i := i) (List.getElem?_eq_some_iff.mpr ⟨h1, h2⟩)
  cases e
  obtain ⟨m, q1, r1⟩ := iL_get e1
  obtain ⟨n, q2, r2⟩ := iL_get e2
  exact ⟨m, n, r1, r2, List.mem_of_getElem? q1, List.mem_of_getElem? q2⟩
def sp_law_less : Sp := SpD (fun ds => ∃ a b, ds = [pt a, pt b] ∧ a.length ≤ 1000) (fun ds d => ∃ a b, ds = [pt a, pt b] ∧ d = pt (subL a b))
theorem ok_law_less (M : Mod K mg) : FnOk P w K mg base CX0 1 M.f_law_less M.fd_law_less ["one", "two"] sp_law_less := by
  refine M.d_law_less.F.ok sc_law_less (SpD.len fun ds ⟨a, b, e, _⟩ => by rw [e]; rfl) (fun cdv A outer s H vs Q E hr h => ?_)
  obtain ⟨B, ds, sB, hd, ⟨a, b, rfl, hl⟩, q⟩ := h
  obtain ⟨v1, _, rfl, h1, ⟨v2, _, rfl, h2, rfl⟩⟩ := hd
  refine ⟨_, (pss_one (ps_ret (pe_callTy call_tuple_of (by rfl) M.m_tuple (by decide +kernel) (pa_cons (pe_lc (own := [("first", 2), ("second", 3)]) (g := gTup K 2 (gCons (gName 2) (gCons (gName 3) gNil))) (tt := tYes) (te := (tOp (rI0 fun i j => .int (i - j)) (tVar 2) (tVar 3))) rfl sc_law_less.nd (RZ.pi_zipA (by rfl) M.m_zip (pa_cons (pv 0) (pa_cons (pv 1) pa_nil))) (blkOk_by (own := [("first", 2), ("second", 3)]) (N := N_law_less) (sc := defScope s_law_less) (by decide +kernel)) (fun _ _ _ _ _ => (pg_tup rfl (pgs_cons (pg_name (i := 2) sc_law_less.nd rfl (.inl rfl)) (pgs_cons (pg_name (i := 3) sc_law_less.nd rfl (.inl rfl)) pgs_nil)))) (fun _ _ _ _ _ => pts_nil) (fun _ _ _ _ _ => (pe_op op_sub (pv 2) (pv 3)))) pa_nil)))), ?_⟩
  refine ret_D (d := pt (subL a b)) ?_ sB (fun v B' H' g e => q _ v B' H' ⟨a, b, rfl, rfl⟩ g e)
  have hz : (zipL (iL a) (iL b)).length ≤ sizeLine := ge_sz (by rw [List.length_zipWith, List.length_map]; omega)
  have h := evd_lc2 (K := K) (i := 2) (j := 3) (te := tOp (rI0 fun i j => .int (i - j)) (tVar 2) (tVar 3)) (f := pairD (· - ·)) (evi_zipT (K := K) (evd_var (σ := start N_law_less [v1, v2]) (i := 0) rfl h1) (evd_var (i := 1) rfl h2)) hz zipL_pairs (fun _ _ => rfl)
    (fun x y B' u v hm s hx hy => by
      obtain ⟨m, n, rfl, rfl, _⟩ := zipL_int hm
      exact evd_sub (evd_var (i := 2) rfl hx) (evd_var (i := 3) rfl hy))
  rw [pairD_map] at h
  exact evd_tupleL h
end K84

set_option maxHeartbeats 2000000
namespace K84
open PySem PySem.Spec PyProof.Rows L2 D8
variable {P : Program} {w : World} {K : PySem.W.Frag} {mg : Str → Option Value} {base : Heap}
abbrev pts (rs : List (List Int)) : List PyData := rs.map pt
/-! ### _law_choices -/
def leastM (row : List Int) : Int := match row.getLast? with | some x => x + 1 | none => 0
def rowsFrom (lo : Int) (n : Nat) (row : List Int) : List (List Int) := (List.range n).map fun i => row ++ [lo + (i : Nat)]
def choStep (size : Int) (rs : List (List Int)) : List (List Int) := rs.flatMap fun row => rowsFrom (leastM row) (size - leastM row).toNat row
def choicesM (size : Int) : Nat → List (List Int)
  | 0 => [[]]
  | m + 1 => choStep size (choicesM size m)
theorem last_at {row : List Int} {x : Int} (h : row.getLast? = some x) : atI (iL row) (-1) = some (.int x) := by
  obtain ⟨r, e⟩ := List.getLast?_eq_some_iff.mp h
  subst e
  show atI ((r ++ [x]).map PyData.int) (-1) = _
  rw [List.map_append]
  exact atI_last _ _
/-- a row of a choice: short, its items from 0 to below the size -/
def ChoOk (size : Int) (m : Nat) (row : List Int) : Prop := row.length = m ∧ ∀ x ∈ row, 0 ≤ x ∧ x < size
theorem leastM_bd {size : Int} {m : Nat} {row : List Int} (h0 : 0 ≤ size) (h : ChoOk size m row) : 0 ≤ leastM row ∧ leastM row ≤ size := by
  unfold leastM
  cases e : row.getLast? with
  | none => exact ⟨Int.le_refl 0, h0⟩
  | some x =>
    have := h.2 x (List.mem_of_getLast? e)
    show 0 ≤ x + 1 ∧ x + 1 ≤ size
    omega
theorem choStep_ok {size : Int} {m : Nat} {rs : List (List Int)} (h0 : 0 ≤ size) (h : ∀ r ∈ rs, ChoOk size m r) : ∀ r ∈ choStep size rs, ChoOk size (m + 1) r := by
  intro r hr
  obtain ⟨row, h1, h2⟩ := List.mem_flatMap.mp hr
  obtain ⟨i, h3, rfl⟩ := List.mem_map.mp h2
  have h3 := List.mem_range.mp h3
  have b := leastM_bd h0 (h row h1)
  refine ⟨by rw [List.length_append, (h row h1).1]; rfl, fun x hx => ?_⟩
  rcases List.mem_append.mp hx with q | q
  · exact (h row h1).2 x q
  · have e : x = leastM row + (i : Nat) := by simpa using q
    omega
theorem choStep_len {size : Int} {m : Nat} {rs : List (List Int)} (h0 : 0 ≤ size) (h : ∀ r ∈ rs, ChoOk size m r) : (choStep size rs).length ≤ rs.length * size.toNat := by
  unfold choStep
  induction rs with
  | nil => simp
  | cons r rs ih =>
    rw [List.flatMap_cons, List.length_append, List.length_cons, Nat.add_mul]
    have b := leastM_bd h0 (h r (List.mem_cons_self ..))
    have e : (rowsFrom (leastM r) (size - leastM r).toNat r).length ≤ size.toNat := by
      unfold rowsFrom
      rw [List.length_map, List.length_range]
      omega
    have := ih fun r hr => h r (List.mem_cons_of_mem _ hr)
    omega
theorem choicesM_ok {size : Int} (h0 : 0 ≤ size) : ∀ m : Nat, (∀ r ∈ choicesM size m, ChoOk size m r) ∧ (choicesM size m).length ≤ size.toNat ^ m
  | 0 => by
    refine ⟨fun r hr => ?_, by simp [choicesM]⟩
    have e : r = [] := by simpa [choicesM] using hr
    subst e
    exact ⟨rfl, fun x hx => by cases hx⟩
  | m + 1 => by
    obtain ⟨h1, h2⟩ := choicesM_ok h0 m
    refine ⟨choStep_ok h0 h1, Nat.le_trans (choStep_len h0 h1) ?_⟩
    rw [Nat.pow_succ]
    exact Nat.mul_le_mul_right _ h2
theorem rngL_row {lo : Int} {n : Nat} {row : List Int} {f : PyData → PyData} (hf : ∀ i : Nat, i < n → f (.int (lo + (i : Nat))) = pt (row ++ [lo + (i : Nat)])) : (rngL lo n).map f = pts (rowsFrom lo n row) := by
  unfold rngL pts rowsFrom
  rw [List.map_map, List.map_map]
  refine List.map_congr_left fun i hi => ?_
  exact hf i (List.mem_range.mp hi)
theorem flat_take {α β : Type} (f : α → List β) (xs : List α) (i : Nat) (x : α) (h : xs[i]? = some x) : (xs.take (i + 1)).flatMap f = (xs.take i).flatMap f ++ f x := by
  rw [List.take_add_one, h, List.flatMap_append]
  simp
def putItem (row : List Int) : PyData → PyData
  | .int x => pt (row ++ [x])
  | d => d
def sp_law_choices : Sp := SpD (fun ds => ∃ n m : Nat, ds = [.int n, .int m] ∧ n ≤ 12 ∧ m ≤ 4) (fun ds d => ∃ n m : Nat, ds = [.int n, .int m] ∧ d = .list (pts (choicesM n m)))
theorem ok_law_choices (M : Mod K mg) : FnOk P w K mg base CX0 1 M.f_law_choices M.fd_law_choices ["size", "many"] sp_law_choices := by
  refine M.d_law_choices.F.ok sc_law_choices (SpD.len fun ds ⟨a, b, e, _⟩ => by rw [e]; rfl) (fun cdv A outer s H vs Q E hr h => ?_)
  obtain ⟨B, ds, sB, hd, ⟨n, m, rfl, hn, hm⟩, q⟩ := h
  obtain ⟨_, _, rfl, rfl, ⟨_, _, rfl, rfl, rfl⟩⟩ := hd
  have hN : (0 : Int) ≤ (n : Int) := Int.natCast_nonneg n
  have hpow : ∀ k ≤ 4, n ^ k ≤ 20736 := fun k hk => Nat.le_trans (Nat.pow_le_pow_left hn k) (Nat.le_trans (Nat.pow_le_pow_right (by decide) hk) (by decide))
  refine ⟨_, (pss_cons (ps_set (i := 2) sc_law_choices.nd rfl (.inl rfl) (pe_lst (pa_cons (pe_tup pa_nil) pa_nil)))
    (pss_cons (ps_for PassesOwn.never rfl (pi_range1 (by rfl) M.m_range (pa_cons (pv 1) pa_nil)) (pg_name (i := 3) sc_law_choices.nd rfl (.inl rfl))
    (pss_cons (ps_set (i := 4) sc_law_choices.nd rfl (.inl rfl) (pe_lst pa_nil))
    (pss_cons (ps_for PassesOwn.never rfl (pi_list (pv 2)) (pg_name (i := 5) sc_law_choices.nd rfl (.inr rfl))
    (pss_cons (ps_set (i := 6) sc_law_choices.nd rfl (.inl rfl) (pe_ifExp (pt_cmpR op_gt (pe_callB call_len_seq (by rfl) M.m_len PySem.boot_len (pa_cons (pv 5) pa_nil)) pe_int (nomark _)) (pe_op op_add (pe_ix ix_tup (pv 5) (pe_un un_neg pe_int) (fun _ _ => rfl)) pe_int) pe_int))
    (pss_one (ps_expr (pe_bm PySem.F.plainAttrs_list PySem.F.slot_list_extend PySem.F.type_list_extend mt_extend (pv 4) (pa_cons (pe_lc (own := [("item", 7)]) (g := gName 7) (tt := tYes) (te := (tOp (rCatA K) (tVar 5) (tTup (tCons (tVar 7) tNil)))) rfl sc_law_choices.nd (pi_range2 (by rfl) M.m_range (pa_cons (pv 6) (pa_cons (pv 0) pa_nil))) (blkOk_by (own := [("item", 7)]) (N := N_law_choices) (sc := defScope s_law_choices) (by decide +kernel)) (fun _ _ _ _ _ => (pg_name (i := 7) sc_law_choices.nd rfl (.inl rfl))) (fun _ _ _ _ _ => pts_nil) (fun _ _ _ _ _ => (pe_op op_catA (pv 5) (pe_tup (pa_cons (pv 7) pa_nil))))) pa_nil))))))
    (pss_one (ps_set (i := 2) sc_law_choices.nd rfl (.inl rfl) (pv 4))))))
    (pss_one (ps_ret (pv 2))))), ?_⟩
  -- found = [()]
  refine seq_set (d := .list (pts [[]])) (evd_lst (eva_cons (evd_tup eva_nil (Nat.zero_le _)) eva_nil) (ge_sz (by decide))) sB fun v0 B1 H1 g1 d1 => ?_
  -- for turn in range(many)
  refine for_D (B := B1) (es := rngL 0 m) (by have h := evi_rng1 (j := (m : Int)) (evd_var (B := B1) (σ := (start N_law_choices [.int n, .int m]).set 2 (some v0)) (i := 1) rfl rfl) (by omega) (by omega); simpa using h) g1.i fun B2 H2 g2 => ?_
  refine ⟨fun k σ B' H' => ∃ u x3 x4 x5 x6 x7, σ = [some (.int n), some (.int m), some u, x3, x4, x5, x6, x7] ∧ Grow B H B' H' ∧ Same B2 B' ∧ DD B' (.list (pts (choicesM n k))) u, ⟨v0, none, none, none, none, none, rfl, g1.trans g2, Same.refl _, d1.mono g2.b⟩, fun k σ B' H' ⟨_, _, _, _, _, _, _, g, s, _⟩ => ⟨s, g.i⟩, fun k d σ B' H' he ⟨u, x3, x4, x5, x6, x7, eσ, g, s, du⟩ v B3 H3 g3 dv => ?_, fun σ B' H' ⟨u, x3, x4, x5, x6, x7, eσ, g, s, du⟩ => ?_⟩
  · subst eσ
    have hk : k < m := by
      have := (List.getElem?_eq_some_iff.mp he).1
      simpa using this
    obtain ⟨ok1, ok2⟩ := choicesM_ok hN k
    have hlen : (choicesM n k).length ≤ 20736 := Nat.le_trans ok2 (by simpa using hpow k (by omega))
    have hlen1 : (choicesM n (k + 1)).length ≤ 20736 := Nat.le_trans (choicesM_ok hN (k + 1)).2 (by simpa using hpow (k + 1) (by omega))
    -- longer = []
    refine seq_setNew (ds := []) eva_nil (Nat.zero_le _) g3.i fun p xs B4 H4 hp3 g4 bp hp px => ?_
    cases px
    have hpH : H p = none := g.h.free (g3.h.free hp3)
    -- for row in found
    refine for_D (B := B4) (es := pts (choicesM n k)) (evi_list (evd_var rfl (du.mono (g3.b.trans g4.b)))) g4.i fun B5 H5 g5 => ?_
    have bp5 : B5 p = none := g5.none bp hp
    refine ⟨fun i σ B' H' => ∃ y5 y6 y7 acc, σ = [some (.int n), some (.int m), some u, some v, some (.ref p), y5, y6, y7] ∧ Grow B H B' H' ∧ Same B5 B' ∧ B' p = none ∧ H' p = some (.lst acc) ∧ DDs B' (pts (choStep n ((choicesM n k).take i))) acc,
      ⟨_, _, _, [], rfl, ((g.trans g3).trans g4).trans g5, Same.refl _, bp5, g5.h _ _ hp, rfl⟩, fun i σ B' H' ⟨_, _, _, _, _, gg, s5, _⟩ => ⟨s5, gg.i⟩, ?_, ?_⟩
    · rintro i d σ B' H' hd ⟨y5, y6, y7, acc, rfl, gg, s5, bp', hp', pa⟩ x B6 H6 g6 dx
      obtain ⟨row, hrow, rfl⟩ : ∃ row, (choicesM n k)[i]? = some row ∧ d = pt row := by
        rw [List.getElem?_map] at hd
        cases e : (choicesM n k)[i]? with
        | none => rw [e] at hd; cases hd
        | some r => rw [e] at hd; cases hd; exact ⟨r, rfl, rfl⟩
      have okr : ChoOk n k row := ok1 row (List.mem_of_getElem? hrow)
      have lb := leastM_bd hN okr
      -- least
      refine seq_set (d := .int (leastM row)) (evd_if (b := decide (0 < (row.length : Int))) (evt_test (evd_I0 (g := fun i j => .bl (decide (j < i))) (evd_lenT (K := K) (evd_var (i := 5) rfl dx)) evd_int (by rw [List.length_map]; rfl)))
        (fun hb => ?_) (fun hb => ?_)) g6.i fun v7 B7 H7 g7 d7 => ?_
      · have hne : row ≠ [] := fun z => by subst z; simp at hb
        obtain ⟨z, hz⟩ : ∃ z, row.getLast? = some z := ⟨_, List.getLast?_eq_getLast hne⟩
        have e : leastM row = z + 1 := by unfold leastM; rw [hz]
        rw [e]
        exact evd_add (evd_ixT (evd_var (i := 5) rfl dx) (evd_neg evd_int) (last_at hz)) evd_int
      · have e : row = [] := by
          cases row with
          | nil => rfl
          | cons a r => simp at hb
        subst e
        exact evd_int
      · cases d7
        have bp6 : B6 p = none := g6.none bp' hp'
        have hp7 : H7 p = some (.lst acc) := g7.h _ _ (g6.h _ _ hp')
        have bp7 : B7 p = none := g7.none bp6 (g6.h _ _ hp')
        have dx7 := dx.mono g7.b
        have hcomp := evd_lcN (wi := iRng2 (tCons (tVar 6) (tCons (tVar 0) tNil))) (i := 7) (B := B7) (σ := [some (.int n), some (.int m), some u, some v, some (.ref p), some x, some (.int (leastM row)), y7])
          (te := tOp (rCatA K) (tVar 5) (tTup (tCons (tVar 7) tNil))) (f := putItem row)
          (evi_rng2 (i := leastM row) (j := (n : Int)) (evd_var (i := 6) rfl rfl) (evd_var (i := 0) rfl rfl) (by omega)) (by rw [List.length_map, List.length_range]; exact ge_sz (by omega))
          (fun d B' v hm s hv => by
            obtain ⟨i, hi, rfl⟩ := List.mem_map.mp hm
            have e : putItem row (.int (leastM row + (i : Nat))) = .tuple (iL row ++ [.int (leastM row + (i : Nat))]) := by
              show PyData.tuple ((row ++ [_]).map PyData.int) = _
              rw [List.map_append]
              rfl
            rw [e]
            exact evd_catA (evd_var (i := 5) rfl (dx7.mono s)) (evd_tup (eva_cons (evd_var (i := 7) rfl hv) eva_nil) (show 1 ≤ sizeLine by decide)) (ge_sz (by rw [List.length_map, okr.1]; show k + 1 ≤ _; omega)))
        rw [rngL_row (row := row) (fun i _ => rfl)] at hcomp
        have hrl : (rowsFrom (leastM row) ((n : Int) - leastM row).toNat row).length ≤ 12 := by
          unfold rowsFrom
          rw [List.length_map, List.length_range]
          omega
        have hal : acc.length ≤ 300000 := by
          rw [pa.length, List.length_map]
          have h1 := choStep_len hN (rs := (choicesM n k).take i) (m := k) (fun r hr => ok1 r (List.mem_of_mem_take hr))
          have h2 : ((choicesM n k).take i).length ≤ 20736 := Nat.le_trans (by rw [List.length_take]; exact Nat.min_le_right _ _) hlen
          have h3 : ((choicesM n k).take i).length * (n : Int).toNat ≤ 20736 * 12 := Nat.mul_le_mul h2 (by simpa using hn)
          omega
        refine ext_D (i := 4) rfl bp7 hp7 ?_ hcomp g7.i fun ys B8 H8 g8 dy b8 s8 => ?_
        · rw [List.length_map]
          exact Nat.le_trans (show _ ≤ 300012 by omega) (by decide)
        · have gA : Grow B H B8 H8 := ((gg.trans g6).trans g7).trans g8
          refine ⟨B8, _, _, _, acc ++ ys, rfl, gA.mut hpH b8, s5.trans (g6.b.trans (g7.b.trans g8.b)), b8, upd_same, ?_⟩
          have e : choStep n ((choicesM n k).take (i + 1)) = choStep n ((choicesM n k).take i) ++ rowsFrom (leastM row) ((n : Int) - leastM row).toNat row := by
            unfold choStep
            rw [flat_take _ _ _ _ hrow]
          rw [e]
          show DDs B8 (List.map pt (_ ++ _)) _
          rw [List.map_append]
          exact (pa.mono (g6.b.trans (g7.b.trans g8.b))).append dy
    · rintro σ B' H' ⟨y5, y6, y7, acc, rfl, gg, s5, bp', hp', pa⟩
      rw [List.length_map, List.take_length] at pa
      -- found = longer
      obtain ⟨gc, dc⟩ := close_D gg hpH bp' hp' pa
      exact ⟨.ref p, rfl, _, .ref p, _, _, _, _, _, rfl, gc, s.trans (g3.b.trans (g4.b.trans (g5.b.trans (s5.trans (close_S gg.i bp' hp' pa).1)))), dc⟩
  · subst eσ
    have ek : (rngL 0 m).length = m := by simp
    rw [ek] at du
    exact ret_D (evd_var rfl du) g.i fun v' B'' H'' g' e => q _ v' B'' H'' ⟨n, m, rfl, rfl⟩ (g.trans g') e
end K84

set_option maxHeartbeats 2000000
namespace D8
open PySem PySem.Spec PyProof.Rows L2
section
variable {σ : L2.St} {B H : Hp} {ta tb : TE} {d : PyData}
theorem evd_ixQ {K : PySem.W.Frag} {ds : List PyData} {i : Int} {x : PyData} (hx : x = .list ds ∨ x = .tuple ds) (ha : EvD ta σ B x) (hb : EvD tb σ B (.int i)) (he : atI ds i = some d) : EvD (tOp (rIx K) ta tb) σ B d :=
  evd_op ha hb fun v w B' s dv dw H t Q q => by
    rcases hx with rfl | rfl
    · obtain ⟨a, xs, e, h, p⟩ := dv
      obtain ⟨u, e1, e2⟩ := p.atI he
      exact .inl ⟨a, xs, i, u, e, dw, sql (t _ _ h), e1, q u B' H (Grow.refl t) e2⟩
    · obtain ⟨a, xs, e, h, p⟩ := dv
      obtain ⟨u, e1, e2⟩ := p.atI he
      exact .inr (.inl ⟨a, xs, i, u, e, dw, sqt (t _ _ h), e1, q u B' H (Grow.refl t) e2⟩)
theorem inV_int {n : Int} {ns : List Int} : inV (.int n) (ns.map V.int) = ns.contains n := by
  unfold inV
  rw [List.any_map, List.contains_eq_any_beq]
  congr 1
  funext x
  show (x == n) = (n == x)
  exact Bool.beq_comm
theorem evd_notInT {K : PySem.W.Frag} {n : Int} {ns : List Int} (ha : EvD ta σ B (.int n)) (hb : EvD tb σ B (pt ns)) : EvD (tOp (rIn K true) ta tb) σ B (.bool (!ns.contains n)) :=
  evd_op ha hb fun v w B' s dv dw H t Q q => by
    obtain ⟨a, xs, rfl, h, p⟩ := dw
    cases dv
    have e := p.toI
    subst e
    exact ⟨a, _, rfl, .inr (sqt (t _ _ h)), rfl, by rw [List.all_map]; exact List.all_eq_true.mpr fun _ _ => rfl, q _ B' H (Grow.refl t) (by rw [inV_int]; rfl)⟩
end
end D8
namespace K84
open PySem PySem.Spec PyProof.Rows L2 D8
variable {P : Program} {w : World} {K : PySem.W.Frag} {mg : Str → Option Value} {base : Heap}
/-! ### _law_orders -/
def ordRow (size : Nat) (row : List Int) : List (List Int) := (((List.range size).map fun i : Nat => (i : Int)).filter fun x => !row.contains x).map fun x => row ++ [x]
def ordStep (size : Nat) (rs : List (List Int)) : List (List Int) := rs.flatMap (ordRow size)
def ordersK (size : Nat) : Nat → List (List Int)
  | 0 => [[]]
  | m + 1 => ordStep size (ordersK size m)
abbrev ordersM (size : Nat) : List (List Int) := ordersK size size
theorem ordRow_len (size : Nat) (row : List Int) : (ordRow size row).length ≤ size := by
  unfold ordRow
  rw [List.length_map]
  exact Nat.le_trans (List.length_filter_le _ _) (by rw [List.length_map, List.length_range]; exact Nat.le_refl _)
theorem ordStep_len (size : Nat) (rs : List (List Int)) : (ordStep size rs).length ≤ rs.length * size := by
  unfold ordStep
  induction rs with
  | nil => simp
  | cons r rs ih =>
    rw [List.flatMap_cons, List.length_append, List.length_cons, Nat.add_mul]
    have := ordRow_len size r
    omega
theorem ordersK_len (size : Nat) : ∀ m, (ordersK size m).length ≤ size ^ m
  | 0 => by simp [ordersK]
  | m + 1 => by
    rw [Nat.pow_succ]
    exact Nat.le_trans (ordStep_len _ _) (Nat.mul_le_mul_right _ (ordersK_len size m))
theorem ordersK_row (size : Nat) : ∀ m, ∀ r ∈ ordersK size m, r.length = m ∧ ∀ x ∈ r, 0 ≤ x ∧ x < size
  | 0, r, h => by
    have e : r = [] := by simpa [ordersK] using h
    subst e
    exact ⟨rfl, fun x hx => by cases hx⟩
  | m + 1, r, h => by
    obtain ⟨row, h1, h2⟩ := List.mem_flatMap.mp h
    obtain ⟨x, h3, rfl⟩ := List.mem_map.mp h2
    obtain ⟨i, h4, rfl⟩ := List.mem_map.mp (List.mem_filter.mp h3).1
    have h4 := List.mem_range.mp h4
    obtain ⟨l, b⟩ := ordersK_row size m row h1
    refine ⟨by rw [List.length_append, l]; rfl, fun y hy => ?_⟩
    rcases List.mem_append.mp hy with q | q
    · exact b y q
    · have e : y = (i : Int) := by simpa using q
      omega
def isNot (row : List Int) : PyData → Bool
  | .int x => !row.contains x
  | _ => true
theorem rng_ord (size : Nat) (row : List Int) : ((rngL 0 size).filter (isNot row)).map (putItem row) = pts (ordRow size row) := by
  have e : rngL 0 size = iL ((List.range size).map fun i : Nat => (i : Int)) := by
    show _ = List.map _ (List.map _ _)
    rw [List.map_map]
    refine List.map_congr_left fun i _ => ?_
    show PyData.int (0 + (i : Nat)) = PyData.int _
    rw [Int.zero_add]
  rw [e]
  unfold ordRow
  generalize ((List.range size).map fun i : Nat => (i : Int)) = xs
  induction xs with
  | nil => rfl
  | cons x xs ih =>
    show List.map (putItem row) (List.filter (isNot row) (PyData.int x :: iL xs)) = pts (List.map _ (List.filter _ (x :: xs)))
    cases h : (!row.contains x) with
    | true =>
      rw [List.filter_cons_of_pos (show isNot row (.int x) = true from h), List.filter_cons_of_pos (by exact h)]
      show putItem row (.int x) :: _ = pt (row ++ [x]) :: _
      rw [ih]
      rfl
    | false =>
      rw [List.filter_cons_of_neg (show ¬ isNot row (.int x) = true by rw [show isNot row (.int x) = false from h]; decide), List.filter_cons_of_neg (by rw [h]; decide)]
      exact ih
def sp_law_orders : Sp := SpD (fun ds => ∃ n : Nat, ds = [.int n] ∧ n ≤ 6) (fun ds d => ∃ n : Nat, ds = [.int n] ∧ d = .list (pts (ordersM n)))
theorem ok_law_orders (M : Mod K mg) : FnOk P w K mg base CX0 1 M.f_law_orders M.fd_law_orders ["size"] sp_law_orders := by
  refine M.d_law_orders.F.ok sc_law_orders (SpD.len fun ds ⟨a, e, _⟩ => by rw [e]; rfl) (fun cdv A outer s H vs Q E hr h => ?_)
  obtain ⟨B, ds, sB, hd, ⟨n, rfl, hn⟩, q⟩ := h
  obtain ⟨_, _, rfl, rfl, rfl⟩ := hd
  have hpow : ∀ k ≤ 6, n ^ k ≤ 46656 := fun k hk => Nat.le_trans (Nat.pow_le_pow_left hn k) (Nat.le_trans (Nat.pow_le_pow_right (by decide) hk) (by decide))
  refine ⟨_, (pss_cons (ps_set (i := 1) sc_law_orders.nd rfl (.inl rfl) (pe_lst (pa_cons (pe_tup pa_nil) pa_nil)))
    (pss_cons (ps_for PassesOwn.never rfl (pi_range1 (by rfl) M.m_range (pa_cons (pv 0) pa_nil)) (pg_name (i := 2) sc_law_orders.nd rfl (.inl rfl))
    (pss_cons (ps_set (i := 3) sc_law_orders.nd rfl (.inl rfl) (pe_lst pa_nil))
    (pss_cons (ps_for PassesOwn.never rfl (pi_list (pv 1)) (pg_name (i := 4) sc_law_orders.nd rfl (.inr rfl))
    (pss_one (ps_expr (pe_bm PySem.F.plainAttrs_list PySem.F.slot_list_extend PySem.F.type_list_extend mt_extend (pv 3) (pa_cons (pe_lc (own := [("item", 5)]) (g := gName 5) (tt := (tTest (tOp (rIn K true) (tVar 5) (tVar 4)))) (te := (tOp (rCatA K) (tVar 4) (tTup (tCons (tVar 5) tNil)))) rfl sc_law_orders.nd (pi_range1 (by rfl) M.m_range (pa_cons (pv 0) pa_nil)) (blkOk_by (own := [("item", 5)]) (N := N_law_orders) (sc := defScope s_law_orders) (by decide +kernel)) (fun _ _ _ _ _ => (pg_name (i := 5) sc_law_orders.nd rfl (.inl rfl))) (fun _ _ _ _ _ => pts_one (pt_cmpR op_notIn_seq (pv 5) (pv 4) (by rfl))) (fun _ _ _ _ _ => (pe_op op_catA (pv 4) (pe_tup (pa_cons (pv 5) pa_nil))))) pa_nil)))))
    (pss_one (ps_set (i := 1) sc_law_orders.nd rfl (.inl rfl) (pv 3))))))
    (pss_one (ps_ret (pv 1))))), ?_⟩
  refine seq_set (d := .list (pts [[]])) (evd_lst (eva_cons (evd_tup eva_nil (Nat.zero_le _)) eva_nil) (ge_sz (by decide))) sB fun v0 B1 H1 g1 d1 => ?_
  refine for_D (B := B1) (es := rngL 0 n) (by have h := evi_rng1 (j := (n : Int)) (evd_var (B := B1) (σ := (start N_law_orders [.int n]).set 1 (some v0)) (i := 0) rfl rfl) (by omega) (by omega); simpa using h) g1.i fun B2 H2 g2 => ?_
  refine ⟨fun k σ B' H' => ∃ u x3 x4 x5 x6, σ = [some (.int n), some u, x3, x4, x5, x6] ∧ Grow B H B' H' ∧ Same B2 B' ∧ DD B' (.list (pts (ordersK n k))) u, ⟨v0, none, none, none, none, rfl, g1.trans g2, Same.refl _, d1.mono g2.b⟩, fun k σ B' H' ⟨_, _, _, _, _, _, g, s, _⟩ => ⟨s, g.i⟩, fun k d σ B' H' he ⟨u, x3, x4, x5, x6, eσ, g, s, du⟩ v B3 H3 g3 dv => ?_, fun σ B' H' ⟨u, x3, x4, x5, x6, eσ, g, s, du⟩ => ?_⟩
  · subst eσ
    have hk : k < n := by
      have := (List.getElem?_eq_some_iff.mp he).1
      simpa using this
    have ok1 := ordersK_row n k
    have hlen : (ordersK n k).length ≤ 46656 := Nat.le_trans (ordersK_len n k) (hpow k (by omega))
    refine seq_setNew (ds := []) eva_nil (Nat.zero_le _) g3.i fun p xs B4 H4 hp3 g4 bp hp px => ?_
    cases px
    have hpH : H p = none := g.h.free (g3.h.free hp3)
    refine for_D (B := B4) (es := pts (ordersK n k)) (evi_list (evd_var rfl (du.mono (g3.b.trans g4.b)))) g4.i fun B5 H5 g5 => ?_
    have bp5 : B5 p = none := g5.none bp hp
    refine ⟨fun i σ B' H' => ∃ y5 y6 acc, σ = [some (.int n), some u, some v, some (.ref p), y5, y6] ∧ Grow B H B' H' ∧ Same B5 B' ∧ B' p = none ∧ H' p = some (.lst acc) ∧ DDs B' (pts (ordStep n ((ordersK n k).take i))) acc,
      ⟨_, _, [], rfl, ((g.trans g3).trans g4).trans g5, Same.refl _, bp5, g5.h _ _ hp, rfl⟩, fun i σ B' H' ⟨_, _, _, _, gg, s5, _⟩ => ⟨s5, gg.i⟩, ?_, ?_⟩
    · rintro i d σ B' H' hd ⟨y5, y6, acc, rfl, gg, s5, bp', hp', pa⟩ x B6 H6 g6 dx
      obtain ⟨row, hrow, rfl⟩ : ∃ row, (ordersK n k)[i]? = some row ∧ d = pt row := by
        rw [List.getElem?_map] at hd
        cases e : (ordersK n k)[i]? with
        | none => rw [e] at hd; cases hd
        | some r => rw [e] at hd; cases hd; exact ⟨r, rfl, rfl⟩
      have okr := ok1 row (List.mem_of_getElem? hrow)
      have bp6 : B6 p = none := g6.none bp' hp'
      have hp6 : H6 p = some (.lst acc) := g6.h _ _ hp'
      have hcomp := evd_lcF (wi := iRng1 (tCons (tVar 0) tNil)) (i := 5) (B := B6) (σ := [some (.int n), some u, some v, some (.ref p), some x, y6])
        (tt := tTest (tOp (rIn K true) (tVar 5) (tVar 4))) (te := tOp (rCatA K) (tVar 4) (tTup (tCons (tVar 5) tNil))) (p := isNot row) (f := putItem row)
        (evi_rng1 (j := (n : Int)) (evd_var (i := 0) rfl rfl) (by omega) (by omega)) (by rw [List.length_map, List.length_range]; exact ge_sz (by omega))
        (fun d B' v hm s hv => by
          obtain ⟨i, hi, rfl⟩ := List.mem_map.mp hm
          exact evt_test (evd_notInT (evd_var (i := 5) rfl hv) (evd_var (i := 4) rfl (dx.mono s))))
        (fun d B' v hm _ s hv => by
          obtain ⟨i, hi, rfl⟩ := List.mem_map.mp hm
          have e : putItem row (.int (0 + (i : Nat))) = .tuple (iL row ++ [.int (0 + (i : Nat))]) := by
            show PyData.tuple ((row ++ [_]).map PyData.int) = _
            rw [List.map_append]
            rfl
          rw [e]
          exact evd_catA (evd_var (i := 4) rfl (dx.mono s)) (evd_tup (eva_cons (evd_var (i := 5) rfl hv) eva_nil) (show 1 ≤ sizeLine by decide)) (ge_sz (by rw [List.length_map, okr.1]; show k + 1 ≤ _; omega)))
      rw [Int.toNat_natCast, rng_ord] at hcomp
      have hrl := ordRow_len n row
      have hal : acc.length ≤ 300000 := by
        rw [pa.length, List.length_map]
        have h1 := ordStep_len n ((ordersK n k).take i)
        have h2 : ((ordersK n k).take i).length ≤ 46656 := Nat.le_trans (by rw [List.length_take]; exact Nat.min_le_right _ _) hlen
        have h3 : ((ordersK n k).take i).length * n ≤ 46656 * 6 := Nat.mul_le_mul h2 hn
        omega
      refine ext_D (i := 3) rfl bp6 hp6 ?_ hcomp g6.i fun ys B8 H8 g8 dy b8 s8 => ?_
      · rw [List.length_map]
        exact Nat.le_trans (show _ ≤ 300012 by omega) (by decide)
      · have gA : Grow B H B8 H8 := (gg.trans g6).trans g8
        refine ⟨B8, _, _, acc ++ ys, rfl, gA.mut hpH b8, s5.trans (g6.b.trans g8.b), b8, upd_same, ?_⟩
        have e : ordStep n ((ordersK n k).take (i + 1)) = ordStep n ((ordersK n k).take i) ++ ordRow n row := by
          unfold ordStep
          rw [flat_take _ _ _ _ hrow]
        rw [e]
        show DDs B8 (List.map pt (_ ++ _)) _
        rw [List.map_append]
        exact (pa.mono (g6.b.trans g8.b)).append dy
    · rintro σ B' H' ⟨y5, y6, acc, rfl, gg, s5, bp', hp', pa⟩
      rw [List.length_map, List.take_length] at pa
      obtain ⟨gc, dc⟩ := close_D gg hpH bp' hp' pa
      exact ⟨.ref p, rfl, _, .ref p, _, _, _, _, rfl, gc, s.trans (g3.b.trans (g4.b.trans (g5.b.trans (s5.trans (close_S gg.i bp' hp' pa).1)))), dc⟩
  · subst eσ
    have ek : (rngL 0 n).length = n := by simp
    rw [ek] at du
    exact ret_D (evd_var rfl du) g.i fun v' B'' H'' g' e => q _ v' B'' H'' ⟨n, rfl, rfl⟩ (g.trans g') e
end K84

set_option maxHeartbeats 2000000
namespace D8
open PySem PySem.Spec PyProof.Rows L2
section
variable {σ : L2.St} {B H : Hp} {ta tb : TE} {d : PyData}
theorem cutP_to {ds : List PyData} {k : Nat} (h : k ≤ ds.length) : cutP ds none (some (k : Int)) = ds.take k := by
  unfold cutP
  rw [HT.sIx_none, HT.sIx_nat]
  simp [Nat.min_eq_left h]
theorem cutP_from {ds : List PyData} {k : Nat} (h : k ≤ ds.length) : cutP ds (some (k : Int)) none = ds.drop k := by
  unfold cutP
  rw [HT.sIx_none, HT.sIx_nat, Nat.min_eq_left h]
  exact List.take_of_length_le (by rw [List.length_drop]; exact Nat.le_refl _)
theorem evi_rngN {n : Nat} (h : EvD ta σ B (.int (n : Nat))) (hb : n ≤ 1000000) : EvI (iRng1 (tCons ta tNil)) σ B (rngL 0 n) := by
  have h := evi_rng1 h (by omega) (by omega)
  rw [Int.toNat_natCast] at h
  exact h
theorem evd_modN {i j : Int} (ha : EvD ta σ B (.int i)) (hb : EvD tb σ B (.int j)) (hj : j ≠ 0) : EvD (tOp (rI (fun _ j => j ≠ 0) fun i j => .int (i.fmod j)) ta tb) σ B (.int (i.fmod j)) := evd_I ha hb hj rfl
theorem evd_fdivN {i j : Int} (ha : EvD ta σ B (.int i)) (hb : EvD tb σ B (.int j)) (hj : j ≠ 0) (h2 : j.natAbs < 1073741824) : EvD (tOp (rI CDivN fun i j => .int (i.fdiv j)) ta tb) σ B (.int (i.fdiv j)) := evd_I ha hb ⟨hj, h2⟩ rfl
end
end D8
namespace K84
open PySem PySem.Spec PyProof.Rows L2 D8
variable {P : Program} {w : World} {K : PySem.W.Frag} {mg : Str → Option Value} {base : Heap}
/-! ### _law_sign -/
def aboveM (row : List Int) (k : Nat) : Nat := ((row.take k).filter fun x => decide ((row[k]?).getD 0 < x)).length
def pairsM (row : List Int) : Nat → Nat
  | 0 => 0
  | k + 1 => pairsM row k + aboveM row k
def signM (row : List Int) : Int := 1 - 2 * ((pairsM row row.length : Nat) : Int).fmod 2
def isAbove (z : Int) : PyData → Bool
  | .int x => decide (z < x)
  | _ => true
theorem filter_iL (z : Int) : ∀ xs : List Int, ((iL xs).filter (isAbove z)).map id = iL (xs.filter fun x => decide (z < x))
  | [] => rfl
  | x :: xs => by
    have ih := filter_iL z xs
    rw [List.map_id] at ih ⊢
    show List.filter (isAbove z) (PyData.int x :: iL xs) = _
    cases h : decide (z < x) with
    | true =>
      rw [List.filter_cons_of_pos (show isAbove z (.int x) = true from h), List.filter_cons_of_pos (by exact h)]
      show _ = PyData.int x :: iL _
      rw [ih]
    | false =>
      rw [List.filter_cons_of_neg (show ¬ isAbove z (.int x) = true by rw [show isAbove z (.int x) = false from h]; decide), List.filter_cons_of_neg (by rw [h]; decide)]
      exact ih
def sp_law_sign : Sp := SpD (fun ds => ∃ r : List Int, ds = [pt r] ∧ r.length ≤ 1000) (fun ds d => ∃ r : List Int, ds = [pt r] ∧ d = .int (signM r))
theorem ok_law_sign (M : Mod K mg) : FnOk P w K mg base CX0 1 M.f_law_sign M.fd_law_sign ["order"] sp_law_sign := by
  refine M.d_law_sign.F.ok sc_law_sign (SpD.len fun ds ⟨a, e, _⟩ => by rw [e]; rfl) (fun cdv A outer s H vs Q E hr h => ?_)
  obtain ⟨B, ds, sB, hd, ⟨row, rfl, hn⟩, q⟩ := h
  obtain ⟨v0, _, rfl, dr, rfl⟩ := hd
  refine ⟨_, (pss_cons (ps_set (i := 1) sc_law_sign.nd rfl (.inl rfl) pe_int)
    (pss_cons (ps_for PassesOwn.never rfl (pi_range1 (by rfl) M.m_range (pa_cons (pe_callB call_len_seq (by rfl) M.m_len PySem.boot_len (pa_cons (pv 0) pa_nil)) pa_nil)) (pg_name (i := 2) sc_law_sign.nd rfl (.inr rfl))
    (pss_one (ps_set (i := 1) sc_law_sign.nd rfl (.inl rfl) (pe_op op_add (pv 1) (pe_callB call_len_seq (by rfl) M.m_len PySem.boot_len (pa_cons (pe_lc (own := [("item", 3)]) (g := gName 3) (tt := (tTest (tOp (rI0 fun i j => .bl (decide (j < i))) (tVar 3) (tOp (rIxT K) (tVar 0) (tVar 2))))) (te := (tVar 3)) rfl sc_law_sign.nd (pi_tup (pe_slice sl_tupA (pv 0) po_none (po_some (pv 2)))) (blkOk_by (own := [("item", 3)]) (N := N_law_sign) (sc := defScope s_law_sign) (by decide +kernel)) (fun _ _ _ _ _ => (pg_name (i := 3) sc_law_sign.nd rfl (.inl rfl))) (fun _ _ _ _ _ => pts_one (pt_cmpR op_gt (pv 3) (pe_ix ix_tup (pv 0) (pv 2) (fun _ _ => rfl)) (nomark _))) (fun _ _ _ _ _ => (pv 3))) pa_nil))))))
    (pss_one (ps_ret (pe_op op_sub pe_int (pe_op op_mul pe_int (pe_op op_modN (pv 1) pe_int))))))), ?_⟩
  refine seq_set (d := .int 0) evd_int sB fun v1 B1 H1 g1 d1 => ?_
  cases d1
  have hl : EvD (tCB (rLenQ K) (tCons (tVar 0) tNil)) ((start N_law_sign [v0]).set 1 (some (.int 0))) B1 (.int ((iL row).length : Nat)) := evd_lenT (evd_var rfl (dr.mono g1.b))
  rw [List.length_map] at hl
  refine for_D (B := B1) (es := rngL 0 row.length) (evi_rngN hl (by omega)) g1.i fun B2 H2 g2 => ?_
  refine ⟨fun k σ B' H' => ∃ x2 x3, σ = [some v0, some (.int (pairsM row k)), x2, x3] ∧ Grow B H B' H' ∧ Same B2 B', ⟨none, none, rfl, g1.trans g2, Same.refl _⟩, fun k σ B' H' ⟨_, _, _, g, s⟩ => ⟨s, g.i⟩, fun k d σ B' H' he ⟨x2, x3, eσ, g, s⟩ v B3 H3 g3 dv => ?_, fun σ B' H' ⟨x2, x3, eσ, g, s⟩ => ?_⟩
  · subst eσ
    have hk : k < row.length := by
      have := (List.getElem?_eq_some_iff.mp he).1
      simpa using this
    rw [List.getElem?_map, List.getElem?_range hk] at he
    cases he
    have hv : v = .int (0 + (k : Nat)) := dv
    subst hv
    rw [Int.zero_add]
    have gd := g.trans g3
    have dr3 : DD B3 (pt row) v0 := dr.mono gd.b
    have hrow : row[k]? = some row[k] := List.getElem?_eq_getElem hk
    have hcomp := evd_lcF (wi := iTup K (tSl (rSlA K) (tVar 0) tNoPart (tPart (tVar 2)))) (i := 3) (B := B3) (σ := [some v0, some (.int (pairsM row k)), some (.int (k : Nat)), x3])
      (tt := tTest (tOp (rI0 fun i j => .bl (decide (j < i))) (tVar 3) (tOp (rIxT K) (tVar 0) (tVar 2)))) (te := tVar 3) (p := isAbove row[k]) (f := id) (es := iL (row.take k))
      (by
        have h := evi_tup (K := K) (evd_slA (K := K) (evd_var (B := B3) (σ := [some v0, some (.int (pairsM row k)), some (.int (k : Nat)), x3]) (i := 0) rfl dr3) evo_none (evo_some (evd_var (i := 2) (d := .int (k : Nat)) rfl rfl)))
        rw [cutP_to (by rw [List.length_map]; omega)] at h
        rw [show iL (row.take k) = (iL row).take k from List.map_take]
        exact h) (by rw [List.length_map, List.length_take]; exact ge_sz (by omega))
      (fun d B' v hm s hv => by
        obtain ⟨x, hx, rfl⟩ := List.mem_map.mp hm
        exact evt_test (evd_I0 (evd_var (i := 3) rfl hv) (evd_ixT (evd_var (i := 0) rfl (dr3.mono s)) (evd_var (i := 2) (d := .int (k : Nat)) rfl rfl) (iL_at hrow)) rfl))
      (fun d B' v hm _ s hv => evd_var (i := 3) rfl hv)
    rw [filter_iL] at hcomp
    refine one_set (d := .int (pairsM row (k + 1))) ?_ g3.i fun v' B4 H4 g4 d4 => ?_
    · have e : ((pairsM row (k + 1) : Nat) : Int) = (pairsM row k : Int) + ((iL ((row.take k).filter fun x => decide (row[k] < x))).length : Nat) := by
        rw [List.length_map]
        show ((pairsM row k + aboveM row k : Nat) : Int) = _
        unfold aboveM
        rw [hrow]
        simp
      rw [e]
      exact evd_add (evd_var (i := 1) rfl rfl) (evd_lenL hcomp)
    · cases d4
      exact ⟨B4, _, _, rfl, gd.trans g4, s.trans (g3.b.trans g4.b)⟩
  · subst eσ
    have ek : (rngL 0 row.length).length = row.length := by simp
    rw [ek]
    refine ret_D (d := .int (signM row)) (evd_sub evd_int (evd_mul evd_int (evd_modN (evd_var (i := 1) rfl rfl) evd_int (by decide)) (.inl ⟨by decide, by decide⟩))) g.i fun v' B'' H'' g' e => q _ v' B'' H'' ⟨row, rfl, rfl⟩ (g.trans g') e
/-! ### _law_determinant -/
abbrev rowD (tp : Bool) (r : List Int) : PyData := if tp then pt r else ll r
abbrev rowsD (tp : Bool) (M : List (List Int)) : List PyData := M.map (rowD tp)
theorem rowD_or (tp : Bool) (r : List Int) : rowD tp r = .list (iL r) ∨ rowD tp r = .tuple (iL r) := by
  cases tp
  · exact .inl rfl
  · exact .inr rfl
def entM (M : List (List Int)) (i : Nat) (j : Int) : Int := ((M[i]?.getD [])[j.toNat]?).getD 0
def partM (M : List (List Int)) (o : List Int) : Nat → Int
  | 0 => signM o
  | k + 1 => partM M o k * entM M k ((o[k]?).getD 0)
def sumM (M : List (List Int)) : List (List Int) → Int
  | [] => 0
  | o :: os => partM M o M.length + sumM M os
theorem sumM_append (M : List (List Int)) : ∀ xs ys, sumM M (xs ++ ys) = sumM M xs + sumM M ys
  | [], ys => by simp [sumM]
  | x :: xs, ys => by
    show partM M x M.length + sumM M (xs ++ ys) = partM M x M.length + sumM M xs + sumM M ys
    rw [sumM_append M xs ys, Int.add_assoc]
def detM (M : List (List Int)) : Int := sumM M (ordersM M.length)
/-- a square matrix with bounded entries -/
structure Sqr (b : Int) (n : Nat) (M : List (List Int)) : Prop where
  len : M.length = n
  row : ∀ r ∈ M, r.length = n
  bd : ∀ r ∈ M, ∀ x ∈ r, -b ≤ x ∧ x ≤ b
theorem Sqr.ent {b : Int} {n : Nat} {M : List (List Int)} (S : Sqr b n M) {k : Nat} {j : Int} (hk : k < n) (h0 : 0 ≤ j) (h1 : j < n) : ∃ r, M[k]? = some r ∧ r[j.toNat]? = some (entM M k j) ∧ -b ≤ entM M k j ∧ entM M k j ≤ b := by
  have hk' : k < M.length := by rw [S.len]; exact hk
  have hr : M[k] ∈ M := List.getElem_mem hk'
  have hj : j.toNat < M[k].length := by rw [S.row _ hr]; omega
  have e : entM M k j = M[k][j.toNat] := by
    unfold entM
    rw [List.getElem?_eq_getElem hk', Option.getD_some, List.getElem?_eq_getElem hj, Option.getD_some]
  refine ⟨M[k], List.getElem?_eq_getElem hk', by rw [e]; exact List.getElem?_eq_getElem hj, ?_⟩
  rw [e]
  exact S.bd _ hr _ (List.getElem_mem hj)
def sp_law_determinant : Sp := SpD (fun ds => ∃ (tp : Bool) (n : Nat) (M : List (List Int)), ds = [.list (rowsD tp M)] ∧ n ≤ 6 ∧ Sqr 4294967296 n M) (fun ds d => ∃ (tp : Bool) (M : List (List Int)), ds = [.list (rowsD tp M)] ∧ d = .int (detM M))
theorem ok_law_determinant (M : Mod K mg) : FnOk P w K mg base CX0 2 M.f_law_determinant M.fd_law_determinant ["rows"] sp_law_determinant := by
  refine M.d_law_determinant.F.ok sc_law_determinant (SpD.len fun ds ⟨_, _, _, e, _⟩ => by rw [e]; rfl) (fun cdv A outer s H vs Q E hr h => ?_)
  obtain ⟨B, ds, sB, hd, ⟨tp, n, X, rfl, hn, S⟩, q⟩ := h
  obtain ⟨v0, _, rfl, dr, rfl⟩ := hd
  refine ⟨_, (pss_cons (ps_set (i := 1) sc_law_determinant.nd rfl (.inl rfl) pe_int)
    (pss_cons (ps_for PassesOwn.never rfl (pi_list (pe_call (ok_law_orders M) (hr.mono (by decide)) (by rfl) M.d_law_orders.g M.d_law_orders.F.kp M.d_law_orders.b .nil pass0 (pa_cons (pe_callB call_len_seq (by rfl) M.m_len PySem.boot_len (pa_cons (pv 0) pa_nil)) pa_nil))) (pg_name (i := 2) sc_law_determinant.nd rfl (.inl rfl))
    (pss_cons (ps_set (i := 3) sc_law_determinant.nd rfl (.inl rfl) (pe_call (ok_law_sign M) (hr.mono (by decide)) (by rfl) M.d_law_sign.g M.d_law_sign.F.kp M.d_law_sign.b .nil pass0 (pa_cons (pv 2) pa_nil)))
    (pss_cons (ps_for PassesOwn.never rfl (pi_range1 (by rfl) M.m_range (pa_cons (pe_callB call_len_seq (by rfl) M.m_len PySem.boot_len (pa_cons (pv 0) pa_nil)) pa_nil)) (pg_name (i := 4) sc_law_determinant.nd rfl (.inl rfl))
    (pss_one (ps_set (i := 3) sc_law_determinant.nd rfl (.inl rfl) (pe_op op_mul (pv 3) (pe_ix ix_seq (pe_ix ix_list (pv 0) (pv 4) (fun _ _ => rfl)) (pe_ix ix_tup (pv 2) (pv 4) (fun _ _ => rfl)) (fun _ _ => rfl))))))
    (pss_one (ps_set (i := 1) sc_law_determinant.nd rfl (.inl rfl) (pe_op op_add (pv 1) (pv 3)))))))
    (pss_one (ps_ret (pv 1))))), ?_⟩
  refine seq_set (d := .int 0) evd_int sB fun v1 B1 H1 g1 d1 => ?_
  cases d1
  have hlen : ∀ {σ : L2.St} {B' : Hp}, Same B B' → σ[0]? = some (some v0) → EvD (tCB (rLenQ K) (tCons (tVar 0) tNil)) σ B' (.int (n : Nat)) := fun {σ B'} s h0 => by
    have h := evd_lenL (K := K) (evd_var (d := .list (rowsD tp X)) h0 (dr.mono s))
    rw [List.length_map, S.len] at h
    exact h
  refine for_D (B := B1) (es := pts (ordersM n)) (evi_list (evd_call (ds := [.int (n : Nat)]) (eva_cons (hlen g1.b rfl) eva_nil) ⟨n, rfl, hn⟩ (fun d ⟨m, e, hd⟩ => by
    have em : n = m := by cases e; omega
    subst em
    exact hd))) g1.i fun B2 H2 g2 => ?_
  refine ⟨fun k σ B' H' => ∃ x2 x3 x4, σ = [some v0, some (.int (sumM X ((ordersM n).take k))), x2, x3, x4] ∧ Grow B H B' H' ∧ Same B2 B', ⟨none, none, none, rfl, g1.trans g2, Same.refl _⟩, fun k σ B' H' ⟨_, _, _, _, g, s⟩ => ⟨s, g.i⟩, fun k d σ B' H' he ⟨x2, x3, x4, eσ, g, s⟩ v B3 H3 g3 dv => ?_, fun σ B' H' ⟨x2, x3, x4, eσ, g, s⟩ => ?_⟩
  · subst eσ
    obtain ⟨o, ho, rfl⟩ : ∃ o, (ordersM n)[k]? = some o ∧ d = pt o := by
      rw [List.getElem?_map] at he
      cases e : (ordersM n)[k]? with
      | none => rw [e] at he; cases he
      | some r => rw [e] at he; cases he; exact ⟨r, rfl, rfl⟩
    obtain ⟨ol, ob⟩ := ordersK_row n n o (List.mem_of_getElem? ho)
    have gd := g.trans g3
    refine seq_set (d := .int (signM o)) (evd_call (ds := [pt o]) (eva_cons (evd_var (i := 2) rfl dv) eva_nil) ⟨o, rfl, by omega⟩ (fun d ⟨m, e, hd⟩ => by
      have em := pt_inj (List.cons.inj e).1
      subst em
      exact hd)) g3.i fun v5 B4 H4 g4 d4 => ?_
    cases d4
    have gd4 := gd.trans g4
    refine for_D (B := B4) (es := rngL 0 n) (evi_rngN (hlen gd4.b rfl) (by omega)) g4.i fun B5 H5 g5 => ?_
    refine ⟨fun i σ B' H' => ∃ y4, σ = [some v0, some (.int (sumM X ((ordersM n).take k))), some v, some (.int (partM X o i)), y4] ∧ Grow B H B' H' ∧ Same B5 B', ⟨_, rfl, gd4.trans g5, Same.refl _⟩, fun i σ B' H' ⟨_, _, g, s⟩ => ⟨s, g.i⟩, ?_, ?_⟩
    · rintro i d σ B' H' hd ⟨y4, rfl, gg, s5⟩ x B6 H6 g6 dx
      have hi : i < n := by
        have := (List.getElem?_eq_some_iff.mp hd).1
        simpa using this
      rw [List.getElem?_map, List.getElem?_range hi] at hd
      cases hd
      have hx : x = .int (0 + (i : Nat)) := dx
      subst hx
      rw [Int.zero_add]
      have hoi : o[i]? = some o[i] := List.getElem?_eq_getElem (by omega)
      have hob := ob o[i] (List.getElem_mem (by omega))
      obtain ⟨r, hr1, hr2, hb1, hb2⟩ := S.ent (k := i) (j := o[i]) hi hob.1 hob.2
      have e : partM X o (i + 1) = partM X o i * entM X i o[i] := by
        show _ * entM X i ((o[i]?).getD 0) = _
        rw [hoi, Option.getD_some]
      refine one_set (d := .int (partM X o (i + 1))) ?_ g6.i fun v' B7 H7 g7 d7 => ?_
      · rw [e]
        refine evd_mul (evd_var (i := 3) rfl rfl) (evd_ixQ (rowD_or tp r) (evd_ixL (evd_var (i := 0) rfl (dr.mono (gg.b.trans g6.b))) (evd_var (i := 4) (d := .int (i : Nat)) rfl rfl) (atI_nat (by rw [List.getElem?_map, hr1]; rfl))) (evd_ixT (evd_var (i := 2) rfl (dv.mono (g4.b.trans (g5.b.trans (s5.trans g6.b))))) (evd_var (i := 4) (d := .int (i : Nat)) rfl rfl) (iL_at hoi)) ?_) (.inr ⟨by omega, by omega⟩)
        have z := iL_at hr2
        rw [Int.toNat_of_nonneg hob.1] at z
        exact z
      · cases d7
        exact ⟨B7, _, rfl, (gg.trans g6).trans g7, s5.trans (g6.b.trans g7.b)⟩
    · rintro σ B' H' ⟨y4, rfl, gg, s5⟩
      dsimp only
      rw [show (rngL 0 n).length = n by simp]
      refine one_set (d := .int (sumM X ((ordersM n).take (k + 1)))) ?_ gg.i fun v' B7 H7 g7 d7 => ?_
      · have e : sumM X ((ordersM n).take (k + 1)) = sumM X ((ordersM n).take k) + partM X o n := by
          rw [List.take_add_one, ho, sumM_append]
          show _ + (partM X o X.length + 0) = _
          rw [S.len, Int.add_zero]
        rw [e]
        exact evd_add (evd_var (i := 1) rfl rfl) (evd_var (i := 3) rfl rfl)
      · cases d7
        exact ⟨B7, _, _, _, rfl, gg.trans g7, s.trans (g3.b.trans (g4.b.trans (g5.b.trans (s5.trans g7.b))))⟩
  · subst eσ
    rw [List.length_map, List.take_length]
    dsimp only
    refine ret_D (d := .int (detM X)) (by unfold detM; rw [S.len]; exact evd_var (i := 1) rfl rfl) g.i fun v' B'' H'' g' e => q _ v' B'' H'' ⟨tp, X, rfl, rfl⟩ (g.trans g') e
end K84

set_option maxHeartbeats 2000000
namespace D8
open PySem PySem.Spec PyProof.Rows L2
theorem pts_get {X : List (List Int)} {i : Nat} {d : PyData} (h : (X.map pt)[i]? = some d) : ∃ r, X[i]? = some r ∧ d = pt r := by
  rw [List.getElem?_map] at h
  cases e : X[i]? with
  | none => rw [e] at h; cases h
  | some r => rw [e] at h; cases h; exact ⟨r, rfl, rfl⟩
theorem pts_inj : ∀ {X Y : List (List Int)}, X.map pt = Y.map pt → X = Y
  | [], [], _ => rfl
  | [], _ :: _, h => by simp at h
  | _ :: _, [], h => by simp at h
  | x :: X, y :: Y, h => by
    have h1 := (List.cons.inj h).1
    have h2 := (List.cons.inj h).2
    rw [pt_inj h1, pts_inj h2]
end D8
namespace K84
open PySem PySem.Spec PyProof.Rows L2 D8
variable {P : Program} {w : World} {K : PySem.W.Frag} {mg : Str → Option Value} {base : Heap}
/-! ### _law_volume -/
def lessRows (X : List (List Int)) : List (List Int) := X.tail.map fun r => subL r (X.head?.getD [])
def volM (X : List (List Int)) : Int := ((detM (lessRows X)).natAbs : Nat)
/-- k + 1 points with k coordinates -/
structure Simp (b : Int) (k : Nat) (X : List (List Int)) : Prop where
  len : X.length = k + 1
  row : ∀ r ∈ X, r.length = k
  bd : ∀ r ∈ X, ∀ x ∈ r, -b ≤ x ∧ x ≤ b
theorem subL_len {a b : List Int} {k : Nat} (h : a.length = k) (h' : b.length = k) : (subL a b).length = k := by
  unfold subL
  rw [List.length_zipWith, h, h', Nat.min_self]
theorem subL_bd {a b : List Int} {c : Int} (h : ∀ x ∈ a, -c ≤ x ∧ x ≤ c) (h' : ∀ x ∈ b, -c ≤ x ∧ x ≤ c) : ∀ x ∈ subL a b, -(2 * c) ≤ x ∧ x ≤ 2 * c := by
  intro x hx
  obtain ⟨i, h1, h2⟩ := List.mem_iff_getElem.mp hx
  unfold subL at h2 h1
  rw [List.getElem_zipWith] at h2
  rw [List.length_zipWith] at h1
  have q1 := h a[i] (List.getElem_mem (by omega))
  have q2 := h' b[i] (List.getElem_mem (by omega))
  omega
theorem Simp.sqr {b : Int} {k : Nat} {X : List (List Int)} (S : Simp b k X) : Sqr (2 * b) k (lessRows X) := by
  obtain ⟨x, Y, rfl⟩ : ∃ x Y, X = x :: Y := by
    cases X with
    | nil => exact absurd S.len (by simp)
    | cons x Y => exact ⟨x, Y, rfl⟩
  have hx : x ∈ x :: Y := List.mem_cons_self ..
  refine ⟨?_, fun r hr => ?_, fun r hr => ?_⟩
  · have := S.len
    unfold lessRows
    rw [List.length_map]
    simp at this ⊢
    exact this
  · obtain ⟨y, hy, rfl⟩ := List.mem_map.mp hr
    exact subL_len (S.row y (List.mem_cons_of_mem _ hy)) (S.row x hx)
  · obtain ⟨y, hy, rfl⟩ := List.mem_map.mp hr
    exact subL_bd (S.bd y (List.mem_cons_of_mem _ hy)) (S.bd x hx)
def lessD (x : List Int) : PyData → PyData
  | .tuple ds => .tuple (List.zipWith (fun d e => match d, e with | .int a, .int b => .int (a - b) | _, _ => .none) ds (iL x))
  | d => d
theorem lessD_pt (x : List Int) (r : List Int) : lessD x (pt r) = pt (subL r x) := by
  show PyData.tuple _ = PyData.tuple _
  congr 1
  unfold subL
  induction r generalizing x with
  | nil => simp
  | cons a r ih =>
    cases x with
    | nil => simp
    | cons b x =>
      show PyData.int (a - b) :: _ = PyData.int (a - b) :: _
      rw [ih x]
def sp_law_volume : Sp := SpD (fun ds => ∃ k X, ds = [.list (pts X)] ∧ k ≤ 6 ∧ Simp 2147483648 k X) (fun ds d => ∃ X, ds = [.list (pts X)] ∧ d = .int (volM X))
theorem ok_law_volume (M : Mod K mg) : FnOk P w K mg base CX0 3 M.f_law_volume M.fd_law_volume ["points"] sp_law_volume := by
  refine M.d_law_volume.F.ok sc_law_volume (SpD.len fun ds ⟨_, _, e, _⟩ => by rw [e]; rfl) (fun cdv A outer s H vs Q E hr h => ?_)
  obtain ⟨B, ds, sB, hd, ⟨k, X, rfl, hk, S⟩, q⟩ := h
  obtain ⟨v0, _, rfl, dr, rfl⟩ := hd
  refine ⟨_, (pss_cons (ps_set (i := 1) sc_law_volume.nd rfl (.inr rfl) (pe_ix ix_list (pv 0) pe_int (fun _ _ => rfl)))
    (pss_one (ps_ret (pe_callB call_abs (by rfl) M.m_abs (by decide +kernel) (pa_cons (pe_call (ok_law_determinant M) (hr.mono (by decide)) (by rfl) M.d_law_determinant.g M.d_law_determinant.F.kp M.d_law_determinant.b .nil pass0 (pa_cons (pe_lc (own := [("point", 2)]) (g := gName 2) (tt := tYes) (te := (tCall sp_law_less [] E0 (tCons (tVar 2) (tCons (tVar 1) tNil)))) rfl sc_law_volume.nd (pi_list (pe_slice sl_list (pv 0) (po_some pe_int) po_none)) (blkOk_by (own := [("point", 2)]) (N := N_law_volume) (sc := defScope s_law_volume) (by decide +kernel)) (fun _ _ _ _ _ => (pg_name (i := 2) sc_law_volume.nd rfl (.inl rfl))) (fun _ _ _ _ _ => pts_nil) (fun _ _ _ _ _ => (pe_call (ok_law_less M) (hr.mono (by decide)) (by rfl) M.d_law_less.g M.d_law_less.F.kp M.d_law_less.b .nil pass0 (pa_cons (pv 2) (pa_cons (pv 1) pa_nil))))) pa_nil)) pa_nil))))), ?_⟩
  obtain ⟨x, Y, rfl⟩ : ∃ x Y, X = x :: Y := by
    cases X with
    | nil => exact absurd S.len (by simp)
    | cons x Y => exact ⟨x, Y, rfl⟩
  have hY : Y.length = k := by have := S.len; simp at this; exact this
  refine seq_set (d := pt x) (evd_ixL (evd_var rfl dr) evd_int (atI_nat (j := 0) rfl)) sB fun v1 B1 H1 g1 d1 => ?_
  have dr1 := dr.mono g1.b
  have hsl := evd_slL (K := K) (lo := some ((1 : Nat) : Int)) (hi := none) (evd_var (σ := (start N_law_volume [v0]).set 1 (some v1)) (i := 0) rfl dr1) (evo_some (evd_c (v := .int 1) (d := .int ((1 : Nat) : Int)) rfl)) evo_none
  rw [cutP_from (by simp)] at hsl
  have hcomp := evd_lcN (i := 2) (te := tCall sp_law_less [] E0 (tCons (tVar 2) (tCons (tVar 1) tNil))) (f := lessD x) (evi_list (K := K) hsl) (by
      show (pts Y).length ≤ _
      rw [List.length_map, hY]
      exact ge_sz (by omega))
    (fun d B' v hm s hv => by
      obtain ⟨y, hy, rfl⟩ := List.mem_map.mp (show d ∈ Y.map pt from hm)
      rw [lessD_pt]
      refine evd_call (ds := [pt y, pt x]) (eva_cons (evd_var rfl hv) (eva_cons (evd_var (i := 1) rfl (d1.mono s)) eva_nil)) ⟨y, x, rfl, by rw [S.row y (List.mem_cons_of_mem _ hy)]; omega⟩ fun d ⟨a, b, e, hd⟩ => ?_
      have e1 := pt_inj (List.cons.inj e).1
      have e2 := pt_inj (List.cons.inj (List.cons.inj e).2).1
      rw [hd, e1, e2])
  have em : (((pts (x :: Y)).drop 1).map (lessD x)) = rowsD true (lessRows (x :: Y)) := by
    show (Y.map pt).map (lessD x) = (Y.map fun r => subL r x).map (rowD true)
    rw [List.map_map, List.map_map]
    exact List.map_congr_left fun r _ => lessD_pt x r
  rw [em] at hcomp
  refine ret_D (d := .int (volM (x :: Y))) (evd_abs (evd_call (ds := [.list (rowsD true (lessRows (x :: Y)))]) (eva_cons hcomp eva_nil) ⟨true, k, _, rfl, hk, S.sqr⟩ fun d ⟨tp, Z, e, hd⟩ => ?_)) g1.i fun v B' H' g e => q _ v B' H' ⟨_, rfl, rfl⟩ (g1.trans g) e
  have e1 := PyData.list.inj (List.cons.inj e).1
  cases tp with
  | true => rw [hd, pts_inj e1]
  | false =>
    cases Z with
    | nil =>
      cases Y with
      | nil => rw [hd]; rfl
      | cons y Y => simp [lessRows] at e1
    | cons z Z =>
      cases Y with
      | nil => simp [lessRows] at e1
      | cons y Y =>
        have e2 := (List.cons.inj e1).1
        cases e2
end K84

set_option maxHeartbeats 2000000
/-! sorted of lists and sets of tuples of ints of either sign: the library's rule over shifted tuples. -/
namespace SgS
open PySem PySem.Spec PyProof.Rows L2
/-- the tuples made non-negative, and their rank -/
def up (c : Int) (ns : List Int) : List Int := ns.map fun n => n + c
def rank (c : Int) (ns : List Int) : Int := TS.code (2 * c) (up c ns)
def Within (c : Int) (ns : List Int) : Prop := ∀ n ∈ ns, -c ≤ n ∧ n < c
theorem Within.up {c : Int} {ns : List Int} (h : Within c ns) : TS.Bd (2 * c) (SgS.up c ns) := fun m hm => by
  obtain ⟨n, hn, rfl⟩ := List.mem_map.mp hm
  have := h n hn
  omega
theorem Within.of_cons {c n : Int} {ns : List Int} (h : Within c (n :: ns)) : Within c ns := fun m hm => h m (List.mem_cons_of_mem _ hm)
theorem up_len (c : Int) (ns : List Int) : (up c ns).length = ns.length := List.length_map ..
theorem rank_cons_lt {c p q : Int} {ns ms : List Int} (hl : ns.length = ms.length) (h1 : Within c ns) (h2 : Within c ms) (h : p < q) : rank c (p :: ns) < rank c (q :: ms) :=
  TS.code_lt (d := p + c) (e := q + c) (r := up c ns) (q := up c ms) (by rw [up_len, up_len, hl]) h1.up h2.up (Int.add_lt_add_right h c)
theorem rank_cons_same {c p : Int} {ns ms : List Int} (hl : ns.length = ms.length) : rank c (p :: ns) < rank c (p :: ms) ↔ rank c ns < rank c ms :=
  TS.code_same (by show (up c ns).length = (up c ms).length; rw [up_len, up_len, hl])
theorem rank_inj {c : Int} : ∀ {ns ms : List Int}, ns.length = ms.length → Within c ns → Within c ms → rank c ns = rank c ms → ns = ms
  | [], [], _, _, _, _ => rfl
  | [], _ :: _, h, _, _, _ => by simp at h
  | _ :: _, [], h, _, _, _ => by simp at h
  | p :: ns, q :: ms, hl, h1, h2, e => by
    have hl' : ns.length = ms.length := by simpa using hl
    rcases Int.lt_trichotomy p q with z | z | z
    · have := rank_cons_lt hl' h1.of_cons h2.of_cons z; omega
    · subst z
      have e' : rank c ns = rank c ms := by
        have a' : ¬ rank c ns < rank c ms := fun z => by have := (rank_cons_same (c := c) (p := p) hl').mpr z; omega
        have b' : ¬ rank c ms < rank c ns := fun z => by have := (rank_cons_same (c := c) (p := p) hl'.symm).mpr z; omega
        omega
      rw [rank_inj hl' h1.of_cons h2.of_cons e']
    · have := rank_cons_lt hl'.symm h2.of_cons h1.of_cons z; omega
section
variable {prog : Program} {w : World} {A : Around} {E : Value → Shared → Prop} {s : Shared}
theorem lexS {c : Int} {b : Bool} {Q : Bool → Shared → Prop} : ∀ {xs ys : List Value} {ns ms : List Int} (i : Nat), IntsAre xs ns → IntsAre ys ms → ns.length = ms.length → Within c ns → Within c ms →
    Q (decide (rank c ns < rank c ms)) s → PySem.W.KatLex prog w A b false Q (xs.zip ys) i s
  | _, _, _, _, i, .nil, .nil, _, _, _, h => PySem.W.kat_nil (by rw [show decide (rank c [] < rank c []) = false from decide_eq_false (Int.lt_irrefl _)] at h; exact h)
  | _, _, _, _, _, .nil, .cons .., hl, _, _, _ => by simp at hl
  | _, _, _, _, _, .cons .., .nil, hl, _, _, _ => by simp at hl
  | _, _, _, _, i, .cons (n := p) (t := t) hx, .cons (n := q) (t := u) hy, hl, h1, h2, h => by
    have hl' := Nat.succ.inj hl
    refine PySem.W.kat_cons (wpAny_eqBool_int ?_)
    by_cases e : p = q
    · subst e
      rw [beq_self_eq_true]
      rw [decide_eq_decide.mpr (rank_cons_same hl')] at h
      exact PySem.W.kat_yes (lexS _ hx hy hl' h1.of_cons h2.of_cons h)
    · rw [beq_eq_false_iff_ne.mpr e]
      refine PySem.W.kat_no (TS.oneLt_ints _ ?_)
      have dd : decide (p < q) = decide (rank c (p :: _) < rank c (q :: _)) := decide_eq_decide.mpr ⟨fun z => rank_cons_lt hl' h1.of_cons h2.of_cons z, fun z => by
        rcases Int.lt_trichotomy p q with y | y | y
        · exact y
        · exact absurd y e
        · have := rank_cons_lt hl'.symm h2.of_cons h1.of_cons y; omega⟩
      rw [dd]
      exact h
def TOk (h : Heap) (d : Nat) (c : Int) (vs : List Value) : Prop := ∀ v ∈ vs, ∃ ns, TS.TupInts h v ns ∧ ns.length = d ∧ Within c ns
theorem heads {h : Heap} {d : Nat} {c : Int} (hd : 1 ≤ d) : ∀ {vs : List Value}, TOk h d c vs → ∃ fs, PySem.W.KatTups h vs fs ∧ fs.length = vs.length ∧ ∀ f ∈ fs, ∃ n t, f = Value.int n t
  | [], _ => ⟨[], .nil, rfl, fun _ z => by cases z⟩
  | v :: vs, x => by
    obtain ⟨fs, k, hl, hi⟩ := heads hd (vs := vs) fun u hu => x u (List.mem_cons_of_mem _ hu)
    obtain ⟨ns, ⟨a, its, rfl, ⟨o, ho, hc, n, hdt⟩, i⟩, hn, _⟩ := x v (List.mem_cons_self ..)
    have hpos : 0 < its.toList.length := by rw [i.length, hn]; omega
    have hg : its.toList[0]? = some its.toList[0] := List.getElem?_eq_getElem hpos
    obtain ⟨m, t, hy⟩ := i.all its.toList[0] (List.getElem_mem hpos)
    refine ⟨its.toList[0] :: fs, .cons ho hc hdt (by simpa using hg) k, by rw [List.length_cons, List.length_cons, hl], fun f hf => ?_⟩
    rcases List.mem_cons.mp hf with rfl | hf
    · exact ⟨m, t, hy⟩
    · exact hi f hf
theorem kindS {d : Nat} {c : Int} {vs : List Value} (hd : 1 ≤ d) (h2 : 2 ≤ vs.length) (x : TOk s.heap d c vs) (r : Value → Int) (hr : ∀ v ∈ vs, ∀ ns, TS.TupInts s.heap v ns → r v = rank c ns) (Q : SortKind → Shared → Prop)
    (h : ∀ κ, TS.Cmp prog w A s κ (pairsOf vs) r → Q κ s) : wpAny (model prog w) A (keyKind' vs.toArray) Q E s := by
  obtain ⟨fs, k, hl, hi⟩ := heads hd x
  refine PySem.W.kat_kind (T := Value.type "int") k (by omega) (fun f hf => ?_) rfl (h _ fun p q hp hq Q' E' hQ => ?_)
  · obtain ⟨n, t, rfl⟩ := hi f hf
    exact PySem.W.Looks.of_pure rfl
  · rw [pairsOf_toList] at hp hq
    obtain ⟨ns, tp, lp, bp⟩ := x _ (mem_zip_self hp).2
    obtain ⟨ms, tq, lq, bq⟩ := x _ (mem_zip_self hq).2
    rw [hr _ (mem_zip_self hp).2 _ tp, hr _ (mem_zip_self hq).2 _ tq] at hQ
    obtain ⟨a, its, e1, ⟨o, ho, hc, n, hdt⟩, i⟩ := tp
    obtain ⟨a', its', e2, ⟨o', ho', hc', n', hdt'⟩, i'⟩ := tq
    rw [e1, e2]
    refine PySem.W.kat_lt ho hdt ho' hdt' ?_
    have l1 := i.length
    have l2 := i'.length
    rw [Array.length_toList] at l1 l2
    rw [show decide (its.size < its'.size) = false from decide_eq_false (by omega)]
    exact lexS 0 i i' (by omega) bp bq hQ
theorem sortS {a : Addr} {vs : List Value} {n d : Nat} {c : Int} {P : PySem.Fin → Shared → Prop} (ho : s.heap.get? a = some (seqObj "list" vs.toArray n)) (h64 : vs.length < 64) (hd : 1 ≤ d) (x : TOk s.heap d c vs)
    (r : Value → Int) (hr : ∀ v ∈ vs, ∀ ns, TS.TupInts s.heap v ns → r v = rank c ns)
    (h : ∀ out : Array Value, out.toList.Perm vs → out.toList.Pairwise (fun u v => r u ≤ r v) → P (.done (.ret .none)) { s with heap := sortedHeap s.heap a vs out }) :
    wpAny (model prog w) A (Builtin.«list.sort» ⟨[.ref a], []⟩) P E s := by
  have old : ∀ b o, s.heap.get? b = some o → o.cls = .type "tuple" → (TS.midHeap s.heap a vs).get? b = some o := fun b o e hc => by
    have hb : b ≠ a := fun z => by
      subst z
      rw [ho] at e
      have e2 := Option.some.inj e
      subst e2
      have c3 : Value.type "list" = Value.type "tuple" := hc
      injection c3 with c4
      exact absurd c4 (by decide)
    exact TS.midHeap_old hb e
  have xm : TOk (TS.midHeap s.heap a vs) d c vs := fun v hv => by
    obtain ⟨ns, t, r⟩ := x v hv
    exact ⟨ns, t.keeps old, r⟩
  refine SK.plain_sort (r := r) ho h64 (fun h2 Q hQ => kindS (s := { s with heap := TS.midHeap s.heap a vs }) hd h2 xm r (fun v hv ns t => ?_) Q hQ) fun ps out h1 h2 h3 => ?_
  · obtain ⟨ns', t', _⟩ := x v hv
    rw [show ns = ns' from t.ints.symm.trans (t'.keeps old).ints]
    exact hr v hv ns' t'
  · obtain ⟨p, o⟩ := TS.out_rank h1 h2 h3
    exact h out p o
/-- the rank that the heap tells -/
def rk (c : Int) (h : Heap) (v : Value) : Int := rank c (TS.intsOf h v)
theorem rk_of {c : Int} {h : Heap} {v : Value} {ns : List Int} (t : TS.TupInts h v ns) : rk c h v = rank c ns := by
  unfold rk
  rw [t.ints]
theorem call_sortS {a : Addr} {vs : List Value} {n d : Nat} {c : Int} {Q : Value → Shared → Prop} (ho : s.heap.get? a = some (seqObj "list" vs.toArray n)) (h64 : vs.length < 64) (hd : 1 ≤ d) (x : TOk s.heap d c vs) (r : Value → Int)
    (hr : ∀ v ∈ vs, ∀ ns, TS.TupInts s.heap v ns → r v = rank c ns)
    (h : ∀ out : Array Value, out.toList.Perm vs → out.toList.Pairwise (fun u v => r u ≤ r v) → Q .none { s with heap := sortedHeap s.heap a vs out }) :
    wpAny (model prog w) A (call (.builtin "list.sort") [.ref a]) Q E s :=
  wpAny_call_entry slot_list_sort ⟨_, ho, rfl⟩ entry_list_sort (sortS ho h64 hd x r hr fun out h1 h2 => ⟨_, rfl, h out h1 h2⟩) (args_list_sort _)
theorem sortedS {l : Addr} {vs : List Value} {d : Nat} {c : Int} {Q : Value → Shared → Prop} (hl : s.heap.IsList l vs.toArray) (h64 : vs.length < 64) (hd : 1 ≤ d) (x : TOk s.heap d c vs)
    (h : ∀ out : Array Value, out.toList.Perm vs → out.toList.Pairwise (fun u v => rk c s.heap u ≤ rk c s.heap v) → Q (.ref (s.heap.objs.size + 1)) { s with heap := sortedAll s.heap vs out }) :
    wpAny (model prog w) A (call (.builtin "sorted") [.ref l]) Q E s := by
  refine Calls.call_function_entry kind_sorted plain_sorted entry_sorted (args_sorted1 _) ?_
  unfold Builtin.«sorted»
  refine wpAny_bind (m := checkCount "sorted" 1 1 _) (wpAny_pure (wpAny_bind (collect_list hl ?_ (by rw [sizeLine_eq]; omega))))
  refine wpAny_bind (wpAny_newList ?_ (by rw [sizeLine_eq]; omega))
  have size1 : ((s.heap.push (seqObj "list" #[] 0)).update s.heap.objs.size (Obj.mapSeq (· ++ vs.toArray))).objs.size = s.heap.objs.size + 1 := by rw [Heap.size_update, size_push']
  have atL : (((s.heap.push (seqObj "list" #[] 0)).update s.heap.objs.size (Obj.mapSeq (· ++ vs.toArray))).push (seqObj "list" vs.toArray 0)).get? (s.heap.objs.size + 1) = some (seqObj "list" vs.toArray 0) := by
    rw [← size1]; exact Heap.get?_push_size _ rfl
  have old : ∀ b o, s.heap.get? b = some o → o.cls = .type "tuple" → (((s.heap.push (seqObj "list" #[] 0)).update s.heap.objs.size (Obj.mapSeq (· ++ vs.toArray))).push (seqObj "list" vs.toArray 0)).get? b = some o := fun b o q _ => by
    have lt := Heap.lt_size q
    rw [Heap.get?_push_ne _ _ _ (by rw [size1]; exact Nat.ne_of_lt (Nat.lt_succ_of_lt lt)), Heap.get?_update_ne _ _ _ _ (Nat.ne_of_lt lt), Heap.get?_push_ne _ _ _ (Nat.ne_of_lt lt)]
    exact q
  show wpAny _ _ _ _ _ { s with heap := ((s.heap.push (seqObj "list" #[] 0)).update s.heap.objs.size (Obj.mapSeq (· ++ vs.toArray))).push (seqObj "list" vs.toArray 0) }
  rw [size1]
  refine wpAny_bind (wpAny_holding (call_sortS atL h64 hd (c := c) (fun v hv => ?_) (rk c s.heap) (fun v hv ns t => ?_) fun out a1 a2 => wpAny_pure ⟨_, rfl, h out a1 a2⟩))
  · obtain ⟨ns, t, r⟩ := x v hv
    exact ⟨ns, t.keeps old, r⟩
  · obtain ⟨ns', t', _⟩ := x v hv
    rw [show ns = ns' from t.ints.symm.trans (t'.keeps old).ints]
    exact rk_of t'
end
/-! the rules -/
section
variable {X : Cx}
def rSortS (K : PySem.W.Frag) (d : Nat) (c : Int) : List V → Hp → VK → Prop := fun vs H Q => ∃ (a : Addr) (xs : List V), vs = [V.ref a] ∧ SqL K H a xs ∧ xs.length < 64 ∧ (∀ x ∈ xs, ∃ ns, TupI K H x ns ∧ ns.length = d ∧ Within c ns) ∧
  ∀ (ys : List V) (p : Addr), ys.Perm xs → ys.Pairwise (fun x y => ∀ n m, TupI K H x n → TupI K H y m → rank c n ≤ rank c m) → H p = none → Q (.ref p) (upd H p (.lst ys))
theorem cr_sortS {d : Nat} {c : Int} (hd : 1 ≤ d) : CallR X (.builtin "sorted") (rSortS X.K d c) := by
  intro pins s σ H vs us Q I r h
  obtain ⟨a, xs, rfl, hs, h64, hx, q⟩ := h
  obtain ⟨its, rv, hl, hz⟩ := I.list hs
  rw [Vals.ref1 r]
  obtain ⟨e1, e2⟩ := bkV_refs rv fun x m => by
    obtain ⟨_, ⟨t, e, _⟩, _⟩ := hx x m
    exact ⟨t, e⟩
  refine sortedS (d := d) (c := c) hl.isList (by rw [← rv.length]; exact h64) hd (fun v hv => ?_) fun out h1 h2 => ?_
  · obtain ⟨t, rfl⟩ := e2 v hv
    obtain ⟨ns, ⟨t', e, ht⟩, hn, hb⟩ := hx (.ref t) (by rw [e1]; exact List.mem_map.mpr ⟨_, hv, rfl⟩)
    cases e
    exact ⟨ns, tupI_raw I ht, hn, hb⟩
  · obtain ⟨ep, he'⟩ := PyProof.Rows.sortedAll_at s.heap its out
    have h3 : ∀ u ∈ out.toList, ∃ a, u = Value.ref a := fun u hu => e2 u (h1.mem_iff.mp hu)
    have hp : (out.toList.map bkV).Perm xs := by rw [e1]; exact h1.map bkV
    refine ⟨.ref _, upd H (s.heap.objs.size + 1) (.lst (out.toList.map bkV)), I.laid (t' := s.toks) (fun _ _ => PyProof.Rows.sortedAll_old) (Nat.le_succ _) ⟨by rw [hp.length_eq]; exact hz, out.toList, ep, bkV_vals h3, he'⟩, rfl, q _ _ hp ?_ (I.hok.fresh (Nat.le_succ _))⟩
    rw [List.pairwise_map]
    refine List.Pairwise.imp (fun {u v} huv n m ⟨t, et, ht⟩ ⟨t', et', ht'⟩ => ?_) h2
    rw [bkV_ref et, bkV_ref et', rk_of (tupI_raw I ht), rk_of (tupI_raw I ht')] at huv
    exact huv
/-! sorted of a set of tuples -/
def rSetSort (K : PySem.W.Frag) (P : Program) (w : World) (d : Nat) (c : Int) : List V → Hp → VK → Prop := fun vs H Q => ∃ (a : Addr) (L : List (Addr × List Int)), vs = [V.ref a] ∧ H a = some (SetTO P w a L) ∧ (∀ p ∈ L, SqT K H p.1 (p.2.map V.int)) ∧
  (∀ p ∈ L, p.2.length = d ∧ Within c p.2) ∧
  ∀ (L' : List (Addr × List Int)) (p : Addr), L'.Perm L → (L'.map (·.2)).Nodup → L'.length < 64 → L'.Pairwise (fun q r => rank c q.2 ≤ rank c r.2) → H p = none → Q (.ref p) (upd H p (.lst (L'.map fun q => V.ref q.1)))
theorem of_addrs {L : List (Addr × List Int)} : ∀ {vs : List Value}, (∀ v ∈ vs, ∃ q ∈ L, v = Value.ref q.1) → ∃ L1 : List (Addr × List Int), vs = L1.map (fun q => Value.ref q.1) ∧ ∀ q ∈ L1, q ∈ L
  | [], _ => ⟨[], rfl, fun _ z => by cases z⟩
  | v :: vs, hv => by
    obtain ⟨q, hq, e⟩ := hv v (List.mem_cons_self ..)
    obtain ⟨L1, e1, hs⟩ := of_addrs (vs := vs) fun u hu => hv u (List.mem_cons_of_mem _ hu)
    exact ⟨q :: L1, by rw [List.map_cons, e, e1], fun r hr => (List.mem_cons.mp hr).elim (fun z => z ▸ hq) (hs r)⟩
theorem perm_of_addrs {L L1 : List (Addr × List Int)} (nd : L.Nodup) (one : ∀ q ∈ L, ∀ r ∈ L, q.1 = r.1 → q = r) (hs : ∀ q ∈ L1, q ∈ L) (pm : (L1.map fun q => Value.ref q.1).Perm (L.map fun q => Value.ref q.1)) : L1.Perm L := by
  have nref : (L.map fun q => Value.ref q.1).Nodup := List.pairwise_map.mpr (List.Pairwise.imp_of_mem (fun {q r} hq hr hne e => hne (one q hq r hr (Value.ref.inj e))) nd)
  have n1 : L1.Nodup := by
    have := pm.nodup_iff.mpr nref
    exact List.Pairwise.imp (fun {q r} h e => h (by rw [e])) (List.pairwise_map.mp this)
  refine (List.perm_ext_iff_of_nodup n1 nd).mpr fun q => ⟨hs q, fun hq => ?_⟩
  obtain ⟨r, hr, e⟩ := List.mem_map.mp (pm.mem_iff.mpr (List.mem_map.mpr ⟨q, hq, rfl⟩))
  rw [← one r (hs r hr) q hq (Value.ref.inj e)]
  exact hr
theorem cr_setSortS {d : Nat} {c : Int} (hc : X.calm = true) (hd1 : 1 ≤ d) : CallR X (.builtin "sorted") (rSetSort X.K X.prog X.w d c) := by
  intro pins s σ H vs us Q I r h
  obtain ⟨a, L, rfl, ha, hk, hB, q⟩ := h
  have R0 : SetT0 X.prog X.w s.heap a L := (I.hok a _ ha).1
  obtain ⟨es, ep, t, R⟩ := R0.full fun p hp => I.isT (hk p hp)
  rw [Vals.ref1 r]
  obtain ⟨o, ho, hex, hd⟩ := R.ob
  have hfew := R.few
  have hsz := R.size
  refine Calls.call_function_entry kind_sorted plain_sorted entry_sorted (args_sorted1 _) ?_
  unfold Builtin.«sorted»
  refine wpAny_bind (m := checkCount "sorted" 1 1 _) (wpAny_pure (wpAny_bind (collect_set (A := X.A.in1) (I.ok.hd hc) ⟨o, ho, hex.1, hd⟩ R.fits (by unfold scanBound; omega) R.tab.ris R.led fun s1 vs k1 hz g1 o1 pm => ?_)))
  rw [show es.toList.map (·.2) = L.map fun q => Value.ref q.1 by rw [R.rows]; unfold rowsOf; rw [List.map_map] <;> rfl] at pm
  have one : ∀ q ∈ L, ∀ r ∈ L, q.1 = r.1 → q = r := fun q hq r hr e => by
    have a1 := R.tup q hq
    rw [e] at a1
    exact Prod.ext e (a1.inj (R.tup r hr))
  have ndL : L.Nodup := List.Pairwise.imp (fun {q r} h e => h (by rw [e])) (List.pairwise_map.mp R.nd)
  have hvl : vs.length < 64 := by rw [pm.length_eq, List.length_map]; exact hfew
  refine wpAny_bind (wpAny_newList ?_ (by rw [sizeLine_eq]; omega))
  have atL : (s1.heap.push (seqObj "list" vs.toArray 0)).get? s1.heap.objs.size = some (seqObj "list" vs.toArray 0) := Heap.get?_push_size _ rfl
  have tk : ∀ q ∈ L, TS.TupInts (s1.heap.push (seqObj "list" vs.toArray 0)) (.ref q.1) q.2 := fun q hq => tupInts_of (P := X.prog) (w := X.w) (isT_keep (R.tup q hq) fun b u e => Heap.get?_push_of_some _ (k1 b u e))
  have mem : ∀ {v : Value}, v ∈ vs → ∃ q ∈ L, v = Value.ref q.1 := fun {v} hv => by
    obtain ⟨q, hq, e⟩ := List.mem_map.mp (pm.mem_iff.mp hv)
    exact ⟨q, hq, e.symm⟩
  refine wpAny_bind (wpAny_holding (call_sortS (s := { s1 with heap := s1.heap.push (seqObj "list" vs.toArray 0) }) atL hvl hd1 (c := c) (fun v hv => ?_) (rk c (s1.heap.push (seqObj "list" vs.toArray 0))) (fun v hv ns t => rk_of t) fun out a1 a2 => ?_))
  · obtain ⟨q, hq, rfl⟩ := mem hv
    exact ⟨q.2, tk q hq, hB q hq⟩
  · obtain ⟨n', hc'⟩ := sortedHeap_at (vs := vs) (out := out) atL
    obtain ⟨L', e', hs'⟩ := of_addrs fun v hv => mem (a1.mem_iff.mp hv)
    have pL : L'.Perm L := perm_of_addrs ndL one hs' (by rw [← e']; exact a1.trans pm)
    have pw : L'.Pairwise fun q r => rank c q.2 ≤ rank c r.2 := by
      rw [e'] at a2
      refine List.Pairwise.imp_of_mem (fun {q r} hq hr hle => ?_) (List.pairwise_map.mp a2)
      rw [rk_of (tk q (hs' q hq)), rk_of (tk r (hs' r hr))] at hle
      exact hle
    have few' : L'.length < 64 := by rw [pL.length_eq]; exact hfew
    have hn : H s1.heap.objs.size = none := I.hok.fresh hz
    have keep : ∀ b u, s.heap.get? b = some u → (sortedHeap (s1.heap.push (seqObj "list" vs.toArray 0)) s1.heap.objs.size vs out).get? b = some u := fun b u e => by
      have q1 := k1 b u e
      have lt := Heap.lt_size q1
      rw [sortedHeap_old (Nat.ne_of_lt lt) (by rw [size_push']; exact Nat.lt_succ_of_lt lt)]
      exact Heap.get?_push_of_some _ q1
    have J : Inv X pins σ (upd H s1.heap.objs.size (.lst (L'.map fun q => V.ref q.1))) { s with heap := sortedHeap (s1.heap.push (seqObj "list" vs.toArray 0)) s1.heap.objs.size vs out, gens := s1.gens, drawn := s1.drawn, toks := s1.toks } :=
      I.call (ch := []) (Un.laid keep hz hn) (I.hok.laid (o := .lst (L'.map fun q => V.ref q.1)) keep hz ⟨by rw [List.length_map, sizeLine_eq]; omega, out.toList, n', by rw [e']; exact vals_of_refs L', hc'⟩) (by rw [g1]; exact I.bare) (fun _ z => nomatch z)
    have es : ({ s1 with heap := sortedHeap (s1.heap.push (seqObj "list" vs.toArray 0)) s1.heap.objs.size vs out } : Shared) = { s with heap := sortedHeap (s1.heap.push (seqObj "list" vs.toArray 0)) s1.heap.objs.size vs out, gens := s1.gens, drawn := s1.drawn, toks := s1.toks } := by
      cases s1
      cases s
      cases o1
      rfl
    refine wpAny_pure ⟨_, rfl, .ref s1.heap.objs.size, _, ?_, rfl, q L' _ pL ((pL.map (·.2)).nodup_iff.mpr R.nd) few' pw hn⟩
    rw [← es] at J
    exact J
end
end SgS

set_option maxHeartbeats 2000000
namespace K84
open PySem PySem.Spec PyProof.Rows L2 D8
variable {P : Program} {w : World} {K : PySem.W.Frag} {mg : Str → Option Value} {base : Heap}
/-! ### _law_is_full -/
def pickM (X : List (List Int)) (r : List Int) : List (List Int) := r.map fun i => (X[i.toNat]?).getD []
def pickD (X : List (List Int)) : PyData → PyData
  | .int i => pt ((X[i.toNat]?).getD [])
  | d => d
/-- points with k coordinates -/
structure Pts (b : Int) (k : Nat) (X : List (List Int)) : Prop where
  row : ∀ r ∈ X, r.length = k
  bd : ∀ r ∈ X, ∀ x ∈ r, -b ≤ x ∧ x ≤ b
theorem Pts.pick {b : Int} {k n : Nat} {X : List (List Int)} (S : Pts b k X) {r : List Int} (h : ChoOk X.length n r) (hn : n = k + 1) : Simp b k (pickM X r) := by
  have key : ∀ y ∈ pickM X r, y ∈ X := fun y hy => by
    obtain ⟨i, hi, rfl⟩ := List.mem_map.mp hy
    have := h.2 i hi
    have hlt : i.toNat < X.length := by omega
    rw [List.getElem?_eq_getElem hlt]
    exact List.getElem_mem hlt
  exact ⟨by unfold pickM; rw [List.length_map, h.1, hn], fun y hy => S.row y (key y hy), fun y hy => S.bd y (key y hy)⟩
def isFull (X : List (List Int)) (r : List Int) : Bool := decide (0 < volM (pickM X r))
def fullM (X : List (List Int)) (k : Nat) : Bool := (choicesM X.length (k + 1)).any (isFull X)
def sp_law_is_full : Sp := SpD (fun ds => ∃ k X, ds = [.list (pts X), .int (k : Nat)] ∧ k ≤ 3 ∧ X.length ≤ 12 ∧ Pts 2147483648 k X) (fun ds d => ∃ k X, ds = [.list (pts X), .int (k : Nat)] ∧ d = .bool (fullM X k))
theorem ok_law_is_full (M : Mod K mg) : FnOk P w K mg base CX0 4 M.f_law_is_full M.fd_law_is_full ["points", "size"] sp_law_is_full := by
  refine M.d_law_is_full.F.ok sc_law_is_full (SpD.len fun ds ⟨_, _, e, _⟩ => by rw [e]; rfl) (fun cdv A outer s H vs Q E hr h => ?_)
  obtain ⟨B, ds, sB, hd, ⟨k, X, rfl, hk, hX, S⟩, q⟩ := h
  obtain ⟨v0, _, rfl, dr, ⟨_, _, rfl, rfl, rfl⟩⟩ := hd
  refine ⟨_, (pss_cons (ps_for PassesOwn.never rfl (pi_list (pe_call (ok_law_choices M) (hr.mono (by decide)) (by rfl) M.d_law_choices.g M.d_law_choices.F.kp M.d_law_choices.b .nil pass0 (pa_cons (pe_callB call_len_seq (by rfl) M.m_len PySem.boot_len (pa_cons (pv 0) pa_nil)) (pa_cons (pe_op op_add (pv 1) pe_int) pa_nil)))) (pg_name (i := 2) sc_law_is_full.nd rfl (.inl rfl))
    (pss_one (ps_if (pt_cmpR op_gt (pe_call (ok_law_volume M) (hr.mono (by decide)) (by rfl) M.d_law_volume.g M.d_law_volume.F.kp M.d_law_volume.b .nil pass0 (pa_cons (pe_lc (own := [("at", 3)]) (g := gName 3) (tt := tYes) (te := (tOp (rIxL K) (tVar 0) (tVar 3))) rfl sc_law_is_full.nd (pi_tup (pv 2)) (blkOk_by (own := [("at", 3)]) (N := N_law_is_full) (sc := defScope s_law_is_full) (by decide +kernel)) (fun _ _ _ _ _ => (pg_name (i := 3) sc_law_is_full.nd rfl (.inl rfl))) (fun _ _ _ _ _ => pts_nil) (fun _ _ _ _ _ => (pe_ix ix_list (pv 0) (pv 3) (fun _ _ => rfl)))) pa_nil)) pe_int (nomark _)) (pss_one (ps_ret pe_bl)) pss_nil)))
    (pss_one (ps_ret pe_bl))), ?_⟩
  have hlen := evd_lenL (K := K) (evd_var (σ := start N_law_is_full [v0, .int (k : Nat)]) (i := 0) rfl dr)
  rw [List.length_map] at hlen
  obtain ⟨ok1, ok2⟩ := choicesM_ok (size := (X.length : Int)) (Int.natCast_nonneg _) (k + 1)
  refine for_D (B := B) (es := pts (choicesM X.length (k + 1))) (evi_list (evd_call (ds := [.int (X.length : Nat), .int ((k : Int) + 1)]) (eva_cons hlen (eva_cons (evd_add (evd_var (i := 1) rfl rfl) evd_int) eva_nil)) ⟨X.length, k + 1, rfl, hX, by omega⟩ (fun d ⟨n, m, e, hd⟩ => by
    have e1 := PyData.int.inj (List.cons.inj e).1
    have e2 := PyData.int.inj (List.cons.inj (List.cons.inj e).2).1
    rw [hd, show n = X.length by omega, show m = k + 1 by omega]))) sB fun B1 H1 g1 => ?_
  refine ⟨fun i σ B' H' => ∃ x2 x3, σ = [some v0, some (.int (k : Nat)), x2, x3] ∧ Grow B H B' H' ∧ Same B1 B' ∧ ((choicesM X.length (k + 1)).take i).any (isFull X) = false, ⟨none, none, rfl, g1, Same.refl _, rfl⟩, fun i σ B' H' ⟨_, _, _, g, s, _⟩ => ⟨s, g.i⟩, fun i d σ B' H' he ⟨x2, x3, eσ, g, s, hf⟩ v B3 H3 g3 dv => ?_, fun σ B' H' ⟨x2, x3, eσ, g, s, hf⟩ => ?_⟩
  · subst eσ
    obtain ⟨r, hr1, rfl⟩ := pts_get he
    have okr := ok1 r (List.mem_of_getElem? hr1)
    have gd := g.trans g3
    have dr3 := dr.mono gd.b
    have hcomp := evd_lcN (i := 3) (σ := [some v0, some (.int (k : Nat)), some v, x3]) (te := tOp (rIxL K) (tVar 0) (tVar 3)) (f := pickD X) (evi_tup (K := K) (evd_var (i := 2) rfl dv)) (by rw [List.length_map, okr.1]; exact ge_sz (by omega))
      (fun d B' u hm s' hu => by
        obtain ⟨j, hj, rfl⟩ := List.mem_map.mp hm
        have b := okr.2 j hj
        have hlt : j.toNat < X.length := by omega
        have e : (j.toNat : Int) = j := Int.toNat_of_nonneg b.1
        have z := atI_nat (xs := pts X) (j := j.toNat) (v := pt X[j.toNat]) (by rw [List.getElem?_map, List.getElem?_eq_getElem hlt]; rfl)
        rw [e] at z
        show EvD _ _ _ (pt ((X[j.toNat]?).getD []))
        rw [List.getElem?_eq_getElem hlt]
        exact evd_ixL (evd_var (i := 0) rfl (dr3.mono s')) (evd_var (i := 3) rfl hu) z)
    have em : (iL r).map (pickD X) = pts (pickM X r) := by
      show (r.map PyData.int).map _ = (r.map _).map pt
      rw [List.map_map, List.map_map]
      rfl
    rw [em] at hcomp
    refine one_if (b := isFull X r) (evt_test (evd_I0 (g := fun i j => .bl (decide (j < i))) (evd_call (ds := [.list (pts (pickM X r))]) (eva_cons hcomp eva_nil) ⟨k, _, rfl, by omega, S.pick okr rfl⟩ (fun d ⟨Y, e, hd⟩ => by
      rw [hd, ← pts_inj (PyData.list.inj (List.cons.inj e).1)])) evd_int rfl)) g3.i fun B4 H4 g4 => ?_
    cases hb : isFull X r with
    | true =>
      refine (if_pos rfl).mpr (ret_D evd_bl g4.i fun v' B'' H'' g' e => q _ v' B'' H'' ⟨k, X, rfl, ?_⟩ ((gd.trans g4).trans g') e)
      have : fullM X k = true := List.any_eq_true.mpr ⟨r, List.mem_of_getElem? hr1, hb⟩
      rw [this]
    | false =>
      refine (if_neg (by decide)).mpr ⟨B4, _, _, rfl, gd.trans g4, s.trans (g3.b.trans g4.b), ?_⟩
      rw [List.take_add_one, hr1, List.any_append, hf]
      show (false || (isFull X r || false)) = false
      rw [hb]
      rfl
  · subst eσ
    rw [List.length_map, List.take_length] at hf
    dsimp only
    exact ret_D evd_bl g.i fun v' B'' H'' g' e => q _ v' B'' H'' ⟨k, X, rfl, by unfold fullM; rw [hf]⟩ (g.trans g') e
/-! ### _law_take: the deck is a list that is not in the base -/
def sp_law_take : Sp := fun vs H Q _ => ∃ (a : Addr) (m : Int) (ds : List Int), vs = [.ref a, .int m] ∧ 0 < m ∧ H a = some (.lst (ds.map V.int)) ∧
  ∀ (r : Int) (ds' : List Int) (H' : Hp), 0 ≤ r → r < m → H' a = some (.lst (ds'.map V.int)) → (∀ b, b ≠ a → H' b = H b) → Q (.int r) H'
theorem ok_law_take (M : Mod K mg) : FnOk P w K mg base CX0 1 M.f_law_take M.fd_law_take ["deck", "many"] sp_law_take := by
  refine M.d_law_take.F.ok sc_law_take (fun vs H Q E ⟨_, _, _, e, _⟩ => by rw [e]; rfl) (fun cdv A outer s H vs Q E hr h => ?_)
  obtain ⟨a, m, ds, rfl, hm, ha, q⟩ := h
  refine ⟨_, (pss_cons (ps_if (pt_cmpR op_eq (pe_callB call_len_seq (by rfl) M.m_len PySem.boot_len (pa_cons (pv 0) pa_nil)) pe_int (nomark _)) (pss_one (ps_ret pe_int)) pss_nil)
    (pss_one (ps_ret (pe_op op_modN (pe_callTy call_int1 (by rfl) M.m_int (by decide +kernel) (pa_cons (pe_bm0 PySem.F.plainAttrs_list PySem.F.slot_list_pop PySem.F.type_list_pop mt_pop (pv 0)) pa_nil)) (pv 1))))), ?_⟩
  -- if len(deck) == 0: return 0
  refine ⟨.ref a, rfl, a, _, rfl, .inl (sql ha), rfl, _, rfl, ite2 (fun e => ?_) (fun e => ?_)⟩
  · exact q 0 ds H (Int.le_refl 0) hm ha (fun _ _ => rfl)
  · have hne : ds ≠ [] := fun z => by
      subst z
      exact e (decide_eq_true rfl)
    obtain ⟨y, hy⟩ : ∃ y, ds.getLast? = some y := ⟨_, List.getLast?_eq_getLast hne⟩
    refine ⟨.ref a, rfl, .inl ⟨rfl, _, sql ha⟩, a, _, .int y, rfl, rfl, ha, ?_, .inl ⟨y, rfl, ?_⟩⟩
    · rw [List.length_map, List.getElem?_map, ← List.getLast?_eq_getElem?, hy]
      rfl
    · refine ⟨.int m, rfl, y, m, rfl, rfl, by omega, ?_⟩
      refine q _ ds.dropLast _ (Int.fmod_nonneg_of_pos _ hm) (Int.fmod_lt_of_pos _ hm) ?_ (fun b hb => upd_ne hb)
      rw [upd_same, List.map_dropLast]
end K84

set_option maxHeartbeats 2000000
namespace D8
open PySem PySem.Spec PyProof.Rows L2
section
variable {σ : L2.St} {B H : Hp} {ta tb te : TE} {d : PyData} {D : Ends} {u : TS} {tt : TT}
theorem evd_lenF {K : PySem.W.Frag} {i : Nat} {a : Addr} {xs : List V} (h : σ[i]? = some (some (.ref a))) (hs : SqL K B a xs) : EvD (tCB (rLenQ K) (tCons (tVar i) tNil)) σ B (.int xs.length) := fun H s Q q =>
  ⟨.ref a, h, a, xs, rfl, .inl (s.seq hs), q _ B H (Grow.refl s) rfl⟩
theorem evd_ixF {K : PySem.W.Frag} {i : Nat} {a : Addr} {xs : List V} {j z : Int} (h : σ[i]? = some (some (.ref a))) (hs : SqL K B a xs) (hb : EvD tb σ B (.int j)) (he : atI xs j = some (.int z)) : EvD (tOp (rIxL K) (tVar i) tb) σ B (.int z) := fun H s Q q =>
  ⟨.ref a, h, hb H s _ fun w B' H' g e => ⟨a, xs, j, _, rfl, e, g.h.seq (s.seq hs), he, q _ B' H' g rfl⟩⟩
theorem seq_if_set {i : Nat} {b : Bool} {v0 : V} {d0 d1 : PyData} (h : EvT tt σ B b) (hi : σ[i]? = some (some v0)) (h0 : DD B d0 v0) (h1 : b = true → EvD te σ B d1) (s : Same B H)
    (k : ∀ v B' H', Grow B H B' H' → DD B' (if b then d1 else d0) v → u D (σ.set i (some v)) H') : tSeq (tIfS tt (tAsg te (gName i)) tNext) u D σ H := h H s _ fun B1 H1 g => by
  cases b with
  | true => exact (if_pos rfl).mpr (((h1 rfl).mono g.b) H1 g.i _ fun v B2 H2 g2 e => k v B2 H2 (g.trans g2) e)
  | false =>
    refine (if_neg (by decide)).mpr ?_
    have q := k v0 B1 H1 g (h0.mono g.b)
    have e : σ.set i (some v0) = σ := by
      refine List.ext_getElem? fun j => ?_
      by_cases z : i = j
      · subst z
        rw [List.getElem?_set_self (List.getElem?_eq_some_iff.mp hi).1, hi]
      · rw [List.getElem?_set_ne z]
    rw [e] at q
    exact q
theorem evd_lt {i j : Int} (ha : EvD ta σ B (.int i)) (hb : EvD tb σ B (.int j)) : EvD (tOp (rI0 fun i j => .bl (decide (i < j))) ta tb) σ B (.bool (decide (i < j))) := evd_I0 ha hb rfl
theorem evd_ge {i j : Int} (ha : EvD ta σ B (.int i)) (hb : EvD tb σ B (.int j)) : EvD (tOp (rI0 fun i j => .bl (decide (j ≤ i))) ta tb) σ B (.bool (decide (j ≤ i))) := evd_I0 ha hb rfl
theorem evd_gt {i j : Int} (ha : EvD ta σ B (.int i)) (hb : EvD tb σ B (.int j)) : EvD (tOp (rI0 fun i j => .bl (decide (j < i))) ta tb) σ B (.bool (decide (j < i))) := evd_I0 ha hb rfl
theorem evd_pow {i j : Int} (ha : EvD ta σ B (.int i)) (hb : EvD tb σ B (.int j)) (hc : CPow i j) : EvD (tOp (rI CPow fun i j => .int (i ^ j.toNat)) ta tb) σ B (.int (i ^ j.toNat)) := evd_I ha hb hc rfl
end
end D8
namespace K84
open PySem PySem.Spec PyProof.Rows L2 D8
variable {P : Program} {w : World} {K : PySem.W.Frag} {mg : Str → Option Value} {base : Heap}
/-! ### _law_deck -/
def sp_law_deck (K : PySem.W.Frag) : Sp := fun vs H Q _ => ∃ (a : Addr) (c e : Nat) (ns : List Int), vs = [.ref a, .int c, .int e] ∧ c ≤ 100 ∧ e ≤ 100 ∧ SqL K H a (ns.map V.int) ∧ ns.length ≤ 1000 ∧
  ∀ (p : Addr) (ds : List Int) (H' : Hp), Same H H' → H p = none → H' p = some (.lst (ds.map V.int)) → Q (.ref p) H'
theorem ok_law_deck (M : Mod K mg) : FnOk P w K mg base CX0 1 M.f_law_deck M.fd_law_deck ["script", "cells", "each"] (sp_law_deck K) := by
  refine M.d_law_deck.F.ok sc_law_deck (fun vs H Q E ⟨_, _, _, _, e, _⟩ => by rw [e]; rfl) (fun cdv A outer s H vs Q E hr h => ?_)
  obtain ⟨a, c, e, ns, rfl, hc, he, hs, hl, q⟩ := h
  refine ⟨_, (pss_cons (ps_set (i := 3) sc_law_deck.nd rfl (.inl rfl) (pe_lst pa_nil))
    (pss_cons (ps_set (i := 4) sc_law_deck.nd rfl (.inl rfl) (pe_op op_add pe_int (pe_callB call_len_seq (by rfl) M.m_len PySem.boot_len (pa_cons (pv 0) pa_nil))))
    (pss_cons (ps_for PassesOwn.never rfl (pi_range1 (by rfl) M.m_range (pa_cons (pv 1) pa_nil)) (pg_name (i := 5) sc_law_deck.nd rfl (.inl rfl))
    (pss_cons (ps_set (i := 6) sc_law_deck.nd rfl (.inl rfl) pe_int)
    (pss_cons (ps_if (pt_cmpR op_lt (pv 5) (pe_callB call_len_seq (by rfl) M.m_len PySem.boot_len (pa_cons (pv 0) pa_nil)) (nomark _)) (pss_one (ps_set (i := 6) sc_law_deck.nd rfl (.inl rfl) (pe_ix ix_list (pv 0) (pv 5) (fun _ _ => rfl)))) pss_nil)
    (pss_cons (ps_set (i := 7) sc_law_deck.nd rfl (.inl rfl) (pe_callB call_abs (by rfl) M.m_abs (by decide +kernel) (pa_cons (pv 6) pa_nil)))
    (pss_one (ps_if (pt_cmpR op_ge (pv 7) (pe_op op_pow pe_int pe_int) (nomark _)) (pss_one (ps_for PassesOwn.never rfl (pi_range1 (by rfl) M.m_range (pa_cons (pv 2) pa_nil)) (pg_name (i := 8) sc_law_deck.nd rfl (.inl rfl))
    (pss_cons (ps_expr (pe_bm PySem.F.plainAttrs_list PySem.F.slot_list_append PySem.F.type_list_append mt_append (pv 3) (pa_cons (pe_op op_modN (pe_callTy call_int1 (by rfl) M.m_int (by decide +kernel) (pa_cons (pv 7) pa_nil)) pe_int) pa_nil)))
    (pss_one (ps_set (i := 7) sc_law_deck.nd rfl (.inl rfl) (pe_op op_fdivN (pv 7) pe_int)))))) (pss_cons (ps_set (i := 4) sc_law_deck.nd rfl (.inl rfl) (pe_op op_modN (pe_callTy call_int1 (by rfl) M.m_int (by decide +kernel) (pa_cons (pe_op op_add (pe_op op_add (pe_op op_add (pe_op op_mul (pv 4) pe_int) (pe_op op_mul pe_int (pv 7))) (pe_callTy call_int1 (by rfl) M.m_int (by decide +kernel) (pa_cons (pe_cmpR op_lt (pv 6) pe_int (nomark _)) pa_nil))) (pv 5)) pa_nil)) pe_int))
    (pss_one (ps_for PassesOwn.never rfl (pi_range1 (by rfl) M.m_range (pa_cons (pv 2) pa_nil)) (pg_name (i := 8) sc_law_deck.nd rfl (.inl rfl))
    (pss_cons (ps_set (i := 4) sc_law_deck.nd rfl (.inl rfl) (pe_op op_modN (pe_callTy call_int1 (by rfl) M.m_int (by decide +kernel) (pa_cons (pe_op op_add (pe_op op_add (pe_op op_mul (pv 4) pe_int) (pv 8)) pe_int) pa_nil)) pe_int))
    (pss_one (ps_expr (pe_bm PySem.F.plainAttrs_list PySem.F.slot_list_append PySem.F.type_list_append mt_append (pv 3) (pa_cons (pe_op op_modN (pe_callTy call_int1 (by rfl) M.m_int (by decide +kernel) (pa_cons (pe_op op_fdivN (pv 4) pe_int) pa_nil)) pe_int) pa_nil))))))))))))))
    (pss_cons (ps_expr (pe_bm0 PySem.F.plainAttrs_list PySem.F.slot_list_reverse PySem.F.type_list_reverse mt_reverse (pv 3)))
    (pss_one (ps_ret (pv 3))))))), ?_⟩
  refine seq_setNew (B := H) (ds := []) eva_nil (Nat.zero_le _) (Same.refl H) fun p xs B1 H1 hpH g1 bp hp px => ?_
  cases px
  have hs1 : SqL K B1 a (ns.map V.int) := g1.b.seq hs
  refine seq_set (d := .int (7 + (ns.map V.int).length)) (evd_add evd_int (evd_lenF (K := K) (i := 0) rfl hs1)) g1.i fun v B2 H2 g2 d2 => ?_
  cases d2
  refine for_D (B := B2) (es := rngL 0 c) (evi_rngN (evd_var (i := 1) rfl rfl) (by omega)) g2.i fun B3 H3 g3 => ?_
  have hp3 : H3 p = some (.lst []) := g3.h _ _ (g2.h _ _ hp)
  have bp3 : B3 p = none := g3.none (g2.none bp hp) (g2.h _ _ hp)
  refine ⟨fun k σ B' H' => ∃ (sd : Int) (x5 x6 x7 x8 : Option V) (ds : List Int), σ = [some (.ref a), some (.int c), some (.int e), some (.ref p), some (.int sd), x5, x6, x7, x8] ∧ Grow H H B' H' ∧ Same B3 B' ∧ B' p = none ∧ H' p = some (.lst (ds.map V.int)) ∧ ds.length ≤ k * 100,
    ⟨_, none, none, none, none, [], rfl, (g1.trans g2).trans g3, Same.refl _, bp3, hp3, Nat.zero_le _⟩, fun k σ B' H' ⟨_, _, _, _, _, _, _, g, s, _⟩ => ⟨s, g.i⟩, ?_, ?_⟩
  · rintro k d σ B' H' hd ⟨sd, x5, x6, x7, x8, ds, rfl, g, s, bp', hp', hlen⟩ v B4 H4 g4 dv
    have hk : k < c := by
      have := (List.getElem?_eq_some_iff.mp hd).1
      simpa using this
    rw [List.getElem?_map, List.getElem?_range hk] at hd
    cases hd
    have hv : v = .int (0 + (k : Nat)) := dv
    subst hv
    rw [Int.zero_add]
    -- cell = 0
    refine seq_set (d := .int 0) evd_int g4.i fun v B5 H5 g5 d5 => ?_
    cases d5
    have hs5 : SqL K B5 a (ns.map V.int) := (g4.b.trans g5.b).seq ((g3.b.trans s).seq (g2.b.seq hs1))
    -- if k < len(script): cell = script[k]
    refine seq_if_set (b := decide ((k : Int) < (ns.map V.int).length)) (d0 := .int 0) (d1 := .int ((ns[k]?).getD 0)) (evt_test (evd_lt (evd_var (i := 5) rfl rfl) (evd_lenF (K := K) (i := 0) rfl hs5))) rfl rfl (fun hb => ?_) g5.i fun v B6 H6 g6 d6 => ?_
    · have hk' : k < ns.length := by simpa using hb
      exact evd_ixF (i := 0) rfl hs5 (evd_var (i := 5) rfl rfl) (atI_nat (by rw [List.getElem?_map, List.getElem?_eq_getElem hk']; rfl))
    · obtain ⟨cell, d6'⟩ : ∃ cell : Int, v = .int cell := by
        revert d6
        cases decide ((k : Int) < (ns.map V.int).length) with
        | true => exact fun z => ⟨_, z⟩
        | false => exact fun z => ⟨_, z⟩
      subst d6'
      -- rest = abs(cell)
      refine seq_set (d := .int cell.natAbs) (evd_abs (evd_var (i := 6) rfl rfl)) g6.i fun v B7 H7 g7 d7 => ?_
      cases d7
      have g47 := ((g4.trans g5).trans g6).trans g7
      have gA := g.trans g47
      have sA := s.trans g47.b
      have bA : B7 p = none := g47.none bp' hp'
      have hA : H7 p = some (.lst (ds.map V.int)) := g47.h _ _ hp'
      refine one_if (b := decide ((10 : Int) ^ (30 : Int).toNat ≤ (cell.natAbs : Int))) (evt_test (evd_ge (evd_var (i := 7) rfl rfl) (evd_pow evd_int evd_int ⟨by decide, by decide, by decide⟩))) g7.i fun B8 H8 g8 => ?_
      have gB := gA.trans g8
      have sB := sA.trans g8.b
      have bB : B8 p = none := g8.none bA hA
      have hB : H8 p = some (.lst (ds.map V.int)) := g8.h _ _ hA
      refine ite2 (fun _ => ?_) (fun _ => ?_)
      · -- the digits of a great number
        refine for_D (B := B8) (es := rngL 0 e) (evi_rngN (evd_var (i := 2) rfl rfl) (by omega)) g8.i fun B9 H9 g9 => ?_
        refine ⟨fun i σ B' H' => ∃ (rest : Int) (y8 : Option V) (es : List Int), σ = [some (.ref a), some (.int c), some (.int e), some (.ref p), some (.int sd), some (.int (k : Nat)), some (.int cell), some (.int rest), y8] ∧ Grow H H B' H' ∧ Same B9 B' ∧ B' p = none ∧ H' p = some (.lst (es.map V.int)) ∧ es.length ≤ k * 100 + i,
          ⟨_, _, ds, rfl, gB.trans g9, Same.refl _, g9.none bB hB, g9.h _ _ hB, hlen⟩, fun k σ B' H' ⟨_, _, _, _, g, s, _⟩ => ⟨s, g.i⟩, ?_, ?_⟩
        · rintro i d σ B' H' hd ⟨rest, y8, es, rfl, gg, s9, bq, hq, hle⟩ x B10 H10 g10 dx
          have hi : i < e := by
            have := (List.getElem?_eq_some_iff.mp hd).1
            simpa using this
          refine app_D (i := 3) (d := .int (rest.fmod 1000003)) rfl (g10.none bq hq) (g10.h _ _ hq) (by rw [List.length_map]; exact Nat.lt_of_le_of_lt (show _ ≤ 20000 by omega) (by decide)) (evd_modN (evd_int1 (evd_var (i := 7) rfl rfl)) evd_int (by decide)) g10.i fun v11 B11 H11 g11 d11 b11 s11 => ?_
          cases d11
          have gC := ((gg.trans g10).trans g11).mut (p := p) (o := .lst (es.map V.int ++ [.int (rest.fmod 1000003)])) hpH b11
          refine one_set (d := .int (rest.fdiv 1000003)) (evd_fdivN (evd_var (i := 7) rfl rfl) evd_int (by decide) (by decide)) s11 fun v12 B12 H12 g12 d12 => ?_
          cases d12
          exact ⟨B12, _, _, es ++ [rest.fmod 1000003], rfl, gC.trans g12, s9.trans (g10.b.trans (g11.b.trans g12.b)), g12.none b11 upd_same, by rw [g12.h _ _ upd_same, List.map_append]; rfl, by rw [List.length_append]; simp; omega⟩
        · rintro σ B' H' ⟨rest, y8, es, rfl, gg, s9, bq, hq, hle⟩
          rw [show (rngL 0 e).length = e by simp] at hle
          exact ⟨B', _, _, _, _, _, es, rfl, gg, sB.trans (g9.b.trans s9), bq, hq, by omega⟩
      · -- the generator
        refine seq_set (d := .int _) (evd_modN (evd_int1 (evd_add (evd_add (evd_add (evd_mul (evd_var (i := 4) rfl rfl) evd_int (.inr ⟨by decide, by decide⟩)) (evd_mul evd_int (evd_var (i := 7) rfl rfl) (.inl ⟨by decide, by decide⟩))) (evd_intB (evd_lt (evd_var (i := 6) rfl rfl) evd_int))) (evd_var (i := 5) rfl rfl))) evd_int (by decide)) g8.i fun v B9 H9 g9 d9 => ?_
        cases d9
        refine for_D (B := B9) (es := rngL 0 e) (evi_rngN (evd_var (i := 2) rfl rfl) (by omega)) g9.i fun B10 H10 g10 => ?_
        refine ⟨fun i σ B' H' => ∃ (sd : Int) (y8 : Option V) (es : List Int), σ = [some (.ref a), some (.int c), some (.int e), some (.ref p), some (.int sd), some (.int (k : Nat)), some (.int cell), some (.int cell.natAbs), y8] ∧ Grow H H B' H' ∧ Same B10 B' ∧ B' p = none ∧ H' p = some (.lst (es.map V.int)) ∧ es.length ≤ k * 100 + i,
          ⟨_, _, ds, rfl, (gB.trans g9).trans g10, Same.refl _, g10.none (g9.none bB hB) (g9.h _ _ hB), g10.h _ _ (g9.h _ _ hB), hlen⟩, fun k σ B' H' ⟨_, _, _, _, g, s, _⟩ => ⟨s, g.i⟩, ?_, ?_⟩
        · rintro i d σ B' H' hd ⟨sd', y8, es, rfl, gg, s9, bq, hq, hle⟩ x B11 H11 g11 dx
          have hi : i < e := by
            have := (List.getElem?_eq_some_iff.mp hd).1
            simpa using this
          rw [List.getElem?_map, List.getElem?_range hi] at hd
          cases hd
          have hx : x = .int (0 + (i : Nat)) := dx
          subst hx
          refine seq_set (d := .int _) (evd_modN (evd_int1 (evd_add (evd_add (evd_mul (evd_var (i := 4) rfl rfl) evd_int (.inr ⟨by decide, by decide⟩)) (evd_var (i := 8) (d := .int (0 + (i : Nat))) rfl rfl)) evd_int)) evd_int (by decide)) g11.i fun v12 B12 H12 g12 d12 => ?_
          cases d12
          have gD := g11.trans g12
          refine app_D (i := 3) (d := .int _) rfl (gD.none bq hq) (gD.h _ _ hq) (by rw [List.length_map]; exact Nat.lt_of_le_of_lt (show _ ≤ 20000 by omega) (by decide)) (evd_modN (evd_int1 (evd_fdivN (evd_var (i := 4) rfl rfl) evd_int (by decide) (by decide))) evd_int (by decide)) g12.i fun v13 B13 H13 g13 d13 b13 s13 => ?_
          cases d13
          exact ⟨B13, _, _, es ++ [_], rfl, ((gg.trans gD).trans g13).mut hpH b13, s9.trans (gD.b.trans g13.b), b13, by rw [upd_same, List.map_append]; rfl, by rw [List.length_append]; simp; omega⟩
        · rintro σ B' H' ⟨sd', y8, es, rfl, gg, s9, bq, hq, hle⟩
          rw [show (rngL 0 e).length = e by simp] at hle
          exact ⟨B', _, _, _, _, _, es, rfl, gg, sB.trans (g9.b.trans (g10.b.trans s9)), bq, hq, by omega⟩
  · rintro σ B' H' ⟨sd, x5, x6, x7, x8, ds, rfl, g, s, bp', hp', hlen⟩
    -- deck.reverse(); return deck
    refine ⟨.ref p, rfl, .inl ⟨rfl, _, sql hp'⟩, p, _, rfl, rfl, hp', .ref p, rfl, ?_⟩
    exact q p ds.reverse _ (fun b o z => by rw [upd_ne (ne_of_none z hpH)]; exact g.h b o z) hpH (by rw [upd_same, List.map_reverse])
end K84

set_option maxHeartbeats 2000000
namespace D8
open PySem PySem.Spec PyProof.Rows L2
/-- the base grows, the thing at a (not in the base) may change -/
structure GX (a : Addr) (B H B' H' : Hp) : Prop where
  b : Same B B'
  h : ∀ c o, c ≠ a → H c = some o → H' c = some o
  s : ∀ c, H c ≠ none → H' c ≠ none
  i : Same B' H'
  k : ∀ c, H c ≠ none → B' c = B c
theorem Same.some {H H' : Hp} (s : Same H H') : ∀ c, H c ≠ none → H' c ≠ none := fun c h z => by
  cases e : H c with
  | none => exact h e
  | some o => rw [s c o e] at z; cases z
theorem Grow.gx {a : Addr} {B H B' H' : Hp} (g : Grow B H B' H') : GX a B H B' H' := ⟨g.b, fun c o _ e => g.h c o e, Same.some g.h, g.i, g.k⟩
theorem GX.trans {a : Addr} {B H B1 H1 B2 H2 : Hp} (g : GX a B H B1 H1) (g2 : GX a B1 H1 B2 H2) : GX a B H B2 H2 :=
  ⟨g.b.trans g2.b, fun c o n e => g2.h c o n (g.h c o n e), fun c h => g2.s c (g.s c h), g2.i, fun c h => by rw [g2.k c (g.s c h), g.k c h]⟩
theorem GX.step {a : Addr} {B H H' : Hp} (s : Same B H) (hb : B a = none) (h : ∀ b, b ≠ a → H' b = H b) (ha : H' a ≠ none) : GX a B H B H' :=
  ⟨Same.refl _, fun c o n e => by rw [h c n]; exact e, fun c hc => by
    by_cases z : c = a
    · subst z; exact ha
    · rw [h c z]; exact hc, fun c o e => by
    have z : c ≠ a := ne_of_none e hb
    rw [h c z]; exact s c o e, fun _ _ => rfl⟩
theorem GX.off {a : Addr} {B H B' H' : Hp} (g : GX a B H B' H') {p : Addr} {o : HO} (hb : B p = none) (h : H p = some o) : B' p = none := by
  rw [g.k p (by rw [h]; exact Option.some_ne_none o)]; exact hb
theorem GX.mut {a : Addr} {B H B' H' : Hp} {p : Addr} {o : HO} (g : GX a B H B' H') (h : H p = none) (hb : B' p = none) : GX a B H B' (upd H' p o) :=
  ⟨g.b, fun c u n e => by rw [upd_ne (ne_of_none e h)]; exact g.h c u n e, fun c hc => by
    by_cases z : c = p
    · subst z; rw [upd_same]; exact Option.some_ne_none _
    · rw [upd_ne z]; exact g.s c hc, same_mut g.i hb, g.k⟩
def Deck (H : Hp) (a : Addr) : Prop := ∃ ds : List Int, H a = some (.lst (ds.map V.int))
theorem Deck.some {H : Hp} {a : Addr} (d : Deck H a) : H a ≠ none := by
  obtain ⟨ds, e⟩ := d
  rw [e]
  exact Option.some_ne_none _
theorem Deck.keep {H H' : Hp} {a : Addr} (d : Deck H a) (s : Same H H') : Deck H' a := by
  obtain ⟨ds, e⟩ := d
  exact ⟨ds, s _ _ e⟩
theorem Deck.upd {H : Hp} {a p : Addr} {o : HO} (d : Deck H a) (h : a ≠ p) : Deck (L2.upd H p o) a := by
  obtain ⟨ds, e⟩ := d
  exact ⟨ds, by rw [upd_ne h]; exact e⟩
/-- tuples of ints as the library's rules want them -/
theorem DDs.pairs {B : Hp} : ∀ {X : List (List Int)} {acc : List V}, DDs B (X.map pt) acc → ∃ ks : List (Addr × List Int), acc = ks.map (fun p => V.ref p.1) ∧ X = ks.map (·.2) ∧ ∀ p ∈ ks, B p.1 = some (.tup (p.2.map V.int))
  | [], _, h => by cases h; exact ⟨[], rfl, rfl, fun _ z => by cases z⟩
  | r :: X, _, ⟨v, q, e, ⟨t, xs, ev, ht, hx⟩, h2⟩ => by
    obtain ⟨ks, e1, e2, e3⟩ := DDs.pairs h2
    subst e
    subst ev
    have ex := hx.toI
    subst ex
    refine ⟨(t, r) :: ks, by rw [e1]; rfl, by rw [e2]; rfl, fun p hp => ?_⟩
    rcases List.mem_cons.mp hp with z | z
    · subst z; exact ht
    · exact e3 p z
theorem DDs.of_pairs {B : Hp} : ∀ {ks : List (Addr × List Int)}, (∀ p ∈ ks, B p.1 = some (.tup (p.2.map V.int))) → DDs B ((ks.map (·.2)).map pt) (ks.map fun p => V.ref p.1)
  | [], _ => rfl
  | p :: ks, h => ⟨_, _, rfl, ⟨p.1, _, rfl, h p (List.mem_cons_self ..), DDs.of_iL _⟩, DDs.of_pairs fun q hq => h q (List.mem_cons_of_mem _ hq)⟩
theorem for_J {J : It} {g : TG} {tb : TS} {D : Ends} {es : List PyData} {σ : L2.St} {B1 H1 : Hp} (W : WalkD J B1 es) (P : Nat → L2.St → Hp → Hp → Prop) (p0 : P 0 σ B1 H1) (ps : ∀ i σ' B' H', P i σ' B' H' → Same B1 B' ∧ Same B' H')
    (pt : ∀ i d σ' B' H', es[i]? = some d → P i σ' B' H' → ∀ v B2 H2, Grow B' H' B2 H2 → DD B2 d v →
      g v σ' H2 fun σ2 H3 => tb { D with nx := fun s h => ∃ b, P (i + 1) s b h, ct := fun s h => ∃ b, P (i + 1) s b h, bk := D.nx } σ2 H3)
    (pe : ∀ σ' B' H', P es.length σ' B' H' → D.nx σ' H') :
    ∃ W : Nat → Nat → L2.St → Hp → Prop, (∃ m, W 0 m σ H1) ∧ ∀ i m σ H, W i m σ H →
      (J.stop i H ∧ D.nx σ H) ∨ (J.go i H ∧ ∃ N : L2.St → Hp → Prop, (∀ σ' H', N σ' H' → ∃ m', m' < m ∧ W (i + 1) m' σ' H') ∧ ∀ x H', J.yld i H x H' → g x σ H' fun σ2 H2 => tb { D with nx := N, ct := N, bk := D.nx } σ2 H2) := by
  refine ⟨fun i m σ' H' => i + m = es.length ∧ ∃ B', P i σ' B' H', ⟨es.length, by omega, B1, p0⟩, ?_⟩
  rintro i m σ' H' ⟨hm, B', hp⟩
  obtain ⟨s1, s2⟩ := ps i σ' B' H' hp
  by_cases hlt : i < es.length
  · refine .inr ⟨W.go i H' (s1.trans s2) hlt, fun σ2 H2 => ∃ B2, P (i + 1) σ2 B2 H2, fun σ2 H2 n => ⟨m - 1, by omega, by omega, n⟩, fun x H2 y => ?_⟩
    have hd : es[i]? = some es[i] := List.getElem?_eq_getElem hlt
    obtain ⟨B2, g2, dx⟩ := W.yld i _ B' H' x H2 hd s1 s2 y
    exact pt i _ σ' B' H' hd hp x B2 H2 g2 dx
  · have ei : i = es.length := by omega
    subst ei
    exact .inl ⟨W.stop _ H' (s1.trans s2) (Nat.le_refl _), pe σ' B' H' hp⟩
theorem cons_cb1 {r : List V → Hp → VK → Prop} {tl : TE} {σ : L2.St} {H : Hp} {Q : List V → Hp → Prop} (h : tl σ H fun x H1 => r [x] H1 fun y H2 => Q [y] H2) : tCons (tCB r (tCons tl tNil)) tNil σ H Q := h
theorem rep_iL (n : Nat) (z : Int) : (List.replicate n [PyData.int z]).flatten = iL (List.replicate n z) := by
  induction n with
  | zero => rfl
  | succ n ih =>
    rw [List.replicate_succ, List.flatten_cons, ih, List.replicate_succ]
    rfl
end D8
namespace K84
open PySem PySem.Spec PyProof.Rows L2 D8
variable {P : Program} {w : World} {K : PySem.W.Frag} {mg : Str → Option Value} {base : Heap}
/-! ### _law_points -/
/-- the comprehension that draws a point -/
theorem lc_draw {a : Addr} {n : Nat} {more low high : Int} {x5 x6 x7 x8 : Option V} {H : Hp} {Q : VK} (hn : n ≤ 1000) (hlh : low ≤ high) (dk : Deck H a)
    (q : ∀ (D : Addr) (xs : List Int) (H' : Hp), H D = none → xs.length = n → (∀ x ∈ xs, low ≤ x ∧ x ≤ high) → H' D = some (.lst (xs.map V.int)) → (∀ b, b ≠ a → b ≠ D → H' b = H b) → Deck H' a → Q (.ref D) H') :
    tLc (iRng1 (tCons (tVar 1) tNil)) (gName 8) tYes (tOp (rI0 fun i j => .int (i + j)) (tVar 3) (tCall sp_law_take [] E0 (tCons (tVar 0) (tCons (tOp (rI0 fun i j => .int (i + j)) (tOp (rI0 fun i j => .int (i - j)) (tVar 4) (tVar 3)) (tC (.int 1))) tNil)))) [8]
      [some (.ref a), some (.int n), some (.int more), some (.int low), some (.int high), x5, x6, x7, x8] H Q := by
  refine ⟨.int n, rfl, n, rfl, by omega, by omega, fun D hD => ?_⟩
  have haD : a ≠ D := fun z => dk.some (by rw [z]; exact hD)
  refine lc_range (lo := 0) (n := (n : Int).toNat) (fun i H' => ∃ xs : List Int, xs.length = i ∧ (∀ x ∈ xs, low ≤ x ∧ x ≤ high) ∧ H' D = some (.lst (xs.map V.int)) ∧ (∀ b, b ≠ a → b ≠ D → H' b = H b) ∧ Deck H' a)
    ⟨[], rfl, (fun _ z => by cases z), upd_same, fun b _ h => upd_ne h, dk.upd haD⟩ (fun i H' hi hP => ?_) (fun H' hP => ?_)
  · obtain ⟨xs, hl, hb, hd, hk, dk'⟩ := hP
    obtain ⟨ds, ha⟩ := dk'
    refine ⟨rfl, ?_⟩
    unfold tYes
    dsimp only
    rw [if_pos rfl]
    refine ⟨.int low, rfl, .ref a, rfl, .int high, rfl, .int low, rfl, high, low, rfl, rfl, high - low, 1, rfl, rfl, a, _, ds, rfl, by omega, ha, fun r ds' H2 h0 h1 ha2 hk2 => ⟨low, r, rfl, rfl, xs.map V.int, ?_, ?_, xs ++ [low + r], ?_, ?_, ?_, ?_, ?_⟩⟩
    · rw [hk2 D haD.symm]; exact hd
    · rw [List.length_map, hl]
      exact Nat.lt_of_le_of_lt (show i ≤ 1000 by omega) (by decide)
    · rw [List.length_append, hl]; rfl
    · intro x hx
      rcases List.mem_append.mp hx with z | z
      · exact hb x z
      · have e : x = low + r := by simpa using z
        omega
    · rw [upd_same, List.map_append]; rfl
    · intro b h1' h2'
      rw [upd_ne h2', hk2 b h1', hk b h1' h2']
    · exact Deck.upd ⟨ds', ha2⟩ haD
  · obtain ⟨xs, hl, hb, hd, hk, dk'⟩ := hP
    exact q D xs H' hD (by omega) hb hd hk dk'
def unitM (n p : Nat) : List Int := (List.range n).map fun i : Nat => if i = p then 1 else 0
def stdM (n : Nat) : List (List Int) := List.replicate n 0 :: (List.range n).map (unitM n)
def isPos (p : Int) : PyData → PyData
  | .int i => .int (if decide (i = p) then 1 else 0)
  | d => d
theorem unit_map (n p : Nat) : (rngL 0 n).map (isPos (p : Int)) = iL (unitM n p) := by
  show (List.map _ _).map _ = List.map _ (List.map _ _)
  rw [List.map_map, List.map_map]
  refine List.map_congr_left fun i _ => ?_
  show PyData.int (if decide ((0 : Int) + (i : Nat) = (p : Int)) then 1 else 0) = PyData.int (if i = p then 1 else 0)
  by_cases e : i = p
  · subst e; simp
  · rw [if_neg e, if_neg (by simp; omega)]
def unitD (n : Nat) : PyData → PyData
  | .int i => pt (unitM n i.toNat)
  | d => d
theorem std_map (n : Nat) : (rngL 0 n).map (unitD n) = pts ((List.range n).map (unitM n)) := by
  show (List.map _ _).map _ = List.map _ (List.map _ _)
  rw [List.map_map, List.map_map]
  refine List.map_congr_left fun i _ => ?_
  show pt (unitM n (0 + (i : Int)).toNat) = pt (unitM n i)
  rw [Int.zero_add, Int.toNat_natCast]
def PtsOk (n m : Nat) (low high : Int) (X : List (List Int)) : Prop := X.length ≤ n + 1 + m ∧ ∀ r ∈ X, r.length = n ∧ ∀ x ∈ r, (low ≤ x ∧ x ≤ high) ∨ (0 ≤ x ∧ x ≤ 1)
theorem stdM_ok (n m : Nat) (low high : Int) : PtsOk n m low high (stdM n) := by
  refine ⟨by unfold stdM; rw [List.length_cons, List.length_map, List.length_range]; omega, fun r hr => ?_⟩
  rcases List.mem_cons.mp hr with z | z
  · subst z
    exact ⟨List.length_replicate, fun x hx => .inr (by rw [List.eq_of_mem_replicate hx]; decide)⟩
  · obtain ⟨p, hp, rfl⟩ := List.mem_map.mp z
    refine ⟨by unfold unitM; rw [List.length_map, List.length_range], fun x hx => .inr ?_⟩
    obtain ⟨i, hi, rfl⟩ := List.mem_map.mp hx
    split <;> decide
def sp_law_points : Sp := fun vs H Q _ => ∃ (B : Hp) (a : Addr) (n m : Nat) (low high : Int), vs = [.ref a, .int n, .int m, .int low, .int high] ∧ 1 ≤ n ∧ n ≤ 3 ∧ m ≤ 8 ∧ low ≤ high ∧ -100 ≤ low ∧ high ≤ 100 ∧ Same B H ∧ B a = none ∧ Deck H a ∧
  ∀ (X : List (List Int)) (v : V) (B' H' : Hp), PtsOk n m low high X → GX a B H B' H' → Deck H' a → DD B' (.list (pts X)) v → Q v H'
theorem ok_law_points (M : Mod K mg) : FnOk P w K mg base CX0 5 M.f_law_points M.fd_law_points ["deck", "size", "more", "low", "high"] sp_law_points := by
  refine M.d_law_points.F.ok sc_law_points (fun vs H Q E ⟨_, _, _, _, _, _, e, _⟩ => by rw [e]; rfl) (fun cdv A outer s H vs Q E hr h => ?_)
  obtain ⟨B, a, n, m, low, high, rfl, hn1, hn, hm, hlh, hlo, hhi, sB, ba, dk, q⟩ := h
  obtain ⟨c, hc⟩ : ∃ c : Int, c = 1000 := ⟨_, rfl⟩
  refine ⟨_, (pss_cons (ps_set (i := 5) sc_law_points.nd rfl (.inl rfl) (pe_lst pa_nil))
    (pss_cons (ps_for PassesOwn.never rfl (pi_range1 (by rfl) M.m_range (pa_cons (pe_op op_add (pe_op op_add (pv 1) pe_int) (pe_call (ok_law_take M) (hr.mono (by decide)) (by rfl) M.d_law_take.g M.d_law_take.F.kp M.d_law_take.b .nil pass0 (pa_cons (pv 0) (pa_cons (pe_op op_add (pv 2) pe_int) pa_nil)))) pa_nil)) (pg_name (i := 6) sc_law_points.nd rfl (.inl rfl))
    (pss_one (ps_expr (pe_bm PySem.F.plainAttrs_list PySem.F.slot_list_append PySem.F.type_list_append mt_append (pv 5) (pa_cons (pe_callTy call_tuple_of (by rfl) M.m_tuple (by decide +kernel) (pa_cons (pe_lc (own := [("at", 8)]) (g := gName 8) (tt := tYes) (te := (tOp (rI0 fun i j => .int (i + j)) (tVar 3) (tCall sp_law_take [] E0 (tCons (tVar 0) (tCons (tOp (rI0 fun i j => .int (i + j)) (tOp (rI0 fun i j => .int (i - j)) (tVar 4) (tVar 3)) (tC (.int 1))) tNil))))) rfl sc_law_points.nd (pi_range1 (by rfl) M.m_range (pa_cons (pv 1) pa_nil)) (blkOk_by (own := [("at", 8)]) (N := N_law_points) (sc := defScope s_law_points) (by decide +kernel)) (fun _ _ _ _ _ => (pg_name (i := 8) sc_law_points.nd rfl (.inl rfl))) (fun _ _ _ _ _ => pts_nil) (fun _ _ _ _ _ => (pe_op op_add (pv 3) (pe_call (ok_law_take M) (hr.mono (by decide)) (by rfl) M.d_law_take.g M.d_law_take.F.kp M.d_law_take.b .nil pass0 (pa_cons (pv 0) (pa_cons (pe_op op_add (pe_op op_sub (pv 4) (pv 3)) pe_int) pa_nil)))))) pa_nil)) pa_nil)))))
    (pss_cons (ps_set (i := 5) sc_law_points.nd rfl (.inl rfl) (pe_callB (SgS.cr_setSortS (d := n) (c := c) rfl hn1) (by rfl) M.m_sorted (by decide +kernel) (pa_cons (pe_callTy (cr_setOfT rfl hr.units) (by rfl) M.m_set (by decide +kernel) (pa_cons (pv 5) pa_nil)) pa_nil)))
    (pss_cons (ps_if (pt_not (pt_val (pe_call (ok_law_is_full M) (hr.mono (by decide)) (by rfl) M.d_law_is_full.g M.d_law_is_full.F.kp M.d_law_is_full.b .nil pass0 (pa_cons (pv 5) (pa_cons (pv 1) pa_nil))))) (pss_one (ps_set (i := 5) sc_law_points.nd rfl (.inl rfl) (pe_op op_cat (pe_lst (pa_cons (pe_callTy call_tuple_of (by rfl) M.m_tuple (by decide +kernel) (pa_cons (pe_op op_rep (pe_lst (pa_cons pe_int pa_nil)) (pv 1)) pa_nil)) pa_nil)) (pe_lc (own := [("place", 7)]) (g := gName 7) (tt := tYes) (te := (tCB (rTupQ K) (tCons (tLc (iRng1 (tCons (tVar 1) tNil)) (gName 8) tYes (tCB rInt1 (tCons (tOp rEq (tVar 8) (tVar 7)) tNil)) [8]) tNil))) rfl sc_law_points.nd (pi_range1 (by rfl) M.m_range (pa_cons (pv 1) pa_nil)) (blkOk_by (own := [("place", 7)]) (N := N_law_points) (sc := defScope s_law_points) (by decide +kernel)) (fun _ _ _ _ _ => (pg_name (i := 7) sc_law_points.nd rfl (.inr rfl))) (fun _ _ _ _ _ => pts_nil) (fun _ _ _ _ _ => (pe_callTy call_tuple_of (by rfl) M.m_tuple (by decide +kernel) (pa_cons (pe_lc (own := [("at", 8)]) (g := gName 8) (tt := tYes) (te := (tCB rInt1 (tCons (tOp rEq (tVar 8) (tVar 7)) tNil))) rfl sc_law_points.nd (pi_range1 (by rfl) M.m_range (pa_cons (pv 1) pa_nil)) (blkOk_by (own := [("at", 8)]) (by kernel_rfl)) (fun _ _ _ _ _ => (pg_name (i := 8) sc_law_points.nd rfl (.inl rfl))) (fun _ _ _ _ _ => pts_nil) (fun _ _ _ _ _ => (pe_callTy call_int1 (by rfl) M.m_int (by decide +kernel) (pa_cons (pe_cmpR op_eq (pv 8) (pv 7) (nomark _)) pa_nil)))) pa_nil))))))) pss_nil)
    (pss_one (ps_ret (pv 5))))))), ?_⟩
  refine seq_setNew (B := B) (ds := []) eva_nil (Nat.zero_le _) sB fun p xs B1 H1 hpH g1 bp hp px => ?_
  cases px
  have hap : a ≠ p := fun z => dk.some (by rw [z]; exact hpH)
  -- range(size + 1 + take)
  obtain ⟨ds1, hd1⟩ := dk.keep g1.h
  have ba1 : B1 a = none := by
    obtain ⟨ds, e⟩ := dk
    exact g1.none ba e
  refine ⟨.int n, rfl, n, 1, rfl, rfl, .ref a, rfl, .int m, rfl, m, 1, rfl, rfl, a, _, ds1, rfl, by omega, hd1, fun r ds2 H2 hr0 hr1 ha2 hk2 => ⟨(n : Int) + 1, r, rfl, rfl, _, rfl, by omega, by omega, ?_⟩⟩
  have s2 : Same B1 H2 := fun b o e => by
    rw [hk2 b (ne_of_none e ba1)]; exact g1.i b o e
  have gx2 : GX a B H B1 H2 := g1.gx.trans (GX.step g1.i ba1 hk2 (by rw [ha2]; exact Option.some_ne_none _))
  have hp2 : H2 p = some (.lst []) := by rw [hk2 p hap.symm]; exact hp
  refine for_J (B1 := B1) (walk_rng (lo := 0) (n := ((n : Int) + 1 + r).toNat)) (fun k σ B' H' => ∃ (x6 x7 x8 : Option V) (acc : List V) (X : List (List Int)), σ = [some (.ref a), some (.int n), some (.int m), some (.int low), some (.int high), some (.ref p), x6, x7, x8] ∧ GX a B H B' H' ∧ Same B1 B' ∧ Deck H' a ∧ B' p = none ∧ H' p = some (.lst acc) ∧ DDs B' (pts X) acc ∧ X.length = k ∧ ∀ r ∈ X, r.length = n ∧ ∀ x ∈ r, low ≤ x ∧ x ≤ high)
    ⟨none, none, none, [], [], rfl, gx2, Same.refl _, ⟨ds2, ha2⟩, bp, hp2, rfl, rfl, fun _ z => by cases z⟩ (fun i σ B' H' ⟨_, _, _, _, _, _, g, s, _⟩ => ⟨s, g.i⟩) ?_ ?_
  · rintro k d σ B' H' hd ⟨x6, x7, x8, acc, X, rfl, gx, s, dk', bp', hp', pa, hl, hX⟩ v B3 H3 g3 dv
    have hk : k < ((n : Int) + 1 + r).toNat := by
      have := (List.getElem?_eq_some_iff.mp hd).1
      simpa using this
    have ba3 : B3 a = none := by
      obtain ⟨ds, e⟩ := dk
      exact (gx.trans g3.gx).off ba e
    -- found.append(tuple([..]))
    refine ⟨.ref p, rfl, .inl ⟨rfl, _, sql (g3.h _ _ hp')⟩, ?_⟩
    refine cons_cb1 ?_
    refine lc_draw (n := n) (low := low) (high := high) (by omega) hlh (dk'.keep g3.h) fun D xs H4 hD hxl hxb hD4 hk4 dk4 => ⟨D, _, rfl, .inl ⟨sql hD4, fun T hT => ?_⟩⟩
    have hpD : p ≠ D := fun z => by rw [← z, g3.h _ _ hp'] at hD; cases hD
    have hDn : B3 D = none := base_none g3.i hD
    have s4 : Same B3 H4 := fun b o e => by
      rw [hk4 b (ne_of_none e ba3) (ne_of_none e hDn)]; exact g3.i b o e
    have hp4 : H4 p = some (.lst acc) := by rw [hk4 p hap.symm hpD]; exact g3.h _ _ hp'
    have gx4 : GX a B3 H3 B3 H4 := ⟨Same.refl _, fun c o n e => by
        by_cases z : c = D
        · subst z; rw [hD] at e; cases e
        · rw [hk4 c n z]; exact e, fun c hc => by
        by_cases z : c = a
        · subst z; exact dk4.some
        · by_cases z2 : c = D
          · subst z2; rw [hD4]; exact Option.some_ne_none _
          · rw [hk4 c z z2]; exact hc, s4, fun _ _ => rfl⟩
    have g5 := Grow.new (o := .tup (xs.map V.int)) s4 hT
    have gx5 : GX a B H (upd B3 T (.tup (xs.map V.int))) (upd H4 T (.tup (xs.map V.int))) := ((gx.trans g3.gx).trans gx4).trans g5.gx
    have hpT : p ≠ T := ne_of_none hp4 hT
    have hp5 : (upd H4 T (.tup (xs.map V.int))) p = some (.lst acc) := by rw [upd_ne hpT]; exact hp4
    have bp5 : (upd B3 T (.tup (xs.map V.int))) p = none := by rw [upd_ne hpT]; exact g3.none bp' hp'
    refine ⟨p, acc, _, rfl, rfl, hp5, ?_, upd B3 T (.tup (xs.map V.int)), _, _, _, _, X ++ [xs], rfl, gx5.mut hpH bp5, s.trans (g3.b.trans g5.b), (dk4.upd (fun z => dk4.some (by rw [z]; exact hT))).upd hap, bp5, upd_same, ?_, ?_, ?_⟩
    · rw [pa.length, List.length_map, hl]
      exact Nat.lt_of_le_of_lt (show k ≤ 1000 by omega) (by decide)
    · show DDs _ (List.map pt (_ ++ _)) _
      rw [List.map_append]
      exact (pa.mono (g3.b.trans g5.b)).append (DDs.one (d := pt xs) ⟨T, _, rfl, upd_same, DDs.of_iL xs⟩)
    · rw [List.length_append, hl]; rfl
    · intro r hr
      rcases List.mem_append.mp hr with z | z
      · exact hX r z
      · have e : r = xs := by simpa using z
        subst e
        exact ⟨hxl, hxb⟩
  · rintro σ B' H' ⟨x6, x7, x8, acc, X, rfl, gx, s, dk', bp', hp', pa, hl, hX⟩
    have hXl : X.length ≤ n + 1 + m := by
      rw [hl]
      simp
      omega
    obtain ⟨ks, e1, e2, e3⟩ := pa.pairs
    subst e1
    -- sorted(set(found))
    refine ⟨.ref p, rfl, p, ks, rfl, sql hp', fun t ht => sqt (gx.i _ _ (e3 t ht)), ?_, fun S L hS hL1 hL2 => ?_⟩
    · have := congrArg List.length e2
      rw [List.length_map] at this
      omega
    · refine ⟨S, L, rfl, upd_same, fun t ht => sqt ?_, fun t ht => ?_, fun L' r2 pL ndL few pw hr2 => ?_⟩
      · rw [upd_ne (ne_of_none (gx.i _ _ (e3 t (hL1 t ht))) hS)]
        exact gx.i _ _ (e3 t (hL1 t ht))
      · obtain ⟨q1, q2⟩ := hX t.2 (by rw [e2]; exact List.mem_map.mpr ⟨t, hL1 t ht, rfl⟩)
        exact ⟨q1, fun x hx => by have := q2 x hx; omega⟩
      · have sS : Same B' (upd H' S (SetTO P w S L)) := same_mut gx.i (base_none gx.i hS)
        have hL' : ∀ t ∈ L', t ∈ ks := fun t ht => hL1 t (pL.mem_iff.mp ht)
        have g6 := Grow.new (o := .lst (L'.map fun q => V.ref q.1)) sS hr2
        have gS : GX a B' H' B' (upd H' S (SetTO P w S L)) := ⟨Same.refl _, fun c o _ e => by rw [upd_ne (ne_of_none e hS)]; exact e, fun c hc => by
          by_cases z : c = S
          · subst z; rw [upd_same]; exact Option.some_ne_none _
          · rw [upd_ne z]; exact hc, sS, fun _ _ => rfl⟩
        have gx6 := (gx.trans gS).trans g6.gx
        have dk6 : Deck (upd (upd H' S (SetTO P w S L)) r2 (.lst (L'.map fun q => V.ref q.1))) a := (dk'.upd (fun z => dk'.some (by rw [z]; exact hS))).upd (fun z => (dk'.upd (o := SetTO P w S L) (fun z => dk'.some (by rw [z]; exact hS))).some (by rw [z]; exact hr2))
        have dd6 : DD (upd B' r2 (.lst (L'.map fun q => V.ref q.1))) (.list (pts (L'.map (·.2)))) (.ref r2) := ⟨r2, _, rfl, upd_same, (DDs.of_pairs fun t ht => e3 t (hL' t ht)).mono g6.b⟩
        have hX' : ∀ r ∈ L'.map (·.2), r.length = n ∧ ∀ x ∈ r, low ≤ x ∧ x ≤ high := fun r hr => by
          obtain ⟨t, ht, rfl⟩ := List.mem_map.mp hr
          exact hX t.2 (by rw [e2]; exact List.mem_map.mpr ⟨t, hL' t ht, rfl⟩)
        have hlen' : (L'.map (·.2)).length ≤ n + 1 + m := by
          have h1 : (L'.map (·.2)).length ≤ (ks.map (·.2)).length := List.Nodup.length_le_of_subset ndL (fun r hr => by
            obtain ⟨t, ht, rfl⟩ := List.mem_map.mp hr
            exact List.mem_map.mpr ⟨t, hL' t ht, rfl⟩)
          rw [← e2] at h1
          omega
        generalize L'.map (·.2) = Y at dd6 hX' hlen'
        have sY : Pts 2147483648 n Y := ⟨fun r hr => (hX' r hr).1, fun r hr x hx => by have := (hX' r hr).2 x hx; omega⟩
        refine seq_if_set (B := upd B' r2 (.lst (L'.map fun q => V.ref q.1))) (b := !fullM Y n) (d0 := .list (pts Y)) (d1 := .list (pts (stdM n))) (evt_not (evt_B (evd_call (ds := [.list (pts Y), .int (n : Nat)]) (eva_cons (evd_var (i := 5) rfl dd6) (eva_cons (evd_var (i := 1) rfl rfl) eva_nil)) ⟨n, Y, rfl, hn, by omega, sY⟩ (fun d ⟨n', Y', e, hd⟩ => by
          have e1 := pts_inj (PyData.list.inj (List.cons.inj e).1)
          have e2 := PyData.int.inj (List.cons.inj (List.cons.inj e).2).1
          rw [hd, ← e1, show n' = n by omega])))) rfl dd6 (fun _ => ?_) g6.i fun v7 B7 H7 g7 d7 => ?_
        · -- the unit points
          have hz := evd_rep (σ := [some (.ref a), some (.int n), some (.int m), some (.int low), some (.int high), some (.ref r2), x6, x7, x8]) (B := upd B' r2 (.lst (L'.map fun q => V.ref q.1))) (tb := tVar 1) (evd_lst (eva_cons (evd_int (n := 0)) eva_nil) (show 1 ≤ sizeLine by decide)) (evd_var (i := 1) (d := .int (n : Nat)) rfl rfl) (by omega) (by omega) (by
            show 1 * _ ≤ sizeLine
            rw [Int.toNat_natCast, Nat.one_mul]
            exact ge_sz (by omega))
          rw [Int.toNat_natCast, rep_iL] at hz
          have hu := evd_lcN (i := 7) (σ := [some (.ref a), some (.int n), some (.int m), some (.int low), some (.int high), some (.ref r2), x6, x7, x8]) (B := upd B' r2 (.lst (L'.map fun q => V.ref q.1)))
            (te := tCB (rTupQ K) (tCons (tLc (iRng1 (tCons (tVar 1) tNil)) (gName 8) tYes (tCB rInt1 (tCons (tOp rEq (tVar 8) (tVar 7)) tNil)) [8]) tNil)) (f := unitD n)
            (evi_rngN (evd_var (i := 1) (d := .int (n : Nat)) rfl rfl) (by omega)) (by rw [List.length_map, List.length_range]; exact ge_sz (by omega))
            (fun d B'' u hm s'' hu => by
              obtain ⟨j, hj, rfl⟩ := List.mem_map.mp hm
              have hu' : u = .int (0 + (j : Nat)) := hu
              subst hu'
              have h8 := evd_lcN (i := 8) (σ := [some (.ref a), some (.int n), some (.int m), some (.int low), some (.int high), some (.ref r2), x6, some (.int (0 + (j : Nat))), x8]) (B := B'')
                (te := tCB rInt1 (tCons (tOp rEq (tVar 8) (tVar 7)) tNil)) (f := isPos (j : Int))
                (evi_rngN (evd_var (i := 1) (d := .int (n : Nat)) rfl rfl) (by omega)) (by rw [List.length_map, List.length_range]; exact ge_sz (by omega))
                (fun d B3 u3 hm3 s3 hu3 => by
                  obtain ⟨t, ht, rfl⟩ := List.mem_map.mp hm3
                  have e : isPos (j : Int) (.int (0 + (t : Nat))) = .int (if decide ((0 : Int) + (t : Nat) = 0 + (j : Nat)) then 1 else 0) := by
                    show PyData.int _ = _
                    rw [Int.zero_add (j : Int)]
                  rw [e]
                  exact evd_intB (evd_eqI (evd_var (i := 8) rfl hu3) (evd_var (i := 7) rfl rfl)))
              rw [unit_map] at h8
              show EvD _ _ _ (pt (unitM n ((0 : Int) + (j : Nat)).toNat))
              rw [show ((0 : Int) + (j : Nat)).toNat = j by omega]
              exact evd_tupleL h8)
          rw [std_map] at hu
          exact evd_cat (evd_lst (eva_cons (evd_tupleL hz) eva_nil) (show 1 ≤ sizeLine by decide)) hu (by
            rw [List.length_map, List.length_map, List.length_range]
            exact ge_sz (by show 1 + n ≤ _; omega))
        · have hf : ∃ Z, PtsOk n m low high Z ∧ DD B7 (.list (pts Z)) v7 := by
            cases hb : (!fullM Y n) with
            | true =>
              rw [hb] at d7
              exact ⟨stdM n, stdM_ok n m low high, d7⟩
            | false =>
              rw [hb] at d7
              exact ⟨Y, ⟨hlen', fun r hr => ⟨(hX' r hr).1, fun x hx => .inl ((hX' r hr).2 x hx)⟩⟩, d7⟩
          obtain ⟨Z, hZ, d7'⟩ := hf
          exact ret_D (evd_var (i := 5) rfl d7') g7.i fun v8 B8 H8 g8 d8 => q Z v8 B8 H8 hZ ((gx6.trans g7.gx).trans g8.gx) ((dk6.keep g7.h).keep g8.h) d8
end K84

set_option maxHeartbeats 2000000
namespace D8
open PySem PySem.Spec PyProof.Rows L2
section
variable {σ : L2.St} {B B' H : Hp} {ta tb te : TE} {d : PyData} {tt : TT}
/-- a comprehension's list handed out open -/
theorem lc_openD {wi : TI} {g : TG} {vs : List Nat} {es : List PyData} {f : PyData → PyData} {Q : VK} (hi : EvI wi σ B es) (hl : es.length ≤ sizeLine) (s : Same B H) (post : Hp → PyData → L2.St → Prop)
    (hg : ∀ d B', d ∈ es → Same B B' → EvG g (wipe σ vs) B' d (post B' d)) (hw : ∀ B' d σ', post B' d σ' → wipe σ' vs = wipe σ vs)
    (he : ∀ d B' σ', d ∈ es → Same B B' → post B' d σ' → EvD te σ' B' (f d))
    (q : ∀ D acc B' H', H D = none → Grow B H B' H' → B' D = none → H' D = some (.lst acc) → DDs B' (es.map f) acc → Q (.ref D) H') :
    tLc wi g tYes te vs σ H Q := hi H s _ fun J B1 H1 g1 W D hD => by
  have b1 : B1 D = none := base_none g1.i hD
  have inv0 : Grow B1 H1 B1 (upd H1 D (.lst [])) := ⟨Same.refl _, (Grow.new g1.i hD).h, g1.i.trans (Grow.new g1.i hD).h, fun _ _ => rfl⟩
  refine ⟨fun i m H' => i + m = es.length ∧ ∃ B' acc, Grow B1 H1 B' H' ∧ B' D = none ∧ H' D = some (.lst acc) ∧ DDs B' ((es.take i).map f) acc, ⟨es.length, by omega, B1, [], inv0, b1, upd_same, rfl⟩, ?_⟩
  rintro i m H' ⟨hm, B', acc, gr, bD, hD', pa⟩
  by_cases hlt : i < es.length
  · refine .inr ⟨W.go i H' (gr.b.trans gr.i) hlt, fun H2 => ∃ B' acc, Grow B1 H1 B' H2 ∧ B' D = none ∧ H2 D = some (.lst acc) ∧ DDs B' ((es.take (i + 1)).map f) acc, fun H2 n => ⟨m - 1, by omega, by omega, n⟩, fun x H2 y => ?_⟩
    have hd : es[i]? = some es[i] := List.getElem?_eq_getElem hlt
    have hmem : es[i] ∈ es := List.getElem_mem hlt
    obtain ⟨B2, g2, dx⟩ := W.yld i _ B' H' x H2 hd gr.b gr.i y
    have s2 : Same B B2 := g1.b.trans (gr.b.trans g2.b)
    refine hg _ B2 hmem s2 x H2 dx g2.i _ fun σ' po => ⟨hw _ _ _ po, ?_⟩
    unfold tYes
    dsimp only
    rw [if_pos rfl]
    refine he _ B2 σ' hmem s2 po H2 g2.i _ fun v B4 H4 g4 dv => ?_
    have b4 : B4 D = none := (g2.trans g4).none bD hD'
    have h4 : H4 D = some (.lst acc) := g4.h _ _ (g2.h _ _ hD')
    have gt := (gr.trans g2).trans g4
    refine ⟨acc, h4, ?_, B4, acc ++ [v], gt.mut hD b4, b4, upd_same, ?_⟩
    · rw [pa.length, List.length_map, List.length_take]
      omega
    · rw [List.take_add_one, hd, List.map_append]
      exact (pa.mono (g2.b.trans g4.b)).append (DDs.one dv)
  · have ei : i = es.length := by omega
    subst ei
    rw [List.take_length] at pa
    exact .inl ⟨W.stop _ H' (gr.b.trans gr.i) (Nat.le_refl _), q D acc B' H' (g1.h.free hD) (g1.trans gr) bD hD' pa⟩
theorem lc_openN {wi : TI} {i : Nat} {es : List PyData} {f : PyData → PyData} {Q : VK} (hi : EvI wi σ B es) (hl : es.length ≤ sizeLine) (s : Same B H)
    (he : ∀ d B' v, d ∈ es → Same B B' → DD B' d v → EvD te ((wipe σ [i]).set i (some v)) B' (f d))
    (q : ∀ D acc B' H', H D = none → Grow B H B' H' → B' D = none → H' D = some (.lst acc) → DDs B' (es.map f) acc → Q (.ref D) H') : tLc wi (gName i) tYes te [i] σ H Q :=
  lc_openD hi hl s (fun B' d σ' => ∃ v, DD B' d v ∧ σ' = (wipe σ [i]).set i (some v)) (fun d B' _ _ => evg_name)
    (fun B' d σ' ⟨v, _, e⟩ => by
      subst e
      show (((σ.set i none).set i (some v)).set i none) = σ.set i none
      rw [List.set_set, List.set_set]) (fun d B' σ' hm s ⟨v, hv, e⟩ => by subst e; exact he d B' v hm s hv) q
theorem seq_lcN {wi : TI} {i j : Nat} {es : List PyData} {f : PyData → PyData} {D : Ends} {u : TS} (hi : EvI wi σ B es) (hl : es.length ≤ sizeLine) (s : Same B H)
    (he : ∀ d B' v, d ∈ es → Same B B' → DD B' d v → EvD te ((wipe σ [i]).set i (some v)) B' (f d))
    (q : ∀ p acc B' H', H p = none → Grow B H B' H' → B' p = none → H' p = some (.lst acc) → DDs B' (es.map f) acc → u D (σ.set j (some (.ref p))) H') : tSeq (tAsg (tLc wi (gName i) tYes te [i]) (gName j)) u D σ H :=
  lc_openN (Q := fun v H' => u D (σ.set j (some v)) H') hi hl s he q
theorem DDs.set {B : Hp} : ∀ {ds : List PyData} {xs : List V} (j : Nat) {d : PyData} {v : V}, DDs B ds xs → DD B d v → DDs B (ds.set j d) (xs.set j v)
  | [], _, _, _, _, h, _ => by cases h; exact rfl
  | _ :: _, _, 0, _, _, ⟨v, r, e, h, q⟩, z => by subst e; exact .cons z q
  | _ :: _, _, j + 1, _, _, ⟨v, r, e, h, q⟩, z => by subst e; exact .cons h (DDs.set j q z)
/-- t[i] = e on an open list -/
theorem setI_D {p : Addr} {acc : List V} {k j : Nat} {D : Ends} {ti : TE} (hx : σ[k]? = some (some (.ref p))) (hb : B p = none) (hp : H p = some (.lst acc)) (h : EvD te σ B d) (hi : EvD ti σ B (.int (j : Nat))) (hj : j < acc.length) (s : Same B H)
    (q : ∀ v B' H', Grow B H B' H' → DD B' d v → B' p = none → D.nx σ (upd H' p (.lst (acc.set j v)))) : tAsg te (gSub (tVar k) ti rSetL) D σ H :=
  h H s _ fun v B1 H1 g1 d1 => ⟨.ref p, hx, (hi.mono g1.b) H1 g1.i _ fun w B2 H2 g2 d2 => by
    cases d2
    exact ⟨p, acc, (j : Nat), j, rfl, rfl, g2.h _ _ (g1.h _ _ hp), by unfold ixN; rw [if_pos (Int.natCast_nonneg j), if_pos (by omega), Int.toNat_natCast], q v B2 H2 (g1.trans g2) (d1.mono g2.b) ((g1.trans g2).none hb hp)⟩⟩
theorem seq_pair {K : PySem.W.Frag} {D : Ends} {u : TS} {i j : Nat} {e : PyData} (h : EvD te σ B (.tuple [d, e])) (s : Same B H) (k : ∀ v w B' H', Grow B H B' H' → DD B' d v → DD B' e w → u D ((σ.set i (some v)).set j (some w)) H') :
    tSeq (tAsg te (gTup K 2 (gCons (gName i) (gCons (gName j) gNil)))) u D σ H := h H s _ fun v B1 H1 g1 d1 => by
  exact evg_pair (K := K) v H1 d1 g1.i _ fun σ' ⟨x, y, h1, h2, e⟩ => by subst e; exact k x y B1 H1 g1 h1 h2
def minM (ns : List Int) : Int := (ns.min?).getD 0
def maxM (ns : List Int) : Int := (ns.max?).getD 0
theorem minM_is {ns : List Int} {m : Int} (h : m ∈ ns) (hl : ∀ y ∈ ns, m ≤ y) : m = minM ns := by
  unfold minM
  rw [List.min?_eq_some_iff.mpr ⟨h, hl⟩]
  rfl
theorem maxM_is {ns : List Int} {m : Int} (h : m ∈ ns) (hl : ∀ y ∈ ns, y ≤ m) : m = maxM ns := by
  unfold maxM
  rw [List.max?_eq_some_iff.mpr ⟨h, hl⟩]
  rfl
theorem evd_min {K : PySem.W.Frag} {ns : List Int} (ha : EvD ta σ B (.list (iL ns))) (hn : ns ≠ []) : EvD (tCB (rMin K) (tCons ta tNil)) σ B (.int (minM ns)) :=
  evd_cb (eva_cons ha eva_nil) fun vs B' s dv H t Q q => by
    obtain ⟨_, _, rfl, ⟨a, xs, rfl, h, p⟩, rfl⟩ := dv
    have e := p.toI
    subst e
    exact ⟨a, ns, rfl, sql (t _ _ h), List.length_pos_iff.mpr hn, fun m h1 h2 => q _ _ _ (Grow.refl t) (by rw [← minM_is h1 h2]; rfl)⟩
theorem evd_max {K : PySem.W.Frag} {ns : List Int} (ha : EvD ta σ B (.list (iL ns))) (hn : ns ≠ []) : EvD (tCB (rMax K) (tCons ta tNil)) σ B (.int (maxM ns)) :=
  evd_cb (eva_cons ha eva_nil) fun vs B' s dv H t Q q => by
    obtain ⟨_, _, rfl, ⟨a, xs, rfl, h, p⟩, rfl⟩ := dv
    have e := p.toI
    subst e
    exact ⟨a, ns, rfl, sql (t _ _ h), List.length_pos_iff.mpr hn, fun m h1 h2 => q _ _ _ (Grow.refl t) (by rw [← maxM_is h1 h2]; rfl)⟩
end
end D8
namespace K84
open PySem PySem.Spec PyProof.Rows L2 D8
variable {P : Program} {w : World} {K : PySem.W.Frag} {mg : Str → Option Value} {base : Heap}
/-! ### _law_factors -/
def facM (M : List (List Int)) (g : List Int) : List Int := (List.range M.length).map fun i => detM (M.set i g)
def facS (M : List (List Int)) (g : List Int) : List Int := if detM M < 0 then (facM M g).map fun x => -x else facM M g
def negD : PyData → PyData
  | .int i => .int (-i)
  | d => d
def listD : PyData → PyData
  | .tuple ds => .list ds
  | d => d
theorem Sqr.set {b : Int} {n : Nat} {M : List (List Int)} (S : Sqr b n M) {g : List Int} (hg : g.length = n) (hb : ∀ x ∈ g, -b ≤ x ∧ x ≤ b) (i : Nat) : Sqr b n (M.set i g) := by
  refine ⟨by rw [List.length_set, S.len], fun r hr => ?_, fun r hr => ?_⟩
  · rcases List.mem_or_eq_of_mem_set hr with z | z
    · exact S.row r z
    · rw [z]; exact hg
  · rcases List.mem_or_eq_of_mem_set hr with z | z
    · exact S.bd r z
    · rw [z]; exact hb
def sp_law_factors : Sp := SpD (fun ds => ∃ (n : Nat) (M : List (List Int)) (g : List Int), ds = [.list (rowsD false M), pt g] ∧ n ≤ 6 ∧ Sqr 4294967296 n M ∧ g.length = n ∧ ∀ x ∈ g, -4294967296 ≤ x ∧ x ≤ 4294967296)
  (fun ds d => ∃ (M : List (List Int)) (g : List Int), ds = [.list (rowsD false M), pt g] ∧ d = .tuple [ll (facS M g), .int (detM M).natAbs])
theorem rowsF_inj : ∀ {X Y : List (List Int)}, rowsD false X = rowsD false Y → X = Y
  | [], [], _ => rfl
  | [], _ :: _, h => by simp at h
  | _ :: _, [], h => by simp at h
  | x :: X, y :: Y, h => by
    have h1 := PyData.list.inj (List.cons.inj h).1
    have h2 := (List.cons.inj h).2
    rw [iL_inj h1, rowsF_inj h2]
theorem det_call {tp : Bool} {M : List (List Int)} {d : PyData} (h : ∃ (tp' : Bool) (M' : List (List Int)), [PyData.list (rowsD tp M)] = [.list (rowsD tp' M')] ∧ d = .int (detM M')) : d = .int (detM M) := by
  obtain ⟨tp', M', e, rfl⟩ := h
  have e1 := PyData.list.inj (List.cons.inj e).1
  cases M with
  | nil =>
    cases M' with
    | nil => rfl
    | cons a b => simp at e1
  | cons r M =>
    cases M' with
    | nil => simp at e1
    | cons r' M' =>
      have et : tp = tp' := by
        have h0 := (List.cons.inj e1).1
        cases tp <;> cases tp'
        · rfl
        · exact nomatch h0
        · exact nomatch h0
        · rfl
      subst et
      cases tp with
      | true => rw [pts_inj e1]
      | false => rw [rowsF_inj e1]
theorem ok_law_factors (M : Mod K mg) : FnOk P w K mg base CX0 3 M.f_law_factors M.fd_law_factors ["rows", "goal"] sp_law_factors := by
  refine M.d_law_factors.F.ok sc_law_factors (SpD.len fun ds ⟨_, _, _, e, _⟩ => by rw [e]; rfl) (fun cdv A outer s H vs Q E hr h => ?_)
  obtain ⟨B, ds, sB, hd, ⟨n, X, g, rfl, hn, S, hg, hgb⟩, q⟩ := h
  obtain ⟨v0, _, rfl, dr, ⟨v1, _, rfl, dg, rfl⟩⟩ := hd
  refine ⟨_, (pss_cons (ps_set (i := 2) sc_law_factors.nd rfl (.inl rfl) (pe_call (ok_law_determinant M) (hr.mono (by decide)) (by rfl) M.d_law_determinant.g M.d_law_determinant.F.kp M.d_law_determinant.b .nil pass0 (pa_cons (pv 0) pa_nil)))
    (pss_cons (ps_set (i := 3) sc_law_factors.nd rfl (.inl rfl) (pe_lst pa_nil))
    (pss_cons (ps_for PassesOwn.never rfl (pi_range1 (by rfl) M.m_range (pa_cons (pe_callB call_len_seq (by rfl) M.m_len PySem.boot_len (pa_cons (pv 0) pa_nil)) pa_nil)) (pg_name (i := 4) sc_law_factors.nd rfl (.inl rfl))
    (pss_cons (ps_setLc (i := 5) (own := [("row", 6)]) (g := gName 6) (tt := tYes) (te := (tCB (rListQ K) (tCons (tVar 6) tNil))) rfl sc_law_factors.nd rfl rfl (sw_true rfl rfl rfl (by decide +kernel)) (pi_list (pv 0)) (blkOk_by (own := [("row", 6)]) (N := N_law_factors) (sc := defScope s_law_factors) (by decide +kernel)) (fun _ _ _ _ _ => (pg_name (i := 6) sc_law_factors.nd rfl (.inl rfl))) (fun _ _ _ _ _ => pts_nil) (fun _ _ _ _ _ => (pe_callTy call_list_of (by rfl) M.m_list (by decide +kernel) (pa_cons (pv 6) pa_nil))))
    (pss_cons (ps_asg (pe_callTy call_list_of (by rfl) M.m_list (by decide +kernel) (pa_cons (pv 1) pa_nil)) (pg_sub (pv 5) (pv 4) set_list))
    (pss_one (ps_expr (pe_bm PySem.F.plainAttrs_list PySem.F.slot_list_append PySem.F.type_list_append mt_append (pv 3) (pa_cons (pe_call (ok_law_determinant M) (hr.mono (by decide)) (by rfl) M.d_law_determinant.g M.d_law_determinant.F.kp M.d_law_determinant.b .nil pass0 (pa_cons (pv 5) pa_nil)) pa_nil)))))))
    (pss_cons (ps_if (pt_cmpR op_lt (pv 2) pe_int (nomark _)) (pss_cons (ps_set (i := 2) sc_law_factors.nd rfl (.inl rfl) (pe_un un_neg (pv 2)))
    (pss_one (ps_setLc (i := 3) (own := [("entry", 7)]) (g := gName 7) (tt := tYes) (te := (tUn (rU fun i => .int (-i)) (tVar 7))) rfl sc_law_factors.nd rfl rfl (sw_true rfl rfl rfl (by decide +kernel)) (pi_list (pv 3)) (blkOk_by (own := [("entry", 7)]) (N := N_law_factors) (sc := defScope s_law_factors) (by decide +kernel)) (fun _ _ _ _ _ => (pg_name (i := 7) sc_law_factors.nd rfl (.inl rfl))) (fun _ _ _ _ _ => pts_nil) (fun _ _ _ _ _ => (pe_un un_neg (pv 7)))))) pss_nil)
    (pss_one (ps_ret (pe_tup (pa_cons (pv 3) (pa_cons (pv 2) pa_nil))))))))), ?_⟩
  refine seq_set (d := .int (detM X)) (evd_call (ds := [.list (rowsD false X)]) (eva_cons (evd_var (i := 0) rfl dr) eva_nil) ⟨false, n, X, rfl, hn, S⟩ (fun d h => det_call h)) sB fun v2 B1 H1 g1 d1 => ?_
  cases d1
  refine seq_setNew (B := B1) (ds := []) eva_nil (Nat.zero_le _) g1.i fun p xs B2 H2 hp1 g2 bp hp px => ?_
  cases px
  have hpH : H p = none := g1.h.free hp1
  have g12 := g1.trans g2
  have hlen := evd_lenL (K := K) (evd_var (B := B2) (σ := [some v0, some v1, some (.int (detM X)), some (.ref p), none, none, none, none]) (i := 0) rfl (dr.mono g12.b))
  rw [List.length_map, S.len] at hlen
  refine for_D (B := B2) (es := rngL 0 n) (evi_rngN hlen (by omega)) g2.i fun B3 H3 g3 => ?_
  refine ⟨fun k σ B' H' => ∃ (x4 x5 x6 x7 : Option V) (acc : List V), σ = [some v0, some v1, some (.int (detM X)), some (.ref p), x4, x5, x6, x7] ∧ Grow B H B' H' ∧ Same B3 B' ∧ B' p = none ∧ H' p = some (.lst acc) ∧ DDs B' (iL ((List.range k).map fun i => detM (X.set i g))) acc,
    ⟨_, _, _, _, [], rfl, g12.trans g3, Same.refl _, g3.none bp hp, g3.h _ _ hp, rfl⟩, fun k σ B' H' ⟨_, _, _, _, _, _, g, s, _⟩ => ⟨s, g.i⟩, ?_, ?_⟩
  · rintro k d σ B' H' hd ⟨x4, x5, x6, x7, acc, rfl, gg, s3, bp', hp', pa⟩ v B4 H4 g4 dv
    have hk : k < n := by
      have := (List.getElem?_eq_some_iff.mp hd).1
      simpa using this
    rw [List.getElem?_map, List.getElem?_range hk] at hd
    cases hd
    have hv : v = .int (0 + (k : Nat)) := dv
    subst hv
    rw [Int.zero_add]
    have gA := gg.trans g4
    have hpA : H4 p = some (.lst acc) := g4.h _ _ hp'
    have bpA : B4 p = none := g4.none bp' hp'
    -- turned = [list(row) for row in rows]
    refine seq_lcN (f := id) (evi_list (evd_var (B := B4) (i := 0) rfl (dr.mono gA.b))) (by rw [List.length_map, S.len]; exact ge_sz (by omega)) g4.i (fun d B'' u hm s'' hu => by
      obtain ⟨r, hr, rfl⟩ := List.mem_map.mp hm
      exact evd_listL (evd_var (i := 6) rfl hu)) fun D acc2 B5 H5 hD g5 bD hD5 pa2 => ?_
    rw [List.map_id] at pa2
    have hpD : p ≠ D := fun z => by rw [← z, hpA] at hD; cases hD
    have hp5 : H5 p = some (.lst acc) := g5.h _ _ hpA
    have bp5 : B5 p = none := g5.none bpA hpA
    have gB := gA.trans g5
    -- turned[at] = list(goal)
    refine setI_D (k := 5) (j := k) (d := ll g) rfl bD hD5 (evd_listT (evd_var (i := 1) rfl (dg.mono gB.b))) (evd_var (i := 4) (d := .int (k : Nat)) rfl rfl) (by rw [pa2.length, List.length_map, S.len]; exact hk) g5.i fun u B6 H6 g6 d6 b6 => ?_
    have hHD : H D = none := gg.h.free (g4.h.free hD)
    have gC := (gB.trans g6).mut (o := .lst (acc2.set k u)) hHD b6
    have pa3 : DDs B6 (rowsD false (X.set k g)) (acc2.set k u) := by
      have h := (pa2.mono g6.b).set k d6
      rw [show rowsD false (X.set k g) = (rowsD false X).set k (ll g) from List.map_set]
      exact h
    obtain ⟨sC, tC, dC⟩ := close_S gC.i b6 upd_same pa3
    have bp6 : B6 p = none := g6.none bp5 hp5
    have hp6 : (upd H6 D (.lst (acc2.set k u))) p = some (.lst acc) := by rw [upd_ne hpD]; exact g6.h _ _ hp5
    have bp7 : (upd B6 D (.lst (acc2.set k u))) p = none := by rw [upd_ne hpD]; exact bp6
    have gD : Grow B H (upd B6 D (.lst (acc2.set k u))) (upd H6 D (.lst (acc2.set k u))) := ⟨gC.b.trans sC, gC.h, tC, fun c hc => by
      have z : c ≠ D := fun z => hc (by rw [z]; exact hHD)
      rw [upd_ne z]; exact gC.k c hc⟩
    -- found.append(..)
    refine app_D (i := 3) (d := .int (detM (X.set k g))) rfl bp7 hp6 (by
        rw [pa.length, List.length_map, List.length_map, List.length_range]
        exact Nat.lt_of_le_of_lt (show k ≤ 6 by omega) (by decide))
      (evd_call (ds := [.list (rowsD false (X.set k g))]) (eva_cons (evd_var (i := 5) rfl dC) eva_nil) ⟨false, n, _, rfl, hn, S.set hg hgb k⟩ (fun d h => det_call h)) tC fun u' B8 H8 g8 d8 b8 s8 => ?_
    cases d8
    refine ⟨B8, _, _, _, _, acc ++ [.int (detM (X.set k g))], rfl, (gD.trans g8).mut hpH b8, s3.trans (g4.b.trans (g5.b.trans (g6.b.trans (sC.trans g8.b)))), b8, upd_same, ?_⟩
    rw [List.range_succ, List.map_append, iL, List.map_append]
    exact (pa.mono (g4.b.trans (g5.b.trans (g6.b.trans (sC.trans g8.b))))).append (DDs.one rfl)
  · rintro σ B' H' ⟨x4, x5, x6, x7, acc, rfl, gg, s3, bp', hp', pa⟩
    rw [show (rngL 0 n).length = n by simp] at pa
    have ef : (List.range n).map (fun i => detM (X.set i g)) = facM X g := by unfold facM; rw [S.len]
    rw [ef] at pa
    obtain ⟨gc, dc⟩ := close_D gg hpH bp' hp' pa
    dsimp only
    refine seq_if (b := decide (detM X < 0)) (evt_test (evd_lt (evd_var (i := 2) rfl rfl) evd_int)) gc.i fun B5 H5 g5 => ?_
    refine ite2 (fun hneg => ?_) (fun hpos => ?_)
    · have hneg := of_decide_eq_true hneg
      refine seq_set (d := .int (-detM X)) (evd_neg (evd_var (i := 2) rfl rfl)) g5.i fun v6 B6 H6 g6 d6 => ?_
      cases d6
      have hcomp := evd_lcN (i := 7) (B := B6) (σ := [some v0, some v1, some (.int (-detM X)), some (.ref p), x4, x5, x6, x7]) (te := tUn (rU fun i => .int (-i)) (tVar 7)) (f := negD) (evi_list (K := K) (evd_var (i := 3) rfl (dc.mono (g5.b.trans g6.b)))) (by
          rw [List.length_map]
          unfold facM
          rw [List.length_map, List.length_range, S.len]
          exact ge_sz (by omega))
        (fun d B'' u hm s'' hu => by
          obtain ⟨x, hx, rfl⟩ := List.mem_map.mp hm
          exact evd_neg (evd_var (i := 7) rfl hu))
      have em : (iL (facM X g)).map negD = iL (facS X g) := by
        unfold facS
        rw [if_pos hneg]
        show (List.map _ _).map _ = List.map _ (List.map _ _)
        rw [List.map_map, List.map_map]
        rfl
      rw [em] at hcomp
      refine one_set hcomp g6.i fun v7 B7 H7 g7 d7 => ?_
      dsimp only
      refine ret_D (d := .tuple [ll (facS X g), .int (detM X).natAbs]) (evd_tup (eva_cons (evd_var (i := 3) rfl d7) (eva_cons (evd_var (i := 2) rfl (by show V.int _ = V.int _; congr 1; omega)) eva_nil)) (show 2 ≤ sizeLine by decide)) g7.i fun v8 B8 H8 g8 d8 => q _ v8 B8 H8 ⟨X, g, rfl, rfl⟩ ((((gc.trans g5).trans g6).trans g7).trans g8) d8
    · have hpos : ¬ detM X < 0 := fun z => hpos (decide_eq_true z)
      have em : facM X g = facS X g := by unfold facS; rw [if_neg hpos]
      rw [em] at dc
      refine ret_D (d := .tuple [ll (facS X g), .int (detM X).natAbs]) (evd_tup (eva_cons (evd_var (i := 3) rfl (dc.mono g5.b)) (eva_cons (evd_var (i := 2) rfl (by show V.int _ = V.int _; congr 1; omega)) eva_nil)) (show 2 ≤ sizeLine by decide)) g5.i fun v8 B8 H8 g8 d8 => q _ v8 B8 H8 ⟨X, g, rfl, rfl⟩ ((gc.trans g5).trans g8) d8
end K84

set_option maxHeartbeats 4000000
namespace SgS
theorem perm_map {α β : Type} {f : α → β} : ∀ {xs : List α} {ys : List β}, ys.Perm (xs.map f) → ∃ zs : List α, ys = zs.map f ∧ zs.Perm xs := by
  intro xs
  induction xs with
  | nil =>
    intro ys h
    have e : ys = [] := by simpa using h
    subst e
    exact ⟨[], rfl, .nil⟩
  | cons x xs ih =>
    intro ys h
    have hm : f x ∈ ys := h.mem_iff.mpr (by simp)
    obtain ⟨as, bs, e⟩ := List.append_of_mem hm
    subst e
    have h2 : (as ++ bs).Perm (xs.map f) := by
      have h3 : (f x :: (as ++ bs)).Perm (f x :: xs.map f) := List.perm_middle.symm.trans h
      exact List.Perm.cons_inv h3
    obtain ⟨zs, ez, pz⟩ := ih h2
    obtain ⟨z1, z2, e0, e1, e2⟩ := List.append_eq_map_iff.mp ez
    refine ⟨z1 ++ x :: z2, by rw [List.map_append, List.map_cons, e1, e2], ?_⟩
    rw [e0] at pz
    exact List.perm_middle.trans (pz.cons x)
end SgS
namespace D8
open PySem PySem.Spec PyProof.Rows L2
/-- what a sorted list of tuples is -/
theorem ddsT_inj {B : Hp} : ∀ {r s : List Int} {v : V}, DD B (pt r) v → DD B (pt s) v → r = s
  | r, s, v, ⟨a, xs, e, h, p⟩, ⟨b, ys, e', h', p'⟩ => by
    subst e
    cases e'
    rw [h] at h'
    cases h'
    have e1 := p.toI
    have e2 := p'.toI
    rw [e1] at e2
    have e3 := congrArg (List.map fun v => match v with | V.int i => i | _ => 0) e2
    simpa [List.map_map, Function.comp_def] using e3
end D8
namespace K84
open PySem PySem.Spec PyProof.Rows L2 D8
variable {P : Program} {w : World} {K : PySem.W.Frag} {mg : Str → Option Value} {base : Heap}
/-! ### _law_box -/
def liftM (X : List (List Int)) : List (List Int) := X.map fun r => r ++ [1]
def colM (M : List (List Int)) (k : Nat) : List Int := M.map fun r => (r[k]?).getD 0
def lowM (M : List (List Int)) (k : Nat) : Int := ((colM M k).map fun x => min 0 x).sum
def highM (M : List (List Int)) (k : Nat) : Int := ((colM M k).map fun x => max 0 x).sum
def boxStep (lo hi : Int) (rs : List (List Int)) : List (List Int) := rs.flatMap (rowsFrom lo (hi + 1 - lo).toNat)
def boxM (M : List (List Int)) : Nat → List (List Int)
  | 0 => [[]]
  | k + 1 => boxStep (lowM M k) (highM M k) (boxM M k)
def isGood (M : List (List Int)) (g : List Int) : Bool := decide (0 ≤ minM (facS M g)) && decide (maxM (facS M g) < ((detM M).natAbs : Nat))
def goodM (M : List (List Int)) : List (List Int) := (boxM M M.length).filter (isGood M)
theorem sum_ge {c : Int} : ∀ {ns : List Int}, (∀ x ∈ ns, -c ≤ x) → -(c * ns.length) ≤ ns.sum
  | [], _ => by simp
  | n :: ns, h => by
    have h1 := h n (List.mem_cons_self ..)
    have h2 := sum_ge fun x hx => h x (List.mem_cons_of_mem _ hx)
    rw [List.sum_cons, List.length_cons]
    have : c * ((ns.length + 1 : Nat) : Int) = c * ns.length + c := by rw [Int.natCast_add, Int.mul_add]; simp
    omega
theorem sum_le {c : Int} : ∀ {ns : List Int}, (∀ x ∈ ns, x ≤ c) → ns.sum ≤ c * ns.length
  | [], _ => by simp
  | n :: ns, h => by
    have h1 := h n (List.mem_cons_self ..)
    have h2 := sum_le fun x hx => h x (List.mem_cons_of_mem _ hx)
    rw [List.sum_cons, List.length_cons]
    have : c * ((ns.length + 1 : Nat) : Int) = c * ns.length + c := by rw [Int.natCast_add, Int.mul_add]; simp
    omega
theorem colM_bd {b : Int} {n : Nat} {M : List (List Int)} (S : Sqr b n M) (hb : 0 ≤ b) (k : Nat) : ∀ x ∈ colM M k, -b ≤ x ∧ x ≤ b := fun x hx => by
  obtain ⟨r, hr, rfl⟩ := List.mem_map.mp hx
  cases e : r[k]? with
  | none => show -b ≤ 0 ∧ 0 ≤ b; omega
  | some y => exact S.bd r hr y (List.mem_of_getElem? e)
theorem low_bd {n : Nat} {M : List (List Int)} (S : Sqr 4 n M) (hn : n ≤ 4) (k : Nat) : -16 ≤ lowM M k ∧ lowM M k ≤ 0 ∧ 0 ≤ highM M k ∧ highM M k ≤ 16 := by
  have hb := colM_bd S (by decide) k
  have hl : (colM M k).length = n := by unfold colM; rw [List.length_map, S.len]
  have h1 := sum_ge (c := 4) (ns := (colM M k).map fun x => min 0 x) fun x hx => by
    obtain ⟨y, hy, rfl⟩ := List.mem_map.mp hx
    have := hb y hy
    omega
  have h2 := sum_le (c := 0) (ns := (colM M k).map fun x => min 0 x) fun x hx => by
    obtain ⟨y, hy, rfl⟩ := List.mem_map.mp hx
    omega
  have h3 := sum_ge (c := 0) (ns := (colM M k).map fun x => max 0 x) fun x hx => by
    obtain ⟨y, hy, rfl⟩ := List.mem_map.mp hx
    omega
  have h4 := sum_le (c := 4) (ns := (colM M k).map fun x => max 0 x) fun x hx => by
    obtain ⟨y, hy, rfl⟩ := List.mem_map.mp hx
    have := hb y hy
    omega
  rw [List.length_map, hl] at h1 h2 h3 h4
  unfold lowM highM
  omega
theorem boxM_ok {n : Nat} {M : List (List Int)} (S : Sqr 4 n M) (hn : n ≤ 4) : ∀ k, (∀ r ∈ boxM M k, r.length = k ∧ ∀ x ∈ r, -16 ≤ x ∧ x ≤ 16) ∧ (boxM M k).length ≤ 33 ^ k
  | 0 => by
    refine ⟨fun r hr => ?_, by simp [boxM]⟩
    have e : r = [] := by simpa [boxM] using hr
    subst e
    exact ⟨rfl, fun x hx => by cases hx⟩
  | k + 1 => by
    obtain ⟨h1, h2⟩ := boxM_ok S hn k
    have b := low_bd S hn k
    refine ⟨fun r hr => ?_, ?_⟩
    · obtain ⟨row, h3, h4⟩ := List.mem_flatMap.mp hr
      obtain ⟨i, h5, rfl⟩ := List.mem_map.mp h4
      have h5 := List.mem_range.mp h5
      refine ⟨by rw [List.length_append, (h1 row h3).1]; rfl, fun x hx => ?_⟩
      rcases List.mem_append.mp hx with q | q
      · exact (h1 row h3).2 x q
      · have e : x = lowM M k + (i : Nat) := by simpa using q
        omega
    · have key : ∀ rs : List (List Int), (boxStep (lowM M k) (highM M k) rs).length ≤ rs.length * 33 := fun rs => by
        unfold boxStep
        induction rs with
        | nil => simp
        | cons r rs ih =>
          rw [List.flatMap_cons, List.length_append, List.length_cons, Nat.add_mul]
          have : (rowsFrom (lowM M k) (highM M k + 1 - lowM M k).toNat r).length ≤ 33 := by
            unfold rowsFrom
            rw [List.length_map, List.length_range]
            omega
          omega
      rw [Nat.pow_succ]
      exact Nat.le_trans (key _) (Nat.mul_le_mul_right _ h2)
theorem boxStep_len {n : Nat} {M : List (List Int)} (S : Sqr 4 n M) (hn : n ≤ 4) (k : Nat) (rs : List (List Int)) : (boxStep (lowM M k) (highM M k) rs).length ≤ rs.length * 33 := by
  have b := low_bd S hn k
  unfold boxStep
  induction rs with
  | nil => simp
  | cons r rs ih =>
    rw [List.flatMap_cons, List.length_append, List.length_cons, Nat.add_mul]
    have : (rowsFrom (lowM M k) (highM M k + 1 - lowM M k).toNat r).length ≤ 33 := by
      unfold rowsFrom
      rw [List.length_map, List.length_range]
      omega
    omega
theorem Sqr.wide {b c : Int} {n : Nat} {M : List (List Int)} (S : Sqr b n M) (h : b ≤ c) : Sqr c n M := ⟨S.len, S.row, fun r hr x hx => by have := S.bd r hr x hx; omega⟩
def liftD : PyData → PyData
  | .tuple ds => .list (ds ++ [.int 1])
  | .list ds => .list (ds ++ [.int 1])
  | d => d
def colD (f : Int → Int) (k : Nat) : PyData → PyData
  | .list ds => match ds[k]? with | some (.int x) => .int (f x) | _ => .int 0
  | d => d
theorem col_map (f : Int → Int) {n : Nat} {M : List (List Int)} (h : ∀ r ∈ M, r.length = n) {k : Nat} (hk : k < n) : (rowsD false M).map (colD f k) = iL ((colM M k).map f) := by
  show (List.map _ _).map _ = List.map _ (List.map _ (List.map _ _))
  rw [List.map_map, List.map_map, List.map_map]
  refine List.map_congr_left fun r hr => ?_
  have hl : k < r.length := by rw [h r hr]; exact hk
  show (match (iL r)[k]? with | some (.int x) => PyData.int (f x) | _ => .int 0) = PyData.int (f ((r[k]?).getD 0))
  rw [List.getElem?_map, List.getElem?_eq_getElem hl]
  rfl
/-- what the law's box is: the good points of the box in ascending order -/
structure SortedOf (X L : List (List Int)) : Prop where
  perm : L.Perm X
  asc : L.Pairwise fun a b => SgS.rank 1000 a ≤ SgS.rank 1000 b
def sp_law_box : Sp := SpD (fun ds => ∃ (n : Nat) (X : List (List Int)), ds = [.list (pts X)] ∧ 1 ≤ n ∧ n ≤ 4 ∧ Sqr 4 n (liftM X) ∧ (goodM (liftM X)).length < 64)
  (fun ds d => ∃ (X L : List (List Int)), ds = [.list (pts X)] ∧ SortedOf (goodM (liftM X)) L ∧ d = .list (pts L))
theorem ok_law_box (M : Mod K mg) : FnOk P w K mg base CX0 4 M.f_law_box M.fd_law_box ["points"] sp_law_box := by
  refine M.d_law_box.F.ok sc_law_box (SpD.len fun ds ⟨_, _, e, _⟩ => by rw [e]; rfl) (fun cdv A outer s H vs Q E hr h => ?_)
  obtain ⟨B, ds, sB, hd, ⟨n, X, rfl, hn1, hn, S, hgood⟩, q⟩ := h
  obtain ⟨v0, _, rfl, dr, rfl⟩ := hd
  have hXl : X.length = n := by have := S.len; unfold liftM at this; rwa [List.length_map] at this
  refine ⟨_, (pss_cons (ps_setLc (i := 1) (own := [("point", 6)]) (g := gName 6) (tt := tYes) (te := (tOp rCat (tCB (rListQ K) (tCons (tVar 6) tNil)) (tLst (tCons (tC (.int 1)) tNil)))) rfl sc_law_box.nd rfl rfl (sw_true rfl rfl rfl (by decide +kernel)) (pi_list (pv 0)) (blkOk_by (own := [("point", 6)]) (N := N_law_box) (sc := defScope s_law_box) (by decide +kernel)) (fun _ _ _ _ _ => (pg_name (i := 6) sc_law_box.nd rfl (.inl rfl))) (fun _ _ _ _ _ => pts_nil) (fun _ _ _ _ _ => (pe_op op_cat (pe_callTy call_list_of (by rfl) M.m_list (by decide +kernel) (pa_cons (pv 6) pa_nil)) (pe_lst (pa_cons pe_int pa_nil)))))
    (pss_cons (ps_set (i := 2) sc_law_box.nd rfl (.inl rfl) (pe_callB call_len_seq (by rfl) M.m_len PySem.boot_len (pa_cons (pv 0) pa_nil)))
    (pss_cons (ps_set (i := 3) sc_law_box.nd rfl (.inl rfl) (pe_lst (pa_cons (pe_tup pa_nil) pa_nil)))
    (pss_cons (ps_for PassesOwn.never rfl (pi_range1 (by rfl) M.m_range (pa_cons (pv 2) pa_nil)) (pg_name (i := 4) sc_law_box.nd rfl (.inr rfl))
    (pss_cons (ps_set (i := 7) sc_law_box.nd rfl (.inl rfl) (pe_callB (cr_sum rfl) (by rfl) M.m_sum (by decide +kernel) (pa_cons (pe_lc (own := [("row", 12)]) (g := gName 12) (tt := tYes) (te := (tCB rMin2 (tCons (tC (.int 0)) (tCons (tOp (rIxL K) (tVar 12) (tVar 4)) tNil)))) rfl sc_law_box.nd (pi_list (pv 1)) (blkOk_by (own := [("row", 12)]) (N := N_law_box) (sc := defScope s_law_box) (by decide +kernel)) (fun _ _ _ _ _ => (pg_name (i := 12) sc_law_box.nd rfl (.inl rfl))) (fun _ _ _ _ _ => pts_nil) (fun _ _ _ _ _ => (pe_callB (call_min2 rfl) (by rfl) M.m_min (by decide +kernel) (pa_cons pe_int (pa_cons (pe_ix ix_list (pv 12) (pv 4) (fun _ _ => rfl)) pa_nil))))) pa_nil)))
    (pss_cons (ps_set (i := 8) sc_law_box.nd rfl (.inl rfl) (pe_callB (cr_sum rfl) (by rfl) M.m_sum (by decide +kernel) (pa_cons (pe_lc (own := [("row", 12)]) (g := gName 12) (tt := tYes) (te := (tCB rMax2 (tCons (tC (.int 0)) (tCons (tOp (rIxL K) (tVar 12) (tVar 4)) tNil)))) rfl sc_law_box.nd (pi_list (pv 1)) (blkOk_by (own := [("row", 12)]) (N := N_law_box) (sc := defScope s_law_box) (by decide +kernel)) (fun _ _ _ _ _ => (pg_name (i := 12) sc_law_box.nd rfl (.inl rfl))) (fun _ _ _ _ _ => pts_nil) (fun _ _ _ _ _ => (pe_callB (call_max2 rfl) (by rfl) M.m_max (by decide +kernel) (pa_cons pe_int (pa_cons (pe_ix ix_list (pv 12) (pv 4) (fun _ _ => rfl)) pa_nil))))) pa_nil)))
    (pss_cons (ps_set (i := 9) sc_law_box.nd rfl (.inl rfl) (pe_lst pa_nil))
    (pss_cons (ps_for PassesOwn.never rfl (pi_list (pv 3)) (pg_name (i := 6) sc_law_box.nd rfl (.inr rfl))
    (pss_one (ps_expr (pe_bm PySem.F.plainAttrs_list PySem.F.slot_list_extend PySem.F.type_list_extend mt_extend (pv 9) (pa_cons (pe_lc (own := [("entry", 13)]) (g := gName 13) (tt := tYes) (te := (tOp (rCatA K) (tVar 6) (tTup (tCons (tVar 13) tNil)))) rfl sc_law_box.nd (pi_range2 (by rfl) M.m_range (pa_cons (pv 7) (pa_cons (pe_op op_add (pv 8) pe_int) pa_nil))) (blkOk_by (own := [("entry", 13)]) (N := N_law_box) (sc := defScope s_law_box) (by decide +kernel)) (fun _ _ _ _ _ => (pg_name (i := 13) sc_law_box.nd rfl (.inl rfl))) (fun _ _ _ _ _ => pts_nil) (fun _ _ _ _ _ => (pe_op op_catA (pv 6) (pe_tup (pa_cons (pv 13) pa_nil))))) pa_nil)))))
    (pss_one (ps_set (i := 3) sc_law_box.nd rfl (.inl rfl) (pv 9))))))))
    (pss_cons (ps_set (i := 5) sc_law_box.nd rfl (.inl rfl) (pe_lst pa_nil))
    (pss_cons (ps_for PassesOwn.never rfl (pi_list (pv 3)) (pg_name (i := 6) sc_law_box.nd rfl (.inr rfl))
    (pss_cons (ps_asg (pe_call (ok_law_factors M) (hr.mono (by decide)) (by rfl) M.d_law_factors.g M.d_law_factors.F.kp M.d_law_factors.b .nil pass0 (pa_cons (pv 1) (pa_cons (pv 6) pa_nil))) (pg_tup rfl (pgs_cons (pg_name (i := 10) sc_law_box.nd rfl (.inl rfl)) (pgs_cons (pg_name (i := 11) sc_law_box.nd rfl (.inl rfl)) pgs_nil))))
    (pss_one (ps_if (PW.pt (pw_and (pt_cmpR op_ge (pe_callB (cr_min rfl) (by rfl) M.m_min (by decide +kernel) (pa_cons (pv 10) pa_nil)) pe_int (nomark _)) (pw_and1 (pt_cmpR op_lt (pe_callB (cr_max rfl) (by rfl) M.m_max (by decide +kernel) (pa_cons (pv 10) pa_nil)) (pv 11) (nomark _))))) (pss_one (ps_expr (pe_bm PySem.F.plainAttrs_list PySem.F.slot_list_append PySem.F.type_list_append mt_append (pv 5) (pa_cons (pv 6) pa_nil)))) pss_nil))))
    (pss_one (ps_ret (pe_callB (SgS.cr_sortS (d := n) (c := 1000) hn1) (by rfl) M.m_sorted (by decide +kernel) (pa_cons (pv 5) pa_nil)))))))))), ?_⟩
  -- rows
  have hMl : (liftM X).length = n := S.len
  refine seq_set (d := .list (rowsD false (liftM X))) ?_ sB fun v1 B1 H1 g1 d1 => ?_
  · have h := evd_lcN (i := 6) (B := B) (σ := start N_law_box [v0]) (te := tOp rCat (tCB (rListQ K) (tCons (tVar 6) tNil)) (tLst (tCons (tC (.int 1)) tNil))) (f := liftD) (evi_list (K := K) (evd_var (i := 0) rfl dr)) (by rw [List.length_map, hXl]; exact ge_sz (by omega))
      (fun d B' u hm s' hu => by
        obtain ⟨r, hr, rfl⟩ := List.mem_map.mp hm
        have hrl : r.length + 1 = n := by
          have := S.row (r ++ [1]) (List.mem_map.mpr ⟨r, hr, rfl⟩)
          simpa using this
        exact evd_cat (evd_listT (evd_var (i := 6) rfl hu)) (evd_lst (eva_cons evd_int eva_nil) (show 1 ≤ sizeLine by decide)) (by rw [List.length_map]; exact ge_sz (by show r.length + 1 ≤ _; omega)))
    have e : (pts X).map liftD = rowsD false (liftM X) := by
      show (X.map _).map _ = (X.map _).map _
      rw [List.map_map, List.map_map]
      refine List.map_congr_left fun r _ => ?_
      show PyData.list (iL r ++ [.int 1]) = PyData.list ((r ++ [1]).map PyData.int)
      rw [List.map_append]
      rfl
    rw [e] at h
    exact h
  have hlen := evd_lenL (K := K) (evd_var (B := B1) (σ := (start N_law_box [v0]).set 1 (some v1)) (i := 0) rfl (dr.mono g1.b))
  rw [List.length_map, hXl] at hlen
  refine seq_set hlen g1.i fun v2 B2 H2 g2 d2 => ?_
  cases d2
  refine seq_set (d := .list (pts [[]])) (evd_lst (eva_cons (evd_tup eva_nil (Nat.zero_le _)) eva_nil) (ge_sz (by decide))) g2.i fun v3 B3 H3 g3 d3 => ?_
  have g13 := (g1.trans g2).trans g3
  have dM : DD B3 (.list (rowsD false (liftM X))) v1 := d1.mono (g2.b.trans g3.b)
  -- the box
  refine for_D (B := B3) (es := rngL 0 n) (evi_rngN (evd_var (i := 2) (d := .int (n : Nat)) rfl rfl) (by omega)) g3.i fun B4 H4 g4 => ?_
  refine ⟨fun k σ B' H' => ∃ (u : V) (x4 x6 x7 x8 x9 x13 : Option V), σ = [some v0, some v1, some (.int (n : Nat)), some u, x4, none, x6, x7, x8, x9, none, none, none, x13] ∧ Grow B H B' H' ∧ Same B4 B' ∧ DD B' (.list (pts (boxM (liftM X) k))) u,
    ⟨v3, none, none, none, none, none, none, rfl, g13.trans g4, Same.refl _, d3.mono g4.b⟩, fun k σ B' H' ⟨_, _, _, _, _, _, _, _, g, s, _⟩ => ⟨s, g.i⟩, ?_, ?_⟩
  · rintro k d σ B' H' hd ⟨u, x4, x6, x7, x8, x9, x13, rfl, gg, s4, du⟩ v B5 H5 g5 dv
    have hk : k < n := by
      have := (List.getElem?_eq_some_iff.mp hd).1
      simpa using this
    rw [List.getElem?_map, List.getElem?_range hk] at hd
    cases hd
    have hv : v = .int (0 + (k : Nat)) := dv
    subst hv
    rw [Int.zero_add]
    have bd := low_bd S hn k
    obtain ⟨ok1, ok2⟩ := boxM_ok S hn k
    have hlen33 : (boxM (liftM X) k).length ≤ 35937 := Nat.le_trans ok2 (Nat.le_trans (Nat.pow_le_pow_right (by decide) (show k ≤ 3 by omega)) (by decide))
    have dM5 : DD B5 (.list (rowsD false (liftM X))) v1 := dM.mono (g4.b.trans (s4.trans g5.b))
    have hcol : ∀ (f : Int → Int) (σ : L2.St) (B' : Hp) (te : TE), Same B5 B' → σ[1]? = some (some v1) → (∀ (r : List Int) (x : Int) (B'' : Hp) (y : V), r ∈ liftM X → r[k]? = some x → Same B' B'' → DD B'' (ll r) y → EvD te ((wipe σ [12]).set 12 (some y)) B'' (.int (f x))) →
        EvD (tCB (rSum K) (tCons (tLc (iList K (tVar 1)) (gName 12) tYes te [12]) tNil)) σ B' (.int ((colM (liftM X) k).map f).sum) := fun f σ B' te s' h1 he => by
      have h := evd_lcN (i := 12) (B := B') (σ := σ) (te := te) (f := colD f k) (evi_list (K := K) (evd_var (i := 1) h1 (dM5.mono s'))) (by rw [List.length_map, hMl]; exact ge_sz (by omega))
        (fun d B'' y hm s'' hy => by
          obtain ⟨r, hr, rfl⟩ := List.mem_map.mp hm
          have hl : k < r.length := by rw [S.row r hr]; exact hk
          have e : colD f k (rowD false r) = .int (f r[k]) := by
            show (match (iL r)[k]? with | some (.int x) => PyData.int (f x) | _ => .int 0) = _
            rw [List.getElem?_map, List.getElem?_eq_getElem hl]
            rfl
          rw [e]
          exact he r r[k] B'' y hr (List.getElem?_eq_getElem hl) s'' hy)
      rw [col_map f S.row hk] at h
      exact evd_sum h
    -- low, high
    refine seq_set (d := .int (lowM (liftM X) k)) (hcol (fun x => min 0 x) _ _ _ (Same.refl _) rfl fun r x B'' y hr hx s'' hy => evd_min2 evd_int (evd_ixL (evd_var (i := 12) rfl hy) (evd_var (i := 4) (d := .int (k : Nat)) rfl rfl) (iL_at hx))) g5.i fun v7 B6 H6 g6 d6 => ?_
    cases d6
    refine seq_set (d := .int (highM (liftM X) k)) (hcol (fun x => max 0 x) _ _ _ g6.b rfl fun r x B'' y hr hx s'' hy => evd_max2 evd_int (evd_ixL (evd_var (i := 12) rfl hy) (evd_var (i := 4) (d := .int (k : Nat)) rfl rfl) (iL_at hx))) g6.i fun v8 B7 H7 g7 d7 => ?_
    cases d7
    -- longer
    refine seq_setNew (B := B7) (ds := []) eva_nil (Nat.zero_le _) g7.i fun p xs B8 H8 hp7 g8 bp hp px => ?_
    cases px
    have g58 := ((g5.trans g6).trans g7).trans g8
    have hpH : H p = none := gg.h.free (g5.h.free (g6.h.free (g7.h.free hp7)))
    refine for_D (B := B8) (es := pts (boxM (liftM X) k)) (evi_list (evd_var (i := 3) rfl (du.mono g58.b))) g8.i fun B9 H9 g9 => ?_
    refine ⟨fun i σ B' H' => ∃ (y6 y13 : Option V) (acc : List V), σ = [some v0, some v1, some (.int (n : Nat)), some u, some (.int (k : Nat)), none, y6, some (.int (lowM (liftM X) k)), some (.int (highM (liftM X) k)), some (.ref p), none, none, none, y13] ∧ Grow B H B' H' ∧ Same B9 B' ∧ B' p = none ∧ H' p = some (.lst acc) ∧ DDs B' (pts (boxStep (lowM (liftM X) k) (highM (liftM X) k) ((boxM (liftM X) k).take i))) acc,
      ⟨_, _, [], rfl, (gg.trans g58).trans g9, Same.refl _, g9.none bp hp, g9.h _ _ hp, rfl⟩, fun i σ B' H' ⟨_, _, _, _, gq, s5, _⟩ => ⟨s5, gq.i⟩, ?_, ?_⟩
    · rintro i d σ B' H' hd ⟨y6, y13, acc, rfl, gq, s9, bp', hp', pa⟩ x B10 H10 g10 dx
      obtain ⟨row, hrow, rfl⟩ := pts_get hd
      have okr := ok1 row (List.mem_of_getElem? hrow)
      have bp10 : B10 p = none := g10.none bp' hp'
      have hp10 : H10 p = some (.lst acc) := g10.h _ _ hp'
      have hcomp := evd_lcN (wi := iRng2 (tCons (tVar 7) (tCons (tOp (rI0 fun i j => .int (i + j)) (tVar 8) (tC (.int 1))) tNil))) (i := 13) (B := B10)
        (σ := [some v0, some v1, some (.int (n : Nat)), some u, some (.int (k : Nat)), none, some x, some (.int (lowM (liftM X) k)), some (.int (highM (liftM X) k)), some (.ref p), none, none, none, y13])
        (te := tOp (rCatA K) (tVar 6) (tTup (tCons (tVar 13) tNil))) (f := putItem row)
        (evi_rng2 (i := lowM (liftM X) k) (j := highM (liftM X) k + 1) (evd_var (i := 7) rfl rfl) (evd_add (evd_var (i := 8) rfl rfl) evd_int) (by omega)) (by rw [List.length_map, List.length_range]; exact ge_sz (by omega))
        (fun d B' v hm s hv => by
          obtain ⟨i, hi, rfl⟩ := List.mem_map.mp hm
          have e : putItem row (.int (lowM (liftM X) k + (i : Nat))) = .tuple (iL row ++ [.int (lowM (liftM X) k + (i : Nat))]) := by
            show PyData.tuple ((row ++ [_]).map PyData.int) = _
            rw [List.map_append]
            rfl
          rw [e]
          exact evd_catA (evd_var (i := 6) rfl (dx.mono s)) (evd_tup (eva_cons (evd_var (i := 13) rfl hv) eva_nil) (show 1 ≤ sizeLine by decide)) (ge_sz (by rw [List.length_map, okr.1]; show k + 1 ≤ _; omega)))
      rw [rngL_row (row := row) (fun i _ => rfl)] at hcomp
      have hal : acc.length ≤ 1185921 := by
        rw [pa.length, List.length_map]
        have h1 := boxStep_len S hn k ((boxM (liftM X) k).take i)
        have h2 : ((boxM (liftM X) k).take i).length ≤ 35937 := Nat.le_trans (by rw [List.length_take]; exact Nat.min_le_right _ _) hlen33
        omega
      have hrl : (rowsFrom (lowM (liftM X) k) (highM (liftM X) k + 1 - lowM (liftM X) k).toNat row).length ≤ 33 := by
        unfold rowsFrom
        rw [List.length_map, List.length_range]
        omega
      refine ext_D (i := 9) rfl bp10 hp10 ?_ hcomp g10.i fun ys B11 H11 g11 dy b11 s11 => ?_
      · rw [List.length_map]
        exact Nat.le_trans (show _ ≤ 1185954 by omega) (by decide)
      · refine ⟨B11, _, _, acc ++ ys, rfl, ((gq.trans g10).trans g11).mut hpH b11, s9.trans (g10.b.trans g11.b), b11, upd_same, ?_⟩
        have e : boxStep (lowM (liftM X) k) (highM (liftM X) k) ((boxM (liftM X) k).take (i + 1)) = boxStep (lowM (liftM X) k) (highM (liftM X) k) ((boxM (liftM X) k).take i) ++ rowsFrom (lowM (liftM X) k) (highM (liftM X) k + 1 - lowM (liftM X) k).toNat row := by
          unfold boxStep
          rw [flat_take _ _ _ _ hrow]
        rw [e]
        show DDs B11 (List.map pt (_ ++ _)) _
        rw [List.map_append]
        exact (pa.mono (g10.b.trans g11.b)).append dy
    · rintro σ B' H' ⟨y6, y13, acc, rfl, gq, s9, bp', hp', pa⟩
      rw [List.length_map, List.take_length] at pa
      obtain ⟨gc, dc⟩ := close_D gq hpH bp' hp' pa
      exact ⟨.ref p, rfl, _, .ref p, _, _, _, _, _, _, rfl, gc, s4.trans (g58.b.trans (g9.b.trans (s9.trans (close_S gq.i bp' hp' pa).1))), dc⟩
  · rintro σ B' H' ⟨u, x4, x6, x7, x8, x9, x13, rfl, gg, s4, du⟩
    rw [show (rngL 0 n).length = n by simp] at du
    dsimp only
    obtain ⟨ok1, ok2⟩ := boxM_ok S hn n
    -- good
    refine seq_setNew (B := B') (ds := []) eva_nil (Nat.zero_le _) gg.i fun p xs B5 H5 hp5 g5 bp hp px => ?_
    cases px
    have hpH : H p = none := gg.h.free hp5
    refine for_D (B := B5) (es := pts (boxM (liftM X) n)) (evi_list (evd_var (i := 3) rfl (du.mono g5.b))) g5.i fun B6 H6 g6 => ?_
    refine ⟨fun i σ B' H' => ∃ (y6 y10 y11 : Option V) (acc : List V), σ = [some v0, some v1, some (.int (n : Nat)), some u, x4, some (.ref p), y6, x7, x8, x9, y10, y11, none, x13] ∧ Grow B H B' H' ∧ Same B6 B' ∧ B' p = none ∧ H' p = some (.lst acc) ∧ DDs B' (pts (((boxM (liftM X) n).take i).filter (isGood (liftM X)))) acc,
      ⟨_, _, _, [], rfl, (gg.trans g5).trans g6, Same.refl _, g6.none bp hp, g6.h _ _ hp, rfl⟩, fun i σ B' H' ⟨_, _, _, _, _, gq, s5, _⟩ => ⟨s5, gq.i⟩, ?_, ?_⟩
    · rintro i d σ B' H' hd ⟨y6, y10, y11, acc, rfl, gq, s6, bp', hp', pa⟩ x B7 H7 g7 dx
      obtain ⟨row, hrow, rfl⟩ := pts_get hd
      have okr := ok1 row (List.mem_of_getElem? hrow)
      have dM7 : DD B7 (.list (rowsD false (liftM X))) v1 := dM.mono (g4.b.trans (s4.trans (g5.b.trans (g6.b.trans (s6.trans g7.b)))))
      refine seq_pair (i := 10) (j := 11) (d := ll (facS (liftM X) row)) (e := .int (detM (liftM X)).natAbs) (evd_call (ds := [.list (rowsD false (liftM X)), pt row]) (eva_cons (evd_var (i := 1) rfl dM7) (eva_cons (evd_var (i := 6) rfl dx) eva_nil)) ⟨n, _, row, rfl, by omega, S.wide (by decide), okr.1, fun y hy => by have := okr.2 y hy; omega⟩ (fun d ⟨M', g', e, hd⟩ => by
        have e1 := rowsF_inj (PyData.list.inj (List.cons.inj e).1)
        have e2 := pt_inj (List.cons.inj (List.cons.inj e).2).1
        rw [hd, ← e1, ← e2])) g7.i fun w1 w2 B8 H8 g8 dw1 dw2 => ?_
      cases dw2
      have hfl : facS (liftM X) row ≠ [] := fun z => by
        have h0 : (facS (liftM X) row).length = n := by
          unfold facS
          split
          · rw [List.length_map]; unfold facM; rw [List.length_map, List.length_range, hMl]
          · unfold facM; rw [List.length_map, List.length_range, hMl]
        rw [z] at h0
        simp at h0
        omega
      refine one_if (b := isGood (liftM X) row) (evt_and (evt_test (evd_ge (evd_min (K := K) (evd_var (i := 10) rfl dw1) hfl) evd_int)) fun _ => evt_test (evd_lt (evd_max (K := K) (evd_var (i := 10) rfl dw1) hfl) (evd_var (i := 11) (d := .int (detM (liftM X)).natAbs) rfl rfl))) g8.i fun B9 H9 g9 => ?_
      have g79 := (g7.trans g8).trans g9
      have bp9 : B9 p = none := g79.none bp' hp'
      have hp9 : H9 p = some (.lst acc) := g79.h _ _ hp'
      have htake : ((boxM (liftM X) n).take (i + 1)).filter (isGood (liftM X)) = ((boxM (liftM X) n).take i).filter (isGood (liftM X)) ++ [row].filter (isGood (liftM X)) := by
        rw [List.take_add_one, hrow, List.filter_append]
        rfl
      cases hb : isGood (liftM X) row with
      | true =>
        refine (if_pos rfl).mpr ?_
        have hal : acc.length < 64 := by
          rw [pa.length, List.length_map]
          refine Nat.lt_of_le_of_lt (List.Sublist.length_le ((List.take_sublist i _).filter _)) ?_
          have := hgood
          unfold goodM at this
          rw [hMl] at this
          exact this
        refine app_D (i := 5) (d := pt row) rfl bp9 hp9 (Nat.lt_of_lt_of_le hal (by decide)) (evd_var (i := 6) rfl (dx.mono (g8.b.trans g9.b))) g9.i fun v10 B10 H10 g10 d10 b10 s10 => ?_
        refine ⟨B10, _, _, _, acc ++ [v10], rfl, ((gq.trans g79).trans g10).mut hpH b10, s6.trans (g79.b.trans g10.b), b10, upd_same, ?_⟩
        rw [htake, List.filter_cons_of_pos (by rw [hb])]
        show DDs B10 (List.map pt (_ ++ _)) _
        rw [List.map_append]
        exact (pa.mono (g79.b.trans g10.b)).append (DDs.one d10)
      | false =>
        refine (if_neg (by decide)).mpr ⟨B9, _, _, _, acc, rfl, gq.trans g79, s6.trans g79.b, bp9, hp9, ?_⟩
        rw [htake, List.filter_cons_of_neg (by rw [hb]; decide), List.filter_nil, List.append_nil]
        exact pa.mono g79.b
    · rintro σ B' H' ⟨y6, y10, y11, acc, rfl, gq, s6, bp', hp', pa⟩
      rw [List.length_map, List.take_length] at pa
      have eg : (boxM (liftM X) n).filter (isGood (liftM X)) = goodM (liftM X) := by unfold goodM; rw [hMl]
      rw [eg] at pa
      obtain ⟨ks, e1, e2, e3⟩ := pa.pairs
      subst e1
      have hok : ∀ r ∈ goodM (liftM X), r.length = n ∧ ∀ x ∈ r, -16 ≤ x ∧ x ≤ 16 := fun r hr => by
        unfold goodM at hr
        rw [hMl] at hr
        exact ok1 r (List.mem_filter.mp hr).1
      -- return sorted(good)
      refine ⟨.ref p, rfl, p, _, rfl, sql hp', by rw [List.length_map]; have := congrArg List.length e2; rw [List.length_map] at this; omega, fun x hx => ?_, fun ys r2 hperm hasc hr2 => ?_⟩
      · obtain ⟨t, ht, rfl⟩ := List.mem_map.mp hx
        have hr := hok t.2 (by rw [e2]; exact List.mem_map.mpr ⟨t, ht, rfl⟩)
        exact ⟨t.2, ⟨t.1, rfl, sqt (gq.i _ _ (e3 t ht))⟩, hr.1, fun y hy => by have := hr.2 y hy; omega⟩
      · -- the answer as pairs
        obtain ⟨ks', hk1, hk2⟩ : ∃ ks' : List (Addr × List Int), ys = ks'.map (fun p => V.ref p.1) ∧ ks'.Perm ks := SgS.perm_map hperm
        subst hk1
        have g7 := Grow.new (o := .lst (ks'.map fun p => V.ref p.1)) gq.i hr2
        have hin : ∀ t ∈ ks', B' t.1 = some (.tup (t.2.map V.int)) := fun t ht => e3 t (hk2.mem_iff.mp ht)
        refine q (.list (pts (ks'.map (·.2)))) _ _ _ ⟨X, ks'.map (·.2), rfl, ⟨?_, ?_⟩, rfl⟩ (gq.trans g7) ⟨r2, _, rfl, upd_same, (DDs.of_pairs hin).mono g7.b⟩
        · rw [e2]
          exact hk2.map _
        · rw [List.pairwise_map] at hasc ⊢
          refine List.Pairwise.imp_of_mem (fun {a b} ha hb h => h _ _ ⟨_, rfl, sqt (gq.i _ _ (hin a ha))⟩ ⟨_, rfl, sqt (gq.i _ _ (hin b hb))⟩) hasc
end K84

set_option maxHeartbeats 4000000
namespace D8
open PySem PySem.Spec PyProof.Rows L2
section
variable {X : Cx} {tg iter : Expr} {w1 w2 : TI}
theorem pi_or (h1 : PI X tg iter w1) (h2 : PI X tg iter w2) : PI X tg iter (fun σ H R => w1 σ H R ∨ w2 σ H R) := ⟨fun pins s σ H R I h => h.elim (h1.run pins s σ H R I) (h2.run pins s σ H R I)⟩
end
section
variable {σ : L2.St} {B H : Hp} {te ta tb : TE} {d : PyData}
theorem evi_inl {w1 w2 : TI} {es : List PyData} (h : EvI w1 σ B es) : EvI (fun σ H R => w1 σ H R ∨ w2 σ H R) σ B es := fun H s R q => .inl (h H s R q)
theorem evi_inr {w1 w2 : TI} {es : List PyData} (h : EvI w2 σ B es) : EvI (fun σ H R => w1 σ H R ∨ w2 σ H R) σ B es := fun H s R q => .inr (h H s R q)
/-- the class of a thing of data -/
inductive Cls1 : PyData → String → Prop where
  | int (i : Int) : Cls1 (.int i) "int"
  | str (z : Str) : Cls1 (.str z) "str"
  | lst (ds : List PyData) : Cls1 (.list ds) "list"
  | tup (ds : List PyData) : Cls1 (.tuple ds) "tuple"
theorem Cls1.tyx {K : PySem.W.Frag} {n : String} {v : V} (c : Cls1 d n) (h : DD B d v) (s : Same B H) : TyX K H v (.type n) := by
  cases c with
  | int i => cases h; exact .base (.int _)
  | str z => cases h; exact .base (.str _)
  | lst ds => obtain ⟨a, xs, rfl, e, _⟩ := h; exact .base (.lst (s _ _ e))
  | tup ds => obtain ⟨a, xs, rfl, e, _⟩ := h; exact .base (.tup (s _ _ e))
theorem evd_isi {K : PySem.W.Frag} {n c : String} {b : Bool} (ha : EvD ta σ B d) (hc : Cls1 d n) (hb : PySem.W.kitOne K (.type n) (.type c) = some b) : EvD (tCB (rIsi K) (tCons ta (tCons (tC (.ty c)) tNil))) σ B (.bool b) := fun H s Q q =>
  ha H s _ fun v B1 H1 g1 d1 => ⟨v, .ty c, .type n, .type c, b, rfl, .ty c, hc.tyx d1 g1.i, hb, q _ B1 H1 g1 rfl⟩
theorem evd_isi2 {K : PySem.W.Frag} {n c c' : String} {b : Bool} (ha : EvD ta σ B d) (hc : Cls1 d n) (hb : PySem.W.kitAny K (.type n) [.type c, .type c'] = some b) : EvD (tCB (rIsiT K) (tCons ta (tCons (tTup (tCons (tC (.ty c)) (tCons (tC (.ty c')) tNil))) tNil))) σ B (.bool b) := fun H s Q q =>
  ha H s _ fun v B1 H1 g1 d1 => ⟨show 2 ≤ sizeLine by decide, fun T hT => ⟨v, T, [.ty c, .ty c'], .type n, [.type c, .type c'], b, rfl, upd_same, .cons (.ty c) (.cons (.ty c') .nil), hc.tyx d1 (g1.i.trans (Grow.new g1.i hT).h), hb,
    q _ B1 _ ⟨g1.b, g1.h.trans (Grow.new g1.i hT).h, g1.i.trans (Grow.new g1.i hT).h, g1.k⟩ rfl⟩⟩
theorem evd_isN (ha : EvD ta σ B d) (hd : ∀ v, DD B d v → True) (hn : ∀ B' v, DD B' d v → v ≠ .non) : EvD (tOp (fun x y H Q => y = .non ∧ Q (.bl (decide (x = .non))) H) ta (tC .non)) σ B (.bool false) := fun H s Q q =>
  ha H s _ fun v B1 H1 g1 d1 => ⟨rfl, q _ B1 H1 g1 (by show V.bl _ = V.bl false; rw [decide_eq_false (hn B1 v d1)])⟩
end
end D8
namespace K84
open PySem PySem.Spec PyProof.Rows L2 D8
variable {P : Program} {w : World} {K : PySem.W.Frag} {mg : Str → Option Value} {base : Heap}
/-! ### _law_plain -/
/-- data of ints, tuples and lists, so deep -/
def Deep : Nat → PyData → Prop
  | _, .int _ => True
  | n + 1, .tuple ds => ds.length ≤ 1000 ∧ ∀ d ∈ ds, Deep n d
  | n + 1, .list ds => ds.length ≤ 1000 ∧ ∀ d ∈ ds, Deep n d
  | _, _ => False
def plainK : Nat → PyData → PyData
  | _, .int i => .list [.bool false, .int i]
  | n + 1, .tuple ds => .list (.bool false :: ds.map (plainK n))
  | n + 1, .list ds => .list (.bool true :: ds.map (plainK n))
  | _, d => d
def sp_plain (n : Nat) : Sp := SpD (fun ds => ∃ d, ds = [d] ∧ Deep n d) (fun ds r => ∃ d, ds = [d] ∧ r = plainK n d)
theorem kit_li (K : PySem.W.Frag) : PySem.W.kitAny K (.type "list") [.type "tuple", .type "list"] = some true :=
  kitAny_cons (b := false) (kit_ty (by decide +kernel)) (fun _ => kitAny_cons (b := true) (kit_ty (by decide +kernel)) (fun z => nomatch z) (fun _ => rfl)) (fun z => nomatch z)
theorem kit_tu (K : PySem.W.Frag) : PySem.W.kitAny K (.type "tuple") [.type "tuple", .type "list"] = some true :=
  kitAny_cons (b := true) (kit_ty (by decide +kernel)) (fun z => nomatch z) (fun _ => rfl)
theorem kit_in (K : PySem.W.Frag) : PySem.W.kitAny K (.type "int") [.type "tuple", .type "list"] = some false :=
  kitAny_cons (b := false) (kit_ty (by decide +kernel)) (fun _ => kitAny_cons (b := false) (kit_ty (by decide +kernel)) (fun _ => rfl) (fun z => nomatch z)) (fun z => nomatch z)
theorem kit_is (K : PySem.W.Frag) : PySem.W.kitAny K (.type "int") [.type "int", .type "str"] = some true :=
  kitAny_cons (b := true) (kit_ty (by decide +kernel)) (fun z => nomatch z) (fun _ => rfl)
theorem ok_plain0 (M : Mod K mg) : FnOk P w K mg base CX0 1 M.f_law_plain M.fd_law_plain ["value"] (sp_plain 0) := by
  refine M.d_law_plain.F.ok sc_law_plain (SpD.len fun ds ⟨_, e, _⟩ => by rw [e]; rfl) (fun cdv A outer s H vs Q E hr h => ?_)
  obtain ⟨B, ds, sB, hd, ⟨d, rfl, hdeep⟩, q⟩ := h
  obtain ⟨v0, _, rfl, dr, rfl⟩ := hd
  obtain ⟨i, rfl⟩ : ∃ i, d = .int i := by
    cases d with
    | int i => exact ⟨i, rfl⟩
    | _ => exact hdeep.elim
  refine ⟨_, pss_cons (ps_if (pt_val (pe_callB call_isiT (by rfl) M.m_isinstance (by decide +kernel) (pa_cons (pv 0) (pa_cons (pe_tup (pa_cons (pe_bltn (v := .ty "tuple") (by rfl) M.m_tuple (by decide +kernel) rfl) (pa_cons (pe_bltn (v := .ty "list") (by rfl) M.m_list (by decide +kernel) rfl) pa_nil))) pa_nil)))) (pss_one ps_never) pss_nil)
    (pss_cons (ps_if (PW.pt (pw_or (pt_cmpR op_isN (pv 0) pe_non (nomark _)) (pw_or1 (pt_val (pe_callB call_isi (by rfl) M.m_isinstance (by decide +kernel) (pa_cons (pv 0) (pa_cons (pe_bltn (v := .ty "bool") (by rfl) M.m_bool (by decide +kernel) rfl) pa_nil))))))) (pss_one ps_never) pss_nil)
    (pss_cons (ps_if (pt_val (pe_callB call_isiT (by rfl) M.m_isinstance (by decide +kernel) (pa_cons (pv 0) (pa_cons (pe_tup (pa_cons (pe_bltn (v := .ty "int") (by rfl) M.m_int (by decide +kernel) rfl) (pa_cons (pe_bltn (v := .ty "str") (by rfl) M.m_str (by decide +kernel) rfl) pa_nil))) pa_nil))))
      (pss_one (ps_ret (pe_lst (pa_cons (pe_callB call_isi (by rfl) M.m_isinstance (by decide +kernel) (pa_cons (pv 0) (pa_cons (pe_bltn (v := .ty "str") (by rfl) M.m_str (by decide +kernel) rfl) pa_nil))) (pa_cons (pv 0) pa_nil))))) pss_nil)
    (pss_one ps_never))), ?_⟩
  refine seq_if (b := false) (evt_B (evd_isi2 (evd_var (i := 0) rfl dr) (.int i) (kit_in K))) sB fun B1 H1 g1 => (if_neg (by decide)).mpr ?_
  refine seq_if (b := false || false) (evt_or (evt_test (evd_isN (evd_var (i := 0) rfl (dr.mono g1.b)) (fun _ _ => trivial) fun B' v h z => by cases h; cases z)) fun _ => evt_B (evd_isi (K := K) (evd_var (i := 0) rfl (dr.mono g1.b)) (.int i) (kit_ty (by decide +kernel)))) g1.i fun B2 H2 g2 => (if_neg (by decide)).mpr ?_
  have g12 := g1.trans g2
  refine seq_if (b := true) (evt_B (evd_isi2 (evd_var (i := 0) rfl (dr.mono g12.b)) (.int i) (kit_is K))) g2.i fun B3 H3 g3 => (if_pos rfl).mpr ?_
  have g13 := g12.trans g3
  exact ret_D (evd_lst (eva_cons (evd_isi (K := K) (b := false) (evd_var (i := 0) rfl (dr.mono g13.b)) (.int i) (kit_ty (by decide +kernel))) (eva_cons (evd_var (i := 0) rfl (dr.mono g13.b)) eva_nil)) (show 2 ≤ sizeLine by decide)) g3.i fun v B' H' g e => q _ v B' H' ⟨_, rfl, rfl⟩ (g13.trans g) e
def conD : PyData → List PyData
  | .tuple ds => ds
  | .list ds => ds
  | _ => []
def isL : PyData → Bool
  | .list _ => true
  | _ => false
theorem ok_plainS (M : Mod K mg) {n : Nat} (G : FnOk P w K mg base CX0 (n + 1) M.f_law_plain M.fd_law_plain ["value"] (sp_plain n)) : FnOk P w K mg base CX0 (n + 2) M.f_law_plain M.fd_law_plain ["value"] (sp_plain (n + 1)) := by
  refine M.d_law_plain.F.ok sc_law_plain (SpD.len fun ds ⟨_, e, _⟩ => by rw [e]; rfl) (fun cdv A outer s H vs Q E hr h => ?_)
  obtain ⟨B, ds, sB, hd, ⟨d, rfl, hdeep⟩, q⟩ := h
  obtain ⟨v0, _, rfl, dr, rfl⟩ := hd
  refine ⟨_, pss_cons (ps_if (pt_val (pe_callB call_isiT (by rfl) M.m_isinstance (by decide +kernel) (pa_cons (pv 0) (pa_cons (pe_tup (pa_cons (pe_bltn (v := .ty "tuple") (by rfl) M.m_tuple (by decide +kernel) rfl) (pa_cons (pe_bltn (v := .ty "list") (by rfl) M.m_list (by decide +kernel) rfl) pa_nil))) pa_nil))))
      (pss_one (ps_ret (pe_op op_cat (pe_lst (pa_cons (pe_callB call_isi (by rfl) M.m_isinstance (by decide +kernel) (pa_cons (pv 0) (pa_cons (pe_bltn (v := .ty "list") (by rfl) M.m_list (by decide +kernel) rfl) pa_nil))) pa_nil))
        (pe_lc (own := [("item", 1)]) (g := gName 1) (tt := tYes) (te := tCall (sp_plain n) [] E0 (tCons (tVar 1) tNil)) rfl sc_law_plain.nd (pi_or (pi_list (pv 0)) (pi_tup (pv 0))) (blkOk_by (own := [("item", 1)]) (N := N_law_plain) (sc := defScope s_law_plain) (by decide +kernel))
          (fun _ _ _ _ _ => pg_name (i := 1) sc_law_plain.nd rfl (.inl rfl)) (fun _ _ _ _ _ => pts_nil) (fun _ _ _ _ _ => pe_call G hr (by rfl) M.d_law_plain.g M.d_law_plain.F.kp M.d_law_plain.b .nil pass0 (pa_cons (pv 1) pa_nil)))))) pss_nil)
    (pss_cons (ps_if (PW.pt (pw_or (pt_cmpR op_isN (pv 0) pe_non (nomark _)) (pw_or1 (pt_val (pe_callB call_isi (by rfl) M.m_isinstance (by decide +kernel) (pa_cons (pv 0) (pa_cons (pe_bltn (v := .ty "bool") (by rfl) M.m_bool (by decide +kernel) rfl) pa_nil))))))) (pss_one ps_never) pss_nil)
    (pss_cons (ps_if (pt_val (pe_callB call_isiT (by rfl) M.m_isinstance (by decide +kernel) (pa_cons (pv 0) (pa_cons (pe_tup (pa_cons (pe_bltn (v := .ty "int") (by rfl) M.m_int (by decide +kernel) rfl) (pa_cons (pe_bltn (v := .ty "str") (by rfl) M.m_str (by decide +kernel) rfl) pa_nil))) pa_nil))))
      (pss_one (ps_ret (pe_lst (pa_cons (pe_callB call_isi (by rfl) M.m_isinstance (by decide +kernel) (pa_cons (pv 0) (pa_cons (pe_bltn (v := .ty "str") (by rfl) M.m_str (by decide +kernel) rfl) pa_nil))) (pa_cons (pv 0) pa_nil))))) pss_nil)
    (pss_one ps_never))), ?_⟩
  -- a tuple or a list
  have con : ∀ (ds : List PyData) (b : Bool) (c : String), Cls1 d c → PySem.W.kitAny K (.type c) [.type "tuple", .type "list"] = some true → PySem.W.kitOne K (.type c) (.type "list") = some b → ds.length ≤ 1000 → (∀ x ∈ ds, Deep n x) → (d = .list ds ∨ d = .tuple ds) → plainK (n + 1) d = .list ([.bool b] ++ ds.map (plainK n)) →
      ∀ B1 H1, Grow B H B1 H1 → tRet (tOp rCat (tLst (tCons (tCB (rIsi K) (tCons (tVar 0) (tCons (tC (.ty "list")) tNil))) tNil)) (tLc (fun σ H R => iList K (tVar 0) σ H R ∨ iTup K (tVar 0) σ H R) (gName 1) tYes (tCall (sp_plain n) [] E0 (tCons (tVar 1) tNil)) [1]))
        { nx := fun _ H' => Q .non H', rt := Q } (start N_law_plain [v0]) H1 := fun ds b c hc _ hk hl hx hor hpl B1 H1 g1 => by
    have hw : EvI (fun σ H R => iList K (tVar 0) σ H R ∨ iTup K (tVar 0) σ H R) (start N_law_plain [v0]) B1 ds := by
      rcases hor with rfl | rfl
      · exact evi_inl (evi_list (evd_var rfl (dr.mono g1.b)))
      · exact evi_inr (evi_tup (evd_var rfl (dr.mono g1.b)))
    have hcomp := evd_lcN (i := 1) (te := tCall (sp_plain n) [] E0 (tCons (tVar 1) tNil)) (f := plainK n) hw (ge_sz (by omega)) (fun x B' u hm s' hu => evd_call (ds := [x]) (eva_cons (evd_var (i := 1) rfl hu) eva_nil) ⟨x, rfl, hx x hm⟩ (fun r ⟨x', e, hr⟩ => by
      rw [hr, (List.cons.inj e).1]))
    refine ret_D (evd_cat (evd_lst (eva_cons (evd_isi (K := K) (b := b) (evd_var (i := 0) rfl (dr.mono g1.b)) hc hk) eva_nil) (show 1 ≤ sizeLine by decide)) hcomp (by rw [List.length_map]; exact ge_sz (by show 1 + ds.length ≤ _; omega))) g1.i fun v B' H' g e => q _ v B' H' ⟨d, rfl, hpl.symm⟩ (g1.trans g) e
  cases d with
  | int i =>
    refine seq_if (b := false) (evt_B (evd_isi2 (evd_var (i := 0) rfl dr) (.int i) (kit_in K))) sB fun B1 H1 g1 => (if_neg (by decide)).mpr ?_
    refine seq_if (b := false || false) (evt_or (evt_test (evd_isN (evd_var (i := 0) rfl (dr.mono g1.b)) (fun _ _ => trivial) fun B' v h z => by cases h; cases z)) fun _ => evt_B (evd_isi (K := K) (evd_var (i := 0) rfl (dr.mono g1.b)) (.int i) (kit_ty (by decide +kernel)))) g1.i fun B2 H2 g2 => (if_neg (by decide)).mpr ?_
    have g12 := g1.trans g2
    refine seq_if (b := true) (evt_B (evd_isi2 (evd_var (i := 0) rfl (dr.mono g12.b)) (.int i) (kit_is K))) g2.i fun B3 H3 g3 => (if_pos rfl).mpr ?_
    have g13 := g12.trans g3
    exact ret_D (evd_lst (eva_cons (evd_isi (K := K) (b := false) (evd_var (i := 0) rfl (dr.mono g13.b)) (.int i) (kit_ty (by decide +kernel))) (eva_cons (evd_var (i := 0) rfl (dr.mono g13.b)) eva_nil)) (show 2 ≤ sizeLine by decide)) g3.i fun v B' H' g e => q _ v B' H' ⟨_, rfl, rfl⟩ (g13.trans g) e
  | tuple ds =>
    exact seq_if (b := true) (evt_B (evd_isi2 (evd_var (i := 0) rfl dr) (.tup ds) (kit_tu K))) sB fun B1 H1 g1 => (if_pos rfl).mpr (con ds false "tuple" (.tup ds) (kit_tu K) (kit_ty (by decide +kernel)) hdeep.1 hdeep.2 (.inr rfl) rfl B1 H1 g1)
  | list ds =>
    exact seq_if (b := true) (evt_B (evd_isi2 (evd_var (i := 0) rfl dr) (.lst ds) (kit_li K))) sB fun B1 H1 g1 => (if_pos rfl).mpr (con ds true "list" (.lst ds) (kit_li K) (kit_ty (by decide +kernel)) hdeep.1 hdeep.2 (.inl rfl) rfl B1 H1 g1)
  | none => exact hdeep.elim
  | bool b => exact hdeep.elim
  | str z => exact hdeep.elim
  | dict z => exact hdeep.elim
abbrev sp_law_plain : Sp := sp_plain 2
theorem ok_law_plain (M : Mod K mg) : FnOk P w K mg base CX0 3 M.f_law_plain M.fd_law_plain ["value"] sp_law_plain := ok_plainS M (ok_plainS M (ok_plain0 M))
theorem deep_pts (X : List (List Int)) (h : X.length ≤ 1000) (h2 : ∀ r ∈ X, r.length ≤ 1000) : Deep 2 (.list (pts X)) := by
  refine ⟨by rw [List.length_map]; exact h, fun d hd => ?_⟩
  obtain ⟨r, hr, rfl⟩ := List.mem_map.mp hd
  refine ⟨by rw [List.length_map]; exact h2 r hr, fun d hd => ?_⟩
  obtain ⟨x, hx, rfl⟩ := List.mem_map.mp hd
  exact True.intro
end K84

set_option maxHeartbeats 2000000
/-! zip of a list or a tuple with a list or a tuple. -/
namespace ZpM
open PySem PySem.Spec PyProof.Rows L2
/-- a sequence of the kind (true: a list), its iterator -/
def Sq (b : Bool) (h : Heap) (l : Addr) (xs : Array Value) : Prop := if b then h.IsList l xs else h.IsTuple l xs
def Ir (b : Bool) (h : Heap) (i l : Addr) (k : Nat) : Prop := if b then h.IsListIter i l k else h.IsTupleIter i l k
theorem Sq.ext {b : Bool} {h h' : Heap} {l c : Addr} {xs : Array Value} (x : Sq b h l xs) (e : Heap.ExtBut c h h') (n : l ≠ c) : Sq b h' l xs := by
  cases b
  · exact Heap.IsTuple.extBut x e n
  · exact Heap.IsList.extBut x e n
theorem Ir.ext {b : Bool} {h h' : Heap} {i l c : Addr} {k : Nat} (x : Ir b h i l k) (e : Heap.ExtBut c h h') (n : i ≠ c) : Ir b h' i l k := by
  cases b
  · exact Heap.IsTupleIter.extBut x e n
  · exact Heap.IsListIter.extBut x e n
theorem Ir.to {b : Bool} {h h' : Heap} {i l : Addr} {k : Nat} (x : Ir b h i l k) (e : ∀ o, h.get? i = some o → h'.get? i = some o) : Ir b h' i l k := by
  cases b
  · exact Heap.IsTupleIter.at x e
  · exact Heap.IsListIter.at x e
theorem Ir.obj {b : Bool} {h : Heap} {i l : Addr} {k : Nat} (x : Ir b h i l k) : ∃ o, h.get? i = some o ∧ ∀ v, o.data ≠ .cell v := by
  cases b
  · obtain ⟨o, e, _, d⟩ := (show h.IsTupleIter i l k from x)
    exact ⟨o, e, fun v q => by rw [d] at q; cases q⟩
  · obtain ⟨o, e, _, d⟩ := (show h.IsListIter i l k from x)
    exact ⟨o, e, fun v q => by rw [d] at q; cases q⟩
section
variable {prog : Program} {w : World} {A : Around} {E : Value → Shared → Prop} {s : Shared}
theorem nx_item {b : Bool} {i l : Addr} {k : Nat} {xs : Array Value} {x : Value} {Q : Value → Shared → Prop} (hi : Ir b s.heap i l k) (hl : Sq b s.heap l xs) (hx : xs[k]? = some x)
    (q : ∀ h', Ir b h' i l (k + 1) → Heap.SameBut i s.heap h' → Q x { s with heap := h' }) : wpAny (model prog w) A (Builtin.SmallTypes.nextOf (.ref i)) Q E s := by
  cases b
  · exact RZ.nextOf_tuple_item hi hl hx q
  · exact wpAny_nextOf_list_item hi hl hx q
theorem nx_end {b : Bool} {i l : Addr} {k : Nat} {xs : Array Value} {Q : Value → Shared → Prop} (hh : A.handled = none) (hi : Ir b s.heap i l k) (hl : Sq b s.heap l xs) (hx : xs[k]? = none)
    (q : ∀ h' e, Heap.ExtBut i s.heap h' → (∃ o, h'.get? e = some o ∧ o.cls = .type "StopIteration") → E (.ref e) { s with heap := h' }) : wpAny (model prog w) A (Builtin.SmallTypes.nextOf (.ref i)) Q E s := by
  cases b
  · exact RZ.nextOf_tuple_end hh hi hl hx q
  · exact wpAny_nextOf_list_end hh hi hl hx q
theorem zn_item {b1 b2 : Bool} {z TI TO i1 i2 l1 l2 : Addr} {k1 k2 : Nat} {xs ys : Array Value} {x y p q : Value} {Q : Value → Shared → Prop} (D : ZipApart z TI TO i1 i2 l1 l2) (hz : IsZip s.heap z TI TO .none)
    (hTI : IsPair s.heap TI (.ref i1) (.ref i2)) (hTO : IsPair s.heap TO p q) (h1 : Ir b1 s.heap i1 l1 k1) (h2 : Ir b2 s.heap i2 l2 k2) (hl1 : Sq b1 s.heap l1 xs) (hl2 : Sq b2 s.heap l2 ys) (hx : xs[k1]? = some x) (hy : ys[k2]? = some y)
    (hQ : ∀ h', IsZip h' z TI TO (rawInt s.heap.objs.size) → IsPair h' TO x y → Ir b1 h' i1 l1 (k1 + 1) → Ir b2 h' i2 l2 (k2 + 1) → IsPair h' s.heap.objs.size x y →
      (∀ c o, c ≠ z → c ≠ TO → c ≠ i1 → c ≠ i2 → s.heap.get? c = some o → h'.get? c = some o) → Q (.ref s.heap.objs.size) { s with heap := h' }) :
    wpAny (model prog w) A (Builtin.«zip.__next__» ⟨[.ref z], []⟩) (fun f s' => ∃ v, f = .done (.ret v) ∧ Q v s') E s := by
  show wpAny _ _ (field (.ref z) 2 >>= _) _ _ _
  refine wpAny_bind (wpAny_field hz rfl (x := .bool false) rfl ?_)
  show wpAny _ _ (field (.ref z) 3 >>= _) _ _ _
  refine wpAny_bind (wpAny_field hz rfl (x := .ref TI) rfl (wpAny_bind (wpAny_seqItems hTI rfl ?_)))
  show wpAny _ _ (Builtin.SmallTypes.ownedTupleIsFree (.ref z) >>= _) _ _ _
  refine wpAny_bind ?_
  unfold Builtin.SmallTypes.ownedTupleIsFree
  refine wpAny_bind (wpAny_field hz rfl (x := .none) rfl (wpAny_pure ?_))
  simp only [if_true]
  refine wpAny_bind (wpAny_rule (wpAny_bind (wpAny_field hz rfl (x := .ref TO) rfl (wpAny_bind (wpAny_setField_rec hz (by simp) fun g1 zz1 e1 => ?_)))))
  replace zz1 : IsZip g1 z TI TO .ellipsis := zz1
  refine wpAny_bind ?_
  simp only [List.zipIdx_cons, List.zipIdx_nil, List.forIn_cons, List.forIn_nil]
  refine wpAny_bind (wpAny_bind (wpAny_onRaise ?_))
  show wpAny _ _ (Builtin.SmallTypes.nextOf (.ref i1) >>= _) _ _ _
  refine wpAny_bind (nx_item (h1.ext e1.extBut D.i1z) (hl1.ext e1.extBut D.l1z) hx fun g2 it2 e2 => wpAny_pure ?_)
  have to2 : IsPair g2 TO p q := e2.extBut _ _ D.TOi1 (e1.extBut _ _ D.TOz hTO)
  refine wpAny_bind (wpAny_seqItems to2 rfl (wpAny_bind (wpAny_updateSeq_pair to2 fun g3 to3 e3 => ?_)))
  replace to3 : IsPair g3 TO x q := to3
  refine wpAny_bind (wpAny_letGo (wpAny_pure (wpAny_bind (wpAny_bind (wpAny_onRaise ?_)))))
  show wpAny _ _ (Builtin.SmallTypes.nextOf (.ref i2) >>= _) _ _ _
  refine wpAny_bind (nx_item (((h2.ext e1.extBut D.i2z).ext e2.extBut D.i12.symm).ext e3.extBut D.TOi2.symm) (((hl2.ext e1.extBut D.l2z).ext e2.extBut D.l2i1).ext e3.extBut D.l2TO) hy fun g4 it4 e4 => wpAny_pure ?_)
  have to4 : IsPair g4 TO x q := e4.extBut _ _ D.TOi2 to3
  refine wpAny_bind (wpAny_seqItems to4 rfl (wpAny_bind (wpAny_updateSeq_pair to4 fun g5 to5 e5 => ?_)))
  replace to5 : IsPair g5 TO x y := to5
  refine wpAny_bind (wpAny_letGo (wpAny_pure (wpAny_pure (wpAny_bind (wpAny_seqItems to5 rfl (wpAny_bind (wpAny_newTuple ?_)))))))
  have size : g5.objs.size = s.heap.objs.size := by rw [e5.1, e4.1, e3.1, e2.1, e1.1]
  have zz5 : IsZip g5 z TI TO .ellipsis := e5.extBut _ _ D.TOz.symm (e4.extBut _ _ D.i2z.symm (e3.extBut _ _ D.TOz.symm (e2.extBut _ _ D.i1z.symm zz1)))
  have old5 : ∀ c o, c ≠ z → c ≠ TO → c ≠ i1 → c ≠ i2 → s.heap.get? c = some o → g5.get? c = some o := fun c o n1 n2 n3 n4 e => e5.extBut _ _ n2 (e4.extBut _ _ n4 (e3.extBut _ _ n2 (e2.extBut _ _ n3 (e1.extBut _ _ n1 e))))
  have ia5 : Ir b1 g5 i1 l1 (k1 + 1) := ((it2.ext e3.extBut D.TOi1.symm).ext e4.extBut D.i12).ext e5.extBut D.TOi1.symm
  have ib5 : Ir b2 g5 i2 l2 (k2 + 1) := it4.ext e5.extBut D.TOi2.symm
  have zlt : z < g5.objs.size := Heap.lt_size zz5
  show wpAny _ _ (Builtin.SmallTypes.ownedTupleHandOut (.ref z) (.ref g5.objs.size) >>= _) _ _ _
  refine wpAny_bind ?_
  unfold Builtin.SmallTypes.ownedTupleHandOut
  have zz6 : IsZip (g5.push { cls := .type "tuple", data := .seq #[x, y] }) z TI TO .ellipsis := Heap.get?_push_of_some _ zz5
  refine wpAny_bind (wpAny_setField_rec zz6 (by simp) fun g7 zz7 e7 => ?_)
  replace zz7 : IsZip g7 z TI TO (rawInt g5.objs.size) := zz7
  refine wpAny_setField_rec zz7 (by simp) fun g8 zz8 e8 => ?_
  replace zz8 : IsZip g8 z TI TO (rawInt g5.objs.size) := zz8
  have up : ∀ c o, c ≠ z → g5.get? c = some o → g8.get? c = some o := fun c o n e => e8.extBut _ _ n (e7.extBut _ _ n (Heap.get?_push_of_some _ e))
  have new8 : IsPair g8 g5.objs.size x y := e8.extBut _ _ (Nat.ne_of_gt zlt) (e7.extBut _ _ (Nat.ne_of_gt zlt) (Heap.get?_push_size _ rfl))
  rw [size] at zz8 new8
  refine wpAny_pure ⟨_, rfl, ?_⟩
  show Q (.ref g5.objs.size) _
  rw [size]
  exact hQ g8 zz8 (up _ _ D.TOz to5) (ia5.to fun o e => up _ o D.i1z e) (ib5.to fun o e => up _ o D.i2z e) new8 fun c o n1 n2 n3 n4 e => up c o n1 (old5 c o n1 n2 n3 n4 e)
theorem zn_end {b1 b2 : Bool} {z TI TO i1 i2 l1 l2 : Addr} {k1 k2 : Nat} {xs ys : Array Value} {p q : Value} {Q : PySem.Fin → Shared → Prop} (hh : A.handled = none) (D : ZipApart z TI TO i1 i2 l1 l2) (hz : IsZip s.heap z TI TO .none)
    (hTI : IsPair s.heap TI (.ref i1) (.ref i2)) (hTO : IsPair s.heap TO p q) (h1 : Ir b1 s.heap i1 l1 k1) (h2 : Ir b2 s.heap i2 l2 k2) (hl1 : Sq b1 s.heap l1 xs) (hl2 : Sq b2 s.heap l2 ys) (hend : xs[k1]? = none ∨ ys[k2]? = none)
    (hE : ∀ h' e, (∀ c o, c ≠ z → c ≠ TO → c ≠ i1 → c ≠ i2 → s.heap.get? c = some o → h'.get? c = some o) → (∃ o, h'.get? e = some o ∧ o.cls = .type "StopIteration") → E (.ref e) { s with heap := h' }) :
    wpAny (model prog w) A (Builtin.«zip.__next__» ⟨[.ref z], []⟩) Q E s := by
  show wpAny _ _ (field (.ref z) 2 >>= _) _ _ _
  refine wpAny_bind (wpAny_field hz rfl (x := .bool false) rfl ?_)
  show wpAny _ _ (field (.ref z) 3 >>= _) _ _ _
  refine wpAny_bind (wpAny_field hz rfl (x := .ref TI) rfl (wpAny_bind (wpAny_seqItems hTI rfl ?_)))
  show wpAny _ _ (Builtin.SmallTypes.ownedTupleIsFree (.ref z) >>= _) _ _ _
  refine wpAny_bind ?_
  unfold Builtin.SmallTypes.ownedTupleIsFree
  refine wpAny_bind (wpAny_field hz rfl (x := .none) rfl (wpAny_pure ?_))
  simp only [if_true]
  refine wpAny_bind (wpAny_rule (wpAny_bind (wpAny_field hz rfl (x := .ref TO) rfl (wpAny_bind (wpAny_setField_rec hz (by simp) fun g1 zz1 e1 => ?_)))))
  replace zz1 : IsZip g1 z TI TO .ellipsis := zz1
  refine wpAny_bind ?_
  simp only [List.zipIdx_cons, List.zipIdx_nil, List.forIn_cons, List.forIn_nil]
  refine wpAny_bind (wpAny_bind (wpAny_onRaise ?_))
  show wpAny _ _ (Builtin.SmallTypes.nextOf (.ref i1) >>= _) _ _ _
  cases hx : xs[k1]? with
  | none =>
    refine wpAny_bind (nx_end hh (h1.ext e1.extBut D.i1z) (hl1.ext e1.extBut D.l1z) hx fun g2 e e2 he => ?_)
    obtain ⟨oe, hoe, hce⟩ := he
    have zz2 : IsZip g2 z TI TO .ellipsis := e2 _ _ D.i1z.symm zz1
    have nz : e ≠ z := fun t => by subst t; rw [zz2] at hoe; cases hoe; simp at hce
    exact wpAny_setField_rec zz2 (by simp) fun g3 _ e3 => hE g3 e (fun c o n1 _ n3 _ t => e3.extBut _ _ n1 (e2 _ _ n3 (e1.extBut _ _ n1 t))) ⟨oe, e3.extBut _ _ nz hoe, hce⟩
  | some x =>
    have hy : ys[k2]? = none := hend.resolve_left (by rw [hx]; exact Option.some_ne_none x)
    refine wpAny_bind (nx_item (h1.ext e1.extBut D.i1z) (hl1.ext e1.extBut D.l1z) hx fun g2 it2 e2 => wpAny_pure ?_)
    have to2 : IsPair g2 TO p q := e2.extBut _ _ D.TOi1 (e1.extBut _ _ D.TOz hTO)
    refine wpAny_bind (wpAny_seqItems to2 rfl (wpAny_bind (wpAny_updateSeq_pair to2 fun g3 to3 e3 => ?_)))
    refine wpAny_bind (wpAny_letGo (wpAny_pure (wpAny_bind (wpAny_bind (wpAny_onRaise ?_)))))
    show wpAny _ _ (Builtin.SmallTypes.nextOf (.ref i2) >>= _) _ _ _
    refine wpAny_bind (nx_end hh (((h2.ext e1.extBut D.i2z).ext e2.extBut D.i12.symm).ext e3.extBut D.TOi2.symm) (((hl2.ext e1.extBut D.l2z).ext e2.extBut D.l2i1).ext e3.extBut D.l2TO) hy fun g4 e e4 he => ?_)
    obtain ⟨oe, hoe, hce⟩ := he
    have zz4 : IsZip g4 z TI TO .ellipsis := e4 _ _ D.i2z.symm (e3.extBut _ _ D.TOz.symm (e2.extBut _ _ D.i1z.symm zz1))
    have nz : e ≠ z := fun t => by subst t; rw [zz4] at hoe; cases hoe; simp at hce
    exact wpAny_setField_rec zz4 (by simp) fun g5 _ e5 => hE g5 e (fun c o n1 n2 n3 n4 t => e5.extBut _ _ n1 (e4 _ _ n4 (e3.extBut _ _ n2 (e2.extBut _ _ n3 (e1.extBut _ _ n1 t))))) ⟨oe, e5.extBut _ _ nz hoe, hce⟩
theorem pn_item {b1 b2 : Bool} {z TI TO i1 i2 l1 l2 : Addr} {k1 k2 : Nat} {xs ys : Array Value} {x y p q : Value} {Q : Option Value → Shared → Prop} (D : ZipApart z TI TO i1 i2 l1 l2) (hz : IsZip s.heap z TI TO .none)
    (hTI : IsPair s.heap TI (.ref i1) (.ref i2)) (hTO : IsPair s.heap TO p q) (h1 : Ir b1 s.heap i1 l1 k1) (h2 : Ir b2 s.heap i2 l2 k2) (hl1 : Sq b1 s.heap l1 xs) (hl2 : Sq b2 s.heap l2 ys) (hx : xs[k1]? = some x) (hy : ys[k2]? = some y)
    (hQ : ∀ h', IsZip h' z TI TO (rawInt s.heap.objs.size) → IsPair h' TO x y → Ir b1 h' i1 l1 (k1 + 1) → Ir b2 h' i2 l2 (k2 + 1) → IsPair h' s.heap.objs.size x y →
      (∀ c o, c ≠ z → c ≠ TO → c ≠ i1 → c ≠ i2 → s.heap.get? c = some o → h'.get? c = some o) → Q (some (.ref s.heap.objs.size)) { s with heap := h' }) :
    wpAny (model prog w) A (pyNext (.ref z)) Q E s := by
  have hT : s.TypeIs (.ref z) "zip" := ⟨_, hz, rfl⟩
  unfold pyNext
  exact wpAny_bind (wpAny_attempt (wpAny_callSpecial?_slot (name := Str.ofString "__next__") hT F.slot_zip_next
    (wpAny_call_entry F.slot_zip_next hT F.entry_zip_next (zn_item D hz hTI hTO h1 h2 hl1 hl2 hx hy fun h' a1 a2 a3 a4 a5 a6 => wpAny_pure (hQ h' a1 a2 a3 a4 a5 a6)) (F.args_zip_next_1 _))))
theorem pn_end {b1 b2 : Bool} {z TI TO i1 i2 l1 l2 : Addr} {k1 k2 : Nat} {xs ys : Array Value} {p q : Value} {Q : Option Value → Shared → Prop} (hh : A.handled = none) (D : ZipApart z TI TO i1 i2 l1 l2) (hz : IsZip s.heap z TI TO .none)
    (hTI : IsPair s.heap TI (.ref i1) (.ref i2)) (hTO : IsPair s.heap TO p q) (h1 : Ir b1 s.heap i1 l1 k1) (h2 : Ir b2 s.heap i2 l2 k2) (hl1 : Sq b1 s.heap l1 xs) (hl2 : Sq b2 s.heap l2 ys) (hend : xs[k1]? = none ∨ ys[k2]? = none)
    (hQ : ∀ h', (∀ c o, c ≠ z → c ≠ TO → c ≠ i1 → c ≠ i2 → s.heap.get? c = some o → h'.get? c = some o) → Q none { s with heap := h' }) : wpAny (model prog w) A (pyNext (.ref z)) Q E s := by
  have hT : s.TypeIs (.ref z) "zip" := ⟨_, hz, rfl⟩
  unfold pyNext
  refine wpAny_bind (wpAny_attempt (wpAny_callSpecial?_slot (name := Str.ofString "__next__") hT F.slot_zip_next
    (wpAny_call_entry F.slot_zip_next hT F.entry_zip_next (zn_end hh D hz hTI hTO h1 h2 hl1 hl2 hend fun h' e hk he => ?_) (F.args_zip_next_1 _))))
  obtain ⟨o, ho, hc⟩ := he
  exact wpAny_bind (wpAny_isInstance (T := "StopIteration") (b := true) ⟨o, ho, hc⟩ isSubtype_stop (wpAny_pure (hQ _ hk)))
end
abbrev irN (b : Bool) : String := if b then "list_iterator" else "tuple_iterator"
abbrev zM1 (b1 : Bool) (h : Heap) (l1 : Addr) : Heap := h.push { cls := .type (irN b1), data := .fields #[.ref l1, .int 0 0] }
abbrev zM2 (b1 b2 : Bool) (h : Heap) (l1 l2 : Addr) : Heap := (zM1 b1 h l1).push { cls := .type (irN b2), data := .fields #[.ref l2, .int 0 0] }
abbrev zM3 (b1 b2 : Bool) (h : Heap) (l1 l2 : Addr) : Heap := (zM2 b1 b2 h l1 l2).push { cls := .type "tuple", data := .seq #[.ref h.objs.size, .ref (zM1 b1 h l1).objs.size] }
abbrev zM4 (b1 b2 : Bool) (h : Heap) (l1 l2 : Addr) : Heap := (zM3 b1 b2 h l1 l2).push { cls := .type "tuple", data := .seq #[.none, .none] }
abbrev zM5 (b1 b2 : Bool) (h : Heap) (l1 l2 : Addr) : Heap := (zM4 b1 b2 h l1 l2).push { cls := .type "zip", data := .fields #[.none, .bool false, .bool false, .ref (zM2 b1 b2 h l1 l2).objs.size, .ref (zM3 b1 b2 h l1 l2).objs.size] }
theorem meets_zM (b1 b2 : Bool) (l1 l2 : Addr) (xs ys : Array Value) :
    Meets (Builtin.«zip.__new__» ⟨[.type "zip", .ref l1, .ref l2], []⟩) (fun _ R s => Sq b1 s.heap l1 xs ∧ Sq b2 s.heap l2 ys ∧
      R (.ok (.ret (.ref (zM4 b1 b2 s.heap l1 l2).objs.size))) { s with heap := zM5 b1 b2 s.heap l1 l2 }) :=
  .of_wp fun prog w A R s h => by
    obtain ⟨hp, g, d, tk, os⟩ := s; obtain ⟨hl1, hl2, h⟩ := h
    have hsub := sub_zip
    cases b1 <;> cases b2
    · have hL1 : Heap.IsTuple (Shared.heap ⟨hp, g, d, tk, os⟩) l1 xs := hl1
      have hL2 : Heap.IsTuple (Shared.heap ⟨hp.push { cls := .type "tuple_iterator", data := .fields #[.ref l1, .int 0 0] }, g, d, tk, os⟩) l2 ys := Heap.IsTuple.push hl2 _
      wp_walk using wpAny_pyIter_tuple hL1, wpAny_pyIter_tuple hL2
      exact ⟨_, rfl, h⟩
    · have hL1 : Heap.IsTuple (Shared.heap ⟨hp, g, d, tk, os⟩) l1 xs := hl1
      have hL2 : Heap.IsList (Shared.heap ⟨hp.push { cls := .type "tuple_iterator", data := .fields #[.ref l1, .int 0 0] }, g, d, tk, os⟩) l2 ys := Heap.IsList.push hl2 _
      wp_walk using wpAny_pyIter_tuple hL1, wpAny_pyIter_list hL2
      exact ⟨_, rfl, h⟩
    · have hL1 : Heap.IsList (Shared.heap ⟨hp, g, d, tk, os⟩) l1 xs := hl1
      have hL2 : Heap.IsTuple (Shared.heap ⟨hp.push { cls := .type "list_iterator", data := .fields #[.ref l1, .int 0 0] }, g, d, tk, os⟩) l2 ys := Heap.IsTuple.push hl2 _
      wp_walk using wpAny_pyIter_list hL1, wpAny_pyIter_tuple hL2
      exact ⟨_, rfl, h⟩
    · have hL1 : Heap.IsList (Shared.heap ⟨hp, g, d, tk, os⟩) l1 xs := hl1
      have hL2 : Heap.IsList (Shared.heap ⟨hp.push { cls := .type "list_iterator", data := .fields #[.ref l1, .int 0 0] }, g, d, tk, os⟩) l2 ys := Heap.IsList.push hl2 _
      wp_walk using wpAny_pyIter_list hL1, wpAny_pyIter_list hL2
      exact ⟨_, rfl, h⟩
section
variable {prog : Program} {w : World} {A : Around} {E : Value → Shared → Prop} {s : Shared}
theorem call_zM {b1 b2 : Bool} {l1 l2 : Addr} {xs ys : Array Value} {Q : Value → Shared → Prop} (hl1 : Sq b1 s.heap l1 xs) (hl2 : Sq b2 s.heap l2 ys)
    (h : ∀ h', IsZip h' (s.heap.objs.size + 4) (s.heap.objs.size + 2) (s.heap.objs.size + 3) .none → IsPair h' (s.heap.objs.size + 2) (.ref s.heap.objs.size) (.ref (s.heap.objs.size + 1)) →
      IsPair h' (s.heap.objs.size + 3) .none .none → Ir b1 h' s.heap.objs.size l1 0 → Ir b2 h' (s.heap.objs.size + 1) l2 0 →
      (∀ c o, s.heap.get? c = some o → h'.get? c = some o) → Q (.ref (s.heap.objs.size + 4)) { s with heap := h' }) :
    wpAny (model prog w) A (call (.type "zip") [.ref l1, .ref l2]) Q E s := by
  refine callType_new F.called_zip (by decide) (F.typeCall_zip_2 _ _) (F.newCall_zip_2 _ _) (fun obj => F.args_object_init_3 obj _ _) F.entry_zip_new
    (meets_zM b1 b2 l1 l2 xs ys) ⟨hl1, hl2, ?_⟩
  have z1 : (zM1 b1 s.heap l1).objs.size = s.heap.objs.size + 1 := Heap.size_push ..
  have z2 : (zM2 b1 b2 s.heap l1 l2).objs.size = s.heap.objs.size + 2 := by rw [Heap.size_push, z1]
  have z3 : (zM3 b1 b2 s.heap l1 l2).objs.size = s.heap.objs.size + 3 := by rw [Heap.size_push, z2]
  have z4 : (zM4 b1 b2 s.heap l1 l2).objs.size = s.heap.objs.size + 4 := by rw [Heap.size_push, z3]
  have keep5 : ∀ c o, (zM4 b1 b2 s.heap l1 l2).get? c = some o → (zM5 b1 b2 s.heap l1 l2).get? c = some o := fun c o x => Heap.get?_push_of_some _ x
  have keep4 : ∀ c o, (zM3 b1 b2 s.heap l1 l2).get? c = some o → (zM5 b1 b2 s.heap l1 l2).get? c = some o := fun c o x => keep5 c o (Heap.get?_push_of_some _ x)
  have keep3 : ∀ c o, (zM2 b1 b2 s.heap l1 l2).get? c = some o → (zM5 b1 b2 s.heap l1 l2).get? c = some o := fun c o x => keep4 c o (Heap.get?_push_of_some _ x)
  have keep2 : ∀ c o, (zM1 b1 s.heap l1).get? c = some o → (zM5 b1 b2 s.heap l1 l2).get? c = some o := fun c o x => keep3 c o (Heap.get?_push_of_some _ x)
  have g5 : (zM5 b1 b2 s.heap l1 l2).get? (zM4 b1 b2 s.heap l1 l2).objs.size = some _ := Heap.get?_push_size _ rfl
  have g4 := keep5 _ _ (Heap.get?_push_size (zM3 b1 b2 s.heap l1 l2) (o := { cls := .type "tuple", data := .seq #[.none, .none] }) rfl)
  have g3 := keep4 _ _ (Heap.get?_push_size (zM2 b1 b2 s.heap l1 l2) (o := { cls := .type "tuple", data := .seq #[.ref s.heap.objs.size, .ref (zM1 b1 s.heap l1).objs.size] }) rfl)
  have g2 := keep3 _ _ (Heap.get?_push_size (zM1 b1 s.heap l1) (o := { cls := .type (irN b2), data := .fields #[.ref l2, .int 0 0] }) rfl)
  have g1 := keep2 _ _ (Heap.get?_push_size s.heap (o := { cls := .type (irN b1), data := .fields #[.ref l1, .int 0 0] }) rfl)
  show _ ∧ _
  rw [z2, z3, z4] at g5
  rw [z1, z2] at g3
  rw [z3] at g4
  rw [z1] at g2
  rw [z4]
  refine ⟨⟨_, g5, rfl⟩, h _ g5 g3 g4 ?_ ?_ fun c o x => keep2 c o (Heap.get?_push_of_some _ x)⟩
  · cases b1
    · exact ⟨_, g1, rfl, rfl⟩
    · exact ⟨_, g1, rfl, rfl⟩
  · cases b2
    · exact ⟨_, g2, rfl, rfl⟩
    · exact ⟨_, g2, rfl, rfl⟩
end
/-- a tracked list or tuple -/
def Sm (K : PySem.W.Frag) (b : Bool) (H : Hp) (a : Addr) (xs : List V) : Prop := if b then SqL K H a xs else SqT K H a xs
theorem Sm.its {K : PySem.W.Frag} {X : Cx} (hK : X.K = K) {b : Bool} {H : Hp} {a : Addr} {xs : List V} {pins : List (Addr × Obj)} {σ : L2.St} {s : Shared} (h : Sm K b H a xs) (I : Inv X pins σ H s) :
    ∃ its : List Value, Vals xs its ∧ Sq b s.heap a its.toArray ∧ a < s.heap.objs.size := by
  subst hK
  cases b
  · obtain ⟨its, rv, p, _⟩ := I.tuple (show SqT X.K H a xs from h)
    obtain ⟨o, e, _⟩ := id p
    exact ⟨its, rv, p, Heap.lt_size e⟩
  · obtain ⟨its, rv, p, _⟩ := I.list (show SqL X.K H a xs from h)
    exact ⟨its, rv, p.isList, p.lt⟩
theorem Sm.inj {K : PySem.W.Frag} {X : Cx} (hK : X.K = K) {b : Bool} {H : Hp} {a : Addr} {xs ys : List V} {pins : List (Addr × Obj)} {σ : L2.St} {s : Shared} (h : Sm K b H a xs) (h' : Sm K b H a ys) (I : Inv X pins σ H s) : ys = xs := by
  subst hK
  cases b
  · exact I.tuple_inj h' h
  · exact I.list_inj h' h
/-- the sequences at a and b as they stand at each turn, the items in new pairs -/
def ItM (K : PySem.W.Frag) (b1 b2 : Bool) (a b : Addr) : It :=
  ⟨fun i H => ∃ (xs ys : List V) (x y : V), Sm K b1 H a xs ∧ Sm K b2 H b ys ∧ xs[i]? = some x ∧ ys[i]? = some y,
    fun i H v H' => ∃ T x y, v = .ref T ∧ H T = none ∧ H' = upd H T (.tup [x, y]) ∧ (∀ xs, Sm K b1 H a xs → xs[i]? = some x) ∧ ∀ ys, Sm K b2 H b ys → ys[i]? = some y,
    fun i H => ∃ xs ys : List V, Sm K b1 H a xs ∧ Sm K b2 H b ys ∧ (xs.length ≤ i ∨ ys.length ≤ i)⟩
theorem turn_zM {P : Program} {w : World} {K : PySem.W.Frag} {elts : List Expr} {kk : Nat} {tpos : Pos} {b1 b2 : Bool} {a b z TI TO i1 i2 : Addr} (D : ZipApart z TI TO i1 i2 a b) :
    Turn P w K (.Tuple elts kk tpos) (ItM K b1 b2 a b) [z, TI, TO, i1, i2] z (fun i h => IsZip h z TI TO .none ∧ IsPair h TI (.ref i1) (.ref i2) ∧ (∃ x y, IsPair h TO x y) ∧ Ir b1 h i1 a i ∧ Ir b2 h i2 b i) where
  mem := by simp
  obj := fun i h st c hc => by
    obtain ⟨hz, hTI, ⟨x, y, hTO⟩, h1, h2⟩ := st
    obtain ⟨o1, e1, d1⟩ := h1.obj
    obtain ⟨o2, e2, d2⟩ := h2.obj
    have e' : c = z ∨ c = TI ∨ c = TO ∨ c = i1 ∨ c = i2 := by simpa using hc
    rcases e' with q | q | q | q | q
    · rw [q]; exact ⟨_, hz, fun v q => nomatch q⟩
    · rw [q]; exact ⟨_, hTI, fun v q => nomatch q⟩
    · rw [q]; exact ⟨_, hTO, fun v q => nomatch q⟩
    · rw [q]; exact ⟨o1, e1, d1⟩
    · rw [q]; exact ⟨o2, e2, d2⟩
  keep := fun i h h' st k => by
    obtain ⟨hz, hTI, ⟨x, y, hTO⟩, h1, h2⟩ := st
    exact ⟨k z (by simp) _ hz, k TI (by simp) _ hTI, ⟨x, y, k TO (by simp) _ hTO⟩, h1.to fun o q => k i1 (by simp) o q, h2.to fun o q => k i2 (by simp) o q⟩
  item := by
    intro X hP hw hK hc i pins s σ H E I hf st hg
    subst hP hw
    obtain ⟨hz, hTI, ⟨x0, y0, hTO⟩, h1, h2⟩ := st
    obtain ⟨xs, ys, x, y, hqx, hqy, hx, hy⟩ := hg
    obtain ⟨its, rv, p, _⟩ := hqx.its hK I
    obtain ⟨its2, rv2, p2, _⟩ := hqy.its hK I
    obtain ⟨u, hu, ru⟩ := rv.get hx
    obtain ⟨u2, hu2, ru2⟩ := rv2.get hy
    have hzl : z < s.heap.objs.size := Heap.lt_size hz
    refine pn_item D hz hTI hTO h1 h2 p p2 (x := u) (y := u2) (by simpa using hu) (by simpa using hu2) fun h' z' TO' h1' h2' hT hk => ?_
    refine ⟨_, rfl, wpAny_letOwnedTupleGo_zip (s := { s with heap := h' }) z' fun h'' z'' sb => ?_⟩
    have hT2 : h''.get? s.heap.objs.size = some { cls := .type "tuple", data := .seq #[u, u2] } := (sb.2 _ (Nat.ne_of_gt hzl)).trans hT
    have new : ObjOk X.prog X.w (upd H s.heap.objs.size (.tup [x, y])) h'' s.heap.objs.size (.tup [x, y]) :=
      ⟨by show 2 ≤ sizeLine; decide, [u, u2], .cons ru (.cons ru2 .nil), ⟨_, hT2, rfl, _, rfl⟩⟩
    have I1 : Inv X pins σ (upd H s.heap.objs.size (.tup [x, y])) { s with heap := h'' } :=
      I.turnedNew (t' := s.toks) (ch := [z, TI, TO, i1, i2]) (fun c o hb q => (sb.2 c (fun q' => hb (by simp [q']))).trans (hk c o (fun q' => hb (by simp [q'])) (fun q' => hb (by simp [q'])) (fun q' => hb (by simp [q'])) (fun q' => hb (by simp [q'])) q)) hf (Nat.le_refl _) new
    refine ⟨.ref s.heap.objs.size, _, I1, rfl, ⟨_, x, y, rfl, I.hok.fresh (Nat.le_refl _), rfl, fun l hl => by rw [hqx.inj hK hl I]; exact hx, fun l hl => by rw [hqy.inj hK hl I]; exact hy⟩, ⟨z'', ?_, ⟨u, u2, ?_⟩, ?_, ?_⟩, fun c hcm => ?_⟩
    · exact (sb.2 _ D.TIz).trans (hk _ _ D.TIz D.TITO D.TIi1 D.TIi2 hTI)
    · exact (sb.2 _ D.TOz).trans TO'
    · exact h1'.to fun o q => (sb.2 _ D.i1z).trans q
    · exact h2'.to fun o q => (sb.2 _ D.i2z).trans q
    · have hlt : c < s.heap.objs.size := by
        have e' : c = z ∨ c = TI ∨ c = TO ∨ c = i1 ∨ c = i2 := by simpa using hcm
        rcases e' with q | q | q | q | q
        · rw [q]; exact hzl
        · rw [q]; exact Heap.lt_size hTI
        · rw [q]; exact Heap.lt_size hTO
        · rw [q]; obtain ⟨_, e1, _⟩ := h1.obj; exact Heap.lt_size e1
        · rw [q]; obtain ⟨_, e2, _⟩ := h2.obj; exact Heap.lt_size e2
      rw [upd_ne (Nat.ne_of_lt hlt)]
      exact (hf c hcm).1
  done := by
    intro X hP hw hK hc i pins s σ H E I hf st hg
    subst hP hw
    obtain ⟨hz, hTI, ⟨x0, y0, hTO⟩, h1, h2⟩ := st
    obtain ⟨xs, ys, hqx, hqy, hend⟩ := hg
    obtain ⟨its, rv, p, _⟩ := hqx.its hK I
    obtain ⟨its2, rv2, p2, _⟩ := hqy.its hK I
    have l1 := rv.length
    have l2 := rv2.length
    have he : its.toArray[i]? = none ∨ its2.toArray[i]? = none := by
      rcases hend with q | q
      · exact .inl (by simp; omega)
      · exact .inr (by simp; omega)
    exact pn_end (I.ok.hd hc) D hz hTI hTO h1 h2 p p2 he fun h' hk => ⟨rfl, I.turnedL (t' := s.toks) (ch := [z, TI, TO, i1, i2]) (fun c o hb q =>
      hk c o (fun q' => hb (by simp [q'])) (fun q' => hb (by simp [q'])) (fun q' => hb (by simp [q'])) (fun q' => hb (by simp [q'])) q) hf⟩
  self := fun A i s Q E st h => wpAny_pyIter_zip st.1 h
def iZipM (K : PySem.W.Frag) (ta : TA) : TI := fun σ H R => ta σ H fun vs H1 => ∃ b1 b2 a b xs ys, vs = [.ref a, .ref b] ∧ Sm K b1 H1 a xs ∧ Sm K b2 H1 b ys ∧ R (ItM K b1 b2 a b) H1
theorem pi_zipM {X : Cx} {e e2 : Expr} {ta : TA} {p pos tpos : Pos} {elts : List Expr} {kk : Nat} (hg : Gl X "zip") (hm : X.mg "zip" = none) (ha : PA X [e, e2] ta)
    (hs : starEach [e, e2] X.env = (false, eval e X.env) :: starEach [e2] X.env := by rfl) (hpl : (backTo pos (starEach [e2] X.env)).any (·.1) = false := by rfl) :
    PI X (.Tuple elts kk tpos) (.Call (.Name "zip" p) [e, e2] [] pos) (iZipM X.K ta) := by
  refine ⟨fun pins s σ H R I h => ?_⟩
  refine Call_ (ld_blt I hg hm PyProof.Rows.boot_zip (PyProof.Rows.callWith_type1 (thn (ha.run pos pins s σ H _ I h) fun us s1 ⟨vs, H1, I1, r1, q1⟩ => ?_) hs hpl))
  obtain ⟨b1, b2, a, b, xs, ys, ex, hqx, hqy, q⟩ := q1
  subst ex
  cases r1 with
  | cons r rr =>
    cases rr with
    | cons r' rr =>
      cases rr
      cases r
      cases r'
      have fresh5 : ∀ c, c ∈ [s1.heap.objs.size + 4, s1.heap.objs.size + 2, s1.heap.objs.size + 3, s1.heap.objs.size, s1.heap.objs.size + 1] → FpOk X pins H1 c := fun c hcm => by
        have hle : s1.heap.objs.size ≤ c := by
          simp only [List.mem_cons, List.not_mem_nil, or_false] at hcm
          rcases hcm with z | z | z | z | z <;> rw [z] <;> first | exact Nat.le_add_right _ _ | exact Nat.le_refl _
        exact I1.fpOk hle (I1.hok.fresh hle)
      obtain ⟨its, rv, p1, w1⟩ := hqx.its rfl I1
      obtain ⟨its2, rv2, p2, w2⟩ := hqy.its rfl I1
      refine call_zM p1 p2 fun h' hz hTI hTO h1 h2 hk => wpAny_pyIter_zip hz ?_
      have I2 : Inv X pins σ H1 { s1 with heap := h' } := I1.kept (t' := s1.toks) hk
      exact ⟨s1.heap.objs.size + 4, [s1.heap.objs.size + 4, s1.heap.objs.size + 2, s1.heap.objs.size + 3, s1.heap.objs.size, s1.heap.objs.size + 1], _, _, H1, rfl, I2, turn_zM (PySem.W.ktu_apart s1.heap.objs.size a b w1 w2), ⟨hz, hTI, ⟨_, _, hTO⟩, h1, h2⟩, fresh5, q⟩
end ZpM
namespace D8
open PySem PySem.Spec PyProof.Rows L2 ZpM
section
variable {σ : L2.St} {B B' H : Hp} {ta tb te : TE} {d x y z : PyData}
/-- a list or a tuple of data -/
def seqD (b : Bool) (ds : List PyData) : PyData := if b then .list ds else .tuple ds
theorem seqD_sm {K : PySem.W.Frag} {b : Bool} {ds : List PyData} {v : V} (h : DD B (seqD b ds) v) : ∃ a xs, v = .ref a ∧ DDs B ds xs ∧ ∀ H, Same B H → Sm K b H a xs := by
  cases b
  · obtain ⟨a, xs, rfl, h, p⟩ := h
    exact ⟨a, xs, rfl, p, fun H s => sqt (s _ _ h)⟩
  · obtain ⟨a, xs, rfl, h, p⟩ := h
    exact ⟨a, xs, rfl, p, fun H s => sql (s _ _ h)⟩
theorem walk_zM {K : PySem.W.Frag} {B1 : Hp} {b1 b2 : Bool} {a b : Addr} {xs ys : List V} {ds es : List PyData} (h : ∀ H, Same B1 H → Sm K b1 H a xs) (p : DDs B1 ds xs) (h' : ∀ H, Same B1 H → Sm K b2 H b ys) (p' : DDs B1 es ys) : WalkD (ItM K b1 b2 a b) B1 (zipL ds es) where
  stop := fun i H' s hi => ⟨xs, ys, h _ s, h' _ s, by
    rw [p.length, p'.length]
    rw [List.length_zipWith] at hi
    omega⟩
  go := fun i H' s hi => by
    rw [List.length_zipWith] at hi
    exact ⟨xs, ys, _, _, h _ s, h' _ s, List.getElem?_eq_getElem (by rw [p.length]; omega), List.getElem?_eq_getElem (by rw [p'.length]; omega)⟩
  yld := fun i d B' H' x H'' e s t y => by
    obtain ⟨T, u, v, rfl, hT, rfl, f1, f2⟩ := y
    obtain ⟨d1, d2, e1, e2, rfl⟩ := zipL_get e
    obtain ⟨u', q1, r1⟩ := p.get e1
    obtain ⟨v', q2, r2⟩ := p'.get e2
    have z1 := f1 xs (h _ (s.trans t))
    have z2 := f2 ys (h' _ (s.trans t))
    rw [q1] at z1
    rw [q2] at z2
    cases z1
    cases z2
    exact ⟨_, Grow.new t hT, T, _, rfl, upd_same, (DDs.cons r1 (DDs.one r2)).mono (s.trans (Grow.new t hT).b)⟩
theorem evi_zipM {K : PySem.W.Frag} {b1 b2 : Bool} {ds es : List PyData} (h : EvD ta σ B (seqD b1 ds)) (h' : EvD tb σ B (seqD b2 es)) : EvI (iZipM K (tCons ta (tCons tb tNil))) σ B (zipL ds es) := fun H s R q =>
  h H s _ fun v B1 H1 g e => (h'.mono g.b) H1 g.i _ fun v' B2 H2 g2 e' => by
    obtain ⟨a, xs, rfl, p, h1⟩ := seqD_sm (K := K) e
    obtain ⟨b, ys, rfl, p', h1'⟩ := seqD_sm (K := K) e'
    exact ⟨b1, b2, a, b, xs, ys, rfl, h1 _ (g2.b.trans g2.i), h1' _ g2.i, q _ B2 H2 (g.trans g2) (walk_zM (fun H s => h1 H (g2.b.trans s)) (p.mono g2.b) h1' p')⟩
end
end D8

/-! The determinant by fraction-free elimination, as a function on lists of rows (own work, plain). -/
namespace Br
abbrev Mx := List (List Int)
def E (N : Mx) (i j : Nat) : Int := ((N[i]?.getD [])[j]?).getD 0
structure Shp (n : Nat) (N : Mx) : Prop where
  len : N.length = n
  row : ∀ r ∈ N, r.length = n
theorem Shp.at {n : Nat} {N : Mx} (S : Shp n N) {i : Nat} (h : i < n) : ∃ r, N[i]? = some r ∧ r.length = n := by
  have hl : i < N.length := by rw [S.len]; exact h
  exact ⟨N[i], List.getElem?_eq_getElem hl, S.row _ (List.getElem_mem hl)⟩
theorem Shp.get {n : Nat} {N : Mx} (S : Shp n N) {i j : Nat} (h : i < n) (h' : j < n) : ∃ r, N[i]? = some r ∧ r[j]? = some (E N i j) := by
  obtain ⟨r, e, l⟩ := S.at h
  refine ⟨r, e, ?_⟩
  unfold E
  rw [e]
  show r[j]? = some ((r[j]?).getD 0)
  rw [List.getElem?_eq_getElem (by omega)]
  rfl
def setB (N : Mx) (r c : Nat) (v : Int) : Mx := N.set r ((N[r]?.getD []).set c v)
theorem Shp.setB {n : Nat} {N : Mx} (S : Shp n N) {r : Nat} (h : r < n) (c : Nat) (v : Int) : Shp n (setB N r c v) := by
  obtain ⟨x, e, l⟩ := S.at h
  refine ⟨by unfold Br.setB; rw [List.length_set, S.len], fun y hy => ?_⟩
  unfold Br.setB at hy
  rcases List.mem_or_eq_of_mem_set hy with z | z
  · exact S.row y z
  · rw [z, List.length_set, e]
    exact l
theorem E_setB {n : Nat} {N : Mx} (S : Shp n N) {r c : Nat} (h : r < n) (h' : c < n) (v : Int) (i j : Nat) : E (setB N r c v) i j = if i = r ∧ j = c then v else E N i j := by
  obtain ⟨x, e, l⟩ := S.at h
  unfold E setB
  rw [List.getElem?_set]
  by_cases hi : r = i
  · subst hi
    rw [if_pos rfl, if_pos (by rw [S.len]; exact h), e]
    show ((x.set c v)[j]?).getD 0 = _
    rw [List.getElem?_set]
    by_cases hj : c = j
    · subst hj
      rw [if_pos rfl, if_pos (by rw [l]; exact h'), if_pos ⟨rfl, rfl⟩]
      rfl
    · rw [if_neg hj, if_neg (fun z => hj z.2.symm)]
      rfl
  · rw [if_neg hi, if_neg (fun z => hi z.1.symm)]
def cellB (a : Nat) (b : Int) (N : Mx) (r c : Nat) : Int := (E N r c * E N a a - E N r a * E N a c).fdiv b
def colsB (a : Nat) (b : Int) (N : Mx) (r : Nat) : Nat → Mx
  | 0 => N
  | k + 1 => setB (colsB a b N r k) r (a + 1 + k) (cellB a b (colsB a b N r k) r (a + 1 + k))
def rowsB (n a : Nat) (b : Int) (N : Mx) : Nat → Mx
  | 0 => N
  | k + 1 => colsB a b (rowsB n a b N k) (a + 1 + k) (n - (a + 1))
theorem cols_shp {n a : Nat} {b : Int} {N : Mx} (S : Shp n N) {r : Nat} (h : r < n) : ∀ k, Shp n (colsB a b N r k)
  | 0 => S
  | k + 1 => (cols_shp S h k).setB h _ _
theorem rows_shp {n a : Nat} {b : Int} {N : Mx} (S : Shp n N) : ∀ k, a + 1 + k ≤ n → Shp n (rowsB n a b N k)
  | 0, _ => S
  | k + 1, h => cols_shp (rows_shp S k (by omega)) (by omega) _
theorem E_cols {n a : Nat} {b : Int} {N : Mx} (S : Shp n N) {r : Nat} (h : r < n) (hr : a < r) (i j : Nat) : ∀ k, a + 1 + k ≤ n → E (colsB a b N r k) i j = if i = r ∧ a < j ∧ j < a + 1 + k then cellB a b N r j else E N i j
  | 0, _ => by
    rw [if_neg (by omega)]
    rfl
  | k + 1, hk => by
    have ih := fun i j => E_cols (b := b) S h hr i j k (by omega)
    show E (setB _ _ _ _) i j = _
    rw [E_setB (cols_shp S h k) h (by omega)]
    have hc : cellB a b (colsB a b N r k) r (a + 1 + k) = cellB a b N r (a + 1 + k) := by
      unfold cellB
      rw [ih, ih, ih, ih, if_neg (by omega), if_neg (by omega), if_neg (by omega), if_neg (by omega)]
    rw [hc, ih i j]
    by_cases hij : i = r ∧ j = a + 1 + k
    · rw [if_pos hij, if_pos (by omega), hij.2]
    · rw [if_neg hij]
      by_cases h2 : i = r ∧ a < j ∧ j < a + 1 + k
      · rw [if_pos h2, if_pos (by omega)]
      · rw [if_neg h2, if_neg (by omega)]
theorem E_rows {n a : Nat} {b : Int} {N : Mx} (S : Shp n N) (i j : Nat) : ∀ k, a + 1 + k ≤ n → E (rowsB n a b N k) i j = if (a < i ∧ i < a + 1 + k) ∧ a < j ∧ j < n then cellB a b N i j else E N i j
  | 0, _ => by
    rw [if_neg (by omega)]
    rfl
  | k + 1, hk => by
    have ih : ∀ i j, E (rowsB n a b N k) i j = if (a < i ∧ i < a + 1 + k) ∧ a < j ∧ j < n then cellB a b N i j else E N i j := fun i j => E_rows S i j k (by omega)
    show E (colsB a b (rowsB n a b N k) (a + 1 + k) (n - (a + 1))) i j = _
    rw [E_cols (n := n) (rows_shp S k (by omega)) (by omega) (by omega) i j (n - (a + 1)) (by omega)]
    by_cases h1 : i = a + 1 + k ∧ a < j ∧ j < a + 1 + (n - (a + 1))
    · rw [if_pos h1, if_pos (by omega)]
      unfold cellB
      rw [ih, ih, ih, ih, if_neg (by omega), if_neg (by omega), if_neg (by omega), if_neg (by omega), h1.1]
    · rw [if_neg h1, ih]
      by_cases h2 : (a < i ∧ i < a + 1 + k) ∧ a < j ∧ j < n
      · rw [if_pos h2, if_pos (by omega)]
      · rw [if_neg h2, if_neg (by omega)]
def pivs (n a : Nat) (N : Mx) : List Nat := (List.range (n - a)).filter fun i => !decide (E N (a + i) a = 0)
def swapB (N : Mx) (a b : Nat) : Mx := (N.set a (N[b]?.getD [])).set b (N[a]?.getD [])
theorem Shp.swap {n : Nat} {N : Mx} (S : Shp n N) {a b : Nat} (ha : a < n) (hb : b < n) : Shp n (swapB N a b) := by
  obtain ⟨x, e, l⟩ := S.at ha
  obtain ⟨y, e', l'⟩ := S.at hb
  unfold swapB
  rw [e, e']
  refine ⟨by rw [List.length_set, List.length_set, S.len], fun z hz => ?_⟩
  rcases List.mem_or_eq_of_mem_set hz with q | q
  · rcases List.mem_or_eq_of_mem_set q with q | q
    · exact S.row z q
    · rw [q]; exact l'
  · rw [q]; exact l
theorem E_swap {n : Nat} {N : Mx} (S : Shp n N) {a b : Nat} (ha : a < n) (hb : b < n) (i j : Nat) : E (swapB N a b) i j = if i = b then E N a j else if i = a then E N b j else E N i j := by
  obtain ⟨x, e, l⟩ := S.at ha
  obtain ⟨y, e', l'⟩ := S.at hb
  unfold E swapB
  rw [e, e', List.getElem?_set]
  by_cases h1 : b = i
  · rw [if_pos h1, if_pos (by rw [List.length_set, S.len]; exact hb), if_pos h1.symm]
    rfl
  · rw [if_neg h1, if_neg (fun z => h1 z.symm), List.getElem?_set]
    by_cases h2 : a = i
    · rw [if_pos h2, if_pos (by rw [S.len]; exact ha), if_pos h2.symm]
      rfl
    · rw [if_neg h2, if_neg (fun z => h2 z.symm)]
/-- the matrix, the sign and the pivot before, when so many columns are done; none: the answer is 0 -/
def barB (n : Nat) (M : Mx) : Nat → Option (Mx × Int × Int)
  | 0 => some (M, 1, 1)
  | k + 1 => match barB n M k with
    | none => none
    | some (N, s, b) => match pivs n k N with
      | [] => none
      | i :: _ =>
        let N1 := if i = 0 then N else swapB N k (k + i)
        let N2 := rowsB n k b N1 (n - (k + 1))
        some (N2, if i = 0 then s else -s, E N2 k k)
def bareM (M : Mx) : Int := match barB M.length M M.length with
  | none => 0
  | some (_, s, b) => s * b
theorem barB_none {n : Nat} {M : Mx} {k : Nat} (h : barB n M k = none) : ∀ j, barB n M (k + j) = none
  | 0 => h
  | j + 1 => by
    have ih := barB_none h j
    show barB n M ((k + j) + 1) = none
    unfold barB
    rw [ih]
theorem bnd_fdiv {x b : Int} (hb : b ≠ 0) : (x.fdiv b).natAbs ≤ x.natAbs := by
  have h1 : x = b * (x.fdiv b) + x.fmod b := (Int.mul_fdiv_add_fmod x b).symm
  rcases Int.lt_or_gt_of_ne hb with hn | hp
  · have h2 : x.fmod b ≤ 0 ∧ b < x.fmod b := by
      have e : x.fmod b = -((-x).fmod (-b)) := by rw [Int.neg_fmod_neg]; omega
      have p1 := Int.fmod_nonneg_of_pos (-x) (show 0 < -b by omega)
      have p2 := Int.fmod_lt_of_pos (-x) (show 0 < -b by omega)
      omega
    generalize x.fdiv b = q at *
    generalize x.fmod b = r at *
    rcases Int.lt_trichotomy q 0 with hq | hq | hq
    · have : b * q ≥ -q := by
        have := Int.mul_le_mul_of_nonpos_right (show b ≤ -1 by omega) (show q ≤ 0 by omega)
        omega
      by_cases hq1 : q = -1
      · subst hq1; omega
      · have : b * q ≥ -q - b - 1 := by
          have := Int.mul_nonneg (show 0 ≤ -1 - b by omega) (show 0 ≤ -q - 1 by omega)
          have e : (-1 - b) * (-q - 1) = q + 1 + b * q + b := by grind
          omega
        omega
    · subst hq; omega
    · have : b * q ≤ -q := by
        have := Int.mul_le_mul_of_nonneg_right (show b ≤ -1 by omega) (show 0 ≤ q by omega)
        omega
      omega
  · have p1 := Int.fmod_nonneg_of_pos x hp
    have p2 := Int.fmod_lt_of_pos x hp
    generalize x.fdiv b = q at *
    generalize x.fmod b = r at *
    rcases Int.lt_trichotomy q 0 with hq | hq | hq
    · have : 0 ≤ (b - 1) * (-q - 1) := Int.mul_nonneg (by omega) (by omega)
      have e : (b - 1) * (-q - 1) = -(b * q) - b + q + 1 := by grind
      omega
    · subst hq; omega
    · have := Int.mul_le_mul_of_nonneg_right (show 1 ≤ b by omega) (show 0 ≤ q by omega)
      omega
def bnd (b : Nat) : Nat → Nat
  | 0 => b
  | k + 1 => 2 * (bnd b k * bnd b k)
theorem bnd_pos {b : Nat} (h : 1 ≤ b) : ∀ k, 1 ≤ bnd b k
  | 0 => h
  | k + 1 => by
    have := Nat.mul_le_mul (bnd_pos h k) (bnd_pos h k)
    show 1 ≤ 2 * (bnd b k * bnd b k)
    omega
theorem bnd_step {b : Nat} (h : 1 ≤ b) (k : Nat) : bnd b k ≤ bnd b (k + 1) := by
  have := Nat.mul_le_mul_left (bnd b k) (bnd_pos h k)
  show bnd b k ≤ 2 * (bnd b k * bnd b k)
  omega
theorem bnd_mono {b : Nat} (h : 1 ≤ b) {j k : Nat} (hk : j ≤ k) : bnd b j ≤ bnd b k := by
  induction hk with
  | refl => exact Nat.le_refl _
  | step _ ih => exact Nat.le_trans ih (bnd_step h _)
structure Bd (n : Nat) (c : Nat) (N : Mx) (b : Int) : Prop where
  shp : Shp n N
  ent : ∀ i j, (E N i j).natAbs ≤ c
  nz : b ≠ 0
  low : b.natAbs ≤ c
theorem cell_bd {c : Nat} {N : Mx} {b : Int} (he : ∀ i j, (E N i j).natAbs ≤ c) (hb : b ≠ 0) (a r j : Nat) : (cellB a b N r j).natAbs ≤ 2 * (c * c) := by
  unfold cellB
  refine Nat.le_trans (bnd_fdiv hb) ?_
  have h1 : (E N r j * E N a a).natAbs ≤ c * c := by rw [Int.natAbs_mul]; exact Nat.mul_le_mul (he _ _) (he _ _)
  have h2 : (E N r a * E N a j).natAbs ≤ c * c := by rw [Int.natAbs_mul]; exact Nat.mul_le_mul (he _ _) (he _ _)
  omega
theorem piv_head {n a : Nat} {N : Mx} {i : Nat} {r : List Nat} (h : pivs n a N = i :: r) : i < n - a ∧ E N (a + i) a ≠ 0 := by
  have hm : i ∈ pivs n a N := by rw [h]; exact List.mem_cons_self ..
  obtain ⟨h1, h2⟩ := List.mem_filter.mp hm
  exact ⟨List.mem_range.mp h1, by simpa using h2⟩
theorem Bd.piv {n c a : Nat} {N : Mx} {b : Int} {i : Nat} {r : List Nat} (D : Bd n c N b) (h : pivs n a N = i :: r) : Bd n c (if i = 0 then N else swapB N a (a + i)) b ∧ E (if i = 0 then N else swapB N a (a + i)) a a ≠ 0 := by
  obtain ⟨h1, h2⟩ := piv_head h
  by_cases hi : i = 0
  · rw [if_pos hi]
    subst hi
    exact ⟨D, h2⟩
  · rw [if_neg hi]
    refine ⟨⟨D.shp.swap (by omega) (by omega), fun i' j => ?_, D.nz, D.low⟩, ?_⟩
    · rw [E_swap D.shp (by omega) (by omega)]
      split
      · exact D.ent _ _
      · split <;> exact D.ent _ _
    · rw [E_swap D.shp (by omega) (by omega), if_neg (by omega), if_pos rfl]
      exact h2
theorem Bd.rows {n c a : Nat} {N : Mx} {b : Int} (D : Bd n c N b) (ha : a < n) (hc : 1 ≤ c) (hz : E N a a ≠ 0) : Bd n (2 * (c * c)) (rowsB n a b N (n - (a + 1))) (E (rowsB n a b N (n - (a + 1))) a a) := by
  have hE := fun i j => E_rows (b := b) D.shp i j (n - (a + 1)) (a := a) (by omega)
  have hcc : c ≤ 2 * (c * c) := by
    have := Nat.mul_le_mul_left c hc
    omega
  have ent : ∀ i j, (E (rowsB n a b N (n - (a + 1))) i j).natAbs ≤ 2 * (c * c) := fun i j => by
    rw [hE]
    split
    · exact cell_bd D.ent D.nz _ _ _
    · exact Nat.le_trans (D.ent _ _) hcc
  refine ⟨rows_shp D.shp _ (by omega), ent, ?_, ent _ _⟩
  rw [hE, if_neg (by omega)]
  exact hz
theorem barB_bd {n b0 : Nat} {M : Mx} (S : Shp n M) (hb : ∀ i j, (E M i j).natAbs ≤ b0) (h1 : 1 ≤ b0) : ∀ (k : Nat) (N : Mx) (s b : Int), k ≤ n → barB n M k = some (N, s, b) → Bd n (bnd b0 k) N b ∧ (s = 1 ∨ s = -1)
  | 0, N, s, b, _, h => by
    cases h
    exact ⟨⟨S, hb, by decide, h1⟩, .inl rfl⟩
  | k + 1, N, s, b, hk, h => by
    unfold barB at h
    split at h
    · cases h
    · rename_i N0 s0 b0' e
      obtain ⟨D, hs⟩ := barB_bd S hb h1 k _ _ _ (by omega) e
      split at h
      · cases h
      · rename_i i r ep
        obtain ⟨D1, hz⟩ := D.piv ep
        have D2 := D1.rows (by omega) (bnd_pos h1 k) hz
        cases h
        refine ⟨D2, ?_⟩
        split
        · exact hs
        · rcases hs with rfl | rfl
          · exact .inr rfl
          · exact .inl rfl
theorem bareM_bd {n b0 : Nat} {M : Mx} (S : Shp n M) (hb : ∀ i j, (E M i j).natAbs ≤ b0) (h1 : 1 ≤ b0) : (bareM M).natAbs ≤ bnd b0 (n - 1) := by
  unfold bareM
  rw [S.len]
  cases n with
  | zero => exact bnd_pos h1 _
  | succ k =>
    cases e : barB (k + 1) M (k + 1) with
    | none => exact Nat.zero_le _
    | some t =>
      obtain ⟨N, s, b⟩ := t
      have hs := (barB_bd S hb h1 (k + 1) N s b (Nat.le_refl _) e).2
      have e2 := e
      unfold barB at e2
      split at e2
      · cases e2
      · rename_i N0 s0 b0' e0
        obtain ⟨D, _⟩ := barB_bd S hb h1 k _ _ _ (by omega) e0
        split at e2
        · cases e2
        · rename_i i r ep
          obtain ⟨D1, hz⟩ := D.piv ep
          rw [Nat.sub_self] at e2
          have e3 := Option.some.inj e2
          have eb : b = E (if i = 0 then N0 else swapB N0 k (k + i)) k k := (congrArg (fun t => t.2.2) e3).symm
          show (s * b).natAbs ≤ bnd b0 k
          rw [Int.natAbs_mul, eb]
          have h := D1.ent k k
          rcases hs with q | q <;> rw [q] <;> simpa using h
end Br

set_option maxHeartbeats 4000000
namespace K84
open PySem PySem.Spec PyProof.Rows L2 D8
variable {P : Program} {w : World} {K : PySem.W.Frag} {mg : Str → Option Value} {base : Heap}
/-! ### width, transposed, dot, lifted -/
structure Rct (m : Nat) (X : List (List Int)) : Prop where
  len : X.length ≤ 100
  row : ∀ r ∈ X, r.length = m
  col : m ≤ 100
theorem Sqr.rct {b : Int} {n : Nat} {M : List (List Int)} (S : Sqr b n M) (h : n ≤ 100) : Rct n M := ⟨by rw [S.len]; exact h, S.row, h⟩
def widM (X : List (List Int)) : Nat := (X.head?.getD []).length
theorem widM_eq {m : Nat} {X : List (List Int)} (R : Rct m X) (h : X ≠ []) : widM X = m := by
  cases X with
  | nil => exact absurd rfl h
  | cons r X => exact R.row r (List.mem_cons_self ..)
def sp_width : Sp := SpD (fun ds => ∃ (m : Nat) (X : List (List Int)), ds = [.list (rowsD false X)] ∧ Rct m X) (fun ds d => ∃ (X : List (List Int)), ds = [.list (rowsD false X)] ∧ d = .int (widM X))
theorem rowsF_head {x : List Int} {X : List (List Int)} : atI (rowsD false (x :: X)) 0 = some (ll x) := atI_nat (j := 0) rfl
theorem ok_width (M : Mod K mg) : FnOk P w K mg base CX0 1 M.f_width M.fd_width ["rows"] sp_width := by
  refine M.d_width.F.ok sc_width (SpD.len fun ds ⟨_, _, e, _⟩ => by rw [e]; rfl) (fun cdv A outer s H vs Q E hr h => ?_)
  obtain ⟨B, ds, sB, hd, ⟨m, X, rfl, R⟩, q⟩ := h
  obtain ⟨v0, _, rfl, dr, rfl⟩ := hd
  refine ⟨_, (pss_cons (ps_if (pt_val (pe_callB (cr_any rfl) (by rfl) M.m_any (by decide +kernel) (pa_cons (pe_lc (own := [("row", 1)]) (g := gName 1) (tt := tYes) (te := (tOp rNe (tCB (rLenQ K) (tCons (tVar 1) tNil)) (tCB (rLenQ K) (tCons (tOp (rIxL K) (tVar 0) (tC (.int 0))) tNil)))) rfl sc_width.nd (pi_list (pv 0)) (blkOk_by (own := [("row", 1)]) (N := N_width) (sc := defScope s_width) (by decide +kernel)) (fun _ _ _ _ _ => (pg_name (i := 1) sc_width.nd rfl (.inl rfl))) (fun _ _ _ _ _ => pts_nil) (fun _ _ _ _ _ => (pe_cmpR op_ne (pe_callB call_len_seq (by rfl) M.m_len PySem.boot_len (pa_cons (pv 1) pa_nil)) (pe_callB call_len_seq (by rfl) M.m_len PySem.boot_len (pa_cons (pe_ix ix_list (pv 0) pe_int (fun _ _ => rfl)) pa_nil)) (nomark _)))) pa_nil))) (pss_one ps_never) pss_nil)
    (pss_cons (ps_if (pt_cmpR op_eq (pe_callB call_len_seq (by rfl) M.m_len PySem.boot_len (pa_cons (pv 0) pa_nil)) pe_int (nomark _)) (pss_one (ps_ret pe_int)) pss_nil)
    (pss_one (ps_ret (pe_callB call_len_seq (by rfl) M.m_len PySem.boot_len (pa_cons (pe_ix ix_list (pv 0) pe_int (fun _ _ => rfl)) pa_nil)))))), ?_⟩
  have hcomp := evd_lcN (i := 1) (B := B) (σ := start N_width [v0]) (te := tOp rNe (tCB (rLenQ K) (tCons (tVar 1) tNil)) (tCB (rLenQ K) (tCons (tOp (rIxL K) (tVar 0) (tC (.int 0))) tNil))) (f := fun _ => .bool false) (evi_list (K := K) (evd_var (i := 0) rfl dr)) (by rw [List.length_map]; exact ge_sz (Nat.le_trans R.len (by decide)))
    (fun d B' u hm s' hu => by
      obtain ⟨r, hr, rfl⟩ := List.mem_map.mp hm
      cases X with
      | nil => cases hr
      | cons x X =>
        have h := evd_neI (evd_lenL (K := K) (evd_var (B := B') (σ := (wipe (start N_width [v0]) [1]).set 1 (some u)) (i := 1) rfl hu)) (evd_lenL (K := K) (evd_ixL (K := K) (evd_var (i := 0) rfl (dr.mono s')) evd_int rowsF_head))
        rw [List.length_map, List.length_map, R.row r hr, R.row x (List.mem_cons_self ..), decide_eq_true rfl] at h
        exact h)
  rw [List.map_map] at hcomp
  have e1 : X.map ((fun _ => PyData.bool false) ∘ rowD false) = (X.map fun _ => false).map PyData.bool := by rw [List.map_map]; rfl
  rw [e1] at hcomp
  refine seq_if (b := false) (evt_B (by
    have h := evd_any (K := K) hcomp
    have e2 : (X.map fun _ => false).any id = false := by
      rw [List.any_eq_false]
      intro x hx
      obtain ⟨_, _, rfl⟩ := List.mem_map.mp hx
      decide
    rw [e2] at h
    exact h)) sB fun B1 H1 g1 => (if_neg (by decide)).mpr ?_
  have hl := evd_lenL (K := K) (evd_var (B := B1) (σ := start N_width [v0]) (i := 0) rfl (dr.mono g1.b))
  rw [List.length_map] at hl
  refine seq_if (b := decide ((X.length : Int) = 0)) (evt_test (evd_eqI hl evd_int)) g1.i fun B2 H2 g2 => ?_
  cases X with
  | nil => exact (if_pos (by decide)).mpr (ret_D evd_int g2.i fun v B' H' g e => q _ v B' H' ⟨[], rfl, rfl⟩ ((g1.trans g2).trans g) e)
  | cons x X =>
    refine (if_neg (by simp; omega)).mpr ?_
    have h := evd_lenL (K := K) (evd_ixL (K := K) (evd_var (B := B2) (σ := start N_width [v0]) (i := 0) rfl (dr.mono (g1.b.trans g2.b))) evd_int rowsF_head)
    rw [List.length_map] at h
    exact ret_D h g2.i fun v B' H' g e => q _ v B' H' ⟨x :: X, rfl, rfl⟩ ((g1.trans g2).trans g) e
def traM (X : List (List Int)) : List (List Int) := (List.range (widM X)).map (colM X)
def colOf (X : List (List Int)) : PyData → PyData
  | .int k => ll (colM X k.toNat)
  | d => d
def sp_transposed : Sp := SpD (fun ds => ∃ (m : Nat) (X : List (List Int)), ds = [.list (rowsD false X)] ∧ Rct m X) (fun ds d => ∃ (X : List (List Int)), ds = [.list (rowsD false X)] ∧ d = .list (rowsD false (traM X)))
theorem ok_transposed (M : Mod K mg) : FnOk P w K mg base CX0 2 M.f_transposed M.fd_transposed ["rows"] sp_transposed := by
  refine M.d_transposed.F.ok sc_transposed (SpD.len fun ds ⟨_, _, e, _⟩ => by rw [e]; rfl) (fun cdv A outer s H vs Q E hr h => ?_)
  obtain ⟨B, ds, sB, hd, ⟨m, X, rfl, R⟩, q⟩ := h
  obtain ⟨v0, _, rfl, dr, rfl⟩ := hd
  refine ⟨_, (pss_one (ps_ret (pe_lc (own := [("column", 1)]) (g := gName 1) (tt := tYes) (te := (tLc (iList K (tVar 0)) (gName 2) tYes (tOp (rIxL K) (tVar 2) (tVar 1)) [2])) rfl sc_transposed.nd (pi_range1 (by rfl) M.m_range (pa_cons (pe_call (ok_width M) (hr.mono (by decide)) (by rfl) M.d_width.g M.d_width.F.kp M.d_width.b .nil pass0 (pa_cons (pv 0) pa_nil)) pa_nil)) (blkOk_by (own := [("column", 1)]) (N := N_transposed) (sc := defScope s_transposed) (by decide +kernel)) (fun _ _ _ _ _ => (pg_name (i := 1) sc_transposed.nd rfl (.inr rfl))) (fun _ _ _ _ _ => pts_nil) (fun _ _ _ _ _ => (pe_lc (own := [("row", 2)]) (g := gName 2) (tt := tYes) (te := (tOp (rIxL K) (tVar 2) (tVar 1))) rfl sc_transposed.nd (pi_list (pv 0)) (blkOk_by (own := [("row", 2)]) (by kernel_rfl)) (fun _ _ _ _ _ => (pg_name (i := 2) sc_transposed.nd rfl (.inl rfl))) (fun _ _ _ _ _ => pts_nil) (fun _ _ _ _ _ => (pe_ix ix_list (pv 2) (pv 1) (fun _ _ => rfl)))))))), ?_⟩
  have hw : widM X ≤ 100 := by
    cases X with
    | nil => exact Nat.zero_le _
    | cons x X => rw [widM_eq R (List.cons_ne_nil _ _)]; exact R.col
  have hcall : EvD (tCall sp_width [] E0 (tCons (tVar 0) tNil)) (start N_transposed [v0]) B (.int (widM X : Nat)) :=
    evd_call (ds := [.list (rowsD false X)]) (eva_cons (evd_var (i := 0) rfl dr) eva_nil) ⟨m, X, rfl, R⟩ (fun d ⟨X', e, h⟩ => by rw [h, rowsF_inj (PyData.list.inj (List.cons.inj e).1)])
  have hcomp := evd_lcN (i := 1) (B := B) (σ := start N_transposed [v0]) (te := tLc (iList K (tVar 0)) (gName 2) tYes (tOp (rIxL K) (tVar 2) (tVar 1)) [2]) (f := colOf X) (evi_rngN hcall (by omega)) (by rw [List.length_map, List.length_range]; exact ge_sz (by omega))
    (fun d B' u hm s' hu => by
      obtain ⟨k, hk, rfl⟩ := List.mem_map.mp hm
      have hk := List.mem_range.mp hk
      have hu : u = .int (0 + (k : Nat)) := hu
      subst hu
      rw [Int.zero_add]
      have hkm : k < m := by
        cases X with
        | nil => exact absurd hk (Nat.not_lt_zero _)
        | cons x X => rwa [widM_eq R (List.cons_ne_nil _ _)] at hk
      have h := evd_lcN (i := 2) (B := B') (σ := (wipe (start N_transposed [v0]) [1]).set 1 (some (.int (k : Nat)))) (te := tOp (rIxL K) (tVar 2) (tVar 1)) (f := colD id k) (evi_list (K := K) (evd_var (i := 0) rfl (dr.mono s'))) (by rw [List.length_map]; exact ge_sz (Nat.le_trans R.len (by decide)))
        (fun d B'' y hm s'' hy => by
          obtain ⟨r, hr, rfl⟩ := List.mem_map.mp hm
          have hl : k < r.length := by rw [R.row r hr]; exact hkm
          have e : colD id k (rowD false r) = .int r[k] := by
            show (match (iL r)[k]? with | some (.int x) => PyData.int (id x) | _ => .int 0) = _
            rw [List.getElem?_map, List.getElem?_eq_getElem hl]
            rfl
          rw [e]
          exact evd_ixL (evd_var (i := 2) rfl hy) (evd_var (i := 1) (d := .int (k : Nat)) rfl rfl) (iL_at (List.getElem?_eq_getElem hl)))
      rw [col_map id R.row hkm, List.map_id] at h
      exact h)
  have e : (rngL 0 (widM X)).map (colOf X) = rowsD false (traM X) := by
    unfold rngL traM
    show List.map _ (List.map _ _) = List.map _ (List.map _ _)
    rw [List.map_map, List.map_map]
    refine List.map_congr_left fun k _ => ?_
    show ll (colM X (0 + (k : Int)).toNat) = ll (colM X k)
    rw [Int.zero_add, Int.toNat_natCast]
  rw [e] at hcomp
  exact ret_D hcomp sB fun v B' H' g e => q _ v B' H' ⟨X, rfl, rfl⟩ g e
def dotM (a b : List Int) : Int := (List.zipWith (· * ·) a b).sum
def sp_dot : Sp := SpD (fun ds => ∃ a b : List Int, ds = [ll a, pt b] ∧ a.length ≤ 1000 ∧ ∀ x ∈ a, -1000000 ≤ x ∧ x ≤ 1000000) (fun ds d => ∃ a b : List Int, ds = [ll a, pt b] ∧ d = .int (dotM a b))
theorem ok_dot (M : Mod K mg) : FnOk P w K mg base CX0 1 M.f_dot M.fd_dot ["first", "second"] sp_dot := by
  refine M.d_dot.F.ok sc_dot (SpD.len fun ds ⟨a, b, e, _⟩ => by rw [e]; rfl) (fun cdv A outer s H vs Q E hr h => ?_)
  obtain ⟨B, ds, sB, hd, ⟨a, b, rfl, hl, hb⟩, q⟩ := h
  obtain ⟨v1, _, rfl, h1, ⟨v2, _, rfl, h2, rfl⟩⟩ := hd
  refine ⟨_, (pss_one (ps_ret (pe_callB (cr_sum rfl) (by rfl) M.m_sum (by decide +kernel) (pa_cons (pe_lc (own := [("one", 2), ("two", 3)]) (g := gTup K 2 (gCons (gName 2) (gCons (gName 3) gNil))) (tt := tYes) (te := (tOp (rI CMul fun i j => .int (i * j)) (tVar 2) (tVar 3))) rfl sc_dot.nd (ZpM.pi_zipM (by rfl) M.m_zip (pa_cons (pv 0) (pa_cons (pv 1) pa_nil))) (blkOk_by (own := [("one", 2), ("two", 3)]) (N := N_dot) (sc := defScope s_dot) (by decide +kernel)) (fun _ _ _ _ _ => (pg_tup rfl (pgs_cons (pg_name (i := 2) sc_dot.nd rfl (.inl rfl)) (pgs_cons (pg_name (i := 3) sc_dot.nd rfl (.inl rfl)) pgs_nil)))) (fun _ _ _ _ _ => pts_nil) (fun _ _ _ _ _ => (pe_op op_mul (pv 2) (pv 3)))) pa_nil)))), ?_⟩
  have hz : (zipL (iL a) (iL b)).length ≤ sizeLine := ge_sz (by rw [List.length_zipWith, List.length_map]; omega)
  have h := evd_lc2 (K := K) (i := 2) (j := 3) (te := tOp (rI CMul fun i j => .int (i * j)) (tVar 2) (tVar 3)) (f := pairD (· * ·)) (evi_zipM (K := K) (b1 := true) (b2 := false) (evd_var (σ := start N_dot [v1, v2]) (i := 0) rfl h1) (evd_var (i := 1) rfl h2)) hz zipL_pairs (fun _ _ => rfl)
    (fun x y B' u v hm s hx hy => by
      obtain ⟨m, n, rfl, rfl, hma, _⟩ := zipL_int hm
      have := hb m hma
      exact evd_mul (evd_var (i := 2) rfl hx) (evd_var (i := 3) rfl hy) (.inl ⟨by omega, by omega⟩))
  rw [pairD_map] at h
  refine ret_D (d := .int (dotM a b)) (evd_sum h) sB (fun v B' H' g e => q _ v B' H' ⟨a, b, rfl, rfl⟩ g e)
def sp_lifted : Sp := SpD (fun ds => ∃ (tp : Bool) (X : List (List Int)), ds = [.list (rowsD tp X)] ∧ X.length ≤ 100 ∧ ∀ r ∈ X, r.length ≤ 100) (fun ds d => ∃ (tp : Bool) (X : List (List Int)), ds = [.list (rowsD tp X)] ∧ d = .list (rowsD false (liftM X)))
theorem ok_lifted (M : Mod K mg) : FnOk P w K mg base CX0 1 M.f_lifted M.fd_lifted ["points"] sp_lifted := by
  refine M.d_lifted.F.ok sc_lifted (SpD.len fun ds ⟨_, _, e, _⟩ => by rw [e]; rfl) (fun cdv A outer s H vs Q E hr h => ?_)
  obtain ⟨B, ds, sB, hd, ⟨tp, X, rfl, hl, hr'⟩, q⟩ := h
  obtain ⟨v0, _, rfl, dr, rfl⟩ := hd
  refine ⟨_, (pss_one (ps_ret (pe_lc (own := [("point", 1)]) (g := gName 1) (tt := tYes) (te := (tOp rCat (tCB (rListQ K) (tCons (tVar 1) tNil)) (tLst (tCons (tC (.int 1)) tNil)))) rfl sc_lifted.nd (pi_list (pv 0)) (blkOk_by (own := [("point", 1)]) (N := N_lifted) (sc := defScope s_lifted) (by decide +kernel)) (fun _ _ _ _ _ => (pg_name (i := 1) sc_lifted.nd rfl (.inl rfl))) (fun _ _ _ _ _ => pts_nil) (fun _ _ _ _ _ => (pe_op op_cat (pe_callTy call_list_of (by rfl) M.m_list (by decide +kernel) (pa_cons (pv 1) pa_nil)) (pe_lst (pa_cons pe_int pa_nil))))))), ?_⟩
  have h := evd_lcN (i := 1) (B := B) (σ := start N_lifted [v0]) (te := tOp rCat (tCB (rListQ K) (tCons (tVar 1) tNil)) (tLst (tCons (tC (.int 1)) tNil))) (f := liftD) (evi_list (K := K) (evd_var (i := 0) rfl dr)) (by rw [List.length_map]; exact ge_sz (by omega))
      (fun d B' u hm s' hu => by
        obtain ⟨r, hr, rfl⟩ := List.mem_map.mp hm
        have hrl := hr' r hr
        have hlist : EvD (tCB (rListQ K) (tCons (tVar 1) tNil)) ((wipe (start N_lifted [v0]) [1]).set 1 (some u)) B' (.list (iL r)) := by
          cases tp
          · exact evd_listL (evd_var (i := 1) rfl hu)
          · exact evd_listT (evd_var (i := 1) rfl hu)
        have e : liftD (rowD tp r) = .list (iL r ++ [.int 1]) := by cases tp <;> rfl
        rw [e]
        exact evd_cat hlist (evd_lst (eva_cons evd_int eva_nil) (show 1 ≤ sizeLine by decide)) (by rw [List.length_map]; exact ge_sz (by show r.length + 1 ≤ _; omega)))
  have e : (rowsD tp X).map liftD = rowsD false (liftM X) := by
    show (X.map _).map _ = (X.map _).map _
    rw [List.map_map, List.map_map]
    refine List.map_congr_left fun r _ => ?_
    show liftD (rowD tp r) = PyData.list ((r ++ [1]).map PyData.int)
    rw [List.map_append]
    cases tp <;> rfl
  rw [e] at h
  exact ret_D h sB fun v B' H' g e => q _ v B' H' ⟨tp, X, rfl, rfl⟩ g e
end K84

set_option maxHeartbeats 4000000
namespace D8
open PySem PySem.Spec PyProof.Rows L2
/-- a list of lists of ints that is open to changes, all of it new since H0 -/
structure MatH (H0 H : Hp) (p : Addr) (as : List Addr) (N : Br.Mx) : Prop where
  ex : Evl.Ex H0 H
  fp : H0 p = none
  fa : ∀ (i : Nat) (a : Addr), as[i]? = some a → H0 a = none
  inj : ∀ (i j : Nat) (a : Addr), as[i]? = some a → as[j]? = some a → i = j
  pn : ∀ (i : Nat) (a : Addr), as[i]? = some a → a ≠ p
  len : as.length = N.length
  hp : H p = some (.lst (as.map V.ref))
  row : ∀ (i : Nat) (a : Addr) (r : List Int), as[i]? = some a → N[i]? = some r → H a = some (.lst (r.map V.int))
section
variable {H0 H H' : Hp} {p : Addr} {as : List Addr} {N : Br.Mx} {n : Nat} {K : PySem.W.Frag} {σ : L2.St} {ta tb : TE}
theorem MatH.ext (m : MatH H0 H p as N) (e : Evl.Ex H H') : MatH H0 H' p as N := ⟨m.ex.trans e, m.fp, m.fa, m.inj, m.pn, m.len, e _ _ m.hp, fun i a r h h' => e _ _ (m.row i a r h h')⟩
theorem MatH.at (m : MatH H0 H p as N) (S : Br.Shp n N) {i : Nat} (h : i < n) : ∃ a, as[i]? = some a := ⟨_, List.getElem?_eq_getElem (by rw [m.len, S.len]; exact h)⟩
theorem MatH.ref (m : MatH H0 H p as N) {i k : Nat} {a : Addr} (ha : as[i]? = some a) (hp : σ[k]? = some (some (.ref p))) (h : Evl.Ev ta σ H (.int (i : Nat))) : Evl.Ev (tOp (rIxL K) (tVar k) ta) σ H (.ref a) :=
  Evl.ev_op (Evl.ev_var hp) h (Evl.rv_ixL (Evl.sq_of m.hp) (atI_nat (by rw [List.getElem?_map, ha]; rfl)))
theorem MatH.ent (m : MatH H0 H p as N) (S : Br.Shp n N) {i j k : Nat} (hi : i < n) (hj : j < n) (hp : σ[k]? = some (some (.ref p))) (h : Evl.Ev ta σ H (.int (i : Nat))) (h' : Evl.Ev tb σ H (.int (j : Nat))) :
    Evl.Ev (tOp (rIxL K) (tOp (rIxL K) (tVar k) ta) tb) σ H (.int (Br.E N i j)) := by
  obtain ⟨a, ha⟩ := m.at S hi
  obtain ⟨r, hr, hx⟩ := S.get hi hj
  exact Evl.ev_op (m.ref ha hp h) h' (Evl.rv_ixL (Evl.sq_of (m.row i a r ha hr)) (atI_nat (by rw [List.getElem?_map, hx]; rfl)))
theorem MatH.setc (m : MatH H0 H p as N) (S : Br.Shp n N) {i c : Nat} {a : Addr} {r : List Int} {v : Int} (ha : as[i]? = some a) (hr : N[i]? = some r) :
    MatH H0 (upd H a (.lst ((r.map V.int).set c (.int v)))) p as (Br.setB N i c v) where
  ex := Evl.Ex.mut m.ex (m.fa i a ha)
  fp := m.fp
  fa := m.fa
  inj := m.inj
  pn := m.pn
  len := by unfold Br.setB; rw [List.length_set]; exact m.len
  hp := by rw [upd_ne (fun z => m.pn i a ha z.symm)]; exact m.hp
  row := fun j b y hb hy => by
    unfold Br.setB at hy
    rw [hr, List.getElem?_set] at hy
    by_cases e : i = j
    · subst e
      rw [ha] at hb
      cases hb
      rw [if_pos rfl, if_pos (by rw [← m.len]; exact (List.getElem?_eq_some_iff.mp ha).1)] at hy
      cases hy
      rw [upd_same]
      show some (HO.lst _) = some (HO.lst ((r.set c v).map V.int))
      rw [List.map_set]
    · rw [if_neg e] at hy
      rw [upd_ne (fun z => e (m.inj i j a ha (by rw [← z]; exact hb)))]
      exact m.row j b y hb hy
theorem MatH.swap (m : MatH H0 H p as N) (S : Br.Shp n N) {k l : Nat} {a c : Addr} (hk : k < n) (hl : l < n) (hkl : k ≠ l) (ha : as[k]? = some a) (hc : as[l]? = some c) :
    MatH H0 (upd H p (.lst (((as.set k c).set l a).map V.ref))) p ((as.set k c).set l a) (Br.swapB N k l) := by
  have hlen : as.length = n := by rw [m.len, S.len]
  have get : ∀ (i : Nat) (b : Addr), ((as.set k c).set l a)[i]? = some b → (i = l ∧ b = a) ∨ (i ≠ l ∧ i = k ∧ b = c) ∨ (i ≠ l ∧ i ≠ k ∧ as[i]? = some b) := fun i b h => by
    rw [List.getElem?_set] at h
    by_cases e1 : l = i
    · rw [if_pos e1, if_pos (by rw [List.length_set, hlen]; exact hl)] at h
      cases h
      exact .inl ⟨e1.symm, rfl⟩
    · rw [if_neg e1, List.getElem?_set] at h
      by_cases e2 : k = i
      · rw [if_pos e2, if_pos (by rw [hlen]; exact hk)] at h
        cases h
        exact .inr (.inl ⟨fun z => e1 z.symm, e2.symm, rfl⟩)
      · rw [if_neg e2] at h
        exact .inr (.inr ⟨fun z => e1 z.symm, fun z => e2 z.symm, h⟩)
  have inA : ∀ (i : Nat) (b : Addr), ((as.set k c).set l a)[i]? = some b → ∃ j, as[j]? = some b ∧ (i = l → j = k) ∧ (i ≠ l → i = k → j = l) ∧ (i ≠ l → i ≠ k → j = i) := fun i b h => by
    rcases get i b h with ⟨rfl, rfl⟩ | ⟨h1, rfl, rfl⟩ | ⟨h1, h2, h3⟩
    · exact ⟨k, ha, fun _ => rfl, fun z => absurd rfl z, fun z => absurd rfl z⟩
    · exact ⟨l, hc, fun z => absurd z h1, fun _ _ => rfl, fun _ z => absurd rfl z⟩
    · exact ⟨i, h3, fun z => absurd z h1, fun _ z => absurd z h2, fun _ _ => rfl⟩
  refine ⟨Evl.Ex.mut m.ex m.fp, m.fp, fun i b h => ?_, fun i j b h h' => ?_, fun i b h => ?_, ?_, upd_same, fun i b r h hr => ?_⟩
  · obtain ⟨j, hj, _⟩ := inA i b h
    exact m.fa j b hj
  · obtain ⟨x, hx, x1, x2, x3⟩ := inA i b h
    obtain ⟨y, hy, y1, y2, y3⟩ := inA j b h'
    have e := m.inj x y b hx hy
    subst e
    by_cases i1 : i = l
    · by_cases j1 : j = l
      · omega
      · by_cases j2 : j = k
        · have := x1 i1; have := y2 j1 j2; omega
        · have := x1 i1; have := y3 j1 j2; omega
    · by_cases i2 : i = k
      · by_cases j1 : j = l
        · have := x2 i1 i2; have := y1 j1; omega
        · by_cases j2 : j = k
          · omega
          · have := x2 i1 i2; have := y3 j1 j2; omega
      · by_cases j1 : j = l
        · have := x3 i1 i2; have := y1 j1; omega
        · by_cases j2 : j = k
          · have := x3 i1 i2; have := y2 j1 j2; omega
          · have := x3 i1 i2; have := y3 j1 j2; omega
  · obtain ⟨j, hj, _⟩ := inA i b h
    exact m.pn j b hj
  · unfold Br.swapB
    rw [List.length_set, List.length_set, List.length_set, List.length_set]
    exact m.len
  · obtain ⟨j, hj, j1, j2, j3⟩ := inA i b h
    rw [upd_ne (m.pn j b hj)]
    refine m.row j b r hj ?_
    obtain ⟨x, ex, _⟩ := S.at hk
    obtain ⟨y, ey, _⟩ := S.at hl
    unfold Br.swapB at hr
    rw [ex, ey, List.getElem?_set] at hr
    by_cases i1 : l = i
    · rw [if_pos i1, if_pos (by rw [List.length_set, S.len]; exact hl)] at hr
      cases hr
      rw [j1 i1.symm]
      exact ex
    · rw [if_neg i1, List.getElem?_set] at hr
      by_cases i2 : k = i
      · rw [if_pos i2, if_pos (by rw [S.len]; exact hk)] at hr
        cases hr
        rw [j2 (fun z => i1 z.symm) i2.symm]
        exact ey
      · rw [if_neg i2] at hr
        rw [j3 (fun z => i1 z.symm) (fun z => i2 z.symm)]
        exact hr
end
theorem MatH.moved {H0 G G' : Hp} {p : Addr} {as : List Addr} {N : Br.Mx} {o : HO} (m : MatH H0 (upd G p o) p as N) (k : ∀ b u, b ≠ p → G b = some u → G' b = some u) : MatH H0 (upd G' p o) p as N where
  ex := fun b u hb => by
    have h := m.ex b u hb
    have e : b ≠ p := fun z => by rw [z, m.fp] at hb; cases hb
    rw [upd_ne e] at h ⊢
    exact k b u e h
  fp := m.fp
  fa := m.fa
  inj := m.inj
  pn := m.pn
  len := m.len
  hp := by
    have h := m.hp
    rw [upd_same] at h ⊢
    exact h
  row := fun i a r ha hr => by
    have h := m.row i a r ha hr
    rw [upd_ne (m.pn i a ha)] at h ⊢
    exact k a _ (m.pn i a ha) h
/-- rows copied into new lists of a new list -/
theorem lc_mat {K : PySem.W.Frag} {σ : L2.St} {H : Hp} {i j : Nat} {v0 : V} {N : Br.Mx} {Q : VK} (h0 : σ[i]? = some (some v0)) (hd : DD H (.list (N.map fun r => .list (iL r))) v0) (hl : N.length ≤ 1000) (hr : ∀ r ∈ N, r.length ≤ 100000) (hw : ∀ x, ((wipe σ [j]).set j (some x))[j]? = some (some x)) (hw2 : ∀ x, wipe ((wipe σ [j]).set j (some x)) [j] = wipe σ [j])
    (q : ∀ p as H', MatH H H' p as N → Q (.ref p) H') : tLc (iList K (tVar i)) (gName j) tYes (tCB (rListQ K) (tCons (tVar j) tNil)) [j] σ H Q := by
  obtain ⟨l, xs, rfl, hl0, pd⟩ := hd
  have hxl : xs.length = N.length := by rw [pd.length, List.length_map]
  refine ⟨_, h0, l, rfl, ⟨xs, sql hl0⟩, fun D hD => ?_⟩
  refine lc_list (xs := xs) (fun k H' => Evl.Ex H H' ∧ ∃ as : List Addr, as.length = k ∧ H' D = some (.lst (as.map V.ref)) ∧ (∀ (i : Nat) (a : Addr), as[i]? = some a → H a = none) ∧ (∀ (i : Nat) (a : Addr), as[i]? = some a → a ≠ D) ∧ (∀ (i j : Nat) (a : Addr), as[i]? = some a → as[j]? = some a → i = j) ∧ ∀ (i : Nat) (a : Addr) (r : List Int), as[i]? = some a → N[i]? = some r → H' a = some (.lst (r.map V.int)))
    ⟨Evl.Ex.new hD, [], rfl, upd_same, by intro i a h; simp at h, by intro i a h; simp at h, by intro i j a h; simp at h, by intro i a r h; simp at h⟩ (fun k H' _ p => sql (p.1 _ _ hl0)) (fun k x H' hx ⟨ex, as, e1, e2, e3, e4, e5, e6⟩ => ⟨hw2 x, ?_⟩) (fun H' ⟨ex, as, e1, e2, e3, e4, e5, e6⟩ => ?_)
  · unfold tYes
    dsimp only
    rw [if_pos rfl]
    obtain ⟨d, hd, dx⟩ := pd.getV hx
    rw [List.getElem?_map] at hd
    cases er : N[k]? with
    | none => rw [er] at hd; cases hd
    | some r =>
      rw [er] at hd
      cases hd
      obtain ⟨b, ys, rfl, hb, pb⟩ := dx
      have ey := pb.toI
      subst ey
      refine ⟨_, hw _, b, _, rfl, .inl (sql (ex _ _ hb)), fun a ha => ?_⟩
      have aD : a ≠ D := fun z => by rw [z, e2] at ha; cases ha
      refine ⟨as.map V.ref, by rw [upd_ne (fun z => aD z.symm)]; exact e2, Evl.sz_lt (by rw [List.length_map, e1]; have := (List.getElem?_eq_some_iff.mp hx).1; omega), Evl.Ex.mut (ex.trans (Evl.Ex.new ha)) hD, as ++ [a], by rw [List.length_append, e1]; rfl, by rw [upd_same, List.map_append]; rfl, fun i c hc => ?_, fun i c hc => ?_, fun i j c hc hc' => ?_, fun i c y hc hy => ?_⟩
      · rcases Nat.lt_or_ge i k with hi | hi
        · rw [List.getElem?_append_left (by omega)] at hc
          exact e3 i c hc
        · rw [List.getElem?_append_right (by omega)] at hc
          have : c = a := by
            cases z : i - as.length with
            | zero => rw [z] at hc; simpa using hc.symm
            | succ m => rw [z] at hc; simp at hc
          rw [this]
          exact Evl.fresh_back ex ha
      · rcases Nat.lt_or_ge i k with hi | hi
        · rw [List.getElem?_append_left (by omega)] at hc
          exact e4 i c hc
        · rw [List.getElem?_append_right (by omega)] at hc
          have : c = a := by
            cases z : i - as.length with
            | zero => rw [z] at hc; simpa using hc.symm
            | succ m => rw [z] at hc; simp at hc
          rw [this]
          exact aD
      · have one : ∀ i : Nat, (as ++ [a])[i]? = some c → (i < k ∧ as[i]? = some c) ∨ (i = k ∧ c = a) := fun i hc => by
          rcases Nat.lt_or_ge i k with hi | hi
          · rw [List.getElem?_append_left (by omega)] at hc
            exact .inl ⟨hi, hc⟩
          · rw [List.getElem?_append_right (by omega)] at hc
            cases z : i - as.length with
            | zero => rw [z] at hc; exact .inr ⟨by omega, by simpa using hc.symm⟩
            | succ m => rw [z] at hc; simp at hc
        have old : ∀ i : Nat, as[i]? = some c → i < N.length → H' c ≠ none := fun i h hi => by
          rw [e6 i c _ h (List.getElem?_eq_getElem hi)]
          exact Option.some_ne_none _
        have hkN : k < N.length := (List.getElem?_eq_some_iff.mp er).1
        rcases one i hc with ⟨h1, h2⟩ | ⟨h1, h2⟩ <;> rcases one j hc' with ⟨h3, h4⟩ | ⟨h3, h4⟩
        · exact e5 i j c h2 h4
        · exact absurd (by rw [h4]; exact ha) (old i h2 (by omega))
        · exact absurd (by rw [h2]; exact ha) (old j h4 (by omega))
        · omega
      · have hkN : k < N.length := (List.getElem?_eq_some_iff.mp er).1
        rcases Nat.lt_or_ge i k with hi | hi
        · rw [List.getElem?_append_left (by omega)] at hc
          have h1 := e6 i c y hc hy
          have ca : c ≠ a := fun z => by rw [z, ha] at h1; cases h1
          rw [upd_ne (e4 i c hc), upd_ne ca]
          exact h1
        · rw [List.getElem?_append_right (by omega)] at hc
          cases z : i - as.length with
          | zero =>
            rw [z] at hc
            have ec : c = a := by simpa using hc.symm
            have ei : i = k := by omega
            subst ei
            rw [er] at hy
            cases hy
            rw [ec, upd_ne aD, upd_same]
          | succ m => rw [z] at hc; simp at hc
  · exact q D as H' ⟨ex, hD, e3, e5, e4, by rw [e1, hxl], e2, e6⟩
theorem seq_mat {K : PySem.W.Frag} {σ : L2.St} {H : Hp} {i j k : Nat} {v0 : V} {N : Br.Mx} {u : TS} {D : Ends} (h0 : σ[i]? = some (some v0)) (hd : DD H (.list (N.map fun r => .list (iL r))) v0) (hl : N.length ≤ 1000) (hr : ∀ r ∈ N, r.length ≤ 100000) (hw : ∀ x, ((wipe σ [j]).set j (some x))[j]? = some (some x)) (hw2 : ∀ x, wipe ((wipe σ [j]).set j (some x)) [j] = wipe σ [j])
    (q : ∀ p as H', MatH H H' p as N → u D (σ.set k (some (.ref p))) H') : tSeq (tAsg (tLc (iList K (tVar i)) (gName j) tYes (tCB (rListQ K) (tCons (tVar j) tNil)) [j]) (gName k)) u D σ H :=
  lc_mat (Q := fun v H' => u D (σ.set k (some v)) H') h0 hd hl hr hw hw2 q
theorem seq_tup2 {σ : L2.St} {H : Hp} {ta : TA} {g : TG} {u : TS} {D : Ends} {x y : V} (h : Evl.EvA ta σ H [x, y]) (k : ∀ T H1, H1 T = none → Evl.Ex H H1 → g (.ref T) σ (upd H1 T (.tup [x, y])) (u D)) : tSeq (tAsg (tTup ta) g) u D σ H :=
  h H (Evl.Ex.refl _) _ fun H1 e => ⟨show 2 ≤ sizeLine by decide, fun T hT => k T H1 hT e⟩
theorem el_lcR2 {σ : L2.St} {H : Hp} {te : TE} {t : TT} {ta : TA} {j : Nat} {vs : List Nat} {lo n : Int} (f : Nat → Bool) (v : Nat → V) (h : Evl.EvA ta σ H [.int lo, .int n]) (hn : 0 ≤ lo ∧ lo ≤ n ∧ n ≤ 40000) (hw : ∀ x, wipe ((wipe σ vs).set j (some x)) vs = wipe σ vs)
    (ht : ∀ (i : Nat) H1, Evl.Ex H H1 → lo + (i : Int) < n → Evl.EvT t ((wipe σ vs).set j (some (.int (lo + (i : Int))))) H1 (f i)) (he : ∀ (i : Nat) H1, Evl.Ex H H1 → lo + (i : Int) < n → f i = true → Evl.Ev te ((wipe σ vs).set j (some (.int (lo + (i : Int))))) H1 (v i)) :
    Evl.EvL (tLc (iRng2 ta) (gName j) t te vs) σ H (Evl.given (n - lo).toNat f v) := fun H0 e Q q => h H0 e _ fun H1 e1 => ⟨lo, n, rfl, by omega, fun Dl hD =>
  lc_range (lo := lo) (n := (n - lo).toNat) (Evl.Cw H1 f v Dl) ⟨hD, Evl.Ex.new hD, upd_same⟩ (fun i H' hi p => ⟨hw _, Evl.cw_turn p (by omega) (ht i H1 (e.trans e1) (by omega)) (fun hf => he i H1 (e.trans e1) (by omega) hf)⟩) (fun H' p => q Dl H' (Evl.fresh_back e1 p.1) (e1.trans p.2.1) p.2.2)⟩
end D8
namespace K84
open PySem PySem.Spec PyProof.Rows L2 D8
variable {P : Program} {w : World} {K : PySem.W.Frag} {mg : Str → Option Value} {base : Heap}
/-! ### determinant -/
theorem Sqr.shp {b : Int} {n : Nat} {M : List (List Int)} (S : Sqr b n M) : Br.Shp n M := ⟨S.len, S.row⟩
theorem Sqr.entB {b : Nat} {n : Nat} {M : List (List Int)} (S : Sqr b n M) : ∀ i j, (Br.E M i j).natAbs ≤ b := fun i j => by
  unfold Br.E
  cases e : M[i]? with
  | none => exact Nat.zero_le _
  | some r =>
    show ((r[j]?).getD 0).natAbs ≤ b
    cases e' : r[j]? with
    | none => exact Nat.zero_le _
    | some x =>
      have := S.bd r (List.mem_of_getElem? e) x (List.mem_of_getElem? e')
      show x.natAbs ≤ b
      omega
structure DetOk (b n : Nat) (M : List (List Int)) : Prop where
  pos : 1 ≤ b
  sqr : Sqr b n M
  n30 : n ≤ 30
  bnd : Br.bnd b (n - 1) < 1073741824
def sp_determinant : Sp := SpD (fun ds => ∃ (b n : Nat) (X : List (List Int)), ds = [.list (rowsD false X)] ∧ DetOk b n X) (fun ds d => ∃ (X : List (List Int)), ds = [.list (rowsD false X)] ∧ d = .int (Br.bareM X))
theorem evI {te : TE} {σ : L2.St} {H : Hp} {v w : V} (h : Evl.Ev te σ H v) (e : v = w) : Evl.Ev te σ H w := by rw [← e]; exact h
theorem ok_determinant (M : Mod K mg) : FnOk P w K mg base CX0 2 M.f_determinant M.fd_determinant ["rows"] sp_determinant := by
  refine M.d_determinant.F.ok sc_determinant (SpD.len fun ds ⟨_, _, _, e, _⟩ => by rw [e]; rfl) (fun cdv A outer s H vs Q E hr h => ?_)
  obtain ⟨B, ds, sB, hd, ⟨b, n, X, rfl, O⟩, q⟩ := h
  obtain ⟨v0, _, rfl, dr, rfl⟩ := hd
  have S := O.sqr.shp
  have hX : X.length = n := S.len
  have R : Rct n X := O.sqr.rct (by have := O.n30; omega)
  have n30 := O.n30
  refine ⟨_, (pss_cons (ps_if (pt_cmpR op_ne (pe_call (ok_width M) (hr.mono (by decide)) (by rfl) M.d_width.g M.d_width.F.kp M.d_width.b .nil pass0 (pa_cons (pv 0) pa_nil)) (pe_callB call_len_seq (by rfl) M.m_len PySem.boot_len (pa_cons (pv 0) pa_nil)) (nomark _)) (pss_one ps_never) pss_nil)
    (pss_cons (ps_set (i := 1) sc_determinant.nd rfl (.inr rfl) (pe_lc (own := [("row", 6)]) (g := gName 6) (tt := tYes) (te := (tCB (rListQ K) (tCons (tVar 6) tNil))) rfl sc_determinant.nd (pi_list (pv 0)) (blkOk_by (own := [("row", 6)]) (N := N_determinant) (sc := defScope s_determinant) (by decide +kernel)) (fun _ _ _ _ _ => (pg_name (i := 6) sc_determinant.nd rfl (.inl rfl))) (fun _ _ _ _ _ => pts_nil) (fun _ _ _ _ _ => (pe_callTy call_list_of (by rfl) M.m_list (by decide +kernel) (pa_cons (pv 6) pa_nil)))))
    (pss_cons (ps_set (i := 2) sc_determinant.nd rfl (.inl rfl) pe_int)
    (pss_cons (ps_set (i := 3) sc_determinant.nd rfl (.inl rfl) pe_int)
    (pss_cons (ps_for PassesOwn.never rfl (pi_range1 (by rfl) M.m_range (pa_cons (pe_callB call_len_seq (by rfl) M.m_len PySem.boot_len (pa_cons (pv 1) pa_nil)) pa_nil)) (pg_name (i := 4) sc_determinant.nd rfl (.inr rfl))
    (pss_cons (ps_setLc (i := 5) (own := [("row", 6)]) (g := gName 6) (tt := (tTest (tOp rNe (tOp (rIxL K) (tOp (rIxL K) (tVar 1) (tVar 6)) (tVar 4)) (tC (.int 0))))) (te := (tVar 6)) rfl sc_determinant.nd rfl rfl (sw_true rfl rfl rfl (by decide +kernel)) (pi_range2 (by rfl) M.m_range (pa_cons (pv 4) (pa_cons (pe_callB call_len_seq (by rfl) M.m_len PySem.boot_len (pa_cons (pv 1) pa_nil)) pa_nil))) (blkOk_by (own := [("row", 6)]) (N := N_determinant) (sc := defScope s_determinant) (by decide +kernel)) (fun _ _ _ _ _ => (pg_name (i := 6) sc_determinant.nd rfl (.inl rfl))) (fun _ _ _ _ _ => pts_one (pt_cmpR op_ne (pe_ix ix_list (pe_ix ix_list (pv 1) (pv 6) (fun _ _ => rfl)) (pv 4) (fun _ _ => rfl)) pe_int (nomark _))) (fun _ _ _ _ _ => (pv 6)))
    (pss_cons (ps_if (pt_not (pt_truth (pv 5) (by intro _; rfl))) (pss_one (ps_ret pe_int)) pss_nil)
    (pss_cons (ps_if (pt_cmpR op_ne (pe_ix ix_list (pv 5) pe_int (fun _ _ => rfl)) (pv 4) (nomark _)) (pss_cons (ps_asg (pe_tup (pa_cons (pe_ix ix_list (pv 1) (pe_ix ix_list (pv 5) pe_int (fun _ _ => rfl)) (fun _ _ => rfl)) (pa_cons (pe_ix ix_list (pv 1) (pv 4) (fun _ _ => rfl)) pa_nil))) (pg_tup rfl (pgs_cons (pg_sub (pv 1) (pv 4) set_list) (pgs_cons (pg_sub (pv 1) (pe_ix ix_list (pv 5) pe_int (fun _ _ => rfl)) set_list) pgs_nil))))
    (pss_one (ps_set (i := 2) sc_determinant.nd rfl (.inl rfl) (pe_un un_neg (pv 2))))) pss_nil)
    (pss_cons (ps_for PassesOwn.never rfl (pi_range2 (by rfl) M.m_range (pa_cons (pe_op op_add (pv 4) pe_int) (pa_cons (pe_callB call_len_seq (by rfl) M.m_len PySem.boot_len (pa_cons (pv 1) pa_nil)) pa_nil))) (pg_name (i := 6) sc_determinant.nd rfl (.inl rfl))
    (pss_one (ps_for PassesOwn.never rfl (pi_range2 (by rfl) M.m_range (pa_cons (pe_op op_add (pv 4) pe_int) (pa_cons (pe_callB call_len_seq (by rfl) M.m_len PySem.boot_len (pa_cons (pv 1) pa_nil)) pa_nil))) (pg_name (i := 7) sc_determinant.nd rfl (.inl rfl))
    (pss_cons (ps_set (i := 8) sc_determinant.nd rfl (.inl rfl) (pe_op op_sub (pe_op op_mul (pe_ix ix_list (pe_ix ix_list (pv 1) (pv 6) (fun _ _ => rfl)) (pv 7) (fun _ _ => rfl)) (pe_ix ix_list (pe_ix ix_list (pv 1) (pv 4) (fun _ _ => rfl)) (pv 4) (fun _ _ => rfl))) (pe_op op_mul (pe_ix ix_list (pe_ix ix_list (pv 1) (pv 6) (fun _ _ => rfl)) (pv 4) (fun _ _ => rfl)) (pe_ix ix_list (pe_ix ix_list (pv 1) (pv 4) (fun _ _ => rfl)) (pv 7) (fun _ _ => rfl)))))
    (pss_one (ps_asg (pe_op op_fdivN (pv 8) (pv 3)) (pg_sub (pe_ix ix_list (pv 1) (pv 6) (fun _ _ => rfl)) (pv 7) set_list)))))))
    (pss_one (ps_set (i := 3) sc_determinant.nd rfl (.inl rfl) (pe_ix ix_list (pe_ix ix_list (pv 1) (pv 4) (fun _ _ => rfl)) (pv 4) (fun _ _ => rfl)))))))))
    (pss_one (ps_ret (pe_op op_mul (pv 2) (pv 3))))))))), ?_⟩
  have hcall : EvD (tCall sp_width [] E0 (tCons (tVar 0) tNil)) (start N_determinant [v0]) B (.int (widM X : Nat)) :=
    evd_call (ds := [.list (rowsD false X)]) (eva_cons (evd_var (i := 0) rfl dr) eva_nil) ⟨n, X, rfl, R⟩ (fun d ⟨X', e, h⟩ => by rw [h, rowsF_inj (PyData.list.inj (List.cons.inj e).1)])
  have hlen := evd_lenL (K := K) (evd_var (B := B) (σ := start N_determinant [v0]) (i := 0) rfl dr)
  rw [List.length_map] at hlen
  have ew : widM X = X.length := by
    cases X with
    | nil => rfl
    | cons x X => rw [widM_eq R (List.cons_ne_nil _ _), hX]
  have ht := evd_neI hcall hlen
  rw [ew, decide_eq_true rfl] at ht
  refine seq_if (b := false) (evt_test ht) sB fun B1 H1 g1 => (if_neg (by decide)).mpr ?_
  -- work
  have dr1 : DD H1 (.list (X.map fun r => .list (iL r))) v0 := (dr.mono g1.b).mono g1.i
  refine seq_mat (K := K) (σ := start N_determinant [v0]) (i := 0) (j := 6) (k := 1) rfl dr1 (by omega) (fun r hr => by rw [O.sqr.row r hr]; omega) (fun _ => rfl) (fun _ => rfl) fun p as H2 m0 => ?_
  refine Evl.q_asg (v := .int 1) Evl.ev_c fun H3 e3 => ?_
  refine Evl.q_asg (v := .int 1) Evl.ev_c fun H4 e4 => ?_
  have m1 := (m0.ext e3).ext e4
  have hlw : Evl.EvA (tCons (tCB (rLenQ K) (tCons (tVar 1) tNil)) tNil) [some v0, some (.ref p), some (.int 1), some (.int 1), none, none, none, none, none] H4 [.int (n : Nat)] := by
    have h := Evl.ev_len (K := K) (σ := [some v0, some (.ref p), some (.int 1), some (.int 1), none, none, none, none, none]) (ta := tVar 1) (Evl.ev_var rfl) (Evl.sq_of m1.hp)
    rw [List.length_map, m1.len, hX] at h
    exact Evl.ea_cons h Evl.ea_nil
  refine Evl.q_forR1 (n := (n : Nat)) hlw (by omega) (fun k σ H' => ∃ (N : Br.Mx) (s b : Int) (as : List Addr) (x4 x5 x6 x7 x8 : Option V), Br.barB n X k = some (N, s, b) ∧ σ = [some v0, some (.ref p), some (.int s), some (.int b), x4, x5, x6, x7, x8] ∧ MatH H1 H' p as N)
    (fun H5 e5 => ⟨X, 1, 1, as, none, none, none, none, none, rfl, rfl, m1.ext e5⟩) ?_ ?_
  · rintro k σ H5 hk ⟨N, s, bf, as, x4, x5, x6, x7, x8, eb, rfl, m⟩
    have hk : k < n := by omega
    obtain ⟨D, hs⟩ := Br.barB_bd S O.sqr.entB O.pos k N s bf (by omega) eb
    have hbn : Br.bnd b k < 1073741824 := Nat.lt_of_le_of_lt (Br.bnd_mono O.pos (by omega)) O.bnd
    have SN := D.shp
    have hlenW : ∀ (σ : L2.St) (H' : Hp) (N' : Br.Mx) (as' : List Addr), σ[1]? = some (some (.ref p)) → MatH H1 H' p as' N' → Br.Shp n N' → Evl.Ev (tCB (rLenQ K) (tCons (tVar 1) tNil)) σ H' (.int (n : Nat)) := fun σ H' N' as' h1 m' S' => by
      have h := Evl.ev_len (K := K) (ta := tVar 1) (Evl.ev_var h1) (Evl.sq_of m'.hp)
      rw [List.length_map, m'.len, S'.len] at h
      exact h
    -- found
    have hcomp := el_lcR2 (σ := [some v0, some (.ref p), some (.int s), some (.int bf), some (.int (k : Nat)), x5, x6, x7, x8]) (H := H5) (te := tVar 6) (t := tTest (tOp rNe (tOp (rIxL K) (tOp (rIxL K) (tVar 1) (tVar 6)) (tVar 4)) (tC (.int 0)))) (j := 6) (vs := [6]) (lo := (k : Nat)) (n := (n : Nat)) (fun i => !decide (Br.E N (k + i) k = 0)) (fun i => .int ((k : Nat) + (i : Nat)))
      (Evl.ea_cons (Evl.ev_var (i := 4) rfl) (Evl.ea_cons (hlenW _ _ _ _ rfl m SN) Evl.ea_nil)) (by omega) (fun _ => rfl)
      (fun i H' e hi => by
        have hi : k + i < n := by omega
        rw [show ((k : Nat) : Int) + (i : Nat) = ((k + i : Nat) : Int) by omega]
        refine Evl.et_test (evI (Evl.ev_op ((m.ext e).ent SN hi hk (k := 1) rfl (Evl.ev_var (i := 6) rfl) (Evl.ev_var (i := 4) rfl)) Evl.ev_c (Evl.rv_ne rfl)) (by congr 1; simp)))
      (fun i H' e hi _ => Evl.ev_var (i := 6) rfl)
    refine Evl.q_asgL hcomp fun f H6 hf e6 hfl => ?_
    · have m6 := m.ext e6
      have efl : Evl.given ((n : Nat) - (k : Nat) : Int).toNat (fun i => !decide (Br.E N (k + i) k = 0)) (fun i => V.int ((k : Nat) + (i : Nat))) = (Br.pivs n k N).map fun i => V.int ((k : Nat) + (i : Nat)) := by
        unfold Evl.given Br.pivs
        rw [show ((n : Nat) - (k : Nat) : Int).toNat = n - k by omega]
      rw [efl] at hfl
      have htest : Evl.EvT (tNot (fun σ H Q => tVar 5 σ H fun x H' => ∃ b, TruV K x H' b ∧ Q b H')) [some v0, some (.ref p), some (.int s), some (.int bf), some (.int (k : Nat)), some (.ref f), x6, x7, x8] H6 (!(!(Br.pivs n k N).isEmpty)) :=
        Evl.et_not fun H' e Q q => ⟨.ref f, rfl, _, .inl ⟨_, sql (e _ _ hfl), by rw [List.isEmpty_map]⟩, q H' (Evl.Ex.refl H')⟩
      refine Evl.q_when htest (fun hb H7 e7 => ?_) (fun hb H7 e7 => ?_)
      · -- no pivot: 0
        have hp : Br.pivs n k N = [] := by simpa using hb
        have e0 : Br.barB n X (k + 1) = none := by
          show (match Br.barB n X k with | none => none | some (N, s, b) => _) = none
          rw [eb]
          show (match Br.pivs n k N with | [] => none | i :: _ => _) = none
          rw [hp]
        have e1 : Br.bareM X = 0 := by
          unfold Br.bareM
          have h := Br.barB_none e0 (n - (k + 1))
          rw [show k + 1 + (n - (k + 1)) = n by omega] at h
          rw [hX, h]
        refine Evl.s_ret (v := .int 0) Evl.ev_c fun H8 e8 => ?_
        exact q (.int 0) _ B H8 ⟨X, rfl, by rw [e1]⟩ ⟨Same.refl _, g1.h.trans (m6.ex.trans (e7.trans e8)), sB.trans (g1.h.trans (m6.ex.trans (e7.trans e8))), fun _ _ => rfl⟩ rfl
      · obtain ⟨i, rest, hp⟩ : ∃ i rest, Br.pivs n k N = i :: rest := by
          cases z : Br.pivs n k N with
          | nil => rw [z] at hb; simp at hb
          | cons i rest => exact ⟨i, rest, rfl⟩
        obtain ⟨hi, hne⟩ := Br.piv_head hp
        obtain ⟨D1, hz⟩ := D.piv hp
        have e1 : Br.barB n X (k + 1) = some (Br.rowsB n k bf (if i = 0 then N else Br.swapB N k (k + i)) (n - (k + 1)), if i = 0 then s else -s, Br.E (Br.rowsB n k bf (if i = 0 then N else Br.swapB N k (k + i)) (n - (k + 1))) k k) := by
          show (match Br.barB n X k with | none => none | some (N, s, b) => _) = _
          rw [eb]
          show (match Br.pivs n k N with | [] => none | i :: _ => _) = _
          rw [hp]
        have m7 := m6.ext e7
        have hfl7 : H7 f = some (.lst ((Br.pivs n k N).map fun i => V.int ((k : Nat) + (i : Nat)))) := e7 _ _ hfl
        rw [hp, List.map_cons] at hfl7
        have hf0 : ∀ (σ : L2.St) (H' : Hp), σ[5]? = some (some (.ref f)) → H' f = some (.lst (V.int ((k : Nat) + (i : Nat)) :: rest.map fun i => V.int ((k : Nat) + (i : Nat)))) → Evl.Ev (tOp (rIxL K) (tVar 5) (tC (.int 0))) σ H' (.int ((k + i : Nat) : Int)) := fun σ H' h1 h2 =>
          evI (Evl.ev_op (Evl.ev_var h1) Evl.ev_c (Evl.rv_ixL (Evl.sq_of h2) (atI_nat (j := 0) rfl))) (by congr 1)
        -- the rest of the turn, whatever the swap
        have rest' : ∀ (as' : List Addr) (s' : Int) (H8 : Hp), MatH H1 H8 p as' (if i = 0 then N else Br.swapB N k (k + i)) → s' = (if i = 0 then s else -s) →
            tSeq (tFor (iRng2 (tCons (tOp (rI0 fun i j => .int (i + j)) (tVar 4) (tC (.int 1))) (tCons (tCB (rLenQ K) (tCons (tVar 1) tNil)) tNil))) (gName 6)
              (tFor (iRng2 (tCons (tOp (rI0 fun i j => .int (i + j)) (tVar 4) (tC (.int 1))) (tCons (tCB (rLenQ K) (tCons (tVar 1) tNil)) tNil))) (gName 7)
                (tSeq (tAsg (tOp (rI0 fun i j => .int (i - j)) (tOp (rI CMul fun i j => .int (i * j)) (tOp (rIxL K) (tOp (rIxL K) (tVar 1) (tVar 6)) (tVar 7)) (tOp (rIxL K) (tOp (rIxL K) (tVar 1) (tVar 4)) (tVar 4))) (tOp (rI CMul fun i j => .int (i * j)) (tOp (rIxL K) (tOp (rIxL K) (tVar 1) (tVar 6)) (tVar 4)) (tOp (rIxL K) (tOp (rIxL K) (tVar 1) (tVar 4)) (tVar 7)))) (gName 8))
                  (tAsg (tOp (rI CDivN fun i j => .int (i.fdiv j)) (tVar 8) (tVar 3)) (gSub (tOp (rIxL K) (tVar 1) (tVar 6)) (tVar 7) rSetL)))))
              (tAsg (tOp (rIxL K) (tOp (rIxL K) (tVar 1) (tVar 4)) (tVar 4)) (gName 3))
              { nx := fun σ H' => ∃ (N : Br.Mx) (s b : Int) (as : List Addr) (x4 x5 x6 x7 x8 : Option V), Br.barB n X (k + 1) = some (N, s, b) ∧ σ = [some v0, some (.ref p), some (.int s), some (.int b), x4, x5, x6, x7, x8] ∧ MatH H1 H' p as N,
                ct := fun σ H' => ∃ (N : Br.Mx) (s b : Int) (as : List Addr) (x4 x5 x6 x7 x8 : Option V), Br.barB n X (k + 1) = some (N, s, b) ∧ σ = [some v0, some (.ref p), some (.int s), some (.int b), x4, x5, x6, x7, x8] ∧ MatH H1 H' p as N,
                bk := (tRet (tOp (rI CMul fun i j => .int (i * j)) (tVar 2) (tVar 3))) { nx := fun _ H' => Q .non H', rt := Q }, rt := Q }
              [some v0, some (.ref p), some (.int s'), some (.int bf), some (.int (k : Nat)), some (.ref f), x6, x7, x8] H8 := by
          intro as' s' H8 m8 es
          generalize hN1 : (if i = 0 then N else Br.swapB N k (k + i)) = N1 at *
          have S1 := D1.shp
          have hz1 := hz
          have hb9 : bf.natAbs < 1073741824 := Nat.lt_of_le_of_lt D1.low hbn
          have sm : ∀ i j, -(2 ^ 64) < Br.E N1 i j ∧ Br.E N1 i j < 2 ^ 64 := fun i j => by
            have := D1.ent i j
            omega
          have hA : ∀ (σ : L2.St) (H' : Hp) (N' : Br.Mx) (as' : List Addr), σ[1]? = some (some (.ref p)) → σ[4]? = some (some (.int (k : Nat))) → MatH H1 H' p as' N' → Br.Shp n N' → Evl.EvA (tCons (tOp (rI0 fun i j => .int (i + j)) (tVar 4) (tC (.int 1))) (tCons (tCB (rLenQ K) (tCons (tVar 1) tNil)) tNil)) σ H' [.int (((k + 1 : Nat) : Int)), .int (n : Nat)] := fun σ H' N' as' h1 h4 m' S' =>
            Evl.ea_cons (evI (Evl.ev_op (Evl.ev_var h4) Evl.ev_c Evl.rv_I0) (by congr 1)) (Evl.ea_cons (hlenW σ H' N' as' h1 m' S') Evl.ea_nil)
          refine Evl.q_forR2 (lo := ((k + 1 : Nat) : Int)) (n := (n : Nat)) (hA _ _ _ _ rfl rfl m8 S1) (by omega) (fun j σ H' => ∃ (x6 x7 x8 : Option V), σ = [some v0, some (.ref p), some (.int s'), some (.int bf), some (.int (k : Nat)), some (.ref f), x6, x7, x8] ∧ MatH H1 H' p as' (Br.rowsB n k bf N1 j))
            (fun H9 e9 => ⟨_, _, _, rfl, m8.ext e9⟩) ?_ ?_
          · rintro j σ H9 hj ⟨x6, x7, x8, rfl, m9⟩
            have hj : k + 1 + j < n := by omega
            rw [show ((k + 1 : Nat) : Int) + (j : Nat) = ((k + 1 + j : Nat) : Int) by omega]
            have SR : Br.Shp n (Br.rowsB n k bf N1 j) := Br.rows_shp S1 j (by omega)
            obtain ⟨ar, har⟩ := m9.at SR hj
            refine Evl.s_forR2 (lo := ((k + 1 : Nat) : Int)) (n := (n : Nat)) (hA _ _ _ _ rfl rfl m9 SR) (by omega) (fun l σ H' => ∃ (x7 x8 : Option V), σ = [some v0, some (.ref p), some (.int s'), some (.int bf), some (.int (k : Nat)), some (.ref f), some (.int (k + 1 + j : Nat)), x7, x8] ∧ MatH H1 H' p as' (Br.colsB k bf (Br.rowsB n k bf N1 j) (k + 1 + j) l))
              (fun H10 e10 => ⟨_, _, rfl, m9.ext e10⟩) ?_ ?_
            · rintro l σ H10 hl ⟨x7, x8, rfl, m10⟩
              have hl : k + 1 + l < n := by omega
              rw [show ((k + 1 : Nat) : Int) + (l : Nat) = ((k + 1 + l : Nat) : Int) by omega]
              have SC : Br.Shp n (Br.colsB k bf (Br.rowsB n k bf N1 j) (k + 1 + j) l) := Br.cols_shp SR hj l
              have hE : ∀ i c, c = k ∨ i = k ∨ (i = k + 1 + j ∧ c = k + 1 + l) → Br.E (Br.colsB k bf (Br.rowsB n k bf N1 j) (k + 1 + j) l) i c = Br.E N1 i c := fun i c hc => by
                rw [Br.E_cols SR hj (by omega) i c l (by omega), if_neg (by omega), Br.E_rows S1 i c j (by omega), if_neg (by omega)]
              have smc : ∀ i c, c = k ∨ i = k ∨ (i = k + 1 + j ∧ c = k + 1 + l) → -(2 ^ 64) < Br.E (Br.colsB k bf (Br.rowsB n k bf N1 j) (k + 1 + j) l) i c ∧ Br.E (Br.colsB k bf (Br.rowsB n k bf N1 j) (k + 1 + j) l) i c < 2 ^ 64 := fun i c hc => by
                rw [hE i c hc]
                exact sm i c
              have rd : ∀ (σ : L2.St) (i j' : Nat) (ta tb : TE), σ[1]? = some (some (.ref p)) → i < n → j' < n → Evl.Ev ta σ H10 (.int (i : Nat)) → Evl.Ev tb σ H10 (.int (j' : Nat)) → Evl.Ev (tOp (rIxL K) (tOp (rIxL K) (tVar 1) ta) tb) σ H10 (.int (Br.E (Br.colsB k bf (Br.rowsB n k bf N1 j) (k + 1 + j) l) i j')) :=
                fun σ i j' ta tb h1 h2 h3 h4 h5 => m10.ent SC h2 h3 h1 h4 h5
              generalize hNC : Br.colsB k bf (Br.rowsB n k bf N1 j) (k + 1 + j) l = NC at *
              refine Evl.q_asg (v := .int (Br.E NC (k + 1 + j) (k + 1 + l) * Br.E NC k k - Br.E NC (k + 1 + j) k * Br.E NC k (k + 1 + l)))
                (Evl.ev_op (Evl.ev_op (rd _ _ _ _ _ rfl hj hl (Evl.ev_var rfl) (Evl.ev_var rfl)) (rd _ _ _ _ _ rfl hk hk (Evl.ev_var rfl) (Evl.ev_var rfl)) (Evl.rv_I (.inr (smc k k (.inl rfl)))))
                  (Evl.ev_op (rd _ _ _ _ _ rfl hj hk (Evl.ev_var rfl) (Evl.ev_var rfl)) (rd _ _ _ _ _ rfl hk hl (Evl.ev_var rfl) (Evl.ev_var rfl)) (Evl.rv_I (.inl (smc _ k (.inl rfl))))) Evl.rv_I0) fun H11 e11 => ?_
              obtain ⟨r, hr, hrl⟩ := SC.at hj
              have m11 := m10.ext e11
              refine Evl.s_setL (l := ar) (xs := r.map V.int) (j := k + 1 + l) (v := .int (Br.cellB k bf NC (k + 1 + j) (k + 1 + l))) (m11.row _ _ _ har hr) (Evl.ev_op (Evl.ev_var rfl) (Evl.ev_var rfl) (Evl.rv_I ⟨D1.nz, hb9⟩)) (m11.ref har rfl (Evl.ev_var rfl)) (Evl.ev_var rfl) (by rw [List.length_map, hrl]; exact hl) fun H12 e12 => ?_
              refine ⟨_, _, rfl, ?_⟩
              show MatH H1 _ p as' (Br.setB (Br.colsB k bf (Br.rowsB n k bf N1 j) (k + 1 + j) l) (k + 1 + j) (k + 1 + l) (Br.cellB k bf (Br.colsB k bf (Br.rowsB n k bf N1 j) (k + 1 + j) l) (k + 1 + j) (k + 1 + l)))
              rw [hNC]
              exact (m11.ext e12).setc SC har hr
            · rintro σ H10 ⟨x7, x8, rfl, m10⟩
              refine ⟨_, _, _, rfl, ?_⟩
              rw [show ((n : Nat) - ((k + 1 : Nat) : Int)).toNat = n - (k + 1) by omega] at m10
              exact m10
          · rintro σ H9 ⟨x6, x7, x8, rfl, m9⟩
            rw [show ((n : Nat) - ((k + 1 : Nat) : Int)).toNat = n - (k + 1) by omega] at m9
            refine Evl.s_asg (v := .int (Br.E (Br.rowsB n k bf N1 (n - (k + 1))) k k)) (m9.ent (Br.rows_shp S1 _ (by omega)) hk hk rfl (Evl.ev_var rfl) (Evl.ev_var rfl)) fun H10 e10 => ?_
            exact ⟨_, s', _, as', _, _, _, _, _, by rw [es]; exact e1, rfl, m9.ext e10⟩
        have hcmp : Evl.EvT (tTest (tOp rNe (tOp (rIxL K) (tVar 5) (tC (.int 0))) (tVar 4))) [some v0, some (.ref p), some (.int s), some (.int bf), some (.int (k : Nat)), some (.ref f), x6, x7, x8] H7 (!decide (i = 0)) :=
          Evl.et_test (evI (Evl.ev_op (hf0 _ _ rfl hfl7) (Evl.ev_var (i := 4) rfl) (Evl.rv_ne rfl)) (by
            have e : (V.int ((k + i : Nat) : Int) = V.int ((k : Nat) : Int)) ↔ i = 0 := ⟨fun z => by
              have := V.int.inj z
              omega, fun z => by rw [z]; rfl⟩
            congr 2
            exact decide_eq_decide.mpr e))
        refine Evl.q_when hcmp (fun hb H8 e8 => ?_) (fun hb H8 e8 => ?_)
        · have hi0 : i ≠ 0 := by simpa using hb
          have m8 := m7.ext e8
          have hki : k + i < n := by omega
          obtain ⟨a1, ha1⟩ := m8.at SN hk
          obtain ⟨a2, ha2⟩ := m8.at SN hki
          have fne : f ≠ p := fun z => by rw [z] at hf; rw [m.hp] at hf; cases hf
          have hfl8 := e8 _ _ hfl7
          have hev : Evl.EvA (tCons (tOp (rIxL K) (tVar 1) (tOp (rIxL K) (tVar 5) (tC (.int 0)))) (tCons (tOp (rIxL K) (tVar 1) (tVar 4)) tNil)) [some v0, some (.ref p), some (.int s), some (.int bf), some (.int (k : Nat)), some (.ref f), x6, x7, x8] H8 [.ref a2, .ref a1] :=
            Evl.ea_cons (m8.ref (K := K) ha2 (k := 1) rfl (hf0 _ _ rfl hfl8)) (Evl.ea_cons (m8.ref (K := K) ha1 (k := 1) rfl (Evl.ev_var (i := 4) rfl)) Evl.ea_nil)
          refine seq_tup2 hev fun T H9 hT e9 => ?_
          have m9 := (m8.ext e9).ext (Evl.Ex.new (o := .tup [.ref a2, .ref a1]) hT)
          have hfl9 : (upd H9 T (.tup [.ref a2, .ref a1])) f = _ := (Evl.Ex.new (o := .tup [.ref a2, .ref a1]) hT) _ _ (e9 _ _ hfl8)
          have hl9 : (as.map V.ref).length = n := by rw [List.length_map, m.len, SN.len]
          refine ⟨T, [.ref a2, .ref a1], rfl, sqt upd_same, rfl, .ref a2, [.ref a1], rfl, ?_⟩
          refine ⟨.ref p, rfl, .int (k : Nat), rfl, p, _, _, k, rfl, rfl, m9.hp, Evl.ixN_nat (by rw [hl9]; exact hk), ?_⟩
          refine ⟨.ref a1, [], rfl, ?_⟩
          refine ⟨.ref p, rfl, ?_⟩
          refine hf0 _ _ rfl (by rw [upd_ne fne]; exact hfl9) _ (Evl.Ex.refl _) _ fun H10 e10 => ?_
          refine ⟨p, _, _, k + i, rfl, rfl, e10 _ _ upd_same, Evl.ixN_nat (by rw [List.length_set, hl9]; exact hki), rfl, ?_⟩
          have m10 : MatH H1 (upd H10 p (.lst (((as.map V.ref).set k (.ref a2)).set (k + i) (.ref a1)))) p ((as.set k a2).set (k + i) a1) (Br.swapB N k (k + i)) := by
            have h := m9.swap SN hk hki (by omega) ha1 ha2
            rw [List.map_set, List.map_set] at h
            exact h.moved fun b u hb hu => e10 _ _ (by rw [upd_ne hb]; exact hu)
          refine Evl.s_asg (v := .int (-s)) (Evl.ev_un (Evl.ev_var rfl) Evl.ru_neg) fun H11 e11 => ?_
          have m11 : MatH H1 H11 p ((as.set k a2).set (k + i) a1) (if i = 0 then N else Br.swapB N k (k + i)) := by
            rw [if_neg hi0]
            exact m10.ext e11
          exact rest' _ (-s) H11 m11 (by rw [if_neg hi0])
        · have hi0 : i = 0 := by simpa using hb
          have m8 : MatH H1 H8 p as (if i = 0 then N else Br.swapB N k (k + i)) := by
            rw [if_pos hi0]
            exact m7.ext e8
          exact rest' as s H8 m8 (by rw [if_pos hi0])
  · rintro σ H5 ⟨N, s, bf, as, x4, x5, x6, x7, x8, eb, rfl, m⟩
    rw [Int.toNat_natCast] at eb
    obtain ⟨D, hs⟩ := Br.barB_bd S O.sqr.entB O.pos n N s bf (Nat.le_refl _) eb
    have ed : Br.bareM X = s * bf := by
      unfold Br.bareM
      rw [hX, eb]
    refine Evl.s_ret (v := .int (s * bf)) (Evl.ev_op (Evl.ev_var rfl) (Evl.ev_var rfl) (Evl.rv_I (.inl (by rcases hs with rfl | rfl <;> decide)))) fun H8 e8 => ?_
    exact q (.int (s * bf)) _ B H8 ⟨X, rfl, by rw [ed]⟩ ⟨Same.refl _, g1.h.trans (m.ex.trans e8), sB.trans (g1.h.trans (m.ex.trans e8)), fun _ _ => rfl⟩ rfl
end K84

set_option maxHeartbeats 4000000
namespace D8
open PySem PySem.Spec PyProof.Rows L2
section
variable {σ : L2.St} {B H : Hp} {ta tb : TE} {d : PyData}
theorem evd_gcd {i j : Int} (ha : EvD ta σ B (.int i)) (hb : EvD tb σ B (.int j)) : EvD (tCB rGcd (tCons ta (tCons tb tNil))) σ B (.int (Nat.gcd i.natAbs j.natAbs : Nat)) :=
  evd_cb (eva_cons ha (eva_cons hb eva_nil)) fun vs B' s dv H t Q q => by
    obtain ⟨_, _, rfl, rfl, _, _, rfl, rfl, rfl⟩ := dv
    exact ⟨i, j, rfl, q _ _ _ (Grow.refl t) rfl⟩
end
end D8
namespace K84
open PySem PySem.Spec PyProof.Rows L2 D8
variable {P : Program} {w : World} {K : PySem.W.Frag} {mg : Str → Option Value} {base : Heap}
/-! ### fraction -/
def gcS (a b : Int) : Int := if b < 0 then -((Nat.gcd a.natAbs b.natAbs : Nat) : Int) else (Nat.gcd a.natAbs b.natAbs : Nat)
def fraD (a b : Int) : PyData := .tuple [.int (a.fdiv (gcS a b)), .int (b.fdiv (gcS a b))]
theorem gcS_ok {a b : Int} (h : b ≠ 0) : gcS a b ≠ 0 ∧ (gcS a b).natAbs ≤ b.natAbs := by
  have h1 : 0 < b.natAbs := by omega
  have h2 : 0 < Nat.gcd a.natAbs b.natAbs := Nat.gcd_pos_of_pos_right _ h1
  have h3 := Nat.gcd_le_right a.natAbs h1
  unfold gcS
  split <;> omega
def sp_fraction : Sp := SpD (fun ds => ∃ a b : Int, ds = [.int a, .int b] ∧ b ≠ 0 ∧ b.natAbs < 1073741824) (fun ds d => ∃ a b : Int, ds = [.int a, .int b] ∧ d = fraD a b)
theorem ok_fraction (M : Mod K mg) : FnOk P w K mg base CX0 1 M.f_fraction M.fd_fraction ["above", "below"] sp_fraction := by
  refine M.d_fraction.F.ok sc_fraction (SpD.len fun ds ⟨_, _, e, _⟩ => by rw [e]; rfl) (fun cdv A outer s H vs Q E hr h => ?_)
  obtain ⟨B, ds, sB, hd, ⟨a, b, rfl, hb0, hb⟩, q⟩ := h
  obtain ⟨_, _, rfl, rfl, _, _, rfl, rfl, rfl⟩ := hd
  obtain ⟨hg0, hg1⟩ := gcS_ok (a := a) hb0
  refine ⟨_, (pss_cons (ps_set (i := 2) sc_fraction.nd rfl (.inl rfl) (pe_callBfun cr_gcd (by rfl) M.m_gcd (pa_cons (pv 0) (pa_cons (pv 1) pa_nil))))
    (pss_cons (ps_if (pt_cmpR op_lt (pv 1) pe_int (nomark _)) (pss_one (ps_set (i := 2) sc_fraction.nd rfl (.inl rfl) (pe_un un_neg (pv 2)))) pss_nil)
    (pss_one (ps_ret (pe_tup (pa_cons (pe_op op_fdivN (pv 0) (pv 2)) (pa_cons (pe_op op_fdivN (pv 1) (pv 2)) pa_nil))))))), ?_⟩
  refine seq_set (evd_gcd (evd_var (i := 0) (d := .int a) rfl rfl) (evd_var (i := 1) (d := .int b) rfl rfl)) sB fun v2 B1 H1 g1 d1 => ?_
  cases d1
  refine seq_if (b := decide (b < 0)) (evt_test (evd_lt (evd_var (i := 1) rfl rfl) evd_int)) g1.i fun B2 H2 g2 => ?_
  have fin : ∀ B3 H3, Grow B H B3 H3 → tRet (tTup (tCons (tOp (rI CDivN fun i j => .int (i.fdiv j)) (tVar 0) (tVar 2)) (tCons (tOp (rI CDivN fun i j => .int (i.fdiv j)) (tVar 1) (tVar 2)) tNil)))
      { nx := fun _ H' => Q .non H', rt := Q } [some (.int a), some (.int b), some (.int (gcS a b))] H3 := fun B3 H3 g3 =>
    ret_D (d := fraD a b) (evd_tup (eva_cons (evd_fdivN (evd_var (i := 0) rfl rfl) (evd_var (i := 2) rfl rfl) hg0 (by omega)) (eva_cons (evd_fdivN (evd_var (i := 1) rfl rfl) (evd_var (i := 2) rfl rfl) hg0 (by omega)) eva_nil)) (show 2 ≤ sizeLine by decide)) g3.i
      fun v B' H' g e => q _ v B' H' ⟨a, b, rfl, rfl⟩ (g3.trans g) e
  refine ite2 (fun hneg => ?_) (fun hpos => ?_)
  · have hneg := of_decide_eq_true hneg
    refine one_set (d := .int (gcS a b)) (by
      have h := evd_neg (evd_var (B := B2) (σ := [some (.int a), some (.int b), some (.int ((Nat.gcd a.natAbs b.natAbs : Nat) : Int))]) (i := 2) (d := .int ((Nat.gcd a.natAbs b.natAbs : Nat) : Int)) rfl rfl)
      unfold gcS
      rw [if_pos hneg]
      exact h) g2.i fun v B3 H3 g3 d3 => ?_
    cases d3
    exact fin B3 H3 ((g1.trans g2).trans g3)
  · have hpos : ¬ b < 0 := fun z => hpos (decide_eq_true z)
    have h := fin B2 H2 (g1.trans g2)
    have e : gcS a b = ((Nat.gcd a.natAbs b.natAbs : Nat) : Int) := by unfold gcS; rw [if_neg hpos]
    rw [e] at h
    exact h
/-! ### solved -/
def chgM (X : List (List Int)) (ns : List Int) (k : Nat) : List (List Int) := List.zipWith (fun r v => r.set k v) X ns
def solM (X : List (List Int)) (ns : List Int) : List PyData := (List.range X.length).map fun k => fraD (Br.bareM (chgM X ns k)) (Br.bareM X)
theorem chgM_sqr {b : Int} {n : Nat} {X : List (List Int)} (S : Sqr b n X) {ns : List Int} (hl : ns.length = n) (hb : ∀ x ∈ ns, -b ≤ x ∧ x ≤ b) (k : Nat) : Sqr b n (chgM X ns k) := by
  have get : ∀ r ∈ chgM X ns k, ∃ r0 v, r0 ∈ X ∧ v ∈ ns ∧ r = r0.set k v := fun r hr => by
    obtain ⟨i, h1, h2⟩ := List.mem_iff_getElem.mp hr
    unfold chgM at h1 h2
    rw [List.getElem_zipWith] at h2
    exact ⟨_, _, List.getElem_mem _, List.getElem_mem _, h2.symm⟩
  refine ⟨by unfold chgM; rw [List.length_zipWith, S.len, hl, Nat.min_self], fun r hr => ?_, fun r hr x hx => ?_⟩
  · obtain ⟨r0, v, h1, _, rfl⟩ := get r hr
    rw [List.length_set]
    exact S.row r0 h1
  · obtain ⟨r0, v, h1, h2, rfl⟩ := get r hr
    rcases List.mem_or_eq_of_mem_set hx with z | z
    · exact S.bd r0 h1 x z
    · rw [z]; exact hb v h2
theorem DetOk.chg {b n : Nat} {X : List (List Int)} (O : DetOk b n X) {ns : List Int} (hl : ns.length = n) (hb : ∀ x ∈ ns, -(b : Int) ≤ x ∧ x ≤ b) (k : Nat) : DetOk b n (chgM X ns k) := ⟨O.pos, chgM_sqr O.sqr hl hb k, O.n30, O.bnd⟩
theorem DetOk.small {b n : Nat} {X : List (List Int)} (O : DetOk b n X) : (Br.bareM X).natAbs < 1073741824 := Nat.lt_of_le_of_lt (Br.bareM_bd O.sqr.shp O.sqr.entB O.pos) O.bnd
theorem det_callB {X : List (List Int)} {d : PyData} (h : ∃ (X' : List (List Int)), [PyData.list (rowsD false X)] = [.list (rowsD false X')] ∧ d = .int (Br.bareM X')) : d = .int (Br.bareM X) := by
  obtain ⟨X', e, rfl⟩ := h
  rw [rowsF_inj (PyData.list.inj (List.cons.inj e).1)]
/-- the row of a pair, changed -/
def chgD (k : Nat) : PyData → PyData
  | .tuple [.list r, v] => .list (r.set k v)
  | d => d
theorem chgD_map {X : List (List Int)} {ns : List Int} {k : Nat} : (zipL (rowsD false X) (iL ns)).map (chgD k) = rowsD false (chgM X ns k) := by
  induction X generalizing ns with
  | nil => simp [zipL, chgM]
  | cons x X ih =>
    cases ns with
    | nil => simp [zipL, chgM]
    | cons v ns =>
      show chgD k (.tuple [ll x, .int v]) :: (zipL (rowsD false X) (iL ns)).map (chgD k) = ll (x.set k v) :: rowsD false (chgM X ns k)
      rw [ih]
      show PyData.list ((iL x).set k (.int v)) :: _ = _
      rw [show (iL x).set k (.int v) = iL (x.set k v) from List.map_set.symm]
def sp_solved : Sp := SpD (fun ds => ∃ (b n : Nat) (X : List (List Int)) (ns : List Int), ds = [.list (rowsD false X), ll ns] ∧ DetOk b n X ∧ ns.length = n ∧ (∀ x ∈ ns, -(b : Int) ≤ x ∧ x ≤ b) ∧ Br.bareM X ≠ 0)
  (fun ds d => ∃ (X : List (List Int)) (ns : List Int), ds = [.list (rowsD false X), ll ns] ∧ d = .list (solM X ns))
theorem ok_solved (M : Mod K mg) : FnOk P w K mg base CX0 3 M.f_solved M.fd_solved ["rows", "values"] sp_solved := by
  refine M.d_solved.F.ok sc_solved (SpD.len fun ds ⟨_, _, _, _, e, _⟩ => by rw [e]; rfl) (fun cdv A outer s H vs Q E hr h => ?_)
  obtain ⟨B, ds, sB, hd, ⟨b, n, X, ns, rfl, O, hnl, hnb, hdet⟩, q⟩ := h
  obtain ⟨v0, _, rfl, dr, ⟨v1, _, rfl, dn, rfl⟩⟩ := hd
  have S := O.sqr
  have hXl : X.length = n := S.len
  have n30 := O.n30
  refine ⟨_, (pss_cons (ps_set (i := 2) sc_solved.nd rfl (.inl rfl) (pe_call (ok_determinant M) (hr.mono (by decide)) (by rfl) M.d_determinant.g M.d_determinant.F.kp M.d_determinant.b .nil pass0 (pa_cons (pv 0) pa_nil)))
    (pss_cons (ps_if (pt_cmpR op_ne (pe_callB call_len_seq (by rfl) M.m_len PySem.boot_len (pa_cons (pv 1) pa_nil)) (pe_callB call_len_seq (by rfl) M.m_len PySem.boot_len (pa_cons (pv 0) pa_nil)) (nomark _)) (pss_one ps_never) pss_nil)
    (pss_cons (ps_if (pt_cmpR op_eq (pv 2) pe_int (nomark _)) (pss_one ps_never) pss_nil)
    (pss_cons (ps_set (i := 3) sc_solved.nd rfl (.inl rfl) (pe_lst pa_nil))
    (pss_cons (ps_for PassesOwn.never rfl (pi_range1 (by rfl) M.m_range (pa_cons (pe_callB call_len_seq (by rfl) M.m_len PySem.boot_len (pa_cons (pv 0) pa_nil)) pa_nil)) (pg_name (i := 4) sc_solved.nd rfl (.inr rfl))
    (pss_cons (ps_setLc (i := 5) (own := [("row", 6), ("value", 7)]) (g := gTup K 2 (gCons (gName 6) (gCons (gName 7) gNil))) (tt := tYes) (te := (tOp rCat (tOp rCat (tCB (rListQ K) (tCons (tSl (rSlL K) (tVar 6) tNoPart (tPart (tVar 4))) tNil)) (tLst (tCons (tVar 7) tNil))) (tCB (rListQ K) (tCons (tSl (rSlL K) (tVar 6) (tPart (tOp (rI0 fun i j => .int (i + j)) (tVar 4) (tC (.int 1)))) tNoPart) tNil)))) rfl sc_solved.nd rfl rfl (sw_true rfl rfl rfl (by decide +kernel)) (pi_zip (by rfl) M.m_zip (pa_cons (pv 0) (pa_cons (pv 1) pa_nil))) (blkOk_by (own := [("row", 6), ("value", 7)]) (N := N_solved) (sc := defScope s_solved) (by decide +kernel)) (fun _ _ _ _ _ => (pg_tup rfl (pgs_cons (pg_name (i := 6) sc_solved.nd rfl (.inl rfl)) (pgs_cons (pg_name (i := 7) sc_solved.nd rfl (.inl rfl)) pgs_nil)))) (fun _ _ _ _ _ => pts_nil) (fun _ _ _ _ _ => (pe_op op_cat (pe_op op_cat (pe_callTy call_list_of (by rfl) M.m_list (by decide +kernel) (pa_cons (pe_slice sl_list (pv 6) po_none (po_some (pv 4))) pa_nil)) (pe_lst (pa_cons (pv 7) pa_nil))) (pe_callTy call_list_of (by rfl) M.m_list (by decide +kernel) (pa_cons (pe_slice sl_list (pv 6) (po_some (pe_op op_add (pv 4) pe_int)) po_none) pa_nil)))))
    (pss_one (ps_expr (pe_bm PySem.F.plainAttrs_list PySem.F.slot_list_append PySem.F.type_list_append mt_append (pv 3) (pa_cons (pe_call (ok_fraction M) (hr.mono (by decide)) (by rfl) M.d_fraction.g M.d_fraction.F.kp M.d_fraction.b .nil pass0 (pa_cons (pe_call (ok_determinant M) (hr.mono (by decide)) (by rfl) M.d_determinant.g M.d_determinant.F.kp M.d_determinant.b .nil pass0 (pa_cons (pv 5) pa_nil)) (pa_cons (pv 2) pa_nil))) pa_nil))))))
    (pss_one (ps_ret (pv 3)))))))), ?_⟩
  refine seq_set (d := .int (Br.bareM X)) (evd_call (ds := [.list (rowsD false X)]) (eva_cons (evd_var (i := 0) rfl dr) eva_nil) ⟨b, n, X, rfl, O⟩ (fun d h => det_callB h)) sB fun v2 B1 H1 g1 d1 => ?_
  cases d1
  have hl1 := evd_lenL (K := K) (evd_var (B := B1) (σ := [some v0, some v1, some (.int (Br.bareM X)), none, none, none, none, none]) (i := 1) rfl (dn.mono g1.b))
  have hl0 := evd_lenL (K := K) (evd_var (B := B1) (σ := [some v0, some v1, some (.int (Br.bareM X)), none, none, none, none, none]) (i := 0) rfl (dr.mono g1.b))
  rw [List.length_map, hnl] at hl1
  rw [List.length_map, hXl] at hl0
  have hne := evd_neI hl1 hl0
  rw [decide_eq_true rfl] at hne
  refine seq_if (b := false) (evt_test hne) g1.i fun B2 H2 g2 => (if_neg (by decide)).mpr ?_
  refine seq_if (b := decide (Br.bareM X = 0)) (evt_test (evd_eqI (evd_var (i := 2) (d := .int (Br.bareM X)) rfl rfl) evd_int)) g2.i fun B3 H3 g3 => (if_neg (by simpa using hdet)).mpr ?_
  refine seq_setNew (B := B3) (ds := []) eva_nil (Nat.zero_le _) g3.i fun p xs B4 H4 hp3 g4 bp hp px => ?_
  cases px
  have g14 := ((g1.trans g2).trans g3).trans g4
  have hpH : H p = none := g1.h.free (g2.h.free (g3.h.free hp3))
  have hl := evd_lenL (K := K) (evd_var (B := B4) (σ := [some v0, some v1, some (.int (Br.bareM X)), some (.ref p), none, none, none, none]) (i := 0) rfl (dr.mono g14.b))
  rw [List.length_map, hXl] at hl
  refine for_D (B := B4) (es := rngL 0 n) (evi_rngN hl (by omega)) g4.i fun B5 H5 g5 => ?_
  refine ⟨fun k σ B' H' => ∃ (x4 x5 x6 x7 : Option V) (acc : List V), σ = [some v0, some v1, some (.int (Br.bareM X)), some (.ref p), x4, x5, x6, x7] ∧ Grow B H B' H' ∧ Same B5 B' ∧ B' p = none ∧ H' p = some (.lst acc) ∧ DDs B' ((List.range k).map fun k => fraD (Br.bareM (chgM X ns k)) (Br.bareM X)) acc,
    ⟨_, _, _, _, [], rfl, g14.trans g5, Same.refl _, g5.none bp hp, g5.h _ _ hp, rfl⟩, fun k σ B' H' ⟨_, _, _, _, _, _, g, s, _⟩ => ⟨s, g.i⟩, ?_, ?_⟩
  · rintro k d σ B' H' hd ⟨x4, x5, x6, x7, acc, rfl, gg, s5, bp', hp', pa⟩ v B6 H6 g6 dv
    have hk : k < n := by
      have := (List.getElem?_eq_some_iff.mp hd).1
      simpa using this
    rw [List.getElem?_map, List.getElem?_range hk] at hd
    cases hd
    have hv : v = .int (0 + (k : Nat)) := dv
    subst hv
    rw [Int.zero_add]
    have gA := gg.trans g6
    have hp6 : H6 p = some (.lst acc) := g6.h _ _ hp'
    have bp6 : B6 p = none := g6.none bp' hp'
    have hcomp := evd_lc2 (K := K) (i := 6) (j := 7) (B := B6) (σ := [some v0, some v1, some (.int (Br.bareM X)), some (.ref p), some (.int (k : Nat)), x5, x6, x7])
      (te := tOp rCat (tOp rCat (tCB (rListQ K) (tCons (tSl (rSlL K) (tVar 6) tNoPart (tPart (tVar 4))) tNil)) (tLst (tCons (tVar 7) tNil))) (tCB (rListQ K) (tCons (tSl (rSlL K) (tVar 6) (tPart (tOp (rI0 fun i j => .int (i + j)) (tVar 4) (tC (.int 1)))) tNoPart) tNil)))
      (f := chgD k) (evi_zip (K := K) (evd_var (i := 0) rfl (dr.mono gA.b)) (evd_var (i := 1) rfl (dn.mono gA.b))) (by rw [List.length_zipWith, List.length_map, hXl]; exact ge_sz (by omega)) zipL_pairs (fun _ _ => rfl)
      (fun x y B' u w hm s hx hy => by
        obtain ⟨i, h1⟩ := List.mem_iff_getElem?.mp hm
        obtain ⟨a', b', e1, e2, e⟩ := zipL_get h1
        cases e
        rw [List.getElem?_map] at e1
        cases er : X[i]? with
        | none => rw [er] at e1; cases e1
        | some r =>
          rw [er] at e1
          cases e1
          have hrl : r.length = n := S.row r (List.mem_of_getElem? er)
          have hkl : k ≤ (iL r).length := by rw [List.length_map]; omega
          have hkl1 : k + 1 ≤ (iL r).length := by rw [List.length_map]; omega
          have h1 := evd_listL (K := K) (evd_slL (K := K) (evd_var (B := B') (σ := ((wipe [some v0, some v1, some (.int (Br.bareM X)), some (.ref p), some (.int (k : Nat)), x5, x6, x7] [6, 7]).set 6 (some u)).set 7 (some w)) (i := 6) rfl hx) evo_none (evo_some (evd_var (i := 4) (d := .int (k : Nat)) rfl rfl)))
          rw [cutP_to hkl] at h1
          have h3 := evd_listL (K := K) (evd_slL (K := K) (evd_var (B := B') (σ := ((wipe [some v0, some v1, some (.int (Br.bareM X)), some (.ref p), some (.int (k : Nat)), x5, x6, x7] [6, 7]).set 6 (some u)).set 7 (some w)) (i := 6) rfl hx) (evo_some (evd_add (evd_var (i := 4) (d := .int (k : Nat)) rfl rfl) (evd_int (n := 1)))) evo_none)
          rw [show ((k : Nat) : Int) + 1 = ((k + 1 : Nat) : Int) by omega, cutP_from hkl1] at h3
          have h := evd_cat (evd_cat h1 (evd_lst (eva_cons (evd_var (i := 7) rfl hy) eva_nil) (show 1 ≤ sizeLine by decide)) (by rw [List.length_take]; exact ge_sz (by show _ + 1 ≤ _; rw [List.length_map]; omega))) h3
            (by rw [List.length_append, List.length_take, List.length_drop, List.length_map]; exact ge_sz (by show _ + 1 + _ ≤ _; omega))
          have e3 : (iL r).take k ++ [y] ++ (iL r).drop (k + 1) = (iL r).set k y := by
            rw [List.set_eq_take_append_cons_drop, if_pos (by rw [List.length_map]; omega), List.append_assoc]
            rfl
          rw [e3] at h
          exact h)
    rw [chgD_map] at hcomp
    refine seq_set hcomp g6.i fun v5 B7 H7 g7 d7 => ?_
    have hp7 : H7 p = some (.lst acc) := g7.h _ _ hp6
    have bp7 : B7 p = none := g7.none bp6 hp6
    have gB := gA.trans g7
    refine app_D (i := 3) (d := fraD (Br.bareM (chgM X ns k)) (Br.bareM X)) rfl bp7 hp7 (by
        rw [pa.length, List.length_map, List.length_range]
        exact Nat.lt_of_le_of_lt (show k ≤ 30 by omega) (by decide))
      (evd_call (ds := [.int (Br.bareM (chgM X ns k)), .int (Br.bareM X)]) (eva_cons (evd_call (ds := [.list (rowsD false (chgM X ns k))]) (eva_cons (evd_var (i := 5) rfl d7) eva_nil) ⟨b, n, _, rfl, O.chg hnl hnb k⟩ (fun d h => det_callB h)) (eva_cons (evd_var (i := 2) rfl rfl) eva_nil))
        ⟨_, _, rfl, hdet, O.small⟩ (fun d ⟨a', b', e, h⟩ => by
          cases e
          exact h)) g7.i fun u' B8 H8 g8 d8 b8 s8 => ?_
    refine ⟨B8, _, _, _, _, acc ++ [u'], rfl, (gB.trans g8).mut hpH b8, s5.trans (g6.b.trans (g7.b.trans g8.b)), b8, upd_same, ?_⟩
    rw [List.range_succ, List.map_append]
    exact (pa.mono (g6.b.trans (g7.b.trans g8.b))).append (DDs.one d8)
  · rintro σ B' H' ⟨x4, x5, x6, x7, acc, rfl, gg, s5, bp', hp', pa⟩
    rw [show (rngL 0 n).length = n by simp] at pa
    obtain ⟨gc, dc⟩ := close_D gg hpH bp' hp' pa
    refine ret_D (d := .list (solM X ns)) (evd_var (i := 3) rfl (by unfold solM; rw [hXl]; exact dc)) gc.i fun v8 B8 H8 g8 d8 => q _ v8 B8 H8 ⟨X, ns, rfl, rfl⟩ (gc.trans g8) d8
end K84

set_option maxHeartbeats 2000000
/-! A dict comprehension whose keys are tuples (the way of HandS.DictComp, turned to such keys). -/
namespace DcT
open PySem PySem.Spec PyProof.Rows L2
/-- d[t] = v by a comprehension, t a tuple -/
theorem d_dictSetT {X : Cx} {pins : List (Addr × Obj)} {σ : L2.St} {H : Hp} {s : Shared} {E : Value → Shared → Prop} {D b : Addr} {kvs : List (List Key × V)} {k : List Key} {v : V} {r : Value} {Q : Unit → Shared → Prop} (hu : X.A.units < cLine) (I : Inv X pins σ H s) (hD : H D = some (.dT kvs))
    (hb : H b = some (.tup (k.map kV))) (hz : kvs.length < sizeLine) (rv : RelV v r) (h : ∀ s', Inv X pins σ (upd H D (.dT (putK kvs k v))) s' → Q () s') : wpAny (model X.prog X.w) X.A (dictSet D (.ref b) r) Q E s := by
  obtain ⟨z, hd, xs, rel, dd⟩ := dt_of I.hok hD
  have hz1 : xs.length ≤ sizeLine := by rw [← Paired.length rel]; exact z
  have hz2 : (putK kvs k v).length ≤ sizeLine := by have := length_putK kvs k v; omega
  refine wpAny_dictSet_heap (hsz := hz1) (knd := tupleKind (mixKind X.prog X.w)) hu (key_of I.hok hb) dd fun h' dd' hs => h _ ?_
  obtain ⟨q, es, ep, hq, w2, w3, w4, _, w5⟩ := dd'
  refine d_write I (by rw [hD]; exact True.intro) hs ⟨q, hq⟩ ⟨hz2, hd, _, (rel.put k hb rv).keeps fun c ys ec => ?_, q, es, ep, hq, w2, w3, w4, w5⟩
  rw [upd_ne (fun e => by rw [e, hD] at ec; cases ec)]
  exact ec
section
variable {X : Cx}
/-- {t: v for target in iter if ..}, keys tuples: D the new dict -/
def tDcT (wo : TI) (g : TG) (tt : TT) (tk tv : TE) (vs : List Nat) : TE := fun σ H Q => wo σ H fun Jt H1 => ∀ D, H1 D = none → ∃ W : Nat → Nat → Hp → Prop, (∃ m, W 0 m (upd H1 D (.dT []))) ∧ ∀ i m H, W i m H →
  (Jt.stop i H ∧ Q (.ref D) H) ∨ (Jt.go i H ∧ ∃ Nx : Hp → Prop, (∀ H', Nx H' → ∃ m', m' < m ∧ W (i + 1) m' H') ∧ ∀ x H', Jt.yld i H x H' → g x (wipe σ vs) H' fun σ2 G2 => wipe σ2 vs = wipe σ vs ∧ tt σ2 G2 fun b G3 =>
    if b = true then tk σ2 G3 fun y G4 => tv σ2 G4 fun z G5 => ∃ (kvs : List (List Key × V)) (k : List Key) (qz : Addr), y = .ref qz ∧ G5 qz = some (.tup (k.map kV)) ∧ G5 D = some (.dT kvs) ∧ kvs.length < sizeLine ∧ Nx (upd G5 D (.dT (putK kvs k z))) else Nx G3)
theorem dcT_core {pn : List (Addr × Obj)} {s : Shared} {σ : L2.St} {H : Hp} {Q : VK} {ke ve tg src : Expr} {cs : List Expr} {sp : Scope} {ow : List (Str × Nat)} {po pos' : Pos} {wo : TI} {g : TG} {tt : TT} {tk tv : TE} {us : Option (Value → Sem Unit)} {Qz : Value → Shared → Prop}
    (hu : X.A.units < cLine) (hc : X.calm = true) (hN : X.N.Nodup) (I : Inv X pn σ H s) (hi : PI X tg src wo) (bo : BlkOk X.N X.env.scope sp ow)
    (hgt : ∀ (s : Shared) (H : Hp) (C : Addr) (cz : List (Str × Addr)) (fz : List Addr), PG (X.blk s H sp (compEnvC sp cz C X.env) fz) tg g) (htt : ∀ (s : Shared) (H : Hp) (C : Addr) (cz : List (Str × Addr)) (fz : List Addr), PTs (X.blk s H sp (compEnvC sp cz C X.env) fz) cs tt)
    (hke : ∀ (s : Shared) (H : Hp) (C : Addr) (cz : List (Str × Addr)) (fz : List Addr), PE (X.blk s H sp (compEnvC sp cz C X.env) fz) ke tk)
    (hve : ∀ (s : Shared) (H : Hp) (C : Addr) (cz : List (Str × Addr)) (fz : List Addr), PE (X.blk s H sp (compEnvC sp cz C X.env) fz) ve tv) (hs : ∀ x, foldedSetIterable src X.env x = pure x)
    (h : tDcT wo g tt tk tv (ow.map (·.2)) σ H Q)
    (hEnd : ∀ D C s' m H', Inv X pn σ H' s' → Q (.ref D) H' → s'.heap.Ns C m → FpOk X pn H' C → compPost (model X.prog X.w) X.A X.xe us Qz (.ref D) C (.ok .next) s') :
    wpAny (model X.prog X.w) X.A (comprehension (.DictComp ke ve [⟨tg, src, cs, 0⟩] sp po) sp X.env pos' newDict false (eval src X.env) us) Qz X.xe s := by
  have hfr : ∀ y ∈ sp.names, y.2 = .free → ∃ c, X.env.cells.lookup y.1 = some c := fun y hy e => by
    rcases bo.free y hy e with k | k
    · exact I.ok.has _ (.inl k)
    · exact I.ok.has _ (.inr k)
  refine wpAny_comprehension_free (use := us) rfl hs (closure_ok hfr) bo.kind (fun y hy e => by rw [bo.uniq y hy, e])
    (thn (hi.run pn s σ H _ I h) fun xw z1 hy => thn hy fun itw z2 g2 => ?_)
  obtain ⟨itr, fz, tw, Jt, G2, e, V2, Tn, ut2, k2, qz⟩ := g2
  subst e
  refine wpAny_newObj_type (newEnv_comp ?_)
  generalize hD : z2.heap.objs.size = D
  have hDf : G2 D = none := V2.hok.fresh (Nat.le_of_eq hD)
  obtain ⟨W, ⟨m0, w0⟩, trn⟩ := qz D hDf
  -- the new list
  generalize hs3 : ({ z2 with heap := z2.heap.push { cls := .type "dict", data := .dict #[] } } : Shared) = z3
  have V3 : Inv X pn σ (upd G2 D (.dT [])) z3 := by
    rw [← hs3]
    refine V2.laid (t' := z2.toks) (fun b o e => Heap.get?_push_of_some _ e) (Nat.le_of_eq hD) ?_
    rw [← hD]
    exact dt_empty z2.heap V2.big
  have h3 : z3.heap = z2.heap.push { cls := .type "dict", data := .dict #[] } := by rw [← hs3]
  have szl : ∀ b ∈ fz, b < z2.heap.objs.size := fun b hb => by
    obtain ⟨o, e, _⟩ := Tn.obj _ _ ut2 b hb
    exact Heap.lt_size e
  have k3 : ∀ b ∈ fz, FpOk X pn (upd G2 D (.dT [])) b ∧ b < z3.heap.objs.size := fun b hb => by
    have hlt := szl b hb
    refine ⟨⟨?_, (k2 b hb).2⟩, by rw [h3, Heap.size_push]; exact Nat.lt_succ_of_lt hlt⟩
    rw [upd_ne (by rw [← hD]; exact Nat.ne_of_lt hlt)]
    exact (k2 b hb).1
  have ut3 : tw 0 z3.heap := Tn.keep _ _ _ ut2 fun b _ o e => by rw [h3]; exact Heap.get?_push_of_some _ e
  have V4 := block_start V3 bo hN k3
  have pgt := hgt z3 (upd G2 D (.dT [])) z3.heap.objs.size (cellsFrom (z3.heap.objs.size + 1) sp.names (cloFrom X.env.cells sp.names [])) fz
  have ptt := htt z3 (upd G2 D (.dT [])) z3.heap.objs.size (cellsFrom (z3.heap.objs.size + 1) sp.names (cloFrom X.env.cells sp.names [])) fz
  have pke := hke z3 (upd G2 D (.dT [])) z3.heap.objs.size (cellsFrom (z3.heap.objs.size + 1) sp.names (cloFrom X.env.cells sp.names [])) fz
  have pve := hve z3 (upd G2 D (.dT [])) z3.heap.objs.size (cellsFrom (z3.heap.objs.size + 1) sp.names (cloFrom X.env.cells sp.names [])) fz
  show codeAny _ _ (.compStart (.DictComp ke ve [⟨tg, src, cs, 0⟩] sp po) 0 (.ref itr) (.ref D) (compEnvC sp (cellsFrom (z3.heap.objs.size + 1) sp.names (cloFrom X.env.cells sp.names [])) z3.heap.objs.size X.env)) (compPost (model X.prog X.w) X.A X.xe us Qz (.ref D) z3.heap.objs.size) { z3 with heap := pushCells (z3.heap.push { cls := .type "dict", data := .dict #[] }) sp.names }
  have nfz : ∀ b ∈ fz, (upd G2 D (.dT [])) b = none := fun b hb => (k3 b hb).1.1
  generalize hce : compEnvC sp (cellsFrom (z3.heap.objs.size + 1) sp.names (cloFrom X.env.cells sp.names [])) z3.heap.objs.size X.env = cw at V4 pgt ptt pke pve ⊢
  have cLo : cw.locals = z3.heap.objs.size := by subst hce; rfl
  generalize hH3 : upd G2 D (.dT []) = G3 at V3 V4 pgt ptt pke pve w0 nfz k3
  generalize hs4 : ({ z3 with heap := pushCells (z3.heap.push { cls := .type "dict", data := .dict #[] }) sp.names } : Shared) = z4 at V4 ⊢
  have ut4 : tw 0 z4.heap := Tn.keep _ _ _ ut3 fun b _ o e => by rw [← hs4]; exact pushCells_keeps _ _ _ _ (Heap.get?_push_of_some _ e)
  have stt : ∀ {σ' : L2.St} {H' : Hp} {s' : Shared}, Inv (X.blk z3 G3 sp cw fz) [] σ' H' s' → (∀ b ∈ fz, H' b = none) → ∀ b ∈ fz, FpOk (X.blk z3 G3 sp cw fz) [] H' b := fun {σ' H' s'} I' hn b hb =>
    ⟨hn b hb, (I'.ok.exf b hb).1, I'.ok.exfs b hb, .inl hb, fun x c e => (I'.ok.exf b hb).2 x c e, fun p hp => absurd (show p ∈ ([] : List (Addr × Obj)) ++ [] from hp) (by simp)⟩
  have lp : codeAny (model X.prog X.w) X.A (.compLoop (.DictComp ke ve [⟨tg, src, cs, 0⟩] sp po) 0 (.ref itr) (.ref D) cw) (compPost (model X.prog X.w) X.A X.xe us Qz (.ref D) z3.heap.objs.size) z4 := by
    refine compLoop_anyD (fun n s' => ∃ i H', Inv (X.blk z3 G3 sp cw fz) [] (wipe σ (ow.map (·.2))) H' s' ∧ tw i s'.heap ∧ (∀ b ∈ fz, H' b = none) ∧ W i n H') ?_ m0 ⟨0, G3, V4, ut4, nfz, w0⟩
    rintro n z5 ⟨i, G5, V5, ut5, m5, w5⟩
    rcases trn i n G5 w5 with ⟨stop, qq⟩ | ⟨go, Nx, hNx, step⟩
    · have tdn := Tn.done (X.blk z3 G3 sp cw fz) rfl rfl rfl hc i [] z5 _ G5 (fun _ _ => False) V5 (stt V5 m5) ut5 stop
      refine thnF tdn fun r z6 ⟨hr, V6⟩ => ?_
      subst hr
      -- back in the def's context
      have V7 : Inv X pn σ G5 z6 := V3.call' (ch := fz) V6.os V6.base V6.hok V6.bare fun b hb => ⟨(k3 b hb).1.2.2.2.1, (k3 b hb).1.2.1, (k3 b hb).1.2.2.2.2.1, (k3 b hb).1.2.2.2.2.2⟩
      have nCe : G5 z3.heap.objs.size = none := by
        have z : G5 cw.locals = none := V6.free
        rw [cLo] at z
        exact z
      obtain ⟨m, hn, _⟩ := V6.loc
      have hn : z6.heap.Ns cw.locals m := hn
      rw [cLo] at hn
      exact hEnd D z3.heap.objs.size z6 m G5 V7 qq hn (V3.fpOk (Nat.le_refl _) nCe)
    · have tit := Tn.item (X.blk z3 G3 sp cw fz) rfl rfl rfl hc i [] z5 _ G5 (fun _ _ => False) V5 (stt V5 m5) ut5 go
      refine thnF tit fun r z6 ⟨u, hr, h6⟩ => ?_
      subst hr
      refine thnF h6 fun _ z7 ⟨x, G7, V7, r7, y7, ut7, m7⟩ => ?_
      have V7' := V7.pinned (stt V7 m7) (Tn.obj _ _ ut7)
      refine thnF (pgt.run _ z7 _ G7 x u _ V7' r7 (step x G7 y7)) fun _ z8 ⟨σ8, G8, V8, hx8, p8⟩ => ?_
      refine thnF (ptt.run _ z8 σ8 G8 _ V8 p8) fun b z9 ⟨G9, V9, p9⟩ => ?_
      -- the turn's end
      have fin : ∀ {s' : Shared} {H' : Hp}, Inv (X.blk z3 G3 sp cw fz) ([] ++ pinsAt fz z7.heap) σ8 H' s' → Nx H' → ∃ m, m < n ∧ ∃ i H', Inv (X.blk z3 G3 sp cw fz) [] (wipe σ (ow.map (·.2))) H' s' ∧ tw i s'.heap ∧ (∀ b ∈ fz, H' b = none) ∧ W i m H' := fun {s' H'} I' nx => by
        obtain ⟨m', hm, w'⟩ := hNx H' nx
        have pin' : ∀ b ∈ fz, ∀ o, z7.heap.get? b = some o → s'.heap.get? b = some o ∧ H' b = none := fun b hb o e =>
          let z := I'.pin (b, o) (List.mem_append_right _ (List.mem_append_right _ (mem_pinsAt hb e)))
          ⟨z.1, z.2.1⟩
        have hl : (wipe σ (ow.map (·.2))).length = σ8.length := by rw [← hx8, wipe_length]
        refine ⟨m', hm, i + 1, H', (I'.unpinned (pins := [])).weak hl (fun j v e => ?_), Tn.keep _ _ _ ut7 fun b hb o e => (pin' b hb o e).1, fun b hb => ?_, w'⟩
        · rw [← hx8] at e
          exact (wipe_some e).1
        · obtain ⟨o, e, _⟩ := Tn.obj _ _ ut7 b hb
          exact (pin' b hb o e).2
      cases b with
      | false =>
        simp only [Bool.false_eq_true, if_false] at p9 ⊢
        exact fin V9 p9
      | true =>
        simp only [if_true] at p9 ⊢
        refine thnF (pke.run _ z9 σ8 G9 _ V9 p9) fun z z10 ⟨yk, G10, V10, r10, p10⟩ => ?_
        refine thnF (pve.run _ z10 σ8 G10 _ V10 p10) fun z2 z11 ⟨yv, G11, V11, r11, kvs, k, aq, ek, hk11, hD11, hz11, nx⟩ => ?_
        subst ek
        cases (show z = Value.ref aq from r10)
        exact d_dictSetT (X := X.blk z3 G3 sp cw fz) hu V11 hD11 hk11 hz11 r11 fun z12 V12 => fin V12 nx
  exact codeAny_compStart_dict lp (Tn.self X.A 0 _ _ _ ut4 lp)
theorem pe_dcT {ke ve tg src : Expr} {cs : List Expr} {sp : Scope} {ow : List (Str × Nat)} {po : Pos} {wo : TI} {g : TG} {tt : TT} {tk tv : TE} (hu : X.A.units < cLine) (hc : X.calm = true) (hN : X.N.Nodup) (hi : PI X tg src wo) (bo : BlkOk X.N X.env.scope sp ow)
    (hgt : ∀ (s : Shared) (H : Hp) (C : Addr) (cz : List (Str × Addr)) (fz : List Addr), PG (X.blk s H sp (compEnvC sp cz C X.env) fz) tg g) (htt : ∀ (s : Shared) (H : Hp) (C : Addr) (cz : List (Str × Addr)) (fz : List Addr), PTs (X.blk s H sp (compEnvC sp cz C X.env) fz) cs tt)
    (hke : ∀ (s : Shared) (H : Hp) (C : Addr) (cz : List (Str × Addr)) (fz : List Addr), PE (X.blk s H sp (compEnvC sp cz C X.env) fz) ke tk)
    (hve : ∀ (s : Shared) (H : Hp) (C : Addr) (cz : List (Str × Addr)) (fz : List Addr), PE (X.blk s H sp (compEnvC sp cz C X.env) fz) ve tv) (hs : ∀ x, foldedSetIterable src X.env x = pure x := by intro _; rfl) :
    PE X (.DictComp ke ve [⟨tg, src, cs, 0⟩] sp po) (tDcT wo g tt tk tv (ow.map (·.2))) := by
  refine ⟨fun pn s σ H Q I h => ?_⟩
  rw [arm_eval_DictComp]
  refine dcT_core hu hc hN I hi bo hgt htt hke hve hs h fun D C s' m H' I' qz hn f => ⟨m, hn, fun h'' sb => ?_⟩
  obtain ⟨f0, f1, k2, k3, f4, f5⟩ := f
  exact ⟨.ref D, H', I'.turned (t' := s'.toks) (fun b o hb e => (sb.2 b hb).trans e) f0 f1 k3 f4 f5, rfl, qz⟩
/-- y = {t: v for ..}, y a local name on the same line -/
theorem ps_setDcT {i : Nat} {y : Str} {py : Pos} {ke ve tg src : Expr} {cs : List Expr} {sp : Scope} {ow : List (Str × Nat)} {po sq : Pos} {wo : TI} {g : TG} {tt : TT} {tk tv : TE} (hu : X.A.units < cLine) (hc : X.calm = true) (hN : X.N.Nodup) (hy : X.N[i]? = some y) (hyl : X.env.scope.names.lookup y = some .local)
    (hsw : swapsWith (.DictComp ke ve [⟨tg, src, cs, 0⟩] sp po) (some (.Name y py)) sq.line X.env = pure true) (hi : PI X tg src wo) (bo : BlkOk X.N X.env.scope sp ow)
    (hgt : ∀ (s : Shared) (H : Hp) (C : Addr) (cz : List (Str × Addr)) (fz : List Addr), PG (X.blk s H sp (compEnvC sp cz C X.env) fz) tg g) (htt : ∀ (s : Shared) (H : Hp) (C : Addr) (cz : List (Str × Addr)) (fz : List Addr), PTs (X.blk s H sp (compEnvC sp cz C X.env) fz) cs tt)
    (hke : ∀ (s : Shared) (H : Hp) (C : Addr) (cz : List (Str × Addr)) (fz : List Addr), PE (X.blk s H sp (compEnvC sp cz C X.env) fz) ke tk)
    (hve : ∀ (s : Shared) (H : Hp) (C : Addr) (cz : List (Str × Addr)) (fz : List Addr), PE (X.blk s H sp (compEnvC sp cz C X.env) fz) ve tv) (hs : ∀ x, foldedSetIterable src X.env x = pure x := by intro _; rfl) :
    PS X (.Assign [.Name y py] (.DictComp ke ve [⟨tg, src, cs, 0⟩] sp po) sq) (tAsg (tDcT wo g tt tk tv (ow.map (·.2))) (gName i)) := by
  refine ⟨fun pn s σ H D I h => ?_⟩
  rw [exec_Assign_Name_used _ _ _ _ hsw]
  refine wpAny_bind (wpAny_standAt (wpAny_bind ?_))
  show wpAny _ X.A (do let _ ← comprehension (.DictComp ke ve [⟨tg, src, cs, 0⟩] sp po) sp X.env (firstIterPos [⟨tg, src, cs, 0⟩] po) newDict false (eval src X.env) (some (assign (.Name y py) X.env))) _ _ s
  have hq : tDcT wo g tt tk tv (ow.map (·.2)) σ H (fun x H1 => gName i x σ H1 D.nx) := h
  refine wpAny_bind (thn (dcT_core (Qz := fun _ s' => SP X pn D .next s') hu hc hN I hi bo hgt htt hke hve hs hq fun L C s' m H' J q hn f => ?_) fun _ s' e => wpAny_pure (wpAny_pure e))
  show wpAny _ _ (assign (.Name y py) X.env (.ref L)) _ _ _
  refine wpAny_assign_Name (store_ok2 (v := V.ref L) J hN hy (.inl hyl) rfl (fun s2 J2 ⟨a, sb, ha⟩ => ?_) (.inr hyl))
  obtain ⟨n0, n1, n2, n3, n4, n5⟩ := f
  have away : C ≠ a := by
    rcases ha with z | z
    · rw [z]
      exact n1
    · exact fun e => n4 y a z e.symm
  exact ⟨m, hn.sameBut sb away, fun h3 sb3 => ⟨_, H', J2.turned (t' := s2.toks) (fun b o hb e => (sb3.2 b hb).trans e) n0 n1 n3 n4 n5, q⟩⟩
theorem swT_true {ke ve : Expr} {gs : List Comprehension} {sp : Scope} {po py : Pos} {y : Str} {l : Nat} {env : Env} (hk : env.scope.kind = .function) (hy : env.scope.names.lookup y = some .local) (hl : (py.line == po.line) = true)
    (ha : (sp.names.any fun (n, k) => n == y && (k == .local || k == .cell)) = false) : swapsWith (.DictComp ke ve gs sp po) (some (.Name y py)) l env = pure true := by
  have e1 : env.kindOf y = some .local := hy
  have e2 : env.blockKind = .function := by unfold Env.blockKind; rw [hk]; rfl
  unfold swapsWith
  simp only [e2, e1, ha, Expr.pos, hl]
  rfl

end
end DcT

set_option maxHeartbeats 4000000
/-! Several except clauses that name the exception (the way of HandS.TryMany and of ps_try_as, put together). -/
namespace TrW
open PySem PySem.Spec PyProof.Rows L2
abbrev Clause := Value × Nat × (Addr → Value → Option Addr → TS)
/-- what the clauses wish of an exception of the body, one after the other; slot i is the clause's name's -/
def wWays (K : PySem.W.Frag) (Wout : WX) (D : Ends) : List Clause → WX
  | [] => Wout
  | (c, i, ts) :: r => fun cls d σ H => ∃ b, PySem.W.exmOne K cls c = some b ∧
      (b = true → ∀ a, H a = none → ts a cls d { nx := fun τ G => D.nx (τ.set i none) G, rt := D.rt, bk := fun τ G => D.bk (τ.set i none) G, ct := fun τ G => D.ct (τ.set i none) G } (σ.set i (some (.ref a))) H) ∧ (b = false → wWays K Wout D r cls d σ H)
inductive Ways (X : Cx) : List ExceptHandler → List Clause → Prop
  | nil : Ways X [] []
  | cons {x n : Str} {c : Value} {i : Nat} {ts : Addr → Value → Option Addr → TS} {b₀ : Stmt} {suite : List Stmt} {np pos' : Pos} {hds : List ExceptHandler} {l : List Clause} (hc : Names X x c) (hi : X.N[i]? = some n) (hln : X.env.kindOf n = some .local)
      (hsu : ∀ (a : Addr) (oe : Obj) (cls : Value) (d : Option Addr) (pn : List (Addr × Obj)), Zc cls d oe → (∃ vs, oe.data = .fields vs) → PSs (X.suite a ((a, oe) :: pn)) (b₀ :: suite) (ts a cls d)) (r : Ways X hds l) :
      Ways X (.ExceptHandler (some (.Name x np)) (some n) (b₀ :: suite) pos' :: hds) ((c, i, ts) :: l)
section
variable {X : Cx} {bod : List Stmt} {h₀ : ExceptHandler} {hl : List ExceptHandler} {l : List Clause} {pos : Pos} {tbo : WX → TS} {Wo : WX}
theorem ps_try_ways (hs : X.stack = X.env :: X.outer) (hf : X.env.frame = some X.env.locals) (hN : X.N.Nodup) (tk : Takes X Wo)
    (hb : ∀ (W : WX) (pn : List (Addr × Obj)) (xe : Value → Shared → Prop), Takes (X.tr pn xe) W → PassesOwn (model X.prog X.w) X.A X.env xe → PSs (X.tr pn xe) bod (tbo W))
    (hh : Ways X (h₀ :: hl) l) : PS X (.Try bod (h₀ :: hl) [] [] pos) (fun D σ H => tbo (wWays X.K Wo D l) D σ H) := by
  refine ⟨fun pn s σ H D I h => ?_⟩
  have okx := I.ok
  have hfm : X.A.frames = some (X.env :: X.outer) := by rw [okx.frames, hs]
  refine wpAny_Try_except ?_
  refine wpAny_mono ((hb (wWays X.K Wo D l) (X.pn ++ pn) (fun e s₁ => wpAny (model X.prog X.w) X.A (noteFrame e X.env) (fun _ s₂ => wpAny (model X.prog X.w) X.A (setFlight e none) (fun _ s₃ =>
    wpAny (model X.prog X.w) X.A (handleBy e X.env (h₀ :: hl)) (SP X pn D) X.xe s₃) X.xe s₂) X.xe s₁) (fun u s' xx => ?_) PassesOwn.looking).run [] s σ H D (I.toTry _) h) (fun f z1 hq0 => ?_) (fun e z1 he => he)
  · -- the catch
    obtain ⟨a, B, sI, pins', σ', H', cl, d, rfl, J', nn, up, sk, nu, oo, gg, w⟩ := xx
    have J : Inv X pn σ' H' sI := J'.ofTry okx
    have sk' : Sky B (X.env :: X.outer) a (Zc cl d) X.env.locals s'.heap := by rw [← hs]; exact sk
    show wpAny (model X.prog X.w) X.A (noteFrame (.ref a) X.env) _ _ _
    refine Sky.land Zc.steady hfm hf sk' fun g3 fy3 uq3 => ?_
    have KJ3 : Inv X pn σ' H' { s' with heap := g3 } := J.landed nn fy3.1 (up.trans uq3) oo gg
    obtain ⟨oex3, vsx3, hex3, hzx3, hdx3⟩ := fy3.there
    have nfr0 : ∀ {h : Heap} {o : Obj} {vs : Array Value}, h.FunFrames B (X.env :: X.outer) → h.get? a = some o → o.data = .fields vs → a ∉ frs (X.env :: X.outer) := fun {h o vs} ff e dd hm => by
      obtain ⟨_, o', e', hnf⟩ := ff.mem hm
      rw [e] at e'; cases e'
      exact hnf _ dd
    have nfr1 := nfr0 fy3.2.2.1 hex3 hdx3
    have nLo : a ≠ X.env.locals := fun z => nfr1 (List.mem_filterMap.mpr ⟨X.env, List.mem_cons_self, by rw [hf, z]⟩)
    have nFo : a ∉ X.fs := fun hm => by
      obtain ⟨e, he, q⟩ := List.mem_filterMap.mp hm
      exact nfr1 (List.mem_filterMap.mpr ⟨e, List.mem_cons_of_mem _ he, q⟩)
    have KS3 := KJ3.suite hex3 hdx3 nu nLo nFo
    have run0 : ∀ {hds' : List ExceptHandler} {l' : List Clause}, Ways X hds' l' → wWays X.K Wo D l' cl d σ' H' →
        wpAny (model X.prog X.w) X.A (handleBy (.ref a) X.env hds') (SP X pn D) X.xe { s' with heap := g3 } := by
      intro hds' l' hkk
      induction hkk with
      | nil =>
        intro w
        refine wpAny_handleBy_nil ?_
        obtain ⟨k1, k2, k3, oe, vs, T, oT, ts', he, hz, hd, h1, hr⟩ := id fy3
        unfold PySem.passOn
        refine wpAny_bind (wpAny_field he hd h1 ?_)
        rw [if_neg (show ¬ ((Value.ref T == Value.none) = true) from by simp)]
        have out0 : wpAny (model X.prog X.w) X.A (setFlight (.ref a) X.env.frame) (fun _ z4 => wpAny (model X.prog X.w) X.A (throw (.ref a) : Sem Flow) (SP X pn D) X.xe z4) X.xe { s' with heap := g3 } := by
          rw [hf]
          refine HandSPX.setFlight_upZ fy3 fun g4 hh4 uq4 => wpAny_throw (tk _ _ ?_)
          exact ⟨a, B, sI, pn, σ', H', cl, d, rfl, J, nn, (up.trans uq3).trans uq4, .inr (.inr (by rw [hs]; exact hh4)), nu, oo, gg, w⟩
        first
          | exact wpAny_bind (wpAny_pure (wpAny_bind out0))
          | exact wpAny_bind out0
      | @cons x n c i ts b₀ su pp pos' hds2 l2 hc hi hln hsx r ih =>
        intro w
        obtain ⟨b, hb1, hy, hn⟩ := w
        refine wpAny_handleBy_cons (codeAny_handlers_test ?_) (by intro q; cases q)
        have TyL : PySem.W.Looks (model X.prog X.w) g3 (typeOf (.ref a)) cl := fun A Q E s k q => wpAny_typeOf_ref (k _ _ hex3) (by rw [hzx3.1]; exact q)
        have ExL := PySem.W.exm_one (M := model X.prog X.w) (KJ3.kIn) TyL hb1
        have tst : ∀ {Q : Value → Shared → Prop} {E : Value → Shared → Prop}, Q c { s' with heap := g3 } → wpAny (model X.prog X.w) (X.A.mark (some (.ref a))) (eval (.Name x pp) X.env) Q E { s' with heap := g3 } := fun {Q E} q => by
          obtain ⟨hg, hdbg, hm | ⟨hm, hv, hnn⟩⟩ := hc
          · exact ld_glob (X := X.suite a ((a, oex3) :: (X.pn ++ pn))) KS3 hg hm q hdbg
          · exact ld_blt (X := X.suite a ((a, oex3) :: (X.pn ++ pn))) KS3 hg hm hv q hnn hdbg
        refine tst (ExL.here ?_)
        cases b with
        | true =>
          refine codeAny_handlers_suite_as ?_
          refine HandSPX.lands_againZ fy3 fun g4 fy4 uq4 => ?_
          have KJ4 : Inv X pn σ' H' { s' with heap := g4 } := J.landed nn fy4.1 ((up.trans uq3).trans uq4) oo gg
          obtain ⟨oex4, vsx4, hex4, hzx4, hdx4⟩ := fy4.there
          have KS4 := KJ4.suite hex4 hdx4 nu nLo nFo
          refine store_ok (X := X.suite a ((a, oex4) :: (X.pn ++ pn))) (v := .ref a) KS4 hN hi (.inl hln) rfl (fun z5 KS5 => ?_) (.inr hln)
          refine wpAny_mono ((hsx a oex4 cl d (X.pn ++ pn) hzx4 ⟨_, hdx4⟩).run [] z5 _ H' _ KS5 (hy rfl a nu)) (fun f z6 hq0 => ?_) (fun _ _ z => False.elim z)
          have behind : ∀ {τ6 : L2.St} {G6 : Hp} {Q : Shared → Prop}, Inv (X.suite a ((a, oex4) :: (X.pn ++ pn))) [] τ6 G6 z6 → (∀ z7, Inv X pn (τ6.set i none) G6 z7 → Q z7) →
              wpAny (model X.prog X.w) X.A (do bindName X.env n .none; unbindBehindTheSuite X.env n pos') (fun _ z7 => Q z7) X.xe z6 := fun {τ6 G6 Q} KS6 hq => gone_ok (KS6.unsuite okx) hN hi hln hq
          cases f with
          | next =>
            obtain ⟨τ6, G6, KS6, p6⟩ := hq0
            exact behind KS6 fun z7 KJ7 => ⟨_, _, KJ7, p6⟩
          | brk =>
            obtain ⟨τ6, G6, KS6, p6⟩ := hq0
            exact behind KS6 fun z7 KJ7 => ⟨_, _, KJ7, p6⟩
          | cont =>
            obtain ⟨τ6, G6, KS6, p6⟩ := hq0
            exact behind KS6 fun z7 KJ7 => ⟨_, _, KJ7, p6⟩
          | ret u =>
            obtain ⟨w6, τ6, G6, KS6, rr6, p6⟩ := hq0
            exact behind KS6 fun z7 KJ7 => ⟨_, _, _, KJ7, rr6, p6⟩
        | false =>
          show wpAny _ X.A (handleBy (.ref a) X.env hds2) _ _ _
          exact ih (hn rfl)
    exact run0 hh w
  · cases f with
    | next =>
      obtain ⟨σ', H', J', q⟩ := hq0
      exact wpAny_execs_nil ⟨σ', H', J'.ofTry okx, q⟩
    | brk =>
      obtain ⟨σ', H', J', q⟩ := hq0
      exact ⟨σ', H', J'.ofTry okx, q⟩
    | cont =>
      obtain ⟨σ', H', J', q⟩ := hq0
      exact ⟨σ', H', J'.ofTry okx, q⟩
    | ret u =>
      obtain ⟨v, σ', H', J', r, q⟩ := hq0
      exact ⟨v, σ', H', J'.ofTry okx, r, q⟩
end
end TrW

set_option maxHeartbeats 2000000
/-! t * n for a tuple t, n = 1 too (the tuple itself). -/
namespace TpO
open PySem PySem.Spec PyProof.Rows L2
theorem mulOne (l : Addr) (its : Array Value) (n : Nat) (dd : Option Addr) (sl : Array (Option Value)) (u : Tok) :
    Meets (Builtin.«tuple.__mul__» ⟨[.ref l, .int 1 u], []⟩) (fun _ R s => s.heap.get? l = some { cls := .type "tuple", dict := dd, data := .seq its n, slots := sl } ∧ R (.ok (.ret (Value.ref l))) s) :=
  .of_wp fun prog w A R s h => by
    obtain ⟨hp, g, d, tk, os⟩ := s
    obtain ⟨hl, h⟩ := h
    have f1 := AutoSeq1.idx_int
    have c1 : (its.isEmpty || (1 : Int) == 1) = true := by rw [Bool.or_eq_true]; exact .inr rfl
    wp_walk using wpAny_loadPart' hl
    exact ⟨_, rfl, h⟩
def rRepA (K : PySem.W.Frag) : R2 := fun x y H Q => rRepT K x y H Q ∨ ∃ l xs, x = .ref l ∧ y = .int 1 ∧ SqT K H l xs ∧ Q (.ref l) H
theorem op_repA {X : Cx} : OpR X (binaryOp .Mult) (rRepA X.K) := by
  intro pins s σ H x y v u Q I rx ry h
  rcases h with h | ⟨l, xs, rfl, rfl, hT, q⟩
  · exact op_repT pins s σ H x y v u Q I rx ry h
  · cases rx
    obtain ⟨t, rfl⟩ := ry
    obtain ⟨its, r, ⟨⟨cls, dd, data, sl⟩, ho, hc, n, hd⟩, hs⟩ := I.tuple hT
    simp only at hc hd
    subst hc hd
    refine wpAny_binaryOp_repeat_ref (T := "tuple") (U := "int") (by decide) ⟨_, ho, rfl⟩ (fun s' => typeIs_int s' 1 t) noFill_tuple_mul F.fills_int_mul F.slot_int_rmul repeat_tuple F.slot_int_index.lookup
      (call_meets F.slot_int_rmul (typeIs_int s 1 t) F.entry_int_rmul (F.args_int_rmul_2 _ _) (int_rmul_tuple 1 t l its.toArray n dd sl)
        ⟨ho, rfl, ⟨_, ho, rfl⟩, call_meets F.slot_tuple_mul ⟨_, ho, rfl⟩ F.entry_tuple_mul (F.args_tuple_mul_2 _ _) (mulOne l its.toArray n dd sl t) ⟨ho, ?_⟩⟩)
    exact ⟨.ref l, H, I, rfl, q⟩
end TpO
namespace D8
open PySem PySem.Spec PyProof.Rows L2 TpO
theorem evd_repA {K : PySem.W.Frag} {σ : L2.St} {B : Hp} {ta tb : TE} {d : PyData} {n : Nat} (ha : EvD ta σ B (.tuple [d])) (hb : EvD tb σ B (.int (n : Nat))) (h1 : 1 ≤ n) (h2 : n ≤ 1000) : EvD (tOp (rRepA K) ta tb) σ B (.tuple (List.replicate n d)) :=
  evd_op ha hb fun v w B' s dv dw H t Q q => by
    obtain ⟨a, xs, rfl, h, ⟨u, _, rfl, du, rfl⟩⟩ := dv
    cases dw
    have flat : ∀ {α : Type} (x : α) (n : Nat), (List.replicate n [x]).flatten = List.replicate n x := fun x n => by
      induction n with
      | zero => rfl
      | succ n ih => rw [List.replicate_succ, List.flatten_cons, ih, List.replicate_succ]; rfl
    have dds : ∀ n, DDs B' (List.replicate n d) (List.replicate n u) := fun n => by
      induction n with
      | zero => rfl
      | succ n ih => rw [List.replicate_succ, List.replicate_succ]; exact .cons du ih
    by_cases e : n = 1
    · subst e
      exact .inr ⟨a, [u], rfl, rfl, sqt (t _ _ h), q _ _ _ (Grow.refl t) ⟨a, _, rfl, h, .one du⟩⟩
    · refine .inl ⟨a, (n : Nat), [u], rfl, rfl, sqt (t _ _ h), List.cons_ne_nil _ _, by omega, by omega, (show 1 ≤ 1000 by decide), fun p hp => ?_⟩
      rw [Int.toNat_natCast, flat]
      exact q _ _ _ (Grow.new t hp) ⟨p, _, rfl, upd_same, (dds n).mono (Grow.new t hp).b⟩
end D8

set_option maxHeartbeats 4000000
namespace K84
open PySem PySem.Spec PyProof.Rows L2 D8
variable {P : Program} {w : World} {K : PySem.W.Frag} {mg : Str → Option Value} {base : Heap}
/-! ### the error classes -/
/-- PolyError.__init__(self, ..), PolyError a class of the program that has ValueError's -/
theorem pe_polyinit {X : Cx} {C : Addr} {mc : Value} {pl : Sem Bool} {e : Expr} {es : List Expr} {ta : TA} {p1 p2 pos : Pos} (T : PolyAt X.K X.mg C mc) (hg : Gl X "PolyError") (ha : PA X (e :: es) ta)
    (hc : eval (.Call (.Attribute (.Name "PolyError" p1) "__init__" p2) (e :: es) [] pos) X.env = (do
      let ov ← eval (.Name "PolyError" p1) X.env
      standAt p2.atName
      let (f, first) ← holding [ov] (getMethod ov "__init__" pl)
      callWith pos f first (backTo pos (starEach (e :: es) X.env)) (backToKw pos (keywordEach [] X.env))) := by rfl)
    (he : starEach (e :: es) X.env = (false, eval e X.env) :: starEach es X.env := by rfl) (hpl : (backTo pos (starEach es X.env)).any (·.1) = false := by rfl) :
    PE X (.Call (.Attribute (.Name "PolyError" p1) "__init__" p2) (e :: es) [] pos) (tVeI X.K ta) := by
  refine ⟨fun pins s σ H Q I h => ?_⟩
  refine PySem.W.methodCall_KW (ld_glob I hg T.gC ?_) hc
  refine PySem.W.method_cls I.kIn T.sg (PySem.W.cls_value I.kIn T.rd T.ini (by decide +kernel) ?_)
  show wpAny _ _ (callWith pos (Value.builtin "ValueError.__init__") [] (backTo pos (starEach (e :: es) X.env)) []) _ _ _
  refine PyProof.Rows.callWith_method1 (thn (ha.run pos pins _ σ H _ (I.tok _) h) fun us s1 ⟨vs, H1, I1, r1, a, D, ws, ev, hl, O, ea, q⟩ => ?_) he hpl
  subst ev
  cases r1 with
  | @cons _ u0 _ ur ra rw' =>
    obtain rfl : u0 = Value.ref a := ra
    have hlen : ur.length ≤ sizeLine := by
      rw [← Paired.length rw', sizeLine_eq]
      omega
    exact oinit_ok O I1 ea hlen fun s' J => ⟨.non, H1, J, rfl, q⟩
/-- what an error's __init__ does -/
def sp_ini (K : PySem.W.Frag) : Sp := fun vs H Q _ => ∃ (a C : Addr) (z : Str), vs = [.ref a, .str z] ∧ z.length ≤ 1000 ∧ OexC K C ∧ PySem.W.findIn K (.ref C) "what" = some none ∧ H a = some (exo a C none) ∧
  ∀ dx, H dx = none → dx ≠ a → Q .non (upd (upd H dx (exd dx [(("what" : Str), .str z)])) a (exo a C (some dx)))
theorem sc_iT : FnScope ["self", "what"] ["self", "what"] (defScope s_iT) := ⟨rfl, rfl, rfl, by decide +kernel, rfl, by decide +kernel, by decide +kernel⟩
theorem sc_iM : FnScope ["self", "what"] ["self", "what"] (defScope s_iM) := ⟨rfl, rfl, rfl, by decide +kernel, rfl, by decide +kernel, by decide +kernel⟩
theorem ini_reads {z0 : Str} (hz0 : z0.length ≤ 100) {vs : List V} {H : Hp} {Q : VK} {E : XK} (h : sp_ini K vs H Q E) :
    tSeq (tDrop (tVeI K (tCons (tVar 0) (tCons (tOp (fun x y H Q => ∃ i j, x = .str i ∧ y = .str j ∧ i.length + j.length ≤ sizeLine ∧ Q (.str (i ++ j)) H) (tC (.str z0)) (tVar 1)) tNil))))
      (tOst K "what" (tVar 0) (tVar 1)) { nx := fun _ H' => Q .non H', rt := Q } (start ["self", "what"] vs) H := by
  obtain ⟨a, C, z, rfl, hz, O, hno, ha, q⟩ := h
  refine ⟨_, rfl, _, rfl, z0, z, rfl, rfl, ge_sz (by omega), a, C, [.str (z0 ++ z)], rfl, (show 1 ≤ 1000 by decide), O, ha, ?_⟩
  exact ⟨_, rfl, _, rfl, a, C, rfl, O, hno, .inl ⟨ha, fun dx h1 h2 => q dx h1 h2⟩⟩
theorem ok_iT (M : Mod K mg) : FnOk P w K mg base CX0 1 M.fiT M.fdT ["self", "what"] (sp_ini K) := by
  refine M.errT.F.ok sc_iT (fun vs H Q E ⟨_, _, _, e, _⟩ => by rw [e]; rfl) (fun cdv A outer s H vs Q E hr h => ?_)
  exact ⟨_, pss_cons (ps_expr (pe_polyinit M.poly (by rfl) (pa_cons (pv 0) (pa_cons (pe_op op_add_str pe_str (pv 1)) pa_nil)))) (pss_one (ps_ost (pv 0) (pv 1))), ini_reads (by decide) h⟩
theorem ok_iM (M : Mod K mg) : FnOk P w K mg base CX0 1 M.fiM M.fdM ["self", "what"] (sp_ini K) := by
  refine M.errM.F.ok sc_iM (fun vs H Q E ⟨_, _, _, e, _⟩ => by rw [e]; rfl) (fun cdv A outer s H vs Q E hr h => ?_)
  exact ⟨_, pss_cons (ps_expr (pe_polyinit M.poly (by rfl) (pa_cons (pv 0) (pa_cons (pe_op op_add_str pe_str (pv 1)) pa_nil)))) (pss_one (ps_ost (pv 0) (pv 1))), ini_reads (by decide) h⟩
/-- what a raise of such an error leaves -/
theorem raise_reads {W : WX} {C : Addr} {z : Str} {σ : L2.St} {H : Hp} (O : OexC K C) (hno : PySem.W.findIn K (.ref C) "what" = some none) (hz : z.length ≤ 1000)
    (q : ∀ d H', Same H H' → H' d = some (.xd [(("what" : Str), .str z)]) → W (.ref C) (some d) σ H') : tMkO C (sp_ini K) [] (tCons (tC (.str z)) tNil) σ H (fun cls d H' => W cls d σ H') := by
  refine ⟨show 1 ≤ 1000 by decide, fun a ha => ⟨a, C, z, rfl, hz, O, hno, upd_same, fun dx h1 h2 => ⟨rfl, dx, [(("what" : Str), .str z)], upd_same, ?_, ?_, ?_⟩⟩⟩
  · rw [upd_ne h2, upd_same]
  · rwa [upd_ne h2] at h1
  · refine q dx _ (fun b o hb => ?_) upd_same
    have n1 : b ≠ a := ne_of_none hb ha
    have n2 : b ≠ dx := fun e => by
      rw [← e, upd_ne n1] at h1
      rw [h1] at hb
      cases hb
    rw [upd_ne n2, del_ne n1, upd_ne n1, upd_ne n2, upd_ne n1]
    exact hb
end K84

/-! What the program's search for factors finds, as lists (own work, plain). -/
namespace Bx
abbrev Pt := List Int
def iter (st : Pt → Pt) : Nat → Pt → Pt
  | 0, v => v
  | m + 1, v => st (iter st m v)
def stepV (D : Int) (u v : Pt) : Pt := List.zipWith (fun e s => (e + s).fmod D) v u
/-- behind F, being prolonged by one step: L; the steps of those done lie in S -/
structure GrI (st : Pt → Pt) (F : List Pt) (i : Nat) (L : List Pt) (S : Pt → Prop) : Prop where
  nd : L.Nodup
  pre : ∃ more, L = F ++ more ∧ ∀ v ∈ more, S (st v)
  cl : ∀ (j : Nat) (f : Pt), j < i → F[j]? = some f → S (st f)
  rc : ∀ v ∈ L, ∃ f ∈ F, ∃ m, v = iter st m f
/-- F prolonged whole -/
structure Gr (st : Pt → Pt) (F L : List Pt) : Prop where
  nd : L.Nodup
  sub : ∀ v ∈ F, v ∈ L
  cl : ∀ v ∈ L, st v ∈ L
  rc : ∀ v ∈ L, ∃ f ∈ F, ∃ m, v = iter st m f
inductive Fac (st : Nat → Pt → Pt) (z : Pt) : Nat → List Pt → Prop
  | zero : Fac st z 0 [z]
  | succ {k : Nat} {F L : List Pt} (h : Fac st z k F) (g : Gr (st k) F L) : Fac st z (k + 1) L
theorem GrI.start {st : Pt → Pt} {F : List Pt} (h : F.Nodup) : GrI st F 0 F (· ∈ F) :=
  ⟨h, ⟨[], by simp, fun v hv => by cases hv⟩, fun j f hj => absurd hj (Nat.not_lt_zero j), fun v hv => ⟨v, hv, 0, rfl⟩⟩
theorem GrI.open_ {st : Pt → Pt} {F L : List Pt} {i : Nat} {f : Pt} (g : GrI st F i L (· ∈ L)) (hf : F[i]? = some f) : GrI st F (i + 1) L (fun x => x ∈ L ∨ x = st f) :=
  ⟨g.nd, by obtain ⟨more, e, h⟩ := g.pre; exact ⟨more, e, fun v hv => .inl (h v hv)⟩, fun j f' hj he => by
    by_cases e : j = i
    · subst e
      rw [hf] at he
      cases he
      exact .inr rfl
    · exact .inl (g.cl j f' (by omega) he), g.rc⟩
theorem GrI.shut {st : Pt → Pt} {F L : List Pt} {i : Nat} {w : Pt} (g : GrI st F i L (fun x => x ∈ L ∨ x = w)) (hw : w ∈ L) : GrI st F i L (· ∈ L) :=
  ⟨g.nd, by
    obtain ⟨more, e, h⟩ := g.pre
    refine ⟨more, e, fun v hv => ?_⟩
    rcases h v hv with q | q
    · exact q
    · rw [q]; exact hw, fun j f hj he => by
    rcases g.cl j f hj he with q | q
    · exact q
    · rw [q]; exact hw, g.rc⟩
theorem GrI.more {st : Pt → Pt} {F L : List Pt} {i : Nat} {w : Pt} (g : GrI st F i L (fun x => x ∈ L ∨ x = w)) (hw : w ∉ L) (hr : ∃ f ∈ F, ∃ m, w = iter st m f) : GrI st F i (L ++ [w]) (fun x => x ∈ L ++ [w] ∨ x = st w) := by
  have up : ∀ x, x ∈ L ∨ x = w → x ∈ L ++ [w] := fun x h => by
    rcases h with q | q
    · exact List.mem_append_left _ q
    · rw [q]; simp
  refine ⟨?_, ?_, fun j f hj he => .inl (up _ (g.cl j f hj he)), fun v hv => ?_⟩
  · rw [List.nodup_append]
    exact ⟨g.nd, by simp, fun a ha b hb e => hw (by
      have : b = w := by simpa using hb
      rw [← this, ← e]; exact ha)⟩
  · obtain ⟨more, e, h⟩ := g.pre
    refine ⟨more ++ [w], by rw [e, List.append_assoc], fun v hv => ?_⟩
    rcases List.mem_append.mp hv with q | q
    · exact .inl (up _ (h v q))
    · have : v = w := by simpa using q
      rw [this]; exact .inr rfl
  · rcases List.mem_append.mp hv with q | q
    · exact g.rc v q
    · have : v = w := by simpa using q
      rw [this]; exact hr
theorem GrI.whole {st : Pt → Pt} {F L : List Pt} {i : Nat} (g : GrI st F i L (· ∈ L)) (hi : F.length ≤ i) : Gr st F L := by
  obtain ⟨more, e, h⟩ := g.pre
  refine ⟨g.nd, fun v hv => by rw [e]; exact List.mem_append_left _ hv, fun v hv => ?_, g.rc⟩
  have hv2 : v ∈ F ++ more := by rw [← e]; exact hv
  rcases List.mem_append.mp hv2 with q | q
  · obtain ⟨j, hj, ej⟩ := List.mem_iff_getElem.mp q
    exact g.cl j v (by omega) (by rw [List.getElem?_eq_getElem hj, ej])
  · exact h v q
theorem nodup_le : ∀ {L G : List Pt}, L.Nodup → (∀ v ∈ L, v ∈ G) → L.length ≤ G.length
  | [], _, _, _ => Nat.zero_le _
  | v :: L, G, nd, h => by
    have hv := h v (List.mem_cons_self ..)
    obtain ⟨a, b, rfl⟩ := List.append_of_mem hv
    rw [List.nodup_cons] at nd
    have := nodup_le (G := a ++ b) nd.2 fun w hw => by
      have h1 := h w (List.mem_cons_of_mem _ hw)
      rcases List.mem_append.mp h1 with q | q
      · exact List.mem_append_left _ q
      · rcases List.mem_cons.mp q with z | z
        · exact absurd (by rw [← z]; exact hw) nd.1
        · exact List.mem_append_right _ z
    rw [List.length_cons, List.length_append, List.length_cons]
    rw [List.length_append] at this
    omega
theorem iter_in {st : Pt → Pt} {G : List Pt} (h : ∀ v ∈ G, st v ∈ G) {f : Pt} (hf : f ∈ G) : ∀ m, iter st m f ∈ G
  | 0 => hf
  | m + 1 => h _ (iter_in h hf m)
theorem Fac.in {st : Nat → Pt → Pt} {z : Pt} {n : Nat} {G : List Pt} (hz : z ∈ G) (h : ∀ k, k < n → ∀ v ∈ G, st k v ∈ G) : ∀ {k : Nat} {F : List Pt}, Fac st z k F → k ≤ n → F.Nodup ∧ z ∈ F ∧ ∀ v ∈ F, v ∈ G
  | _, _, .zero, _ => ⟨by simp, by simp, fun v hv => by
    have : v = z := by simpa using hv
    rw [this]; exact hz⟩
  | _, _, .succ (k := k) f g, hk => by
    obtain ⟨h1, h2, h3⟩ := Fac.in hz h f (by omega)
    refine ⟨g.nd, g.sub _ h2, fun v hv => ?_⟩
    obtain ⟨f', hf, m, rfl⟩ := g.rc v hv
    exact iter_in (h k (by omega)) (h3 f' hf) m
end Bx

set_option maxHeartbeats 4000000
namespace D8
open PySem PySem.Spec PyProof.Rows L2
/-- an expression whose answer is one of several -/
def EvX (te : TE) (σ : L2.St) (B : Hp) (P : PyData → Prop) : Prop := ∀ H, Same B H → ∀ Q : VK, (∀ d v B' H', P d → Grow B H B' H' → DD B' d v → Q v H') → te σ H Q
/-- what a dict with tuple keys knows -/
structure KnowH (kvs : List (List L2.Key × V)) (L : List (List Int)) : Prop where
  has : ∀ w : List Int, (valV kvs (w.map Sum.inl)).isSome = true ↔ w ∈ L
  few : kvs.length ≤ L.length
theorem inl_map : ∀ {a b : List Int}, a.map (Sum.inl : Int → L2.Key) = b.map Sum.inl → a = b
  | [], [], _ => rfl
  | [], _ :: _, h => by simp at h
  | _ :: _, [], h => by simp at h
  | x :: a, y :: b, h => by
    have h1 := Sum.inl.inj (List.cons.inj h).1
    have h2 := (List.cons.inj h).2
    rw [h1, inl_map h2]
theorem KnowH.put {kvs : List (List L2.Key × V)} {L : List (List Int)} (k : KnowH kvs L) (r : List Int) (v : V) : KnowH (putK kvs (r.map Sum.inl) v) (L ++ [r]) := by
  refine ⟨fun w => ?_, ?_⟩
  · rw [valV_put]
    by_cases e : w = r
    · subst e
      simp
    · rw [if_neg (fun z => e (inl_map z)), k.has w]
      simp [e]
  · have := length_putK kvs (r.map Sum.inl) v
    have := k.few
    rw [List.length_append]
    show _ ≤ L.length + 1
    omega
theorem KnowH.nil : KnowH [] [] := ⟨fun w => by simp [valV], Nat.le_refl _⟩
theorem keyT {r : List Int} : (r.map (Sum.inl : Int → L2.Key)).map kV = r.map V.int := by
  rw [List.map_map]
  rfl
section
variable {K : PySem.W.Frag} {σ : L2.St} {B H : Hp} {u : TS} {D : Ends}
theorem pts_at {B : Hp} {F : List (List Int)} {xs : List V} {i : Nat} {x : V} (p : DDs B (F.map fun r => pt r) xs) (h : xs[i]? = some x) : ∃ r b, F[i]? = some r ∧ x = .ref b ∧ B b = some (.tup (r.map V.int)) := by
  obtain ⟨d, hd, dx⟩ := p.getV h
  rw [List.getElem?_map] at hd
  cases e : F[i]? with
  | none => rw [e] at hd; cases hd
  | some r =>
    rw [e] at hd
    cases hd
    obtain ⟨b, ys, rfl, hb, pb⟩ := dx
    have ey := pb.toI
    subst ey
    exact ⟨r, b, rfl, rfl, hb⟩
/-- {row: True for row in found} -/
theorem seq_dcT {i j l : Nat} {F : List (List Int)} {v : V} (hv : σ[l]? = some (some v)) (dv : DD B (.list (F.map fun r => pt r)) v) (s : Same B H) (hl : F.length ≤ 1000) (hw : ∀ x, ((wipe σ [i]).set i (some x))[i]? = some (some x)) (hw2 : ∀ x, wipe ((wipe σ [i]).set i (some x)) [i] = wipe σ [i])
    (k : ∀ p kvs H', H p = none → Grow B H B H' → B p = none → H' p = some (.dT kvs) → KnowH kvs F → u D (σ.set j (some (.ref p))) H') : tSeq (tAsg (DcT.tDcT (iList K (tVar l)) (gName i) tYes (tVar i) (tC (.bl true)) [i]) (gName j)) u D σ H := by
  obtain ⟨a, xs, rfl, ha, pa⟩ := dv
  have hxl : xs.length = F.length := by rw [pa.length, List.length_map]
  refine ⟨_, hv, a, rfl, ⟨xs, sql (s _ _ ha)⟩, fun p hp => ?_⟩
  have bp : B p = none := base_none s hp
  refine ⟨fun i m H' => i + m = F.length ∧ (∀ b, b ≠ p → H' b = H b) ∧ ∃ kvs, H' p = some (.dT kvs) ∧ KnowH kvs (F.take i), ⟨F.length, by omega, fun b hb => upd_ne hb, [], upd_same, KnowH.nil⟩, ?_⟩
  rintro n m H' ⟨hm, he, kvs, hk, kn⟩
  have ha' : H' a = some (.lst xs) := by
    rw [he a (ne_of_none ha bp)]
    exact s _ _ ha
  by_cases hlt : n < F.length
  · refine .inr ⟨⟨xs, _, sql ha', List.getElem?_eq_getElem (by omega)⟩, fun H2 => (∀ b, b ≠ p → H2 b = H b) ∧ ∃ kvs, H2 p = some (.dT kvs) ∧ KnowH kvs (F.take (n + 1)), fun H2 h2 => ⟨m - 1, by omega, by omega, h2⟩, fun x H2 y => ?_⟩
    obtain ⟨rfl, f⟩ := y
    have hx := f xs (sql ha')
    obtain ⟨r, b, er, rfl, hb⟩ := pts_at pa hx
    refine ⟨hw2 _, ?_⟩
    unfold tYes
    dsimp only
    rw [if_pos rfl]
    have hb' : H2 b = some (.tup ((r.map (Sum.inl : Int → L2.Key)).map kV)) := by
      rw [he b (ne_of_none hb bp), keyT]
      exact s _ _ hb
    refine ⟨_, hw _, kvs, r.map Sum.inl, b, rfl, hb', hk, ?_, fun c hc => ?_, _, upd_same, ?_⟩
    · have h1 := kn.few
      rw [List.length_take] at h1
      exact Nat.lt_of_le_of_lt (show kvs.length ≤ 1000 by omega) (by decide)
    · rw [upd_ne hc]
      exact he c hc
    · rw [List.take_add_one, er]
      exact kn.put r _
  · have e : n = F.length := by omega
    subst e
    refine .inl ⟨⟨xs, sql ha', by omega⟩, ?_⟩
    rw [List.take_length] at kn
    refine k p kvs H' hp ⟨Same.refl _, fun b o hb => ?_, fun b o hb => ?_, fun _ _ => rfl⟩ bp hk kn
    · rw [he b (ne_of_none hb hp)]
      exact hb
    · rw [he b (ne_of_none hb bp)]
      exact s _ _ hb
/-- list(found), open -/
theorem seq_listNew {j l : Nat} {ds : List PyData} {v : V} (hv : σ[l]? = some (some v)) (dv : DD B (.list ds) v) (s : Same B H)
    (k : ∀ p xs H', H p = none → Grow B H B H' → B p = none → H' p = some (.lst xs) → DDs B ds xs → (∀ b, b ≠ p → H' b = H b) → u D (σ.set j (some (.ref p))) H') : tSeq (tAsg (tCB (rListQ K) (tCons (tVar l) tNil)) (gName j)) u D σ H := by
  obtain ⟨a, xs, rfl, ha, pa⟩ := dv
  refine ⟨_, hv, a, xs, rfl, .inl (sql (s _ _ ha)), fun p hp => ?_⟩
  have bp : B p = none := base_none s hp
  exact k p xs _ hp ⟨Same.refl _, (Grow.new s hp).h, same_mut s bp, fun _ _ => rfl⟩ bp upd_same pa fun b hb => upd_ne hb
/-- known[here] = True -/
theorem seq_dput {i j : Nat} {p : Addr} {kvs : List (List L2.Key × V)} {w : List Int} {v : V} (hp0 : σ[i]? = some (some (.ref p))) (hp : H p = some (.dT kvs)) (hv : σ[j]? = some (some v)) (dv : DD B (pt w) v) (s : Same B H) (bp : B p = none) (hl : kvs.length < sizeLine)
    (k : Same B (upd H p (.dT (putK kvs (w.map Sum.inl) (.bl true)))) → u D σ (upd H p (.dT (putK kvs (w.map Sum.inl) (.bl true))))) : tSeq (sDPut (tVar i) (tVar j) (tC (.bl true))) u D σ H := by
  obtain ⟨b, ys, rfl, hb, pb⟩ := dv
  have ey := pb.toI
  subst ey
  refine ⟨_, hp0, _, hv, p, _, rfl, DPut.t hp (by rw [keyT]; exact s _ _ hb) hl, k (same_mut s bp)⟩
/-- here not in known -/
theorem evt_notKnown {i j : Nat} {p : Addr} {kvs : List (List L2.Key × V)} {w : List Int} {v : V} {L : List (List Int)} {Q : Bool → Hp → Prop} (hp0 : σ[i]? = some (some (.ref p))) (hp : H p = some (.dT kvs)) (hv : σ[j]? = some (some v)) (dv : DD B (pt w) v) (s : Same B H) (kn : KnowH kvs L)
    (q : Q (!decide (w ∈ L)) H) : tB (tDNotIn (tVar j) (tVar i)) σ H Q := by
  obtain ⟨b, ys, rfl, hb, pb⟩ := dv
  have ey := pb.toI
  subst ey
  refine ⟨_, hv, _, hp0, p, _, rfl, DGet.t hp (by rw [keyT]; exact s _ _ hb), _, rfl, ?_⟩
  have e : (valV kvs (w.map Sum.inl)).isSome = decide (w ∈ L) := by
    rw [Bool.eq_iff_iff, kn.has w, decide_eq_true_iff]
  rw [e]
  exact q
end
end D8
namespace K84
open PySem PySem.Spec PyProof.Rows L2 D8
variable {P : Program} {w : World} {K : PySem.W.Frag} {mg : Str → Option Value} {base : Heap}
/-! ### box_factors -/
def whoM (M : List (List Int)) : Nat := (Br.bareM M).natAbs
def unV (n k : Nat) : List Int := (List.range n).map fun p : Nat => if decide ((p : Int) = (k : Int)) = true then 1 else 0
def fracA (a b : Int) : Int := a.fdiv (gcS a b)
def fracB (a b : Int) : Int := b.fdiv (gcS a b)
def stepsM (M : List (List Int)) (k : Nat) : List Int := (List.range M.length).map fun j =>
  fracA (Br.bareM (chgM (traM M) (unV M.length k) j)) (Br.bareM (traM M)) * Int.fdiv (whoM M) (fracB (Br.bareM (chgM (traM M) (unV M.length k) j)) (Br.bareM (traM M)))
def zeroV (n : Nat) : List Int := List.replicate n 0
def moveM (M : List (List Int)) (k : Nat) : Bx.Pt → Bx.Pt := Bx.stepV (whoM M) (stepsM M k)
/-- a finite home of all that is found -/
structure Home (M : List (List Int)) (n : Nat) (G : List Bx.Pt) : Prop where
  few : G.length < 64
  zero : zeroV n ∈ G
  step : ∀ k, k < n → ∀ v ∈ G, moveM M k v ∈ G
  row : ∀ v ∈ G, v.length = n ∧ ∀ x ∈ v, 0 ≤ x ∧ x < 1000
theorem fracB_nz {a b : Int} (h : b ≠ 0) : fracB a b ≠ 0 ∧ (fracB a b).natAbs ≤ b.natAbs := by
  have hg := gcS_ok (a := a) h
  have hd : gcS a b ∣ b := by
    have h1 : ((Nat.gcd a.natAbs b.natAbs : Nat) : Int) ∣ b := Int.ofNat_dvd_left.mpr (Nat.gcd_dvd_right _ _)
    unfold gcS
    split
    · exact Int.neg_dvd.mpr h1
    · exact h1
  obtain ⟨c, hc⟩ := hd
  have e : fracB a b = c := by
    unfold fracB
    rw [show b.fdiv (gcS a b) = (gcS a b * c).fdiv (gcS a b) by rw [← hc]]
    exact Int.mul_fdiv_cancel_left c hg.1
  rw [e]
  refine ⟨fun z => h (by rw [hc, z, Int.mul_zero]), ?_⟩
  rw [show b.natAbs = (gcS a b).natAbs * c.natAbs by rw [← Int.natAbs_mul, ← hc]]
  exact Nat.le_mul_of_pos_left _ (by have := hg.1; omega)
def stepD (D : Int) : PyData → PyData
  | .tuple [.int a, .int b] => .int (a * D.fdiv b)
  | d => d
theorem widM_tra {n : Nat} {M : List (List Int)} (R : Rct n M) (h : M ≠ []) : (traM M).length = n := by
  unfold traM
  rw [List.length_map, List.length_range, widM_eq R h]
theorem traM_sqr {b : Int} {n : Nat} {M : List (List Int)} (S : Sqr b n M) (hb : 0 ≤ b) (hn : n ≤ 100) (h1 : 1 ≤ n) : Sqr b n (traM M) := by
  have hne : M ≠ [] := fun z => by have := S.len; rw [z] at this; simp at this; omega
  have hw := widM_eq (S.rct hn) hne
  refine ⟨by unfold traM; rw [List.length_map, List.length_range, hw], fun r hr => ?_, fun r hr => ?_⟩
  · obtain ⟨k, _, rfl⟩ := List.mem_map.mp hr
    unfold colM
    rw [List.length_map, S.len]
  · obtain ⟨k, _, rfl⟩ := List.mem_map.mp hr
    exact colM_bd S hb k
structure FacOk (b n : Nat) (X : List (List Int)) : Prop where
  n1 : 1 ≤ n
  len : X.length ≤ 100
  row : ∀ r ∈ X, r.length ≤ 100
  det : DetOk b n (liftM X)
  nz : Br.bareM (traM (liftM X)) ≠ 0
  pos : 0 < whoM (liftM X)
/-- what is found -/
def Found (X : List (List Int)) (n : Nat) (L : List Bx.Pt) : Prop := ∃ F, Bx.Fac (moveM (liftM X)) (zeroV n) n F ∧ SortedOf F L
def sp_box_factors (cM : Addr) : Sp := fun vs H Q E => ∃ B ds, Same B H ∧ DDs B ds vs ∧ ∃ (tp : Bool) (b n : Nat) (X : List (List Int)), ds = [.list (rowsD tp X)] ∧ FacOk b n X ∧
  ((2000 < whoM (liftM X) ∧ ∀ d H', Same H H' → H' d = some (.xd [(("what" : Str), .str "points")]) → E (.ref cM) (some d) H') ∨
    (whoM (liftM X) ≤ 2000 ∧ (∃ G, Home (liftM X) n G) ∧ ∀ L v B' H', Found X n L → Grow B H B' H' → DD B' (.tuple [.int (whoM (liftM X)), .list (pts L)]) v → Q v H'))
theorem ok_box_factors (M : Mod K mg) : FnOk P w K mg base (L2.CX P w) 4 M.f_box_factors M.fd_box_factors ["points"] (sp_box_factors M.cM) := by
  refine M.d_box_factors.F.okX sc_box_factors (fun vs H Q E ⟨B, ds, _, hd, _, _, _, _, e, _⟩ => by rw [hd.length, e]; rfl) (fun cdv A outer s H vs Q E hr h => ?_)
  obtain ⟨B, ds, sB, hd, tp, b, n, X, rfl, O, hcase⟩ := h
  obtain ⟨v0, _, rfl, dr, rfl⟩ := hd
  have hn1 := O.n1
  have S := O.det.sqr
  have n30 := O.det.n30
  have hMl : (liftM X).length = n := S.len
  have hMne : liftM X ≠ [] := fun z => by rw [z] at hMl; simp at hMl; omega
  have ST : Sqr b n (traM (liftM X)) := traM_sqr S (by omega) (by omega) hn1
  have OT : DetOk b n (traM (liftM X)) := ⟨O.det.pos, ST, O.det.n30, O.det.bnd⟩
  refine ⟨_, (pss_cons (ps_set (i := 1) sc_box_factors.nd rfl (.inl rfl) (pe_call (ok_lifted M) (hr.mono (by decide)) (by rfl) M.d_lifted.g M.d_lifted.F.kp M.d_lifted.b .nil pass0 (pa_cons (pv 0) pa_nil)))
    (pss_cons (ps_set (i := 2) sc_box_factors.nd rfl (.inl rfl) (pe_callB call_len_seq (by rfl) M.m_len PySem.boot_len (pa_cons (pv 1) pa_nil)))
    (pss_cons (ps_set (i := 3) sc_box_factors.nd rfl (.inr rfl) (pe_callB call_abs (by rfl) M.m_abs (by decide +kernel) (pa_cons (pe_call (ok_determinant M) (hr.mono (by decide)) (by rfl) M.d_determinant.g M.d_determinant.F.kp M.d_determinant.b .nil pass0 (pa_cons (pv 1) pa_nil)) pa_nil)))
    (pss_cons (ps_if (pt_cmpR op_gt (pv 3) (pe_glob (v := .int 2000) rfl M.m_MOST_POINTS ⟨_, rfl⟩) (nomark _)) (pss_one (ps_raise rfl (takes_of rfl rfl rfl rfl) (pmk_oex M.errM.oex M.errM.iC M.errM.tI (ok_iM M) (hr.mono (by decide)) M.errM.b .nil pass0 (by rfl) M.errM.gC (pa_cons pe_str pa_nil)))) pss_nil)
    (pss_cons (ps_set (i := 4) sc_box_factors.nd rfl (.inl rfl) (pe_lst (pa_cons (pe_op TpO.op_repA (pe_tup (pa_cons pe_int pa_nil)) (pv 2)) pa_nil)))
    (pss_cons (ps_for (passes_of rfl) rfl (pi_range1 (by rfl) M.m_range (pa_cons (pv 2) pa_nil)) (pg_name (i := 5) sc_box_factors.nd rfl (.inr rfl))
    (pss_cons (ps_setLc (i := 6) (own := [("place", 13)]) (g := gName 13) (tt := tYes) (te := (tCB rInt1 (tCons (tOp rEq (tVar 13) (tVar 5)) tNil))) rfl sc_box_factors.nd rfl rfl (sw_true rfl rfl rfl (by decide +kernel)) (pi_range1 (by rfl) M.m_range (pa_cons (pv 2) pa_nil)) (blkOk_by (own := [("place", 13)]) (N := N_box_factors) (sc := defScope s_box_factors) (by decide +kernel)) (fun _ _ _ _ _ => (pg_name (i := 13) sc_box_factors.nd rfl (.inl rfl))) (fun _ _ _ _ _ => pts_nil) (fun _ _ _ _ _ => (pe_callTy call_int1 (by rfl) M.m_int (by decide +kernel) (pa_cons (pe_cmpR op_eq (pv 13) (pv 5) (nomark _)) pa_nil))))
    (pss_cons (ps_set (i := 7) sc_box_factors.nd rfl (.inl rfl) (pe_call (ok_solved M) (hr.mono (by decide)) (by rfl) M.d_solved.g M.d_solved.F.kp M.d_solved.b .nil pass0 (pa_cons (pe_call (ok_transposed M) (hr.mono (by decide)) (by rfl) M.d_transposed.g M.d_transposed.F.kp M.d_transposed.b .nil pass0 (pa_cons (pv 1) pa_nil)) (pa_cons (pv 6) pa_nil))))
    (pss_cons (ps_setLc (i := 8) (own := [("above", 15), ("below", 16)]) (g := gTup K 2 (gCons (gName 15) (gCons (gName 16) gNil))) (tt := tYes) (te := (tOp (rI CMul fun i j => .int (i * j)) (tVar 15) (tOp (rI CDivN fun i j => .int (i.fdiv j)) (tVar 3) (tVar 16)))) rfl sc_box_factors.nd rfl rfl (sw_true rfl rfl rfl (by decide +kernel)) (pi_list (pv 7)) (blkOk_by (own := [("above", 15), ("below", 16)]) (N := N_box_factors) (sc := defScope s_box_factors) (by decide +kernel)) (fun _ _ _ _ _ => (pg_tup rfl (pgs_cons (pg_name (i := 15) sc_box_factors.nd rfl (.inl rfl)) (pgs_cons (pg_name (i := 16) sc_box_factors.nd rfl (.inl rfl)) pgs_nil)))) (fun _ _ _ _ _ => pts_nil) (fun _ _ _ _ _ => (pe_op op_mul (pv 15) (pe_op op_fdivN (pv 3) (pv 16)))))
    (pss_cons (DcT.ps_setDcT (i := 9) (ow := [("row", 14)]) (g := gName 14) (tt := tYes) (tk := (tVar 14)) (tv := (tC (.bl true))) hr.units0 rfl sc_box_factors.nd rfl rfl (DcT.swT_true rfl rfl rfl (by decide +kernel)) (pi_list (pv 4)) (blkOk_by (own := [("row", 14)]) (N := N_box_factors) (sc := defScope s_box_factors) (by decide +kernel)) (fun _ _ _ _ _ => (pg_name (i := 14) sc_box_factors.nd rfl (.inl rfl))) (fun _ _ _ _ _ => pts_nil) (fun _ _ _ _ _ => (pv 14)) (fun _ _ _ _ _ => pe_bl))
    (pss_cons (ps_set (i := 10) sc_box_factors.nd rfl (.inl rfl) (pe_callTy call_list_of (by rfl) M.m_list (by decide +kernel) (pa_cons (pv 4) pa_nil)))
    (pss_cons (ps_for (passes_of rfl) rfl (pi_list (pv 4)) (pg_name (i := 11) sc_box_factors.nd rfl (.inl rfl))
    (pss_cons (ps_set (i := 12) sc_box_factors.nd rfl (.inl rfl) (pe_callTy call_tuple_of (by rfl) M.m_tuple (by decide +kernel) (pa_cons (pe_lc (own := [("entry", 17), ("step", 18)]) (g := gTup K 2 (gCons (gName 17) (gCons (gName 18) gNil))) (tt := tYes) (te := (tOp (rI (fun _ j => j ≠ 0) fun i j => .int (i.fmod j)) (tOp (rI0 fun i j => .int (i + j)) (tVar 17) (tVar 18)) (tVar 3))) rfl sc_box_factors.nd (ZpM.pi_zipM (by rfl) M.m_zip (pa_cons (pv 11) (pa_cons (pv 8) pa_nil))) (blkOk_by (own := [("entry", 17), ("step", 18)]) (N := N_box_factors) (sc := defScope s_box_factors) (by decide +kernel)) (fun _ _ _ _ _ => (pg_tup rfl (pgs_cons (pg_name (i := 17) sc_box_factors.nd rfl (.inl rfl)) (pgs_cons (pg_name (i := 18) sc_box_factors.nd rfl (.inl rfl)) pgs_nil)))) (fun _ _ _ _ _ => pts_nil) (fun _ _ _ _ _ => (pe_op op_modN (pe_op op_add (pv 17) (pv 18)) (pv 3)))) pa_nil)))
    (pss_one (ps_while (passes_of rfl) (pt_cmp (pc_dnotin (hu_of hr) (pv 12) (pv 9))) (pss_cons (ps_dput (hu_of hr) (pv 9) (pv 12) pe_bl rfl)
    (pss_cons (ps_expr (pe_bm PySem.F.plainAttrs_list PySem.F.slot_list_append PySem.F.type_list_append mt_append (pv 10) (pa_cons (pv 12) pa_nil)))
    (pss_one (ps_set (i := 12) sc_box_factors.nd rfl (.inl rfl) (pe_callTy call_tuple_of (by rfl) M.m_tuple (by decide +kernel) (pa_cons (pe_lc (own := [("entry", 17), ("step", 18)]) (g := gTup K 2 (gCons (gName 17) (gCons (gName 18) gNil))) (tt := tYes) (te := (tOp (rI (fun _ j => j ≠ 0) fun i j => .int (i.fmod j)) (tOp (rI0 fun i j => .int (i + j)) (tVar 17) (tVar 18)) (tVar 3))) rfl sc_box_factors.nd (ZpM.pi_zipM (by rfl) M.m_zip (pa_cons (pv 12) (pa_cons (pv 8) pa_nil))) (blkOk_by (own := [("entry", 17), ("step", 18)]) (N := N_box_factors) (sc := defScope s_box_factors) (by decide +kernel)) (fun _ _ _ _ _ => (pg_tup rfl (pgs_cons (pg_name (i := 17) sc_box_factors.nd rfl (.inl rfl)) (pgs_cons (pg_name (i := 18) sc_box_factors.nd rfl (.inl rfl)) pgs_nil)))) (fun _ _ _ _ _ => pts_nil) (fun _ _ _ _ _ => (pe_op op_modN (pe_op op_add (pv 17) (pv 18)) (pv 3)))) pa_nil))))))))))
    (pss_one (ps_set (i := 4) sc_box_factors.nd rfl (.inl rfl) (pv 10))))))))))
    (pss_one (ps_ret (pe_tup (pa_cons (pv 3) (pa_cons (pe_callB (SgS.cr_sortS (d := n) (c := 1000) hn1) (by rfl) M.m_sorted (by decide +kernel) (pa_cons (pv 4) pa_nil)) pa_nil))))))))))), ?_⟩
  -- rows, size, whole
  refine seq_set (d := .list (rowsD false (liftM X))) (evd_call (ds := [.list (rowsD tp X)]) (eva_cons (evd_var (i := 0) rfl dr) eva_nil) ⟨tp, X, rfl, O.len, O.row⟩ (fun d ⟨tp', X', e, h⟩ => by
    have e1 := PyData.list.inj (List.cons.inj e).1
    rw [h]
    have : X = X' ∨ (X = [] ∧ X' = []) := by
      cases X with
      | nil =>
        cases X' with
        | nil => exact .inl rfl
        | cons a c => simp at e1
      | cons r X =>
        cases X' with
        | nil => simp at e1
        | cons r' X' =>
          have et : tp = tp' := by
            have h0 := (List.cons.inj e1).1
            cases tp <;> cases tp'
            · rfl
            · exact nomatch h0
            · exact nomatch h0
            · rfl
          subst et
          cases tp with
          | true => exact .inl (pts_inj e1)
          | false => exact .inl (rowsF_inj e1)
    rcases this with q | ⟨q1, q2⟩
    · rw [q]
    · rw [q1, q2])) sB fun v1 B1 H1 g1 d1 => ?_
  have hlen := evd_lenL (K := K) (evd_var (B := B1) (σ := (start N_box_factors [v0]).set 1 (some v1)) (i := 1) rfl d1)
  rw [List.length_map, hMl] at hlen
  refine seq_set hlen g1.i fun v2 B2 H2 g2 d2 => ?_
  cases d2
  refine seq_set (d := .int (whoM (liftM X) : Nat)) (evd_abs (evd_call (ds := [.list (rowsD false (liftM X))]) (eva_cons (evd_var (i := 1) rfl (d1.mono g2.b)) eva_nil) ⟨b, n, liftM X, rfl, O.det⟩ (fun d h => det_callB h))) g2.i fun v3 B3 H3 g3 d3 => ?_
  cases d3
  have g13 := (g1.trans g2).trans g3
  refine seq_if (b := decide ((2000 : Int) < (whoM (liftM X) : Nat))) (evt_test (evd_gt (evd_var (i := 3) (d := .int (whoM (liftM X) : Nat)) rfl rfl) evd_int)) g3.i fun B4 H4 g4 => ?_
  have g14 := g13.trans g4
  rcases hcase with ⟨hbig, qE⟩ | ⟨hsm, ⟨G, hG⟩, q⟩
  · refine (if_pos (decide_eq_true (by omega))).mpr ?_
    exact raise_reads (W := fun cls d _ H => E cls d H) M.errM.oex M.errM.noN (by decide) fun d H' sm hd => qE d H' (g14.h.trans sm) hd
  · refine (if_neg (by rw [decide_eq_true_iff]; omega)).mpr ?_
    have hG0 := hG.few
    have hDpos : 0 < whoM (liftM X) := O.pos
    have hD0 : ((whoM (liftM X) : Nat) : Int) ≠ 0 := by omega
    generalize hD : whoM (liftM X) = dD at *
    -- found = [(0,) * size]
    refine seq_set (d := .list (pts [zeroV n])) (evd_lst (eva_cons (by
        have h := evd_repA (K := K) (B := B4) (σ := [some v0, some v1, some (.int (n : Nat)), some (.int (dD : Nat)), none, none, none, none, none, none, none, none, none, none, none, none, none, none, none]) (d := .int 0) (n := n) (evd_tup (eva_cons evd_int eva_nil) (show 1 ≤ sizeLine by decide)) (evd_var (i := 2) rfl rfl) hn1 (by omega)
        have e : List.replicate n (PyData.int 0) = iL (zeroV n) := by
          unfold zeroV
          exact List.map_replicate.symm
        rw [e] at h
        exact h) eva_nil) (show 1 ≤ sizeLine by decide)) g4.i fun v4 B5 H5 g5 d5 => ?_
    have g15 := g14.trans g5
    have dM : DD B5 (.list (rowsD false (liftM X))) v1 := d1.mono (g2.b.trans (g3.b.trans (g4.b.trans g5.b)))
    refine for_D (B := B5) (es := rngL 0 n) (evi_rngN (evd_var (i := 2) (d := .int (n : Nat)) rfl rfl) (by omega)) g5.i fun B6 H6 g6 => ?_
    refine ⟨fun k σ B' H' => ∃ (F : List Bx.Pt) (u : V) (x5 x6 x7 x8 x9 x10 x11 x12 x13 x14 x15 x16 x17 x18 : Option V), σ = [some v0, some v1, some (.int (n : Nat)), some (.int (dD : Nat)), some u, x5, x6, x7, x8, x9, x10, x11, x12, x13, x14, x15, x16, x17, x18] ∧ Bx.Fac (moveM (liftM X)) (zeroV n) k F ∧ Grow B H B' H' ∧ Same B6 B' ∧ DD B' (.list (pts F)) u,
      ⟨_, v4, _, _, _, _, _, _, _, _, _, _, _, _, _, _, rfl, .zero, g15.trans g6, Same.refl _, d5.mono g6.b⟩, fun k σ B' H' ⟨_, _, _, _, _, _, _, _, _, _, _, _, _, _, _, _, _, _, g, s, _⟩ => ⟨s, g.i⟩, ?_, ?_⟩
    · rintro k d σ B' H' hd ⟨F, u, x5, x6, x7, x8, x9, x10, x11, x12, x13, x14, x15, x16, x17, x18, rfl, hF, gg, s6, du⟩ v B7 H7 g7 dv
      have hk : k < n := by
        have := (List.getElem?_eq_some_iff.mp hd).1
        simpa using this
      rw [List.getElem?_map, List.getElem?_range hk] at hd
      cases hd
      have hv : v = .int (0 + (k : Nat)) := dv
      subst hv
      rw [Int.zero_add]
      have gA := gg.trans g7
      obtain ⟨F1, F2, F3⟩ := Bx.Fac.in hG.zero hG.step hF (by omega)
      have F64 : F.length < 64 := Nat.lt_of_le_of_lt (Bx.nodup_le F1 F3) hG.few
      -- unit
      have hunit := evd_lcN (wi := iRng1 (tCons (tVar 2) tNil)) (i := 13) (B := B7) (σ := [some v0, some v1, some (.int (n : Nat)), some (.int (dD : Nat)), some u, some (.int (k : Nat)), x6, x7, x8, x9, x10, x11, x12, x13, x14, x15, x16, x17, x18])
        (te := tCB rInt1 (tCons (tOp rEq (tVar 13) (tVar 5)) tNil)) (f := fun d => match d with | .int p => .int (if decide (p = (k : Int)) = true then 1 else 0) | d => d)
        (evi_rngN (evd_var (i := 2) (d := .int (n : Nat)) rfl rfl) (by omega)) (by rw [List.length_map, List.length_range]; exact ge_sz (by omega))
        (fun d B'' y hm s'' hy => by
          obtain ⟨p, hp, rfl⟩ := List.mem_map.mp hm
          exact evd_intB (evd_eqI (evd_var (i := 13) rfl hy) (evd_var (i := 5) (d := .int (k : Nat)) rfl rfl)))
      have eunit : (rngL 0 n).map (fun d => match d with | .int p => PyData.int (if decide (p = (k : Int)) = true then 1 else 0) | d => d) = iL (unV n k) := by
        unfold rngL unV
        show List.map _ (List.map _ _) = List.map _ (List.map _ _)
        rw [List.map_map, List.map_map]
        refine List.map_congr_left fun p _ => ?_
        show PyData.int (if decide ((0 : Int) + (p : Int) = (k : Int)) = true then 1 else 0) = PyData.int (if decide ((p : Int) = (k : Int)) = true then 1 else 0)
        rw [Int.zero_add]
      rw [eunit] at hunit
      refine seq_set hunit g7.i fun v6 B8 H8 g8 d8 => ?_
      -- parts
      have hTl : (traM (liftM X)).length = n := ST.len
      have hparts : EvD (tCall sp_solved [] E0 (tCons (tCall sp_transposed [] E0 (tCons (tVar 1) tNil)) (tCons (tVar 6) tNil))) [some v0, some v1, some (.int (n : Nat)), some (.int (dD : Nat)), some u, some (.int (k : Nat)), some v6, x7, x8, x9, x10, x11, x12, x13, x14, x15, x16, x17, x18] B8 (.list (solM (traM (liftM X)) (unV n k))) :=
        evd_call (ds := [.list (rowsD false (traM (liftM X))), ll (unV n k)])
          (eva_cons (evd_call (ds := [.list (rowsD false (liftM X))]) (eva_cons (evd_var (i := 1) rfl (dM.mono (g6.b.trans (s6.trans (g7.b.trans g8.b))))) eva_nil) ⟨n, liftM X, rfl, S.rct (by omega)⟩ (fun d ⟨X', e, h⟩ => by rw [h, rowsF_inj (PyData.list.inj (List.cons.inj e).1)]))
            (eva_cons (evd_var (i := 6) rfl d8) eva_nil))
          ⟨b, n, _, _, rfl, OT, by unfold unV; rw [List.length_map, List.length_range], fun x hx => by
            obtain ⟨p, _, rfl⟩ := List.mem_map.mp hx
            have := O.det.pos
            split <;> omega, O.nz⟩
          (fun d ⟨X', ns', e, h⟩ => by
            have e1 := PyData.list.inj (List.cons.inj e).1
            have e2 := PyData.list.inj (List.cons.inj (List.cons.inj e).2).1
            rw [h, rowsF_inj e1, iL_inj e2])
      refine seq_set hparts g8.i fun v7 B9 H9 g9 d9 => ?_
      -- steps
      have hsteps := evd_lc2 (K := K) (i := 15) (j := 16) (B := B9) (σ := [some v0, some v1, some (.int (n : Nat)), some (.int (dD : Nat)), some u, some (.int (k : Nat)), some v6, some v7, x8, x9, x10, x11, x12, x13, x14, x15, x16, x17, x18])
        (te := tOp (rI CMul fun i j => .int (i * j)) (tVar 15) (tOp (rI CDivN fun i j => .int (i.fdiv j)) (tVar 3) (tVar 16))) (f := stepD (dD : Nat)) (evi_list (K := K) (evd_var (i := 7) rfl d9)) (by unfold solM; rw [List.length_map, List.length_range, hTl]; exact ge_sz (by omega))
        (fun d hd => by
          obtain ⟨j, _, rfl⟩ := List.mem_map.mp hd
          exact ⟨_, _, rfl⟩) (fun _ _ => rfl)
        (fun x y B'' a c hm s'' hx hy => by
          obtain ⟨j, _, e⟩ := List.mem_map.mp hm
          have e1 := PyData.tuple.inj e
          have ex := (List.cons.inj e1).1
          have ey := (List.cons.inj (List.cons.inj e1).2).1
          subst ex
          subst ey
          obtain ⟨z1, z2⟩ := fracB_nz (a := Br.bareM (chgM (traM (liftM X)) (unV n k) j)) O.nz
          have z3 := OT.small
          have z4 : (Int.fdiv (dD : Nat) (fracB (Br.bareM (chgM (traM (liftM X)) (unV n k) j)) (Br.bareM (traM (liftM X))))).natAbs ≤ dD := by
            have := Br.bnd_fdiv (x := (dD : Nat)) z1
            simpa using this
          exact evd_mul (evd_var (i := 15) rfl hx) (evd_fdivN (evd_var (i := 3) (d := .int (dD : Nat)) rfl rfl) (evd_var (i := 16) rfl hy) z1 (by show (fracB _ _).natAbs < _; omega)) (.inr ⟨by show _ < Int.fdiv _ (fracB _ _); omega, by show Int.fdiv _ (fracB _ _) < _; omega⟩))
      have esteps : (solM (traM (liftM X)) (unV n k)).map (stepD (dD : Nat)) = iL (stepsM (liftM X) k) := by
        unfold solM stepsM
        rw [hTl, hMl, hD]
        show List.map _ (List.map _ _) = List.map _ (List.map _ _)
        rw [List.map_map, List.map_map]
        rfl
      rw [esteps] at hsteps
      refine seq_set hsteps g9.i fun v8 B10 H10 g10 d10 => ?_
      have g710 := ((g7.trans g8).trans g9).trans g10
      -- known
      refine seq_dcT (K := K) (i := 14) (l := 4) (F := F) rfl (du.mono g710.b) g10.i (by omega) (fun _ => rfl) (fun _ => rfl) fun pk kvs H11 hpk g11 bpk hk11 kn => ?_
      have hpkH : H pk = none := gg.h.free (g710.h.free hpk)
      -- longer
      refine seq_listNew (K := K) (l := 4) rfl (du.mono (g710.b)) g11.i fun pl xs H12 hpl g12 bpl hl12 pxs hot => ?_
      have hplH : H pl = none := gg.h.free (g710.h.free (g11.h.free hpl))
      have hne : pk ≠ pl := fun z => by rw [z] at hk11; rw [hpl] at hk11; cases hk11
      have hk12 : H12 pk = some (.dT kvs) := by rw [hot pk hne]; exact hk11
      have gB := ((gg.trans g710).trans g11).trans g12
      have hul : (stepsM (liftM X) k).length = n := by unfold stepsM; rw [List.length_map, List.length_range, hMl]
      -- one step of a point
      have hstep : ∀ (B' : Hp) (i : Nat) (w : List Int) (hw : V) (y11 y12 y13 y14 y15 y16 y17 y18 : Option V),
          [some v0, some v1, some (.int (n : Nat)), some (.int (dD : Nat)), some u, some (.int (k : Nat)), some v6, some v7, some v8, some (.ref pk), some (.ref pl), y11, y12, y13, y14, y15, y16, y17, y18][i]? = some (some hw) → DD B' (pt w) hw → DD B' (ll (stepsM (liftM X) k)) v8 → w.length = n →
          EvD (tCB (rTupQ K) (tCons (tLc (ZpM.iZipM K (tCons (tVar i) (tCons (tVar 8) tNil))) (gTup K 2 (gCons (gName 17) (gCons (gName 18) gNil))) tYes (tOp (rI (fun _ j => j ≠ 0) fun i j => .int (i.fmod j)) (tOp (rI0 fun i j => .int (i + j)) (tVar 17) (tVar 18)) (tVar 3)) [17, 18]) tNil))
            [some v0, some v1, some (.int (n : Nat)), some (.int (dD : Nat)), some u, some (.int (k : Nat)), some v6, some v7, some v8, some (.ref pk), some (.ref pl), y11, y12, y13, y14, y15, y16, y17, y18] B' (pt (moveM (liftM X) k w)) := fun B' i w hw y11 y12 y13 y14 y15 y16 y17 y18 hi dw d8' hwl => by
        have h := evd_lc2 (K := K) (i := 17) (j := 18) (B := B') (te := tOp (rI (fun _ j => j ≠ 0) fun i j => .int (i.fmod j)) (tOp (rI0 fun i j => .int (i + j)) (tVar 17) (tVar 18)) (tVar 3)) (f := pairD (fun e s => (e + s).fmod (dD : Nat)))
          (evi_zipM (K := K) (b1 := false) (b2 := true) (evd_var (i := i) hi dw) (evd_var (i := 8) rfl d8')) (by rw [List.length_zipWith, List.length_map, hwl]; exact ge_sz (by omega)) zipL_pairs (fun _ _ => rfl)
          (fun x y B'' a c hm s'' hx hy => by
            obtain ⟨m1, m2, rfl, rfl, _, _⟩ := zipL_int hm
            exact evd_modN (evd_add (evd_var (i := 17) rfl hx) (evd_var (i := 18) rfl hy)) (evd_var (i := 3) (d := .int (dD : Nat)) rfl rfl) hD0)
        rw [pairD_map] at h
        have e : List.zipWith (fun e s => (e + s).fmod (dD : Nat)) w (stepsM (liftM X) k) = moveM (liftM X) k w := by
          unfold moveM Bx.stepV
          rw [hD]
        rw [e] at h
        exact evd_tupleL h
      have G1 : ∀ v ∈ G, moveM (liftM X) k v ∈ G := hG.step k hk
      have FG : ∀ {L : List Bx.Pt}, (∀ v ∈ L, ∃ f ∈ F, ∃ m, v = Bx.iter (moveM (liftM X) k) m f) → ∀ v ∈ L, v ∈ G := fun h v hv => by
        obtain ⟨f, hf, m, rfl⟩ := h v hv
        exact Bx.iter_in G1 (F3 f hf) m
      -- for start in found
      refine for_D (B := B10) (es := pts F) (evi_list (evd_var (i := 4) rfl (du.mono g710.b))) gB.i fun B13 H13 g13' => ?_
      have bpk13 := g13'.none bpk hk12
      have bpl13 := g13'.none bpl hl12
      have d8_13 : DD B13 (ll (stepsM (liftM X) k)) v8 := d10.mono g13'.b
      have pxs13 := pxs.mono g13'.b
      refine ⟨fun i σ B' H' => ∃ (L : List Bx.Pt) (kvs : List (List L2.Key × V)) (acc : List V) (y11 y12 y13 y14 y15 y16 y17 y18 : Option V), σ = [some v0, some v1, some (.int (n : Nat)), some (.int (dD : Nat)), some u, some (.int (k : Nat)), some v6, some v7, some v8, some (.ref pk), some (.ref pl), y11, y12, y13, y14, y15, y16, y17, y18] ∧
          Bx.GrI (moveM (liftM X) k) F i L (· ∈ L) ∧ Grow B H B' H' ∧ Same B13 B' ∧ B' pk = none ∧ B' pl = none ∧ H' pk = some (.dT kvs) ∧ KnowH kvs L ∧ H' pl = some (.lst acc) ∧ DDs B' (pts L) acc,
        ⟨F, kvs, xs, _, _, _, _, _, _, _, _, rfl, Bx.GrI.start F1, gB.trans g13', Same.refl _, bpk13, bpl13, g13'.h _ _ hk12, kn, g13'.h _ _ hl12, pxs13⟩, fun i σ B' H' ⟨_, _, _, _, _, _, _, _, _, _, _, _, _, g, s, _⟩ => ⟨s, g.i⟩, ?_, ?_⟩
      · rintro i d σ B' H' hd ⟨L, kvs, acc, y11, y12, y13, y14, y15, y16, y17, y18, rfl, gI, gq, s13, bk', bl', hk', kn', hl', pa⟩ x B14 H14 g14' dx
        obtain ⟨f, hf, rfl⟩ := pts_get hd
        have hfG : f ∈ G := F3 f (List.mem_of_getElem? hf)
        refine seq_set (hstep B14 11 f x _ _ _ _ _ _ _ _ rfl dx (d8_13.mono (s13.trans g14'.b)) (hG.row f hfG).1) g14'.i fun hw0 B15 H15 g15' d15 => ?_
        have gg2 := g14'.trans g15'
        -- while
        refine ⟨fun m σ H' => False ∨ ∃ (L : List Bx.Pt) (w : Bx.Pt) (hw : V) (kvs : List (List L2.Key × V)) (acc : List V) (y13 y14 y15 y16 y17 y18 : Option V) (B' : Hp), m + L.length = 64 ∧ σ = [some v0, some v1, some (.int (n : Nat)), some (.int (dD : Nat)), some u, some (.int (k : Nat)), some v6, some v7, some v8, some (.ref pk), some (.ref pl), some x, some hw, y13, y14, y15, y16, y17, y18] ∧
            Bx.GrI (moveM (liftM X) k) F (i + 1) L (fun x => x ∈ L ∨ x = w) ∧ (∃ f ∈ F, ∃ m, w = Bx.iter (moveM (liftM X) k) m f) ∧ DD B' (pt w) hw ∧ Grow B H B' H' ∧ Same B13 B' ∧ B' pk = none ∧ B' pl = none ∧ H' pk = some (.dT kvs) ∧ KnowH kvs L ∧ H' pl = some (.lst acc) ∧ DDs B' (pts L) acc, ⟨64 - L.length, .inr ⟨L, _, hw0, kvs, acc, _, _, _, _, _, _, B15, ?_, rfl, gI.open_ hf, ⟨f, List.mem_of_getElem? hf, 1, rfl⟩, d15, gq.trans gg2, s13.trans gg2.b, gg2.none bk' hk', gg2.none bl' hl', gg2.h _ _ hk', kn', gg2.h _ _ hl', pa.mono gg2.b⟩⟩, ?_⟩
        · have := Bx.nodup_le gI.nd (FG gI.rc)
          omega
        · rintro m σ H' (z | ⟨L, w, hw, kvs, acc, y13, y14, y15, y16, y17, y18, B', hm, rfl, gI, hr, dw, gq, s13, bk', bl', hk', kn', hl', pa⟩)
          · exact z.elim
          refine evt_notKnown (i := 9) (j := 12) rfl hk' rfl dw gq.i kn' ?_
          have hwG : w ∈ G := by
            obtain ⟨f', hf', m', rfl⟩ := hr
            exact Bx.iter_in G1 (F3 f' hf') m'
          by_cases hwL : w ∈ L
          · refine (if_neg (by rw [decide_eq_true hwL]; decide)).mpr ?_
            exact ⟨B', L, kvs, acc, _, _, _, _, _, _, _, _, rfl, gI.shut hwL, gq, s13, bk', bl', hk', kn', hl', pa⟩
          · refine (if_pos (by rw [decide_eq_false hwL]; rfl)).mpr ?_
            have gM := gI.more hwL hr
            have hlt : (L ++ [w]).length ≤ G.length := Bx.nodup_le gM.nd (FG gM.rc)
            rw [List.length_append] at hlt
            have hlt : L.length + 1 ≤ G.length := hlt
            refine ⟨fun σ2 H2 => ∃ (hw : V) (kvs : List (List L2.Key × V)) (acc : List V) (y13 y14 y15 y16 y17 y18 : Option V) (B' : Hp), σ2 = [some v0, some v1, some (.int (n : Nat)), some (.int (dD : Nat)), some u, some (.int (k : Nat)), some v6, some v7, some v8, some (.ref pk), some (.ref pl), some x, some hw, y13, y14, y15, y16, y17, y18] ∧
                DD B' (pt (moveM (liftM X) k w)) hw ∧ Grow B H B' H2 ∧ Same B13 B' ∧ B' pk = none ∧ B' pl = none ∧ H2 pk = some (.dT kvs) ∧ KnowH kvs (L ++ [w]) ∧ H2 pl = some (.lst acc) ∧ DDs B' (pts (L ++ [w])) acc, ?_, ?_⟩
            · rintro σ2 H2 ⟨hw2, kvs2, acc2, z13, z14, z15, z16, z17, z18, B2', rfl, a1, a2, a3, a4, a5, a6, a7, a8, a9⟩
              refine ⟨m - 1, by omega, .inr ⟨L ++ [w], _, hw2, kvs2, acc2, _, _, _, _, _, _, B2', ?_, rfl, gM, ?_, a1, a2, a3, a4, a5, a6, a7, a8, a9⟩⟩
              · rw [List.length_append]
                show m - 1 + (L.length + 1) = 64
                omega
              · obtain ⟨f', hf', m', e⟩ := hr
                exact ⟨f', hf', m' + 1, by rw [e]; rfl⟩
            · refine seq_dput (i := 9) (j := 12) rfl hk' rfl dw gq.i bk' (by
                have := kn'.few
                exact Nat.lt_of_le_of_lt (show kvs.length ≤ 1000 by omega) (by decide)) fun s1 => ?_
              have hl1 : (upd H' pk (.dT (putK kvs (w.map Sum.inl) (.bl true)))) pl = some (.lst acc) := by rw [upd_ne (fun z => hne z.symm)]; exact hl'
              have gq1 : Grow B H B' (upd H' pk (.dT (putK kvs (w.map Sum.inl) (.bl true)))) := gq.mut hpkH bk'
              refine app_D (i := 10) (d := pt w) rfl bl' hl1 (by
                rw [pa.length, List.length_map]
                exact Nat.lt_of_le_of_lt (show L.length ≤ 1000 by omega) (by decide)) (evd_var (i := 12) rfl dw) gq1.i fun v' B16 H16 g16 d16 b16 s16 => ?_
              have hk16 : H16 pk = some (.dT (putK kvs (w.map Sum.inl) (.bl true))) := g16.h _ _ upd_same
              have bk16 : B16 pk = none := g16.none bk' upd_same
              have gq2 : Grow B H B16 (upd H16 pl (.lst (acc ++ [v']))) := (gq1.trans g16).mut hplH b16
              refine one_set (hstep B16 12 w hw _ _ _ _ _ _ _ _ rfl (dw.mono g16.b) (d8_13.mono (s13.trans g16.b)) (hG.row w hwG).1) gq2.i fun hw2 B17 H17 g17 d17 => ?_
              refine ⟨hw2, _, acc ++ [v'], _, _, _, _, _, _, B17, rfl, d17, gq2.trans g17, s13.trans (g16.b.trans g17.b), g17.none bk16 (by rw [upd_ne hne]; exact hk16), g17.none b16 upd_same, g17.h _ _ (by rw [upd_ne hne]; exact hk16), kn'.put w _, g17.h _ _ upd_same, ?_⟩
              show DDs B17 (List.map pt (L ++ [w])) _
              rw [List.map_append]
              exact ((pa.mono g16.b).append (DDs.one d16)).mono g17.b
      · rintro σ B' H' ⟨L, kvs, acc, y11, y12, y13, y14, y15, y16, y17, y18, rfl, gI, gq, s13, bk', bl', hk', kn', hl', pa⟩
        obtain ⟨gc, dc⟩ := close_D gq hplH bl' hl' pa
        refine ⟨.ref pl, rfl, _, L, .ref pl, _, _, _, _, _, _, _, _, _, _, _, _, _, _, rfl, .succ hF (gI.whole (by rw [List.length_map]; exact Nat.le_refl _)), gc, ?_, dc⟩
        exact s6.trans (g710.b.trans (g13'.b.trans (s13.trans (close_S gq.i bl' hl' pa).1)))
    · rintro σ B' H' ⟨F, u, x5, x6, x7, x8, x9, x10, x11, x12, x13, x14, x15, x16, x17, x18, rfl, hF, gg, s6, du⟩
      rw [show (rngL 0 n).length = n by simp] at hF
      obtain ⟨F1, F2, F3⟩ := Bx.Fac.in hG.zero hG.step hF (Nat.le_refl n)
      have F64 : F.length < 64 := Nat.lt_of_le_of_lt (Bx.nodup_le F1 F3) hG.few
      obtain ⟨a, xs, rfl, ha, pa⟩ := du
      have e1 := pa.length
      rw [List.length_map] at e1
      obtain ⟨ks, ek1, ek2, ek3⟩ := pa.pairs
      subst ek1
      refine ⟨_, rfl, .ref a, rfl, a, _, rfl, sql (gg.i _ _ ha), by omega, fun y hy => ?_, fun ys r2 hperm hasc hr2 => ?_⟩
      · obtain ⟨t, ht, rfl⟩ := List.mem_map.mp hy
        have hr := hG.row t.2 (F3 _ (by rw [ek2]; exact List.mem_map.mpr ⟨t, ht, rfl⟩))
        exact ⟨t.2, ⟨t.1, rfl, sqt (gg.i _ _ (ek3 t ht))⟩, hr.1, fun z hz => by have := hr.2 z hz; omega⟩
      · obtain ⟨ks', hk1, hk2⟩ : ∃ ks' : List (Addr × List Int), ys = ks'.map (fun p => V.ref p.1) ∧ ks'.Perm ks := SgS.perm_map hperm
        subst hk1
        have g7 := Grow.new (o := .lst (ks'.map fun p => V.ref p.1)) gg.i hr2
        have hin : ∀ t ∈ ks', B' t.1 = some (.tup (t.2.map V.int)) := fun t ht => ek3 t (hk2.mem_iff.mp ht)
        refine ⟨show 2 ≤ sizeLine by decide, fun T hT => ?_⟩
        have g8 := Grow.new (o := .tup [.int (dD : Nat), .ref r2]) g7.i hT
        refine q (ks'.map (·.2)) _ _ _ ⟨F, hF, ?_, ?_⟩ ((gg.trans g7).trans g8) ⟨T, _, rfl, upd_same, .cons rfl (.one ⟨r2, _, rfl, g8.b _ _ upd_same, ((DDs.of_pairs hin).mono g7.b).mono g8.b⟩)⟩
        · rw [ek2]
          exact hk2.map _
        · rw [List.pairwise_map] at hasc ⊢
          refine List.Pairwise.imp_of_mem (fun {a b} ha hb h => h _ _ ⟨_, rfl, sqt (gg.i _ _ (hin a ha))⟩ ⟨_, rfl, sqt (gg.i _ _ (hin b hb))⟩) hasc
end K84

set_option maxHeartbeats 4000000
namespace K84
open PySem PySem.Spec PyProof.Rows L2 D8
variable {P : Program} {w : World} {K : PySem.W.Frag} {mg : Str → Option Value} {base : Heap}
/-! ### point_of -/
def ptM (M : List (List Int)) (D : Int) (f : List Int) : List Int := (traM M).map fun c => (dotM c f).fdiv D
theorem rows_tp {tp tp' : Bool} {X X' : List (List Int)} (h : PyData.list (rowsD tp X) = .list (rowsD tp' X')) : X = X' := by
  have e1 := PyData.list.inj h
  cases X with
  | nil =>
    cases X' with
    | nil => rfl
    | cons a c => simp at e1
  | cons r X =>
    cases X' with
    | nil => simp at e1
    | cons r' X' =>
      have et : tp = tp' := by
        have h0 := (List.cons.inj e1).1
        cases tp <;> cases tp'
        · rfl
        · exact nomatch h0
        · exact nomatch h0
        · rfl
      subst et
      cases tp with
      | true => exact pts_inj e1
      | false => exact rowsF_inj e1
theorem lift_call {σ : L2.St} {B : Hp} {i : Nat} {v : V} {tp : Bool} {X : List (List Int)} (hi : σ[i]? = some (some v)) (dr : DD B (.list (rowsD tp X)) v) (h1 : X.length ≤ 100) (h2 : ∀ r ∈ X, r.length ≤ 100) :
    EvD (tCall sp_lifted [] E0 (tCons (tVar i) tNil)) σ B (.list (rowsD false (liftM X))) :=
  evd_call (ds := [.list (rowsD tp X)]) (eva_cons (evd_var (i := i) hi dr) eva_nil) ⟨tp, X, rfl, h1, h2⟩ (fun d ⟨tp', X', e, h⟩ => by rw [h, rows_tp (List.cons.inj e).1])
structure PtOk (n : Nat) (X : List (List Int)) : Prop where
  len : X.length ≤ 100
  row : ∀ r ∈ X, r.length ≤ 100
  sqr : Sqr 1000000 n (liftM X)
  n1 : 1 ≤ n
  n30 : n ≤ 30
def sp_point_of : Sp := SpD (fun ds => ∃ (tp : Bool) (n : Nat) (X : List (List Int)) (D : Int) (f : List Int), ds = [.list (rowsD tp X), .int D, pt f] ∧ PtOk n X ∧ D ≠ 0 ∧ D.natAbs < 1073741824)
  (fun ds d => ∃ (tp : Bool) (X : List (List Int)) (D : Int) (f : List Int), ds = [.list (rowsD tp X), .int D, pt f] ∧ d = pt (ptM (liftM X) D f))
theorem ok_point_of (M : Mod K mg) : FnOk P w K mg base CX0 3 M.f_point_of M.fd_point_of ["points", "whole", "factors"] sp_point_of := by
  refine M.d_point_of.F.ok sc_point_of (SpD.len fun ds ⟨_, _, _, _, _, e, _⟩ => by rw [e]; rfl) (fun cdv A outer s H vs Q E hr h => ?_)
  obtain ⟨B, ds, sB, hd, ⟨tp, n, X, D, f, rfl, O, hD0, hDb⟩, q⟩ := h
  obtain ⟨v0, _, rfl, dr, _, _, rfl, rfl, v2, _, rfl, df, rfl⟩ := hd
  have hn1 := O.n1
  have n30 := O.n30
  have hMl := O.sqr.len
  have ST : Sqr 1000000 n (traM (liftM X)) := traM_sqr O.sqr (by decide) (by omega) hn1
  refine ⟨_, (pss_cons (ps_set (i := 3) sc_point_of.nd rfl (.inl rfl) (pe_call (ok_lifted M) (hr.mono (by decide)) (by rfl) M.d_lifted.g M.d_lifted.F.kp M.d_lifted.b .nil pass0 (pa_cons (pv 0) pa_nil)))
    (pss_cons (ps_set (i := 4) sc_point_of.nd rfl (.inl rfl) (pe_lst pa_nil))
    (pss_cons (ps_for PassesOwn.never rfl (pi_list (pe_call (ok_transposed M) (hr.mono (by decide)) (by rfl) M.d_transposed.g M.d_transposed.F.kp M.d_transposed.b .nil pass0 (pa_cons (pv 3) pa_nil))) (pg_name (i := 5) sc_point_of.nd rfl (.inl rfl))
    (pss_one (ps_expr (pe_bm PySem.F.plainAttrs_list PySem.F.slot_list_append PySem.F.type_list_append mt_append (pv 4) (pa_cons (pe_op op_fdivN (pe_call (ok_dot M) (hr.mono (by decide)) (by rfl) M.d_dot.g M.d_dot.F.kp M.d_dot.b .nil pass0 (pa_cons (pv 5) (pa_cons (pv 2) pa_nil))) (pv 1)) pa_nil)))))
    (pss_one (ps_ret (pe_callTy call_tuple_of (by rfl) M.m_tuple (by decide +kernel) (pa_cons (pv 4) pa_nil))))))), ?_⟩
  refine seq_set (lift_call rfl dr O.len O.row) sB fun v3 B1 H1 g1 d1 => ?_
  refine seq_setNew (B := B1) (ds := []) eva_nil (Nat.zero_le _) g1.i fun p xs B2 H2 hp1 g2 bp hp px => ?_
  cases px
  have g12 := g1.trans g2
  have hpH : H p = none := g1.h.free hp1
  refine for_D (B := B2) (es := rowsD false (traM (liftM X))) (evi_list (evd_call (ds := [.list (rowsD false (liftM X))]) (eva_cons (evd_var (i := 3) rfl (d1.mono g2.b)) eva_nil) ⟨n, liftM X, rfl, O.sqr.rct (by omega)⟩ (fun d ⟨X', e, h⟩ => by rw [h, rowsF_inj (PyData.list.inj (List.cons.inj e).1)]))) g2.i fun B3 H3 g3 => ?_
  refine ⟨fun k σ B' H' => ∃ (x5 : Option V) (acc : List V), σ = [some v0, some (.int D), some v2, some v3, some (.ref p), x5] ∧ Grow B H B' H' ∧ Same B3 B' ∧ B' p = none ∧ H' p = some (.lst acc) ∧ DDs B' (iL (((traM (liftM X)).take k).map fun c => (dotM c f).fdiv D)) acc,
    ⟨_, [], rfl, g12.trans g3, Same.refl _, g3.none bp hp, g3.h _ _ hp, rfl⟩, fun k σ B' H' ⟨_, _, _, g, s, _⟩ => ⟨s, g.i⟩, ?_, ?_⟩
  · rintro k d σ B' H' hd ⟨x5, acc, rfl, gg, s3, bp', hp', pa⟩ v B4 H4 g4 dv
    rw [List.getElem?_map] at hd
    cases ec : (traM (liftM X))[k]? with
    | none => rw [ec] at hd; cases hd
    | some c =>
      rw [ec] at hd
      cases hd
      have hcm := List.mem_of_getElem? ec
      have hp4 : H4 p = some (.lst acc) := g4.h _ _ hp'
      have bp4 : B4 p = none := g4.none bp' hp'
      have gA := gg.trans g4
      have hkl : k < (traM (liftM X)).length := (List.getElem?_eq_some_iff.mp ec).1
      refine app_D (i := 4) (d := .int ((dotM c f).fdiv D)) rfl bp4 hp4 (by
          rw [pa.length, List.length_map, List.length_map, List.length_take]
          exact Nat.lt_of_le_of_lt (show _ ≤ 30 by rw [ST.len]; omega) (by decide))
        (evd_fdivN (evd_call (ds := [ll c, pt f]) (eva_cons (evd_var (i := 5) rfl dv) (eva_cons (evd_var (i := 2) rfl (df.mono gA.b)) eva_nil)) ⟨c, f, rfl, by rw [ST.row c hcm]; omega, fun x hx => ST.bd c hcm x hx⟩ (fun d ⟨a', b', e, h⟩ => by
          have e1 := iL_inj (PyData.list.inj (List.cons.inj e).1)
          have e2 := pt_inj (List.cons.inj (List.cons.inj e).2).1
          rw [h, e1, e2])) (evd_var (i := 1) rfl rfl) hD0 hDb) g4.i fun u B5 H5 g5 d5 b5 s5 => ?_
      refine ⟨B5, _, acc ++ [u], rfl, (gA.trans g5).mut hpH b5, s3.trans (g4.b.trans g5.b), b5, upd_same, ?_⟩
      rw [List.take_add_one, ec, List.map_append, iL, List.map_append]
      exact (pa.mono (g4.b.trans g5.b)).append (DDs.one d5)
  · rintro σ B' H' ⟨x5, acc, rfl, gg, s3, bp', hp', pa⟩
    rw [List.length_map, List.take_length] at pa
    obtain ⟨gc, dc⟩ := close_D gg hpH bp' hp' pa
    exact ret_D (d := pt (ptM (liftM X) D f)) (evd_tupleL (evd_var (i := 4) rfl dc)) gc.i fun v8 B8 H8 g8 d8 => q _ v8 B8 H8 ⟨tp, X, D, f, rfl, rfl⟩ (gc.trans g8) d8
/-! ### simplex_box -/
/-- no simplex -/
inductive Bad : List (List Int) → Prop
  | nil : Bad []
  | row {X : List (List Int)} {r : List Int} (h : r ∈ liftM X) (hl : r.length ≠ X.length) : Bad X
  | det {b n : Nat} {X : List (List Int)} (n1 : 1 ≤ n) (O : DetOk b n (liftM X)) (h : Br.bareM (liftM X) = 0) : Bad X
/-- what simplex_box answers -/
def SBox (X : List (List Int)) (n : Nat) (R : List (List Int)) : Prop := ∃ L, Found X n L ∧ SortedOf (L.map (ptM (liftM X) (whoM (liftM X) : Nat))) R
def sp_simplex_box (cT cM : Addr) : Sp := fun vs H Q E => ∃ B ds, Same B H ∧ DDs B ds vs ∧ ∃ (tp : Bool) (X : List (List Int)), ds = [.list (rowsD tp X)] ∧ X.length ≤ 100 ∧ (∀ r ∈ X, r.length ≤ 100) ∧
  ((Bad X ∧ ∀ d H', Same H H' → H' d = some (.xd [(("what" : Str), .str "simplex")]) → E (.ref cT) (some d) H') ∨
    ∃ b n : Nat, FacOk b n X ∧ Br.bareM (liftM X) ≠ 0 ∧
    ((2000 < whoM (liftM X) ∧ ∀ d H', Same H H' → H' d = some (.xd [(("what" : Str), .str "points")]) → E (.ref cM) (some d) H') ∨
      (whoM (liftM X) ≤ 2000 ∧ b ≤ 1000000 ∧ (∃ G, Home (liftM X) n G ∧ ∀ f ∈ G, ∀ x ∈ ptM (liftM X) (whoM (liftM X) : Nat) f, -1000 ≤ x ∧ x < 1000) ∧ ∀ R v B' H', SBox X n R → Grow B H B' H' → DD B' (.list (pts R)) v → Q v H')))
theorem Found.in {X : List (List Int)} {n : Nat} {L : List Bx.Pt} {G : List Bx.Pt} (f : Found X n L) (h : Home (liftM X) n G) : L.length < 64 ∧ ∀ v ∈ L, v ∈ G := by
  obtain ⟨F, hF, hs⟩ := f
  obtain ⟨F1, F2, F3⟩ := Bx.Fac.in h.zero h.step hF (Nat.le_refl n)
  refine ⟨?_, fun v hv => F3 v (hs.perm.mem_iff.mp hv)⟩
  rw [hs.perm.length_eq]
  exact Nat.lt_of_le_of_lt (Bx.nodup_le F1 F3) h.few
theorem row_filter {X : List (List Int)} : ((rowsD false (liftM X)).filter fun d => match d with | .list r => !decide ((r.length : Int) = ((X.length : Nat) : Int)) | _ => true).isEmpty = true ↔ ∀ r ∈ liftM X, r.length = X.length := by
  rw [List.isEmpty_iff, List.filter_eq_nil_iff]
  constructor
  · intro h r hr
    have := h (ll r) (List.mem_map.mpr ⟨r, hr, rfl⟩)
    have e : (iL r).length = r.length := List.length_map ..
    simp at this
    omega
  · intro h d hd
    obtain ⟨r, hr, rfl⟩ := List.mem_map.mp hd
    have := h r hr
    have e : (iL r).length = r.length := List.length_map ..
    show ¬ (!decide (((iL r).length : Int) = ((X.length : Nat) : Int))) = true
    rw [e, this]
    simp
theorem ret_cb1 {r : List V → Hp → VK → Prop} {te : TE} {D : Ends} {σ : L2.St} {B H : Hp} {d : PyData} (h : EvD te σ B d) (s : Same B H) (k : ∀ v B' H', Grow B H B' H' → DD B' d v → r [v] H' D.rt) : tRet (tCB r (tCons te tNil)) D σ H := h H s _ k
theorem seq_callS {sp : Sp} {E : L2.St → XK} {ta : TA} {g : TG} {u : TS} {D : Ends} {σ : L2.St} {B H : Hp} {ds : List PyData} (ha : EvA ta σ B ds) (s : Same B H) (k : ∀ vs B' H', Grow B H B' H' → DDs B' ds vs → sp vs H' (fun x H1 => g x σ H1 (u D)) (E σ)) : tSeq (tAsg (tCallS sp E ta) g) u D σ H :=
  ha H s _ fun vs B' H' g' d => k vs B' H' g' d
theorem ok_simplex_box (M : Mod K mg) : FnOk P w K mg base (L2.CX P w) 5 M.f_simplex_box M.fd_simplex_box ["points"] (sp_simplex_box M.cT M.cM) := by
  refine M.d_simplex_box.F.okX sc_simplex_box (fun vs H Q E ⟨B, ds, _, hd, _, _, e, _⟩ => by rw [hd.length, e]; rfl) (fun cdv A outer s H vs Q E hr h => ?_)
  obtain ⟨B, ds, sB, hd, tp, X, rfl, hX1, hX2, hcase⟩ := h
  obtain ⟨v0, _, rfl, dr, rfl⟩ := hd
  have hMl : (liftM X).length = X.length := by unfold liftM; rw [List.length_map]
  generalize hn : (if X.length = 0 then 1 else X.length) = n
  have hn1 : 1 ≤ n := by rw [← hn]; split <;> omega
  refine ⟨_, (pss_cons (ps_set (i := 1) sc_simplex_box.nd rfl (.inr rfl) (pe_call (ok_lifted M) (hr.mono (by decide)) (by rfl) M.d_lifted.g M.d_lifted.F.kp M.d_lifted.b .nil pass0 (pa_cons (pv 0) pa_nil)))
    (pss_cons (ps_if (PW.pt (pw_or (pt_not (pt_truth (pv 1) (by intro _; rfl))) (pw_or (pt_truth (pe_lc (own := [("row", 4)]) (g := gName 4) (tt := (tTest (tOp rNe (tCB (rLenQ K) (tCons (tVar 4) tNil)) (tCB (rLenQ K) (tCons (tVar 1) tNil))))) (te := (tVar 4)) rfl sc_simplex_box.nd (pi_list (pv 1)) (blkOk_by (own := [("row", 4)]) (N := N_simplex_box) (sc := defScope s_simplex_box) (by decide +kernel)) (fun _ _ _ _ _ => (pg_name (i := 4) sc_simplex_box.nd rfl (.inl rfl))) (fun _ _ _ _ _ => pts_one (pt_cmpR op_ne (pe_callB call_len_seq (by rfl) M.m_len PySem.boot_len (pa_cons (pv 4) pa_nil)) (pe_callB call_len_seq (by rfl) M.m_len PySem.boot_len (pa_cons (pv 1) pa_nil)) (nomark _))) (fun _ _ _ _ _ => (pv 4))) (by intro _; rfl)) (pw_or1 (pt_cmpR op_eq (pe_call (ok_determinant M) (hr.mono (by decide)) (by rfl) M.d_determinant.g M.d_determinant.F.kp M.d_determinant.b .nil pass0 (pa_cons (pv 1) pa_nil)) pe_int (nomark _)))))) (pss_one (ps_raise rfl (takes_of rfl rfl rfl rfl) (pmk_oex M.errT.oex M.errT.iC M.errT.tI (ok_iT M) (hr.mono (by decide)) M.errT.b .nil pass0 (by rfl) M.errT.gC (pa_cons pe_str pa_nil)))) pss_nil)
    (pss_cons (ps_asg (pe_callS (ok_box_factors M) (hr.mono (by decide)) (by rfl) M.d_box_factors.g M.d_box_factors.F.kp M.d_box_factors.b (fun σ => passAt (takes_of rfl rfl rfl rfl) σ) (pa_cons (pv 0) pa_nil)) (pg_tup rfl (pgs_cons (pg_name (i := 2) sc_simplex_box.nd rfl (.inr rfl)) (pgs_cons (pg_name (i := 3) sc_simplex_box.nd rfl (.inl rfl)) pgs_nil))))
    (pss_one (ps_ret (pe_callB (SgS.cr_sortS (d := n) (c := 1000) hn1) (by rfl) M.m_sorted (by decide +kernel) (pa_cons (pe_lc (own := [("factors", 5)]) (g := gName 5) (tt := tYes) (te := (tCall sp_point_of [] E0 (tCons (tVar 0) (tCons (tVar 2) (tCons (tVar 5) tNil))))) rfl sc_simplex_box.nd (pi_list (pv 3)) (blkOk_by (own := [("factors", 5)]) (N := N_simplex_box) (sc := defScope s_simplex_box) (by decide +kernel)) (fun _ _ _ _ _ => (pg_name (i := 5) sc_simplex_box.nd rfl (.inl rfl))) (fun _ _ _ _ _ => pts_nil) (fun _ _ _ _ _ => (pe_call (ok_point_of M) (hr.mono (by decide)) (by rfl) M.d_point_of.g M.d_point_of.F.kp M.d_point_of.b .nil pass0 (pa_cons (pv 0) (pa_cons (pv 2) (pa_cons (pv 5) pa_nil)))))) pa_nil))))))), ?_⟩
  refine seq_set (lift_call rfl dr hX1 hX2) sB fun v1 B1 H1 g1 d1 => ?_
  -- the test
  have hrow : EvT (tNot (fun σ H Q => tVar 1 σ H fun x H' => ∃ k, TruV K x H' k ∧ Q k H')) ((start N_simplex_box [v0]).set 1 (some v1)) B1 (!(!(rowsD false (liftM X)).isEmpty)) := evt_not (evt_truthL (evd_var (i := 1) rfl d1))
  have hlenM : ∀ (σ : L2.St) (B' : Hp), σ[1]? = some (some v1) → Same B1 B' → EvD (tCB (rLenQ K) (tCons (tVar 1) tNil)) σ B' (.int ((X.length : Nat) : Int)) := fun σ B' h1 s' => by
    have h := evd_lenL (K := K) (evd_var (B := B') (σ := σ) (i := 1) h1 (d1.mono s'))
    rw [List.length_map, hMl] at h
    exact h
  have hbad : EvT (fun σ H Q => (tLc (iList K (tVar 1)) (gName 4) (tTest (tOp rNe (tCB (rLenQ K) (tCons (tVar 4) tNil)) (tCB (rLenQ K) (tCons (tVar 1) tNil)))) (tVar 4) [4]) σ H fun x H' => ∃ k, TruV K x H' k ∧ Q k H') ((start N_simplex_box [v0]).set 1 (some v1)) B1
      (!((rowsD false (liftM X)).filter fun d => match d with | .list r => !decide ((r.length : Int) = ((X.length : Nat) : Int)) | _ => true).isEmpty) := by
    have h := evt_truthL (K := K) (evd_lcF (i := 4) (B := B1) (σ := (start N_simplex_box [v0]).set 1 (some v1)) (wi := iList K (tVar 1)) (tt := tTest (tOp rNe (tCB (rLenQ K) (tCons (tVar 4) tNil)) (tCB (rLenQ K) (tCons (tVar 1) tNil)))) (te := tVar 4)
      (p := fun d => match d with | .list r => !decide ((r.length : Int) = ((X.length : Nat) : Int)) | _ => true) (f := id) (evi_list (evd_var (i := 1) rfl d1)) (by rw [List.length_map, hMl]; exact ge_sz (by omega))
      (fun d B' v hm s' hv => by
        obtain ⟨r, hr, rfl⟩ := List.mem_map.mp hm
        exact evt_test (evd_neI (evd_lenL (evd_var (i := 4) rfl hv)) (hlenM _ _ rfl s')))
      (fun d B' v hm _ s' hv => evd_var (i := 4) rfl hv))
    rw [List.map_id] at h
    exact h
  generalize hb1 : (!(!(rowsD false (liftM X)).isEmpty)) = b1 at hrow
  generalize hb2 : (!((rowsD false (liftM X)).filter fun d => match d with | .list r => !decide ((r.length : Int) = ((X.length : Nat) : Int)) | _ => true).isEmpty) = b2 at hbad
  have e1 : b1 = true ↔ X = [] := by
    rw [← hb1, Bool.not_not, List.isEmpty_iff]
    constructor
    · intro z
      cases X with
      | nil => rfl
      | cons a c => simp [liftM] at z
    · rintro rfl
      rfl
  have e2 : b2 = false ↔ ∀ r ∈ liftM X, r.length = X.length := by
    rw [← hb2, Bool.not_eq_false', row_filter]
  have hdet : b1 = false → b2 = false → ∃ b n, DetOk b n (liftM X) := fun h1 h2 => by
    rcases hcase with ⟨hB, _⟩ | ⟨b, n', O, _⟩
    · cases hB with
      | nil => exact absurd (e1.mpr rfl) (by rw [h1]; decide)
      | row hr hl => exact absurd (e2.mp h2 _ hr) hl
      | det _ O _ => exact ⟨_, _, O⟩
    · exact ⟨b, n', O.det⟩
  have htest := evt_or hrow fun h1 => evt_or hbad fun h2 => evt_test (te := tOp rEq (tCall sp_determinant [] E0 (tCons (tVar 1) tNil)) (tC (.int 0))) (b := decide (Br.bareM (liftM X) = 0)) (by
    obtain ⟨b, n', O⟩ := hdet h1 h2
    exact evd_eqI (evd_call (ds := [.list (rowsD false (liftM X))]) (eva_cons (evd_var (i := 1) rfl d1) eva_nil) ⟨b, n', _, rfl, O⟩ (fun d h => det_callB h)) evd_int)
  refine seq_if htest g1.i fun B2 H2 g2 => ?_
  have g12 := g1.trans g2
  rcases hcase with ⟨hB, qE⟩ | ⟨b, n', O, hnz, hcase⟩
  · refine (if_pos ?_).mpr ?_
    · cases hB with
      | nil => rw [e1.mpr rfl]; rfl
      | row hr hl =>
        have : b2 = true := by
          cases z : b2 with
          | true => rfl
          | false => exact absurd (e2.mp z _ hr) hl
        rw [this]
        simp
      | det _ O h => rw [decide_eq_true h]; simp
    · exact raise_reads (W := fun cls d _ H => E cls d H) M.errT.oex M.errT.noN (by decide) fun d H' sm hd => qE d H' (g12.h.trans sm) hd
  · have hXn : X.length = n' := by rw [← hMl]; exact O.det.sqr.len
    have hn' : n = n' := by
      rw [← hn, if_neg (by have := O.n1; omega), hXn]
    subst hn'
    have f1 : b1 = false := by
      cases z : b1 with
      | false => rfl
      | true =>
        have := e1.mp z
        subst this
        simp at hXn
        omega
    have f2 : b2 = false := e2.mpr fun r hr => by rw [O.det.sqr.row r hr, hXn]
    refine (if_neg (by rw [f1, f2, decide_eq_false hnz]; decide)).mpr ?_
    -- whole, found
    have hargs : EvA (tCons (tVar 0) tNil) ((start N_simplex_box [v0]).set 1 (some v1)) B2 [.list (rowsD tp X)] := eva_cons (evd_var (i := 0) rfl (dr.mono g12.b)) eva_nil
    refine seq_callS hargs g2.i fun vs B3 H3 g3 dvs => ?_
    have g13 := g12.trans g3
    refine ⟨B3, [.list (rowsD tp X)], g3.i, dvs, tp, b, n, X, rfl, O, ?_⟩
    rcases hcase with ⟨hbig, qE⟩ | ⟨hsm, hb, ⟨G, hG, hP⟩, q⟩
    · exact .inl ⟨hbig, fun d H' sm hd => qE d H' (g13.h.trans sm) hd⟩
    · refine .inr ⟨hsm, ⟨G, hG⟩, fun L v B4 H4 hF g4 dv => ?_⟩
      have g14 := g13.trans g4
      refine evg_pair (K := K) v H4 dv g4.i _ fun σ' ⟨x, y, dx, dy, eσ⟩ => ?_
      subst eσ
      cases dx
      obtain ⟨hL64, hLG⟩ := hF.in hG
      have hpos := O.pos
      have OP : PtOk n X := ⟨hX1, hX2, O.det.sqr.wide (by omega), hn1, O.det.n30⟩
      have hcomp := evd_lcN (i := 5) (B := B4) (σ := [some v0, some v1, some (.int (whoM (liftM X) : Nat)), some y, none, none]) (te := tCall sp_point_of [] E0 (tCons (tVar 0) (tCons (tVar 2) (tCons (tVar 5) tNil)))) (f := fun d => match d with | .tuple ds => pt (ptM (liftM X) (whoM (liftM X) : Nat) (ds.map fun d => match d with | .int i => i | _ => 0)) | d => d)
        (evi_list (K := K) (evd_var (i := 3) rfl dy)) (by rw [List.length_map]; exact ge_sz (by omega))
        (fun d B' u hm s' hu => by
          obtain ⟨f, hf, rfl⟩ := List.mem_map.mp hm
          have ef : (iL f).map (fun d => match d with | PyData.int i => i | _ => 0) = f := by
            show (f.map PyData.int).map _ = f
            rw [List.map_map]
            simp [Function.comp_def]
          show EvD _ _ _ (pt (ptM (liftM X) (whoM (liftM X) : Nat) ((iL f).map fun d => match d with | PyData.int i => i | _ => 0)))
          rw [ef]
          exact evd_call (ds := [.list (rowsD tp X), .int (whoM (liftM X) : Nat), pt f]) (eva_cons (evd_var (i := 0) rfl (dr.mono (g14.b.trans s'))) (eva_cons (evd_var (i := 2) rfl rfl) (eva_cons (evd_var (i := 5) rfl hu) eva_nil)))
            ⟨tp, n, X, _, f, rfl, OP, by omega, by omega⟩ (fun d ⟨tp', X', D', f', e, h⟩ => by
              have q1 := rows_tp (List.cons.inj e).1
              have q2 := PyData.int.inj (List.cons.inj (List.cons.inj e).2).1
              have q3 := pt_inj (List.cons.inj (List.cons.inj (List.cons.inj e).2).2).1
              rw [h, ← q1, ← q2, ← q3]))
      have ecomp : (pts L).map (fun d => match d with | .tuple ds => pt (ptM (liftM X) (whoM (liftM X) : Nat) (ds.map fun d => match d with | PyData.int i => i | _ => 0)) | d => d) = pts (L.map (ptM (liftM X) (whoM (liftM X) : Nat))) := by
        show (L.map _).map _ = (L.map _).map _
        rw [List.map_map, List.map_map]
        refine List.map_congr_left fun f _ => ?_
        show pt (ptM _ _ ((iL f).map fun d => match d with | PyData.int i => i | _ => 0)) = pt (ptM _ _ f)
        have ef : (iL f).map (fun d => match d with | PyData.int i => i | _ => 0) = f := by
          show (f.map PyData.int).map _ = f
          rw [List.map_map]
          simp [Function.comp_def]
        rw [ef]
      rw [ecomp] at hcomp
      refine ret_cb1 hcomp g4.i fun v5 B5 H5 g5 d5 => ?_
      have g15 := g14.trans g5
      obtain ⟨a, xs, rfl, ha, pa⟩ := d5
      have hl := pa.length
      rw [List.length_map, List.length_map] at hl
      obtain ⟨ks, ek1, ek2, ek3⟩ := pa.pairs
      subst ek1
      have STn : Sqr b n (traM (liftM X)) := traM_sqr O.det.sqr (by omega) (by have := O.det.n30; omega) hn1
      refine ⟨a, _, rfl, sql (g5.i _ _ ha), by omega, fun y hy => ?_, fun ys r2 hperm hasc hr2 => ?_⟩
      · obtain ⟨t, ht, rfl⟩ := List.mem_map.mp hy
        have hm : t.2 ∈ L.map (ptM (liftM X) (whoM (liftM X) : Nat)) := by rw [ek2]; exact List.mem_map.mpr ⟨t, ht, rfl⟩
        obtain ⟨f, hf, e⟩ := List.mem_map.mp hm
        refine ⟨t.2, ⟨t.1, rfl, sqt (g5.i _ _ (ek3 t ht))⟩, ?_, fun z hz => hP f (hLG f hf) z (by rw [e]; exact hz)⟩
        rw [← e]
        unfold ptM
        rw [List.length_map, STn.len]
      · obtain ⟨ks', hk1, hk2⟩ : ∃ ks' : List (Addr × List Int), ys = ks'.map (fun p => V.ref p.1) ∧ ks'.Perm ks := SgS.perm_map hperm
        subst hk1
        have g7 := Grow.new (o := .lst (ks'.map fun p => V.ref p.1)) g5.i hr2
        have hin : ∀ t ∈ ks', B5 t.1 = some (.tup (t.2.map V.int)) := fun t ht => ek3 t (hk2.mem_iff.mp ht)
        refine q (ks'.map (·.2)) _ _ _ ⟨L, hF, ?_, ?_⟩ (g15.trans g7) ⟨r2, _, rfl, upd_same, (DDs.of_pairs hin).mono g7.b⟩
        · rw [ek2]
          exact hk2.map _
        · rw [List.pairwise_map] at hasc ⊢
          refine List.Pairwise.imp_of_mem (fun {a b} ha hb h => h _ _ ⟨_, rfl, sqt (g5.i _ _ (hin a ha))⟩ ⟨_, rfl, sqt (g5.i _ _ (hin b hb))⟩) hasc
end K84

set_option maxHeartbeats 4000000
namespace K84
open PySem PySem.Spec PyProof.Rows L2 D8
variable {P : Program} {w : World} {K : PySem.W.Frag} {mg : Str → Option Value} {base : Heap}
/-! ### _law_refusal -/
/-- too large -/
def Big (X : List (List Int)) : Prop := ∃ b n : Nat, FacOk b n X ∧ Br.bareM (liftM X) ≠ 0 ∧ 2000 < whoM (liftM X)
abbrev saysS : PyData := .tuple [.str "simplex", .str "simplex"]
abbrev saysM : PyData := .tuple [.str "many", .str "points"]
def sp_law_refusal : Sp := SpD (fun ds => ∃ X : List (List Int), ds = [.list (pts X)] ∧ X.length ≤ 100 ∧ (∀ r ∈ X, r.length ≤ 100) ∧ (Bad X ∨ Big X))
  (fun ds d => ∃ X : List (List Int), ds = [.list (pts X)] ∧ ((Bad X ∧ d = saysS) ∨ (Big X ∧ d = saysM)))
theorem ErrAt.xf {x qual : Str} {st : Stmt} {C fI : Addr} {fd : FuncData} (T : ErrAt K mg x qual st C fI fd) : XfC K C := ⟨T.ga, T.gg, T.oex.exC, T.hdC⟩
def tsay (C : Addr) (z : Str) : Addr → Value → Option Addr → TS := fun a cls d => tRet (tTup (tCons (tC (.str z)) (tCons (tXf a cls d C "what" (tVar 1)) tNil)))
theorem say_reads {C a : Addr} {z z2 : Str} {dd : Addr} {D : Ends} {σ : L2.St} {H B : Hp} (h1 : σ[1]? = some (some (.ref a))) (hd : H dd = some (.xd [(("what" : Str), .str z2)])) (s : Same B H)
    (k : ∀ v B' H', Grow B H B' H' → DD B' (.tuple [.str z, .str z2]) v → D.rt v H') : tsay C z a (.ref C) (some dd) D σ H := by
  refine ⟨_, h1, rfl, rfl, dd, _, .str z2, rfl, hd, by simp [List.lookup], show 2 ≤ sizeLine by decide, fun T hT => ?_⟩
  exact k _ _ _ (Grow.new s hT) ⟨T, _, rfl, upd_same, .cons rfl (.one rfl)⟩
theorem ok_law_refusal (M : Mod K mg) : FnOk P w K mg base CX0 6 M.f_law_refusal M.fd_law_refusal ["points"] sp_law_refusal := by
  refine M.d_law_refusal.F.ok sc_law_refusal (SpD.len fun ds ⟨_, e, _⟩ => by rw [e]; rfl) (fun cdv A outer s H vs Q E hr h => ?_)
  obtain ⟨B, ds, sB, hd, ⟨X, rfl, hX1, hX2, hcase⟩, q⟩ := h
  obtain ⟨v0, _, rfl, dr, rfl⟩ := hd
  refine ⟨_, pss_cons (TrW.ps_try_ways (tbo := fun W => tDrop (tCallS (sp_simplex_box M.cT M.cM) (WE W) (tCons (tVar 0) tNil))) (l := [(.ref M.cT, 1, tsay M.cT "simplex"), (.ref M.cM, 1, tsay M.cM "many")]) (Wo := fun _ _ _ _ => False) rfl rfl sc_law_refusal.nd takes0
      (fun W pn xe tk _ => pss_one (ps_expr (pe_callS (ok_simplex_box M) (hr.mono (by decide)) rfl M.d_simplex_box.g M.d_simplex_box.F.kp M.d_simplex_box.b (fun σ => passAt tk σ) (pa_cons (pv 0) pa_nil))))
      (.cons ⟨rfl, by decide, .inl M.errT.gC⟩ rfl rfl (fun a oe cls d pn hz hf => pss_one (ps_ret (pe_tup (pa_cons pe_str (pa_cons (pe_xf M.errT.xf M.errT.noN hz hf (pv 1)) pa_nil)))))
        (.cons ⟨rfl, by decide, .inl M.errM.gC⟩ rfl rfl (fun a oe cls d pn hz hf => pss_one (ps_ret (pe_tup (pa_cons pe_str (pa_cons (pe_xf M.errM.xf M.errM.noN hz hf (pv 1)) pa_nil))))) .nil)))
    (pss_one (ps_ret pe_non)), ?_⟩
  refine ⟨v0, rfl, B, [.list (pts X)], sB, .one dr, true, X, rfl, hX1, hX2, ?_⟩
  rcases hcase with hB | hB
  · refine .inl ⟨hB, fun d H' sm hd => ⟨true, M.ett, fun _ a ha => ?_, fun z => nomatch z⟩⟩
    exact say_reads (B := B) rfl hd (sB.trans sm) fun v B' H'' g e => q saysS v B' H'' ⟨X, rfl, .inl ⟨hB, rfl⟩⟩ ⟨g.b, sm.trans g.h, g.i, fun b hb => g.k b (fun z => by
      cases e : H b with
      | none => exact hb e
      | some o => rw [sm b o e] at z; cases z)⟩ e
  · obtain ⟨b, n, O, hnz, hbig⟩ := id hB
    refine .inr ⟨b, n, O, hnz, .inl ⟨hbig, fun d H' sm hd => ⟨false, M.emt, (fun z => nomatch z), fun _ => ⟨true, M.emm, fun _ a ha => ?_, fun z => nomatch z⟩⟩⟩⟩
    exact say_reads (B := B) rfl hd (sB.trans sm) fun v B' H'' g e => q saysM v B' H'' ⟨X, rfl, .inr ⟨hB, rfl⟩⟩ ⟨g.b, sm.trans g.h, g.i, fun b hb => g.k b (fun z => by
      cases e : H b with
      | none => exact hb e
      | some o => rw [sm b o e] at z; cases z)⟩ e
end K84

set_option maxHeartbeats 4000000
namespace D8
open PySem PySem.Spec PyProof.Rows L2
section
variable {K : PySem.W.Frag} {σ : L2.St} {B H : Hp} {ta tb : TE} {d e : PyData} {D : Ends} {u : TS}
theorem evd_neD (ha : EvD ta σ B d) (hb : EvD tb σ B e) (h1 : SeqAt.shaped d = true) (h2 : SeqAt.shaped e = true) : EvD (tOp (rNeD K) ta tb) σ B (.bool (!PyData.eqv d e)) :=
  evd_op ha hb fun v w B' s dv dw H t Q q => ⟨d, e, (dv.mono t).dp, (dw.mono t).dp, h1, h2, q _ B' H (Grow.refl t) rfl⟩
theorem evd_eqD (ha : EvD ta σ B d) (hb : EvD tb σ B e) (h1 : SeqAt.shaped d = true) (h2 : SeqAt.shaped e = true) : EvD (tOp (rEqD K) ta tb) σ B (.bool (PyData.eqv d e)) :=
  evd_op ha hb fun v w B' s dv dw H t Q q => ⟨d, e, (dv.mono t).dp, (dw.mono t).dp, h1, h2, q _ B' H (Grow.refl t) rfl⟩
theorem seq_callX {pre : List PyData → Prop} {post : List PyData → PyData → Prop} {E : XK} {t : TA} {ds : List PyData} {i : Nat} (ha : EvA t σ B ds) (hp : pre ds) (s : Same B H)
    (q : ∀ d v B' H', post ds d → Grow B H B' H' → DD B' d v → u D (σ.set i (some v)) H') : tSeq (tAsg (tCall (SpD pre post) [] E t) (gName i)) u D σ H := call_D (Q := fun v H' => u D (σ.set i (some v)) H') ha hp s q
theorem cutP_upto {ds : List PyData} {k : Nat} : cutP ds none (some (k : Int)) = ds.take k := by
  unfold cutP
  rw [HT.sIx_none, HT.sIx_nat]
  simp only [List.drop_zero, Nat.sub_zero]
  by_cases h : k ≤ ds.length
  · rw [Nat.min_eq_left h]
  · rw [Nat.min_eq_right (by omega), List.take_of_length_le (Nat.le_refl _), List.take_of_length_le (by omega)]
end
end D8
namespace K84
open PySem PySem.Spec PyProof.Rows L2 D8
variable {P : Program} {w : World} {K : PySem.W.Frag} {mg : Str → Option Value} {base : Heap}
/-! ### the shape of what is compared -/
theorem plain_lay : ∀ (xs : List Int), PyData.canLayAll0 ((iL xs).map (plainK 0)) = true ∧ PyData.depthAll ((iL xs).map (plainK 0)) ≤ 1
  | [] => ⟨rfl, Nat.zero_le _⟩
  | x :: xs => by
    obtain ⟨h1, h2⟩ := plain_lay xs
    refine ⟨?_, ?_⟩
    · show (PyData.canLay0 (.list [.bool false, .int x]) && PyData.canLayAll0 ((iL xs).map (plainK 0))) = true
      rw [h1]
      rfl
    · show max (PyData.depth (.list [.bool false, .int x])) (PyData.depthAll ((iL xs).map (plainK 0))) ≤ 1
      have : PyData.depth (.list [.bool false, .int x]) = 1 := rfl
      omega
theorem plain_lay1 : ∀ (X : List (List Int)), PyData.canLayAll0 ((pts X).map (plainK 1)) = true ∧ PyData.depthAll ((pts X).map (plainK 1)) ≤ 2
  | [] => ⟨rfl, Nat.zero_le _⟩
  | x :: X => by
    obtain ⟨h1, h2⟩ := plain_lay1 X
    obtain ⟨h3, h4⟩ := plain_lay x
    refine ⟨?_, ?_⟩
    · show (PyData.canLay0 (.list (.bool false :: (iL x).map (plainK 0))) && PyData.canLayAll0 ((pts X).map (plainK 1))) = true
      rw [h1, Bool.and_true]
      show (true && PyData.canLayAll0 ((iL x).map (plainK 0))) = true
      rw [h3]
      rfl
    · show max (PyData.depth (.list (.bool false :: (iL x).map (plainK 0)))) (PyData.depthAll ((pts X).map (plainK 1))) ≤ 2
      have : PyData.depth (.list (.bool false :: (iL x).map (plainK 0))) = max 0 (PyData.depthAll ((iL x).map (plainK 0))) + 1 := rfl
      omega
theorem plain_shaped (X : List (List Int)) : SeqAt.shaped (plainK 2 (.list (pts X))) = true := by
  obtain ⟨h1, h2⟩ := plain_lay1 X
  refine Bool.and_eq_true_iff.mpr ⟨?_, decide_eq_true ?_⟩
  · show (true && PyData.canLayAll0 ((pts X).map (plainK 1))) = true
    rw [h1]
    rfl
  · show max 0 (PyData.depthAll ((pts X).map (plainK 1))) + 1 ≤ 64
    omega
theorem plain_eqv (X : List (List Int)) : PyData.eqv (plainK 2 (.list (pts X))) (plainK 2 (.list (pts X))) = true := SeqAt.eqv_refl _ (SeqAt.canLay_of_shaped (plain_shaped X))
end K84

set_option maxHeartbeats 4000000
namespace K84
open PySem PySem.Spec PyProof.Rows L2 D8
variable {P : Program} {w : World} {K : PySem.W.Frag} {mg : Str → Option Value} {base : Heap}
/-- what holds of the simplices that the law draws -/
structure Main (n : Nat) (X : List (List Int)) : Prop where
  fac : FacOk 4 (n + 1) X
  nz : Br.bareM (liftM X) ≠ 0
  who : whoM (liftM X) ≤ 2000
  home : ∃ G, Home (liftM X) (n + 1) G ∧ ∀ f ∈ G, ∀ x ∈ ptM (liftM X) (whoM (liftM X) : Nat) f, -1000 ≤ x ∧ x < 1000
  good : (goodM (liftM X)).length < 64
  same : ∀ R L, SBox X (n + 1) R → SortedOf (goodM (liftM X)) L → R = L
  cnt : ((goodM (liftM X)).length : Int) = if 0 < n then volM X else 1
def Drawn1 (n : Nat) (X : List (List Int)) : Prop := Simp 3 n X ∧ (n = 0 ∨ (0 < volM X ∧ volM X ≤ 40))
/-! ### the four refusals -/
theorem bad1 : Bad [[0, 0], [1, 1], [2, 2]] := .det (b := 3) (n := 3) (by decide) ⟨by decide, ⟨by decide, by decide, by decide⟩, by decide, by decide⟩ (by decide)
theorem bad2 : Bad [[0, 0], [1, 0]] := .row (r := [0, 0, 1]) (by decide) (by decide)
theorem notBig1 : ¬ Big [[0, 0], [1, 1], [2, 2]] := fun ⟨_, _, _, h, _⟩ => h (by decide)
theorem notBig2 : ¬ Big [[0, 0], [1, 0]] := fun ⟨b, n, O, _, _⟩ => by
  have h1 := O.det.sqr.len
  have h2 := O.det.sqr.row [0, 0, 1] (by decide)
  have e : (liftM [[0, 0], [1, 0]]).length = 2 := rfl
  have e2 : ([0, 0, 1] : List Int).length = 3 := rfl
  omega
theorem notBig3 : ¬ Big [] := fun ⟨b, n, O, _, _⟩ => by
  have h1 := O.det.sqr.len
  have h2 := O.n1
  have e : (liftM []).length = 0 := rfl
  omega
theorem big4 : Big [[0], [2001]] := ⟨2048, 2, ⟨by decide, by decide, by decide, ⟨by decide, ⟨by decide, by decide, by decide⟩, by decide, by decide⟩, by decide, by decide⟩, by decide, by decide⟩
theorem notBad4 : ¬ Bad [[0], [2001]] := fun h => by
  cases h with
  | row h hl =>
    have : ∀ r ∈ liftM [[0], [2001]], r.length = 2 := by decide
    exact hl (this _ h)
  | det _ _ h => exact absurd h (by decide)
theorem ref_call {σ : L2.St} {B : Hp} {te : TE} {X : List (List Int)} {d : PyData} (h : EvD te σ B (.list (pts X))) (h1 : X.length ≤ 100) (h2 : ∀ r ∈ X, r.length ≤ 100) (hd : (Bad X ∧ ¬ Big X ∧ d = saysS) ∨ (Big X ∧ ¬ Bad X ∧ d = saysM)) :
    EvD (tCall sp_law_refusal [] E0 (tCons te tNil)) σ B d :=
  evd_call (ds := [.list (pts X)]) (eva_cons h eva_nil) ⟨X, rfl, h1, h2, hd.imp (·.1) (·.1)⟩ (fun d' ⟨X', e, h⟩ => by
    have ex := pts_inj (PyData.list.inj (List.cons.inj e).1)
    subst ex
    rcases hd with ⟨a1, a2, a3⟩ | ⟨a1, a2, a3⟩ <;> rcases h with ⟨b1, b2⟩ | ⟨b1, b2⟩
    · rw [b2, a3]
    · exact absurd b1 a2
    · exact absurd b1 a2
    · rw [b2, a3])
theorem lift_sqr {n : Nat} {X : List (List Int)} (S : Simp 3 n X) : Sqr 4 (n + 1) (liftM X) := by
  refine ⟨by unfold liftM; rw [List.length_map, S.len], fun r hr => ?_, fun r hr x hx => ?_⟩
  · obtain ⟨y, hy, rfl⟩ := List.mem_map.mp hr
    rw [List.length_append, S.row y hy]
    rfl
  · obtain ⟨y, hy, rfl⟩ := List.mem_map.mp hr
    rcases List.mem_append.mp hx with q | q
    · have := S.bd y hy x q
      omega
    · have : x = 1 := by simpa using q
      omega
/-- the call of simplex_box, its answer known -/
theorem evd_box {σ : L2.St} {B : Hp} {te : TE} {cT cM : Addr} {E : L2.St → XK} {n : Nat} {X L : List (List Int)} (h : EvD te σ B (.list (rowsD false X))) (S : Simp 3 n X) (hn : n ≤ 3) (m : Main n X) (hL : SortedOf (goodM (liftM X)) L) :
    EvD (tCallS (sp_simplex_box cT cM) E (tCons te tNil)) σ B (.list (pts L)) := fun H s Q q => by
  refine (eva_cons h eva_nil) H s _ fun vs B1 H1 g1 d1 => ?_
  refine ⟨B1, _, g1.i, d1, false, X, rfl, by rw [S.len]; omega, fun r hr => by rw [S.row r hr]; omega, .inr ⟨4, n + 1, m.fac, m.nz, .inr ⟨m.who, by decide, m.home, fun R v B' H' hR g e => ?_⟩⟩⟩
  have e2 := m.same R L hR hL
  subst e2
  exact q v B' H' (g1.trans g) e
end K84

set_option maxHeartbeats 8000000
namespace K84
open PySem PySem.Spec PyProof.Rows L2 D8
variable {P : Program} {w : World} {K : PySem.W.Frag} {mg : Str → Option Value} {base : Heap}
/-! ### law -/
/-- the simplex that is taken where the drawn one does not do -/
def diagRow (n p : Nat) : List Int := (List.range n).map fun a : Nat => (1 + (a : Int)) * (if decide ((a : Int) = (p : Int)) = true then 1 else 0)
def diagM (n k : Nat) : List (List Int) := List.replicate n 0 :: (List.range k).map (diagRow n)
theorem diag_ok : ∀ n, 1 ≤ n → n ≤ 3 → Drawn1 n (diagM n n) := fun n h1 h3 => by
  have h : n = 1 ∨ n = 2 ∨ n = 3 := by omega
  rcases h with rfl | rfl | rfl
  · exact ⟨⟨by decide, by decide, by decide⟩, .inr (by decide)⟩
  · exact ⟨⟨by decide, by decide, by decide⟩, .inr (by decide)⟩
  · exact ⟨⟨by decide, by decide, by decide⟩, .inr (by decide)⟩
def sp_law (K : PySem.W.Frag) : Sp := fun vs H Q _ => ∃ (a : Addr) (ns : List Int), vs = [.ref a] ∧ SqL K H a (ns.map V.int) ∧ ns.length ≤ 63 ∧ ∀ H', Q (.bl true) H'
theorem ok_law (M : Mod K mg) (HM : ∀ n X, n ≤ 3 → Drawn1 n X → Main n X) : FnOk P w K mg base CX0 7 M.f_law M.fd_law ["script"] (sp_law K) := by
  refine M.d_law.F.ok sc_law (fun vs H Q E ⟨_, _, e, _⟩ => by rw [e]; rfl) (fun cdv A outer s H vs Q E hr h => ?_)
  obtain ⟨a, ns, rfl, hS, hl, q⟩ := h
  refine ⟨_, (pss_cons (ps_set (i := 1) sc_law.nd rfl (.inl rfl) (pe_call (ok_law_deck M) (hr.mono (by decide)) (by rfl) M.d_law_deck.g M.d_law_deck.F.kp M.d_law_deck.b .nil pass0 (pa_cons (pv 0) (pa_cons pe_int (pa_cons pe_int pa_nil)))))
    (pss_cons (ps_set (i := 2) sc_law.nd rfl (.inl rfl) (pe_call (ok_law_take M) (hr.mono (by decide)) (by rfl) M.d_law_take.g M.d_law_take.F.kp M.d_law_take.b .nil pass0 (pa_cons (pv 1) (pa_cons pe_int pa_nil))))
    (pss_cons (ps_set (i := 3) sc_law.nd rfl (.inl rfl) (pe_lst (pa_cons (pe_tup pa_nil) pa_nil)))
    (Evl.pss_cut (ps_if (pt_cmpR op_gt (pv 2) pe_int (nomark _)) (pss_cons (ps_set (i := 6) sc_law.nd rfl (.inl rfl) (pe_call (ok_law_points M) (hr.mono (by decide)) (by rfl) M.d_law_points.g M.d_law_points.F.kp M.d_law_points.b .nil pass0 (pa_cons (pv 1) (pa_cons (pv 2) (pa_cons pe_int (pa_cons (pe_un un_neg pe_int) (pa_cons pe_int pa_nil)))))))
    (pss_one (ps_set (i := 3) sc_law.nd rfl (.inl rfl) (pe_slice sl_list (pv 6) po_none (po_some (pe_op op_add (pv 2) pe_int)))))) pss_nil)
    (Evl.pss_cut (ps_if (PW.pt (pw_and (pt_cmpR op_gt (pv 2) pe_int (nomark _)) (pw_and1 (PW.pt (pw_or (pt_cmpR op_lt (pe_callB call_len_seq (by rfl) M.m_len PySem.boot_len (pa_cons (pv 3) pa_nil)) (pe_op op_add (pv 2) pe_int) (nomark _)) (pw_or (pt_cmpR op_eq (pe_call (ok_law_volume M) (hr.mono (by decide)) (by rfl) M.d_law_volume.g M.d_law_volume.F.kp M.d_law_volume.b .nil pass0 (pa_cons (pv 3) pa_nil)) pe_int (nomark _)) (pw_or1 (pt_cmpR op_gt (pe_call (ok_law_volume M) (hr.mono (by decide)) (by rfl) M.d_law_volume.g M.d_law_volume.F.kp M.d_law_volume.b .nil pass0 (pa_cons (pv 3) pa_nil)) pe_int (nomark _))))))))) (pss_cons (ps_set (i := 3) sc_law.nd rfl (.inl rfl) (pe_lst (pa_cons (pe_callTy call_tuple_of (by rfl) M.m_tuple (by decide +kernel) (pa_cons (pe_op op_rep (pe_lst (pa_cons pe_int pa_nil)) (pv 2)) pa_nil)) pa_nil)))
    (pss_one (ps_for PassesOwn.never rfl (pi_range1 (by rfl) M.m_range (pa_cons (pv 2) pa_nil)) (pg_name (i := 7) sc_law.nd rfl (.inr rfl))
    (pss_one (ps_expr (pe_bm PySem.F.plainAttrs_list PySem.F.slot_list_append PySem.F.type_list_append mt_append (pv 3) (pa_cons (pe_callTy call_tuple_of (by rfl) M.m_tuple (by decide +kernel) (pa_cons (pe_lc (own := [("at", 9)]) (g := gName 9) (tt := tYes) (te := (tOp (rI CMul fun i j => .int (i * j)) (tOp (rI0 fun i j => .int (i + j)) (tC (.int 1)) (tVar 9)) (tCB rInt1 (tCons (tOp rEq (tVar 9) (tVar 7)) tNil)))) rfl sc_law.nd (pi_range1 (by rfl) M.m_range (pa_cons (pv 2) pa_nil)) (blkOk_by (own := [("at", 9)]) (N := N_law) (sc := defScope s_law) (by decide +kernel)) (fun _ _ _ _ _ => (pg_name (i := 9) sc_law.nd rfl (.inl rfl))) (fun _ _ _ _ _ => pts_nil) (fun _ _ _ _ _ => (pe_op op_mul (pe_op op_add pe_int (pv 9)) (pe_callTy call_int1 (by rfl) M.m_int (by decide +kernel) (pa_cons (pe_cmpR op_eq (pv 9) (pv 7) (nomark _)) pa_nil))))) pa_nil)) pa_nil))))))) pss_nil)
    (pss_cons (ps_set (i := 4) sc_law.nd rfl (.inl rfl) (pe_call (ok_law_box M) (hr.mono (by decide)) (by rfl) M.d_law_box.g M.d_law_box.F.kp M.d_law_box.b .nil pass0 (pa_cons (pv 3) pa_nil)))
    (pss_cons (ps_if (pt_cmpR (op_neD hr.units) (pe_call (ok_law_plain M) (hr.mono (by decide)) (by rfl) M.d_law_plain.g M.d_law_plain.F.kp M.d_law_plain.b .nil pass0 (pa_cons (pe_callS (ok_simplex_box M) (hr.mono (by decide)) (by rfl) M.d_simplex_box.g M.d_simplex_box.F.kp M.d_simplex_box.b (fun σ => passAt takes0 σ) (pa_cons (pe_lc (own := [("point", 8)]) (g := gName 8) (tt := tYes) (te := (tCB (rListQ K) (tCons (tVar 8) tNil))) rfl sc_law.nd (pi_list (pv 3)) (blkOk_by (own := [("point", 8)]) (N := N_law) (sc := defScope s_law) (by decide +kernel)) (fun _ _ _ _ _ => (pg_name (i := 8) sc_law.nd rfl (.inl rfl))) (fun _ _ _ _ _ => pts_nil) (fun _ _ _ _ _ => (pe_callTy call_list_of (by rfl) M.m_list (by decide +kernel) (pa_cons (pv 8) pa_nil)))) pa_nil)) pa_nil)) (pe_call (ok_law_plain M) (hr.mono (by decide)) (by rfl) M.d_law_plain.g M.d_law_plain.F.kp M.d_law_plain.b .nil pass0 (pa_cons (pv 4) pa_nil)) (nomark _)) (pss_one (ps_ret pe_bl)) pss_nil)
    (pss_cons (ps_if (pt_cmpR op_ne (pe_callB call_len_seq (by rfl) M.m_len PySem.boot_len (pa_cons (pv 4) pa_nil)) (pe_ifExp (pt_cmpR op_gt (pv 2) pe_int (nomark _)) (pe_call (ok_law_volume M) (hr.mono (by decide)) (by rfl) M.d_law_volume.g M.d_law_volume.F.kp M.d_law_volume.b .nil pass0 (pa_cons (pv 3) pa_nil)) pe_int) (nomark _)) (pss_one (ps_ret pe_bl)) pss_nil)
    (pss_cons (ps_set (i := 5) sc_law.nd rfl (.inl rfl) (pe_lst (pa_cons (pe_call (ok_law_refusal M) (hr.mono (by decide)) (by rfl) M.d_law_refusal.g M.d_law_refusal.F.kp M.d_law_refusal.b .nil pass0 (pa_cons (pe_lst (pa_cons (pe_tup (pa_cons pe_int (pa_cons pe_int pa_nil))) (pa_cons (pe_tup (pa_cons pe_int (pa_cons pe_int pa_nil))) (pa_cons (pe_tup (pa_cons pe_int (pa_cons pe_int pa_nil))) pa_nil)))) pa_nil)) (pa_cons (pe_call (ok_law_refusal M) (hr.mono (by decide)) (by rfl) M.d_law_refusal.g M.d_law_refusal.F.kp M.d_law_refusal.b .nil pass0 (pa_cons (pe_lst (pa_cons (pe_tup (pa_cons pe_int (pa_cons pe_int pa_nil))) (pa_cons (pe_tup (pa_cons pe_int (pa_cons pe_int pa_nil))) pa_nil))) pa_nil)) (pa_cons (pe_call (ok_law_refusal M) (hr.mono (by decide)) (by rfl) M.d_law_refusal.g M.d_law_refusal.F.kp M.d_law_refusal.b .nil pass0 (pa_cons (pe_lst pa_nil) pa_nil)) pa_nil)))))
    (pss_cons (ps_expr (pe_bm PySem.F.plainAttrs_list PySem.F.slot_list_append PySem.F.type_list_append mt_append (pv 5) (pa_cons (pe_call (ok_law_refusal M) (hr.mono (by decide)) (by rfl) M.d_law_refusal.g M.d_law_refusal.F.kp M.d_law_refusal.b .nil pass0 (pa_cons (pe_lst (pa_cons (pe_tup (pa_cons pe_int pa_nil)) (pa_cons (pe_tup (pa_cons pe_int pa_nil)) pa_nil))) pa_nil)) pa_nil)))
    (pss_one (ps_ret (pe_cmpR (op_eqD hr.units) (pv 5) (pe_op op_cat (pe_op op_rep (pe_lst (pa_cons (pe_tup (pa_cons pe_str (pa_cons pe_str pa_nil))) pa_nil)) pe_int) (pe_lst (pa_cons (pe_tup (pa_cons pe_str (pa_cons pe_str pa_nil))) pa_nil))) (nomark _)))))))))))))), ?_⟩
  -- deck, size
  refine ⟨_, rfl, a, 40, 14, ns, rfl, by decide, by decide, hS, by omega, fun p ds H1 sm1 hp1 hp => ?_⟩
  refine ⟨_, rfl, p, 4, ds, rfl, by decide, hp, fun r ds2 H2 hr0 hr1 hp2 hk2 => ?_⟩
  obtain ⟨n, rfl⟩ := Int.eq_ofNat_of_zero_le hr0
  have hn3 : n ≤ 3 := by omega
  -- points = [()]
  refine seq_set (B := fun _ => none) (d := .list (pts [[]])) (evd_lst (eva_cons (evd_tup eva_nil (Nat.zero_le _)) eva_nil) (show 1 ≤ sizeLine by decide)) (fun _ _ z => by cases z) fun u3 B3 H3 g3 d3 => ?_
  have dk3 : Deck H3 p := ⟨ds2, g3.h _ _ hp2⟩
  have e3 : H3 p = some (.lst (ds2.map V.int)) := g3.h _ _ hp2
  have bp3 : B3 p = none := g3.none rfl hp2
  -- the points drawn
  refine ⟨fun σ H => ∃ (Y : List (List Int)) (u : V) (x6 : Option V) (B : Hp), σ = [some (.ref a), some (.ref p), some (.int (n : Nat)), some u, none, none, x6, none, none, none] ∧ Same B H ∧ DD B (.list (pts Y)) u ∧ ((n = 0 ∧ Y = [[]]) ∨ (1 ≤ n ∧ Y.length ≤ n + 1 ∧ ∀ r ∈ Y, r.length = n ∧ ∀ x ∈ r, -3 ≤ x ∧ x ≤ 3)), ?_, ?_⟩
  · refine one_if (b := decide ((0 : Int) < (n : Nat))) (evt_test (evd_gt (evd_var (i := 2) (d := .int (n : Nat)) rfl rfl) evd_int)) g3.i fun B4 H4 g4 => ?_
    refine ite2 (fun hb => ?_) (fun hb => ?_)
    · have hn1 : 1 ≤ n := by have := of_decide_eq_true hb; omega
      refine ⟨_, rfl, _, rfl, 1, rfl, B4, p, n, 0, -1, 2, rfl, hn1, hn3, by decide, by decide, by decide, by decide, g4.i, g4.none bp3 e3, dk3.keep g4.h, fun X v B5 H5 hX gx dk5 dv => ?_⟩
      have hsl := evd_slL (K := K) (evd_var (B := B5) (σ := [some (.ref a), some (.ref p), some (.int (n : Nat)), some u3, none, none, some v, none, none, none]) (i := 6) rfl dv) evo_none (evo_some (evd_add (evd_var (i := 2) (d := .int (n : Nat)) rfl rfl) (evd_int (n := 1))))
      rw [show ((n : Nat) : Int) + 1 = ((n + 1 : Nat) : Int) by omega, cutP_upto, show (pts X).take (n + 1) = pts (X.take (n + 1)) from List.map_take.symm] at hsl
      refine one_set hsl gx.i fun u B6 H6 g6 d6 => ?_
      refine ⟨X.take (n + 1), u, some v, B6, rfl, g6.i, d6, .inr ⟨hn1, by rw [List.length_take]; omega, fun r hr => ?_⟩⟩
      obtain ⟨q1, q2⟩ := hX.2 r (List.mem_of_mem_take hr)
      exact ⟨q1, fun x hx => by have := q2 x hx; omega⟩
    · have hn0 : n = 0 := by
        have : ¬ (0 : Int) < (n : Nat) := fun z => hb (decide_eq_true z)
        omega
      exact ⟨[[]], u3, none, B4, rfl, g4.i, d3.mono g4.b, .inl ⟨hn0, rfl⟩⟩
  rintro σ H4 ⟨Y, u, x6, B4, rfl, s4, du, hY⟩
  -- the points that do
  refine ⟨fun σ H => ∃ (X : List (List Int)) (u : V) (x6 x7 x8 x9 : Option V) (B : Hp), σ = [some (.ref a), some (.ref p), some (.int (n : Nat)), some u, none, none, x6, x7, x8, x9] ∧ Same B H ∧ DD B (.list (pts X)) u ∧ Drawn1 n X, ?_, ?_⟩
  · have hlen := evd_lenL (K := K) (evd_var (B := B4) (σ := [some (.ref a), some (.ref p), some (.int (n : Nat)), some u, none, none, x6, none, none, none]) (i := 3) rfl du)
    rw [List.length_map] at hlen
    have hsimp : 1 ≤ n → ¬ ((Y.length : Nat) : Int) < (n : Nat) + 1 → Simp 3 n Y := fun h1 h2 => by
      rcases hY with ⟨z, _⟩ | ⟨_, hl, hr⟩
      · omega
      · exact ⟨by omega, fun r hr' => (hr r hr').1, fun r hr' => (hr r hr').2⟩
    have hvol : 1 ≤ n → ¬ ((Y.length : Nat) : Int) < (n : Nat) + 1 → EvD (tCall sp_law_volume [] E0 (tCons (tVar 3) tNil)) [some (.ref a), some (.ref p), some (.int (n : Nat)), some u, none, none, x6, none, none, none] B4 (.int (volM Y)) := fun h1 h2 => by
      have S := hsimp h1 h2
      exact evd_call (ds := [.list (pts Y)]) (eva_cons (evd_var (i := 3) rfl du) eva_nil) ⟨n, Y, rfl, by omega, S.len, S.row, fun r hr x hx => by have := S.bd r hr x hx; omega⟩ (fun d ⟨Y', e, h⟩ => by rw [h, ← pts_inj (PyData.list.inj (List.cons.inj e).1)])
    have ht := evt_and (tt := tTest (tOp (rI0 fun i j => .bl (decide (j < i))) (tVar 2) (tC (.int 0)))) (evt_test (evd_gt (evd_var (B := B4) (σ := [some (.ref a), some (.ref p), some (.int (n : Nat)), some u, none, none, x6, none, none, none]) (i := 2) (d := .int (n : Nat)) rfl rfl) (evd_int (n := 0)))) fun h1 =>
      evt_or (evt_test (evd_lt hlen (evd_add (evd_var (i := 2) (d := .int (n : Nat)) rfl rfl) (evd_int (n := 1))))) fun h2 =>
      evt_or (evt_test (evd_eqI (hvol (by have := of_decide_eq_true h1; omega) (of_decide_eq_false h2)) (evd_int (n := 0)))) fun h3 =>
      evt_test (evd_gt (hvol (by have := of_decide_eq_true h1; omega) (of_decide_eq_false h2)) (evd_int (n := 40)))
    refine one_if ht s4 fun B5 H5 g5 => ?_
    refine ite2 (fun hb => ?_) (fun hb => ?_)
    · -- the other simplex
      have hn1 : 1 ≤ n := by
        have := (Bool.and_eq_true_iff.mp hb).1
        have := of_decide_eq_true this
        omega
      have hz := evd_rep (σ := [some (.ref a), some (.ref p), some (.int (n : Nat)), some u, none, none, x6, none, none, none]) (B := B5) (tb := tVar 2) (evd_lst (eva_cons (evd_int (n := 0)) eva_nil) (show 1 ≤ sizeLine by decide)) (evd_var (i := 2) (d := .int (n : Nat)) rfl rfl) (by omega) (by omega) (by
            show 1 * _ ≤ sizeLine
            rw [Int.toNat_natCast, Nat.one_mul]
            exact ge_sz (by omega))
      rw [Int.toNat_natCast, rep_iL] at hz
      refine seq_setNew (B := B5) (ds := [pt (List.replicate n 0)]) (eva_cons (evd_tupleL hz) eva_nil) (show 1 ≤ sizeLine by decide) g5.i fun pl xs B6 H6 hpl g6 bpl hpl6 pxs => ?_
      refine for_D (B := B6) (es := rngL 0 n) (evi_rngN (evd_var (i := 2) (d := .int (n : Nat)) rfl rfl) (by omega)) g6.i fun B7 H7 g7 => ?_
      refine ⟨fun k σ B' H' => ∃ (x7 x9 : Option V) (acc : List V), σ = [some (.ref a), some (.ref p), some (.int (n : Nat)), some (.ref pl), none, none, x6, x7, none, x9] ∧ Same B7 B' ∧ Same B' H' ∧ B' pl = none ∧ H' pl = some (.lst acc) ∧ DDs B' (pts (diagM n k)) acc,
        ⟨_, _, xs, rfl, Same.refl _, g7.i, g7.none bpl hpl6, g7.h _ _ hpl6, by
          show DDs B7 (pts [List.replicate n 0]) xs
          exact pxs.mono g7.b⟩, fun k σ B' H' ⟨_, _, _, _, s, t, _⟩ => ⟨s, t⟩, ?_, ?_⟩
      · rintro k d σ B' H' hd ⟨x7, x9, acc, rfl, s7, t7, bq, hq, pa⟩ v B8 H8 g8 dv
        have hk : k < n := by
          have := (List.getElem?_eq_some_iff.mp hd).1
          simpa using this
        rw [List.getElem?_map, List.getElem?_range hk] at hd
        cases hd
        have hv : v = .int (0 + (k : Nat)) := dv
        subst hv
        rw [Int.zero_add]
        have hrow := evd_lcN (wi := iRng1 (tCons (tVar 2) tNil)) (i := 9) (B := B8) (σ := [some (.ref a), some (.ref p), some (.int (n : Nat)), some (.ref pl), none, none, x6, some (.int (k : Nat)), none, x9])
          (te := tOp (rI CMul fun i j => .int (i * j)) (tOp (rI0 fun i j => .int (i + j)) (tC (.int 1)) (tVar 9)) (tCB rInt1 (tCons (tOp rEq (tVar 9) (tVar 7)) tNil))) (f := fun d => match d with | .int t => .int ((1 + t) * (if decide (t = (k : Int)) = true then 1 else 0)) | d => d)
          (evi_rngN (evd_var (i := 2) (d := .int (n : Nat)) rfl rfl) (by omega)) (by rw [List.length_map, List.length_range]; exact ge_sz (by omega))
          (fun d B'' y hm s'' hy => by
            obtain ⟨t, ht, rfl⟩ := List.mem_map.mp hm
            have htl := List.mem_range.mp ht
            exact evd_mul (evd_add evd_int (evd_var (i := 9) rfl hy)) (evd_intB (evd_eqI (evd_var (i := 9) rfl hy) (evd_var (i := 7) (d := .int (k : Nat)) rfl rfl))) (.inl ⟨by omega, by omega⟩))
        have erow : (rngL 0 n).map (fun d => match d with | .int t => PyData.int ((1 + t) * (if decide (t = (k : Int)) = true then 1 else 0)) | d => d) = iL (diagRow n k) := by
          unfold rngL diagRow
          show List.map _ (List.map _ _) = List.map _ (List.map _ _)
          rw [List.map_map, List.map_map]
          refine List.map_congr_left fun t _ => ?_
          show PyData.int ((1 + (0 + (t : Int))) * (if decide ((0 : Int) + (t : Int) = (k : Int)) = true then 1 else 0)) = PyData.int ((1 + (t : Int)) * (if decide ((t : Int) = (k : Int)) = true then 1 else 0))
          rw [Int.zero_add]
        rw [erow] at hrow
        refine app_D (i := 3) (d := pt (diagRow n k)) rfl (g8.none bq hq) (g8.h _ _ hq) (by
          rw [pa.length, List.length_map]
          unfold diagM
          rw [List.length_cons, List.length_map, List.length_range]
          exact Nat.lt_of_le_of_lt (show k + 1 ≤ 10 by omega) (by decide)) (evd_tupleL hrow) g8.i fun v' B9 H9 g9 d9 b9 s9 => ?_
        refine ⟨B9, _, _, acc ++ [v'], rfl, s7.trans (g8.b.trans g9.b), s9, b9, upd_same, ?_⟩
        have e : pts (diagM n (k + 1)) = pts (diagM n k) ++ [pt (diagRow n k)] := by
          unfold diagM
          rw [List.range_succ, List.map_append]
          show List.map pt (_ :: (_ ++ _)) = _
          rw [← List.cons_append, List.map_append]
          rfl
        rw [e]
        exact (pa.mono (g8.b.trans g9.b)).append (DDs.one d9)
      · rintro σ B' H' ⟨x7, x9, acc, rfl, s7, t7, bq, hq, pa⟩
        rw [show (rngL 0 n).length = n by simp] at pa
        obtain ⟨c1, c2, c3⟩ := close_S t7 bq hq pa
        exact ⟨diagM n n, .ref pl, _, _, _, _, _, rfl, c2, c3, diag_ok n hn1 hn3⟩
    · refine ⟨Y, u, x6, none, none, none, B5, rfl, g5.i, du.mono g5.b, ?_⟩
      rcases hY with ⟨h0, hy⟩ | ⟨h1, hl, hrow⟩
      · subst h0
        subst hy
        exact ⟨⟨rfl, by decide, by decide⟩, .inl rfl⟩
      · rw [Bool.not_eq_true, Bool.and_eq_false_iff] at hb
        rcases hb with hb | hb
        · have := of_decide_eq_false hb
          omega
        · rw [Bool.or_eq_false_iff, Bool.or_eq_false_iff] at hb
          obtain ⟨b1, b2, b3⟩ := hb
          have b1 := of_decide_eq_false b1
          have b2 := of_decide_eq_false b2
          have b3 := of_decide_eq_false b3
          have hge : 0 ≤ volM Y := by unfold volM; omega
          exact ⟨hsimp h1 b1, .inr ⟨by omega, by omega⟩⟩
  rintro σ H5 ⟨X, u, x6, x7, x8, x9, B5, rfl, s5, du, hDr⟩
  have m := HM n X hn3 hDr
  have S := hDr.1
  have SL := lift_sqr S
  have hXl : X.length = n + 1 := S.len
  -- due
  refine seq_callX (ds := [.list (pts X)]) (eva_cons (evd_var (i := 3) rfl du) eva_nil) ⟨n + 1, X, rfl, by omega, by omega, SL, m.good⟩ s5 fun d v4 B6 H6 hd g6 d4 => ?_
  obtain ⟨X', L, e1, hL, rfl⟩ := hd
  have ex := pts_inj (PyData.list.inj (List.cons.inj e1).1)
  subst ex
  have hLl : L.length = (goodM (liftM X)).length := hL.perm.length_eq
  have hLrow : ∀ r ∈ L, r.length ≤ 1000 := fun r hr => by
    have h1 := hL.perm.mem_iff.mp hr
    unfold goodM at h1
    have h2 := ((boxM_ok SL (by omega) (liftM X).length).1 r (List.mem_filter.mp h1).1).1
    rw [SL.len] at h2
    omega
  have hgood := m.good
  have hplain : ∀ {σ : L2.St} {B : Hp} {te : TE}, EvD te σ B (.list (pts L)) → EvD (tCall sp_law_plain [] E0 (tCons te tNil)) σ B (plainK 2 (.list (pts L))) := fun h =>
    evd_call (eva_cons h eva_nil) ⟨_, rfl, deep_pts L (by omega) hLrow⟩ (fun d ⟨d', e, hd⟩ => by rw [hd, ← (List.cons.inj e).1])
  have hcopy : ∀ (B' : Hp), Same B6 B' → EvD (tLc (iList K (tVar 3)) (gName 8) tYes (tCB (rListQ K) (tCons (tVar 8) tNil)) [8]) [some (.ref a), some (.ref p), some (.int (n : Nat)), some u, some v4, none, x6, x7, x8, x9] B' (.list (rowsD false X)) := fun B' s' => by
    have h := evd_lcN (i := 8) (B := B') (σ := [some (.ref a), some (.ref p), some (.int (n : Nat)), some u, some v4, none, x6, x7, x8, x9]) (te := tCB (rListQ K) (tCons (tVar 8) tNil)) (f := listD) (evi_list (K := K) (evd_var (i := 3) rfl (du.mono (g6.b.trans s')))) (by rw [List.length_map]; exact ge_sz (by omega))
      (fun d B'' y hm s'' hy => by
        obtain ⟨r, hr, rfl⟩ := List.mem_map.mp hm
        exact evd_listT (evd_var (i := 8) rfl hy))
    have e : (pts X).map listD = rowsD false X := by
      show (X.map _).map _ = X.map _
      rw [List.map_map]
      rfl
    rw [e] at h
    exact h
  have hcmp := evd_neD (K := K) (hplain (evd_box (cT := M.cT) (cM := M.cM) (E := fun σ => WE (fun _ _ _ _ => False) σ) (hcopy B6 (Same.refl _)) S hn3 m hL)) (hplain (evd_var (i := 4) rfl d4)) (plain_shaped L) (plain_shaped L)
  rw [plain_eqv] at hcmp
  refine seq_if (b := false) (evt_test hcmp) g6.i fun B7 H7 g7 => (if_neg (by decide)).mpr ?_
  -- the number of them
  have hlenD := evd_lenL (K := K) (evd_var (B := B7) (σ := [some (.ref a), some (.ref p), some (.int (n : Nat)), some u, some v4, none, x6, x7, x8, x9]) (i := 4) rfl (d4.mono g7.b))
  rw [List.length_map, hLl] at hlenD
  have hwant : EvD (tIf (tTest (tOp (rI0 fun i j => .bl (decide (j < i))) (tVar 2) (tC (.int 0)))) (tCall sp_law_volume [] E0 (tCons (tVar 3) tNil)) (tC (.int 1))) [some (.ref a), some (.ref p), some (.int (n : Nat)), some u, some v4, none, x6, x7, x8, x9] B7 (.int ((goodM (liftM X)).length : Nat)) := by
    refine evd_if (b := decide ((0 : Int) < (n : Nat))) (evt_test (evd_gt (evd_var (i := 2) (d := .int (n : Nat)) rfl rfl) (evd_int (n := 0)))) (fun hb => ?_) (fun hb => ?_)
    · have hb := of_decide_eq_true hb
      rw [m.cnt, if_pos (by omega)]
      exact evd_call (ds := [.list (pts X)]) (eva_cons (evd_var (i := 3) rfl (du.mono (g6.b.trans g7.b))) eva_nil) ⟨n, X, rfl, by omega, S.len, S.row, fun r hr x hx => by have := S.bd r hr x hx; omega⟩ (fun d ⟨Y', e, h⟩ => by rw [h, ← pts_inj (PyData.list.inj (List.cons.inj e).1)])
    · have hb := of_decide_eq_false hb
      rw [m.cnt, if_neg (by omega)]
      exact evd_int
  have hne := evd_neI hlenD hwant
  rw [decide_eq_true rfl] at hne
  refine seq_if (b := false) (evt_test hne) g7.i fun B8 H8 g8 => (if_neg (by decide)).mpr ?_
  -- told
  have iz : ∀ {σ : L2.St} {B : Hp} (x y : Int), EvD (tTup (tCons (tC (.int x)) (tCons (tC (.int y)) tNil))) σ B (pt [x, y]) := fun x y => evd_tup (eva_cons evd_int (eva_cons evd_int eva_nil)) (show 2 ≤ sizeLine by decide)
  have i1 : ∀ {σ : L2.St} {B : Hp} (x : Int), EvD (tTup (tCons (tC (.int x)) tNil)) σ B (pt [x]) := fun x => evd_tup (eva_cons evd_int eva_nil) (show 1 ≤ sizeLine by decide)
  refine seq_setNew (B := B8) (ds := [saysS, saysS, saysS])
    (eva_cons (ref_call (X := [[0, 0], [1, 1], [2, 2]]) (evd_lst (eva_cons (iz 0 0) (eva_cons (iz 1 1) (eva_cons (iz 2 2) eva_nil))) (show 3 ≤ sizeLine by decide)) (by decide) (by decide) (.inl ⟨bad1, notBig1, rfl⟩))
      (eva_cons (ref_call (X := [[0, 0], [1, 0]]) (evd_lst (eva_cons (iz 0 0) (eva_cons (iz 1 0) eva_nil)) (show 2 ≤ sizeLine by decide)) (by decide) (by decide) (.inl ⟨bad2, notBig2, rfl⟩))
        (eva_cons (ref_call (X := []) (evd_lst eva_nil (Nat.zero_le _)) (by decide) (by decide) (.inl ⟨.nil, notBig3, rfl⟩)) eva_nil)))
    (show 3 ≤ sizeLine by decide) g8.i fun pt5 xs B9 H9 hp8 g9 b9 hp9 pxs => ?_
  have hx3 : xs.length = 3 := pxs.length
  refine app_D (i := 5) (d := saysM) rfl b9 hp9 (by rw [hx3]; decide)
    (ref_call (X := [[0], [2001]]) (evd_lst (eva_cons (i1 0) (eva_cons (i1 2001) eva_nil)) (show 2 ≤ sizeLine by decide)) (by decide) (by decide) (.inr ⟨big4, notBad4, rfl⟩)) g9.i fun v10 B10 H10 g10 d10 b10 s10 => ?_
  have pall : DDs B10 ([saysS, saysS, saysS] ++ [saysM]) (xs ++ [v10]) := (pxs.mono g10.b).append (DDs.one d10)
  obtain ⟨c1, c2, c3⟩ := close_S s10 b10 upd_same pall
  have hst : ∀ {σ : L2.St} {B : Hp} (x y : Str), EvD (tTup (tCons (tC (.str x)) (tCons (tC (.str y)) tNil))) σ B (.tuple [.str x, .str y]) := fun x y => evd_tup (eva_cons evd_str (eva_cons evd_str eva_nil)) (show 2 ≤ sizeLine by decide)
  refine ret_D (evd_eqD (K := K) (evd_var (i := 5) rfl c3) (evd_cat (evd_rep (evd_lst (eva_cons (hst "simplex" "simplex") eva_nil) (show 1 ≤ sizeLine by decide)) (evd_int (n := 3)) (by decide) (by decide) (show 3 ≤ sizeLine by decide)) (evd_lst (eva_cons (hst "many" "points") eva_nil) (show 1 ≤ sizeLine by decide)) (show 4 ≤ sizeLine by decide)) (by decide +kernel) (by decide +kernel)) c2 fun v11 B11 H11 g11 d11 => ?_
  have e : PyData.eqv (.list ([saysS, saysS, saysS] ++ [saysM])) (.list ((List.replicate (3 : Int).toNat [saysS]).flatten ++ [saysM])) = true := by decide +kernel
  have d11 : v11 = .bl (PyData.eqv (.list ([saysS, saysS, saysS] ++ [saysM])) (.list ((List.replicate (3 : Int).toNat [saysS]).flatten ++ [saysM]))) := d11
  rw [e] at d11
  subst d11
  exact q H11
end K84

set_option maxHeartbeats 2000000
/-! Half-open boxes of whole vectors and the cosets of a lattice (own work, plain). -/
namespace Ln
open K84
/-! ### sums -/
def sm : Nat → (Nat → Int) → Int
  | 0, _ => 0
  | n + 1, g => sm n g + g n
theorem sm_congr {n : Nat} {g h : Nat → Int} (e : ∀ i, i < n → g i = h i) : sm n g = sm n h := by
  induction n with
  | zero => rfl
  | succ n ih => rw [sm, sm, ih fun i hi => e i (by omega), e n (by omega)]
theorem sm_add (n : Nat) (g h : Nat → Int) : sm n (fun i => g i + h i) = sm n g + sm n h := by
  induction n with
  | zero => rfl
  | succ n ih => rw [sm, sm, sm, ih]; omega
theorem sm_sub (n : Nat) (g h : Nat → Int) : sm n (fun i => g i - h i) = sm n g - sm n h := by
  induction n with
  | zero => rfl
  | succ n ih => rw [sm, sm, sm, ih]; omega
theorem sm_mul (n : Nat) (a : Int) (g : Nat → Int) : sm n (fun i => a * g i) = a * sm n g := by
  induction n with
  | zero => rw [sm, sm, Int.mul_zero]
  | succ n ih => rw [sm, sm, ih, Int.mul_add]
theorem sm_zero (n : Nat) : sm n (fun _ => 0) = 0 := by
  induction n with
  | zero => rfl
  | succ n ih => rw [sm, ih]; rfl
theorem sm_swap (n m : Nat) (g : Nat → Nat → Int) : sm n (fun i => sm m (g i)) = sm m (fun j => sm n fun i => g i j) := by
  induction n with
  | zero => rw [sm]; exact (sm_zero m).symm
  | succ n ih =>
    rw [sm, ih]
    show _ = sm m (fun j => sm n (fun i => g i j) + g n j)
    rw [sm_add]
theorem sm_delta {n k : Nat} (h : k < n) (a : Int) : sm n (fun i => if i = k then a else 0) = a := by
  induction n with
  | zero => omega
  | succ n ih =>
    rw [sm]
    by_cases e : n = k
    · subst e
      rw [if_pos rfl, sm_congr (h := fun _ => 0) (fun i hi => if_neg (by omega)), sm_zero, Int.zero_add]
    · rw [if_neg e, ih (by omega), Int.add_zero]
theorem sm_le {n : Nat} {g h : Nat → Int} (e : ∀ i, i < n → g i ≤ h i) : sm n g ≤ sm n h := by
  induction n with
  | zero => exact Int.le_refl _
  | succ n ih =>
    have h1 := ih fun i hi => e i (by omega)
    have h2 := e n (by omega)
    rw [sm, sm]
    omega
/-! ### vectors as lists -/
def co (x : List Int) (c : Nat) : Int := (x[c]?).getD 0
def of (n : Nat) (g : Nat → Int) : List Int := (List.range n).map g
theorem of_len (n : Nat) (g : Nat → Int) : (of n g).length = n := by unfold of; rw [List.length_map, List.length_range]
theorem co_of {n c : Nat} (h : c < n) (g : Nat → Int) : co (of n g) c = g c := by
  unfold co of
  rw [List.getElem?_map, List.getElem?_range h]
  rfl
theorem of_co {n : Nat} {x : List Int} (h : x.length = n) : of n (co x) = x := by
  apply List.ext_getElem?
  intro i
  unfold of co
  rw [List.getElem?_map]
  by_cases hi : i < n
  · rw [List.getElem?_range hi]
    show some ((x[i]?).getD 0) = x[i]?
    rw [List.getElem?_eq_getElem (by omega)]
    rfl
  · rw [List.getElem?_eq_none (by rw [List.length_range]; omega), List.getElem?_eq_none (by omega)]
    rfl
theorem of_congr {n : Nat} {g h : Nat → Int} (e : ∀ i, i < n → g i = h i) : of n g = of n h := by
  unfold of
  exact List.map_congr_left fun i hi => e i (List.mem_range.mp hi)
theorem of_inj {n : Nat} {g h : Nat → Int} (e : of n g = of n h) {i : Nat} (hi : i < n) : g i = h i := by rw [← co_of hi g, e, co_of hi h]
theorem vec_ext {n : Nat} {x y : List Int} (hx : x.length = n) (hy : y.length = n) (e : ∀ i, i < n → co x i = co y i) : x = y := by rw [← of_co hx, ← of_co hy]; exact of_congr e
theorem mem_of {n : Nat} {g : Nat → Int} {x : Int} : x ∈ of n g ↔ ∃ i, i < n ∧ g i = x := by
  unfold of
  rw [List.mem_map]
  constructor
  · rintro ⟨i, h1, h2⟩
    exact ⟨i, List.mem_range.mp h1, h2⟩
  · rintro ⟨i, h1, h2⟩
    exact ⟨i, List.mem_range.mpr h1, h2⟩
theorem sum_of (n : Nat) (g : Nat → Int) : (of n g).sum = sm n g := by
  unfold of
  induction n with
  | zero => rfl
  | succ n ih =>
    rw [List.range_succ, List.map_append, List.sum_append, ih]
    simp [sm]
/-- x and y differ by a sum of rows -/
def Lat (n : Nat) (M : Br.Mx) (x y : List Int) : Prop := ∃ c : Nat → Int, ∀ k, k < n → co x k - co y k = sm n fun i => c i * Br.E M i k
theorem Lat.symm {n : Nat} {M : Br.Mx} {x y : List Int} (h : Lat n M x y) : Lat n M y x := by
  obtain ⟨c, hc⟩ := h
  refine ⟨fun i => -1 * c i, fun k hk => ?_⟩
  have e : (fun i => -1 * c i * Br.E M i k) = fun i => -1 * (c i * Br.E M i k) := by
    funext i
    rw [Int.mul_assoc]
  rw [e, sm_mul, ← hc k hk]
  omega
theorem Lat.trans {n : Nat} {M : Br.Mx} {x y z : List Int} (h : Lat n M x y) (h2 : Lat n M y z) : Lat n M x z := by
  obtain ⟨c, hc⟩ := h
  obtain ⟨d, hd⟩ := h2
  refine ⟨fun i => c i + d i, fun k hk => ?_⟩
  have e : (fun i => (c i + d i) * Br.E M i k) = fun i => c i * Br.E M i k + d i * Br.E M i k := by
    funext i
    rw [Int.add_mul]
  rw [e, sm_add, ← hc k hk, ← hd k hk]
  omega
/-- one of each coset, so many -/
structure Crs (n : Nat) (M : Br.Mx) (S : List (List Int)) : Prop where
  row : ∀ s ∈ S, s.length = n
  nd : S.Nodup
  one : ∀ s ∈ S, ∀ t ∈ S, Lat n M s t → s = t
  all : ∀ x : List Int, x.length = n → ∃ s ∈ S, Lat n M x s
/-- what is asked of a matrix: D its determinant without sign, A the matrix that turns it into D -/
structure Cram (n : Nat) (M : Br.Mx) (D : Nat) (A : Nat → Nat → Int) : Prop where
  n1 : 1 ≤ n
  n4 : n ≤ 4
  sqr : Sqr 4 n M
  pos : 0 < D
  few : D < 64
  whoB : whoM M = D
  whoD : (detM M).natAbs = D
  fac : ∀ x : List Int, x.length = n → facS M x = of n fun i => sm n fun c => A i c * co x c
  stp : ∀ k, k < n → stepsM M k = of n fun i => A i k
  i1 : ∀ c k, c < n → k < n → sm n (fun i => A i c * Br.E M i k) = if c = k then (D : Int) else 0
  i2 : ∀ i j, i < n → j < n → sm n (fun c => A i c * Br.E M j c) = if i = j then (D : Int) else 0
  cnt : ∃ S, Crs n M S ∧ S.length = D
section
variable {n D : Nat} {M : Br.Mx} {A : Nat → Nat → Int}
/-- the factor of a vector -/
def fc (n : Nat) (A : Nat → Nat → Int) (x : List Int) (i : Nat) : Int := sm n fun c => A i c * co x c
theorem fac_of (C : Cram n M D A) {x : List Int} (h : x.length = n) : facS M x = of n (fc n A x) := C.fac x h
/-- the vector is its factors times the rows -/
theorem back (C : Cram n M D A) {x : List Int} {k : Nat} (hk : k < n) : sm n (fun i => fc n A x i * Br.E M i k) = (D : Int) * co x k := by
  have e1 : (fun i => fc n A x i * Br.E M i k) = fun i => sm n fun c => co x c * (A i c * Br.E M i k) := by
    funext i
    unfold fc
    rw [Int.mul_comm, ← sm_mul]
    refine sm_congr fun c _ => ?_
    grind
  rw [e1, sm_swap]
  have e2 : ∀ c, c < n → sm n (fun i => co x c * (A i c * Br.E M i k)) = if c = k then (D : Int) * co x k else 0 := fun c hc => by
    rw [sm_mul, C.i1 c k hc hk]
    by_cases e : c = k
    · rw [if_pos e, if_pos e, e, Int.mul_comm]
    · rw [if_neg e, if_neg e, Int.mul_zero]
  rw [sm_congr e2, sm_delta hk]
theorem fc_inj (C : Cram n M D A) {x y : List Int} (hx : x.length = n) (hy : y.length = n) (h : ∀ i, i < n → fc n A x i = fc n A y i) : x = y := by
  refine vec_ext hx hy fun k hk => ?_
  have h1 := back C (x := x) hk
  have h2 := back C (x := y) hk
  rw [sm_congr fun i hi => by rw [h i hi], h2] at h1
  have := C.pos
  exact (Int.eq_of_mul_eq_mul_left (by omega) h1).symm
theorem fc_lin (x : List Int) (q : Nat → Int) (i : Nat) (hx : ∀ c, c < n → True) : fc n A (of n fun c => co x c - sm n fun j => q j * Br.E M j c) i = fc n A x i - sm n fun j => q j * sm n fun c => A i c * Br.E M j c := by
  unfold fc
  rw [sm_congr (h := fun c => A i c * co x c - A i c * sm n fun j => q j * Br.E M j c) fun c hc => by rw [co_of hc, Int.mul_sub], sm_sub]
  congr 1
  have e : ∀ c, c < n → A i c * sm n (fun j => q j * Br.E M j c) = sm n fun j => q j * (A i c * Br.E M j c) := fun c _ => by
    rw [← sm_mul]
    refine sm_congr fun j _ => ?_
    grind
  rw [sm_congr e, sm_swap]
  exact sm_congr fun j _ => sm_mul n (q j) _
theorem fc_shift (C : Cram n M D A) (x : List Int) (q : Nat → Int) {i : Nat} (hi : i < n) : fc n A (of n fun c => co x c - sm n fun j => q j * Br.E M j c) i = fc n A x i - D * q i := by
  rw [fc_lin x q i fun _ _ => trivial]
  congr 1
  have e : ∀ j, j < n → q j * sm n (fun c => A i c * Br.E M j c) = if j = i then D * q i else 0 := fun j hj => by
    rw [C.i2 i j hi hj]
    by_cases z : i = j
    · subst z
      rw [if_pos rfl, if_pos rfl, Int.mul_comm]
    · rw [if_neg z, if_neg (fun e => z e.symm), Int.mul_zero]
  rw [sm_congr e, sm_delta hi]
/-- what is left of a vector's factors -/
def red (n : Nat) (D : Nat) (A : Nat → Nat → Int) (x : List Int) : List Int := of n fun i => fc n A x i % (D : Int)
def rest (n : Nat) (D : Nat) (M : Br.Mx) (A : Nat → Nat → Int) (x : List Int) : List Int := of n fun c => co x c - sm n fun j => (fc n A x j / (D : Int)) * Br.E M j c
theorem fc_rest (C : Cram n M D A) (x : List Int) {i : Nat} (hi : i < n) : fc n A (rest n D M A x) i = fc n A x i % (D : Int) := by
  unfold rest
  rw [fc_shift C x (fun j => fc n A x j / (D : Int)) hi]
  have := Int.mul_ediv_add_emod (fc n A x i) D
  omega
theorem lat_rest (x : List Int) : Lat n M x (rest n D M A x) := ⟨fun j => fc n A x j / (D : Int), fun k hk => by
  unfold rest
  rw [co_of hk]
  exact Int.sub_sub_self _ _⟩
theorem lat_fc (C : Cram n M D A) {x y : List Int} (h : Lat n M x y) {i : Nat} (hi : i < n) : fc n A x i % (D : Int) = fc n A y i % (D : Int) := by
  obtain ⟨c, hc⟩ := h
  have h1 := fc_shift C x c hi
  have e : fc n A (of n fun k => co x k - sm n fun j => c j * Br.E M j k) i = fc n A y i := by
    unfold fc
    refine sm_congr fun k hk => ?_
    rw [co_of hk, ← hc k hk]
    congr 1
    omega
  rw [e] at h1
  rw [h1]
  exact (Int.sub_mul_emod_self_left ..).symm
end
end Ln

set_option maxHeartbeats 2000000
namespace Ln
open K84 D8
/-! ### the box -/
theorem col_of {n : Nat} {M : Br.Mx} (h : M.length = n) (k : Nat) : colM M k = of n fun i => Br.E M i k := by
  apply List.ext_getElem?
  intro i
  unfold colM of
  rw [List.getElem?_map, List.getElem?_map]
  by_cases hi : i < n
  · rw [List.getElem?_range hi, List.getElem?_eq_getElem (by omega)]
    unfold Br.E
    show some ((M[i][k]?).getD 0) = some (((M[i]?.getD [])[k]?).getD 0)
    have e : M[i]? = some M[i] := List.getElem?_eq_getElem (by omega)
    rw [e]
    rfl
  · rw [List.getElem?_eq_none (by omega), List.getElem?_eq_none (by rw [List.length_range]; omega)]
    rfl
theorem low_of {n : Nat} {M : Br.Mx} (h : M.length = n) (k : Nat) : lowM M k = sm n fun i => min 0 (Br.E M i k) := by
  unfold lowM
  rw [col_of h]
  unfold of
  rw [List.map_map]
  exact sum_of n _
theorem high_of {n : Nat} {M : Br.Mx} (h : M.length = n) (k : Nat) : highM M k = sm n fun i => max 0 (Br.E M i k) := by
  unfold highM
  rw [col_of h]
  unfold of
  rw [List.map_map]
  exact sum_of n _
theorem co_app {r : List Int} {x : Int} {c : Nat} : co (r ++ [x]) c = if c < r.length then co r c else if c = r.length then x else 0 := by
  unfold co
  by_cases h : c < r.length
  · rw [if_pos h, List.getElem?_append_left h]
  · rw [if_neg h, List.getElem?_append_right (by omega)]
    by_cases e : c = r.length
    · rw [if_pos e, e, Nat.sub_self]
      rfl
    · rw [if_neg e, List.getElem?_eq_none (by simp; omega)]
      rfl
theorem box_mem {M : Br.Mx} : ∀ {k : Nat} {r : List Int}, r ∈ boxM M k ↔ r.length = k ∧ ∀ c, c < k → lowM M c ≤ co r c ∧ co r c ≤ highM M c
  | 0, r => by
    constructor
    · intro h
      have e : r = [] := by simpa [boxM] using h
      subst e
      exact ⟨rfl, fun c hc => absurd hc (Nat.not_lt_zero c)⟩
    · rintro ⟨h, _⟩
      have e : r = [] := List.length_eq_zero_iff.mp h
      subst e
      simp [boxM]
  | k + 1, r => by
    constructor
    · intro h
      obtain ⟨row, h1, h2⟩ := List.mem_flatMap.mp h
      obtain ⟨i, h3, rfl⟩ := List.mem_map.mp h2
      have h3 := List.mem_range.mp h3
      obtain ⟨q1, q2⟩ := box_mem.mp h1
      refine ⟨by rw [List.length_append, q1]; rfl, fun c hc => ?_⟩
      rw [co_app, q1]
      by_cases e : c < k
      · rw [if_pos e]
        exact q2 c e
      · have e2 : c = k := by omega
        subst e2
        rw [if_neg (by omega), if_pos rfl]
        omega
    · rintro ⟨h1, h2⟩
      refine List.mem_flatMap.mpr ⟨r.take k, box_mem.mpr ⟨by rw [List.length_take]; omega, fun c hc => ?_⟩, ?_⟩
      · have := h2 c (by omega)
        unfold co at this ⊢
        rw [List.getElem?_take, if_pos hc]
        exact this
      · have hk := h2 k (by omega)
        refine List.mem_map.mpr ⟨(co r k - lowM M k).toNat, List.mem_range.mpr (by omega), ?_⟩
        rw [show lowM M k + ((co r k - lowM M k).toNat : Nat) = co r k by omega]
        have e : r.take (k + 1) = r := List.take_of_length_le (by omega)
        rw [List.take_add_one, List.getElem?_eq_getElem (by omega)] at e
        have e2 : co r k = r[k] := by
          unfold co
          rw [List.getElem?_eq_getElem (by omega)]
          rfl
        rw [e2]
        exact e
theorem box_nodup (M : Br.Mx) : ∀ k, (boxM M k).Nodup
  | 0 => by simp [boxM]
  | k + 1 => by
    have ih := box_nodup M k
    show List.Pairwise _ (boxStep _ _ _)
    unfold boxStep
    rw [List.pairwise_flatMap]
    refine ⟨fun row _ => ?_, ?_⟩
    · unfold rowsFrom
      rw [List.pairwise_map]
      refine List.Pairwise.imp ?_ List.nodup_range
      intro a b hab e
      have := List.append_cancel_left e
      simp at this
      omega
    · refine List.Pairwise.imp ?_ ih
      intro r1 r2 hne x hx y hy e
      obtain ⟨i, _, rfl⟩ := List.mem_map.mp hx
      obtain ⟨j, _, rfl⟩ := List.mem_map.mp hy
      have h2 := (List.append_inj' e rfl).1
      exact hne h2
theorem minM_ge {ns : List Int} (h : ns ≠ []) : 0 ≤ minM ns ↔ ∀ x ∈ ns, 0 ≤ x := by
  obtain ⟨m, hm⟩ : ∃ m, ns.min? = some m := by
    cases e : ns.min? with
    | none => exact absurd (List.min?_eq_none_iff.mp e) h
    | some m => exact ⟨m, rfl⟩
  obtain ⟨h1, h2⟩ := List.min?_eq_some_iff.mp hm
  have e : minM ns = m := by
    unfold minM
    rw [hm]
    rfl
  rw [e]
  exact ⟨fun z x hx => Int.le_trans z (h2 x hx), fun z => z m h1⟩
theorem maxM_lt {ns : List Int} (h : ns ≠ []) (d : Int) : maxM ns < d ↔ ∀ x ∈ ns, x < d := by
  obtain ⟨m, hm⟩ : ∃ m, ns.max? = some m := by
    cases e : ns.max? with
    | none => exact absurd (List.max?_eq_none_iff.mp e) h
    | some m => exact ⟨m, rfl⟩
  obtain ⟨h1, h2⟩ := List.max?_eq_some_iff.mp hm
  have e : maxM ns = m := by
    unfold maxM
    rw [hm]
    rfl
  rw [e]
  exact ⟨fun z x hx => Int.lt_of_le_of_lt (h2 x hx) z, fun z => z m h1⟩
section
variable {n D : Nat} {M : Br.Mx} {A : Nat → Nat → Int}
theorem good_iff (C : Cram n M D A) {x : List Int} : x ∈ goodM M ↔ x.length = n ∧ ∀ i, i < n → 0 ≤ fc n A x i ∧ fc n A x i < D := by
  have hM := C.sqr.len
  have hn := C.n1
  have key : ∀ {x : List Int}, x.length = n → (isGood M x = true ↔ ∀ i, i < n → 0 ≤ fc n A x i ∧ fc n A x i < D) := fun {x} hx => by
    unfold isGood
    have hne : facS M x ≠ [] := fun z => by
      have := congrArg List.length z
      rw [fac_of C hx, of_len] at this
      simp at this
      omega
    rw [Bool.and_eq_true_iff, decide_eq_true_iff, decide_eq_true_iff, minM_ge hne, maxM_lt hne, C.whoD, fac_of C hx]
    constructor
    · rintro ⟨h1, h2⟩ i hi
      exact ⟨h1 _ (mem_of.mpr ⟨i, hi, rfl⟩), h2 _ (mem_of.mpr ⟨i, hi, rfl⟩)⟩
    · intro h
      refine ⟨fun y hy => ?_, fun y hy => ?_⟩
      · obtain ⟨i, hi, rfl⟩ := mem_of.mp hy
        exact (h i hi).1
      · obtain ⟨i, hi, rfl⟩ := mem_of.mp hy
        exact (h i hi).2
  unfold goodM
  rw [List.mem_filter, hM]
  constructor
  · rintro ⟨h1, h2⟩
    have hx := (box_mem.mp h1).1
    exact ⟨hx, (key hx).mp h2⟩
  · rintro ⟨hx, h⟩
    refine ⟨box_mem.mpr ⟨hx, fun k hk => ?_⟩, (key hx).mpr h⟩
    have hb := back C (x := x) hk
    have hp := C.pos
    rw [low_of hM, high_of hM]
    refine ⟨Int.le_of_mul_le_mul_left (a := (D : Int)) ?_ (by omega), Int.le_of_mul_le_mul_left (a := (D : Int)) ?_ (by omega)⟩
    · rw [← hb, ← sm_mul]
      refine sm_le fun i hi => ?_
      obtain ⟨f1, f2⟩ := h i hi
      rcases Int.le_total 0 (Br.E M i k) with e | e
      · rw [Int.min_eq_left e, Int.mul_zero]
        exact Int.mul_nonneg f1 e
      · rw [Int.min_eq_right e]
        exact Int.mul_le_mul_of_nonpos_right (by omega) e
    · rw [← hb, ← sm_mul]
      refine sm_le fun i hi => ?_
      obtain ⟨f1, f2⟩ := h i hi
      rcases Int.le_total 0 (Br.E M i k) with e | e
      · rw [Int.max_eq_right e]
        exact Int.mul_le_mul_of_nonneg_right (by omega) e
      · rw [Int.max_eq_left e, Int.mul_zero]
        have := Int.mul_nonneg f1 (show 0 ≤ -(Br.E M i k) by omega)
        rw [Int.mul_neg] at this
        omega
theorem good_nodup (M : Br.Mx) : (goodM M).Nodup := List.Pairwise.filter _ (box_nodup M _)
theorem fac_red (C : Cram n M D A) {x : List Int} (h : x ∈ goodM M) : facS M x = red n D A x := by
  obtain ⟨h1, h2⟩ := (good_iff C).mp h
  rw [fac_of C h1]
  unfold red
  refine of_congr fun i hi => ?_
  have := h2 i hi
  exact (Int.emod_eq_of_lt this.1 this.2).symm
/-- each vector has its good one -/
theorem rest_good (C : Cram n M D A) (x : List Int) : rest n D M A x ∈ goodM M ∧ facS M (rest n D M A x) = red n D A x := by
  have hl : (rest n D M A x).length = n := of_len n _
  have hp := C.pos
  refine ⟨(good_iff C).mpr ⟨hl, fun i hi => ?_⟩, ?_⟩
  · rw [fc_rest C x hi]
    exact ⟨Int.emod_nonneg _ (by omega), Int.emod_lt_of_pos _ (by omega)⟩
  · rw [fac_of C hl]
    exact of_congr fun i hi => fc_rest C x hi
/-- one step -/
def up (x : List Int) (n k : Nat) : List Int := of n fun c => co x c + if c = k then 1 else 0
theorem fc_up (x : List Int) {k : Nat} (hk : k < n) (i : Nat) : fc n A (up x n k) i = fc n A x i + A i k := by
  unfold fc up
  rw [sm_congr (h := fun c => A i c * co x c + if c = k then A i k else 0) fun c hc => ?_, sm_add, sm_delta hk]
  rw [co_of hc, Int.mul_add]
  by_cases e : c = k
  · rw [if_pos e, if_pos e, e, Int.mul_one]
  · rw [if_neg e, if_neg e, Int.mul_zero]
theorem zip_of {n : Nat} (f : Int → Int → Int) (g h : Nat → Int) : List.zipWith f (of n g) (of n h) = of n fun i => f (g i) (h i) := by
  apply List.ext_getElem?
  intro i
  unfold of
  rw [List.getElem?_zipWith, List.getElem?_map, List.getElem?_map, List.getElem?_map]
  by_cases hi : i < n
  · rw [List.getElem?_range hi]
    rfl
  · rw [List.getElem?_eq_none (by rw [List.length_range]; omega)]
    rfl
theorem move_of (C : Cram n M D A) {k : Nat} (hk : k < n) (g : Nat → Int) : moveM M k (of n g) = of n fun i => (g i + A i k) % (D : Int) := by
  unfold moveM Bx.stepV
  rw [C.whoB, C.stp k hk, zip_of]
  exact of_congr fun i _ => Int.fmod_eq_emod_of_nonneg _ (by omega)
theorem move_red (C : Cram n M D A) {k : Nat} (hk : k < n) (x : List Int) : moveM M k (red n D A x) = red n D A (up x n k) := by
  unfold red
  rw [move_of C hk]
  refine of_congr fun i hi => ?_
  rw [fc_up x hk, Int.emod_add_emod]
/-- the point of a vector's factors is the vector -/
theorem pt_fac (C : Cram n M D A) {x : List Int} (h : x.length = n) : ptM M (D : Int) (facS M x) = x := by
  have hM := C.sqr.len
  have hn := C.n1
  have hne : M ≠ [] := fun z => by rw [z] at hM; simp at hM; omega
  have hp := C.pos
  have hw : widM M = n := widM_eq (C.sqr.rct (by have := C.n4; omega)) hne
  unfold ptM traM
  rw [List.map_map, hw]
  show of n _ = x
  refine vec_ext (of_len n _) h fun k hk => ?_
  rw [co_of hk]
  show (dotM (colM M k) (facS M x)).fdiv D = co x k
  rw [col_of hM, fac_of C h]
  unfold dotM
  rw [zip_of, sum_of, sm_congr (h := fun i => fc n A x i * Br.E M i k) fun i _ => Int.mul_comm _ _, back C hk]
  exact Int.mul_fdiv_cancel_left _ (by omega)
end
end Ln

set_option maxHeartbeats 2000000
namespace Ln
open K84 D8
theorem nodup_map_on {α β : Type} {l : List α} {f : α → β} (h : l.Nodup) (hf : ∀ a ∈ l, ∀ b ∈ l, f a = f b → a = b) : (l.map f).Nodup := by
  show List.Pairwise _ _
  rw [List.pairwise_map]
  exact List.Pairwise.imp_of_mem (fun {a b} ha hb hne e => hne (hf a ha b hb e)) h
section
variable {n D : Nat} {M : Br.Mx} {A : Nat → Nat → Int}
theorem good_len (C : Cram n M D A) : (goodM M).length = D := by
  obtain ⟨S, hS, hD⟩ := C.cnt
  have h1 : ∀ x : List Int, ∃ s, x.length = n → s ∈ S ∧ Lat n M x s := fun x => by
    by_cases h : x.length = n
    · obtain ⟨s, a, b⟩ := hS.all x h
      exact ⟨s, fun _ => ⟨a, b⟩⟩
    · exact ⟨[], fun z => absurd z h⟩
  have p : ∀ x : List Int, x ∈ goodM M → x.length = n := fun x hx => ((good_iff C).mp hx).1
  apply Nat.le_antisymm
  · rw [← hD]
    let φ : List Int → List Int := fun x => Classical.choose (h1 x)
    have hφ : ∀ x, x.length = n → φ x ∈ S ∧ Lat n M x (φ x) := fun x hx => Classical.choose_spec (h1 x) hx
    have nd : ((goodM M).map φ).Nodup := nodup_map_on (good_nodup M) fun a ha b hb e => by
      have la := (hφ a (p a ha)).2
      have lb := (hφ b (p b hb)).2
      rw [e] at la
      have l := la.trans lb.symm
      refine fc_inj C (p a ha) (p b hb) fun i hi => ?_
      have := lat_fc C l hi
      have ga := ((good_iff C).mp ha).2 i hi
      have gb := ((good_iff C).mp hb).2 i hi
      rwa [Int.emod_eq_of_lt ga.1 ga.2, Int.emod_eq_of_lt gb.1 gb.2] at this
    have := nd.length_le_of_subset (l₂ := S) fun y hy => by
      obtain ⟨x, hx, rfl⟩ := List.mem_map.mp hy
      exact (hφ x (p x hx)).1
    rwa [List.length_map] at this
  · rw [← hD]
    have nd : (S.map (rest n D M A)).Nodup := nodup_map_on hS.nd fun a ha b hb e => by
      refine hS.one a ha b hb ?_
      have l1 : Lat n M a (rest n D M A a) := lat_rest a
      have l2 : Lat n M b (rest n D M A b) := lat_rest b
      rw [e] at l1
      exact l1.trans l2.symm
    have := nd.length_le_of_subset (l₂ := goodM M) fun y hy => by
      obtain ⟨x, hx, rfl⟩ := List.mem_map.mp hy
      exact (rest_good C x).1
    rwa [List.length_map] at this
theorem zero_of (n : Nat) : zeroV n = of n fun _ => 0 := by
  unfold zeroV of
  induction n with
  | zero => rfl
  | succ n ih => rw [List.replicate_succ', List.range_succ, List.map_append, ih]; rfl
theorem red_zero (x : Nat → Int) (h : ∀ c, c < n → x c = 0) : red n D A (of n x) = zeroV n := by
  rw [zero_of]
  unfold red
  refine of_congr fun i _ => ?_
  unfold fc
  rw [sm_congr (h := fun _ => 0) fun c hc => by rw [co_of hc, h c hc, Int.mul_zero], sm_zero]
  exact Int.zero_emod _
theorem red_in (C : Cram n M D A) (x : List Int) : red n D A x ∈ (goodM M).map (facS M) := by
  obtain ⟨h1, h2⟩ := rest_good C x
  exact List.mem_map.mpr ⟨_, h1, h2⟩
theorem home_of (C : Cram n M D A) : Home M n ((goodM M).map (facS M)) := by
  refine ⟨by rw [List.length_map, good_len C]; exact C.few, ?_, fun k hk v hv => ?_, fun v hv => ?_⟩
  · rw [← red_zero (n := n) (D := D) (A := A) (fun _ => 0) fun _ _ => rfl]
    exact red_in C _
  · obtain ⟨x, hx, rfl⟩ := List.mem_map.mp hv
    rw [fac_red C hx, move_red C hk]
    exact red_in C _
  · obtain ⟨x, hx, rfl⟩ := List.mem_map.mp hv
    rw [fac_red C hx]
    refine ⟨of_len n _, fun y hy => ?_⟩
    obtain ⟨i, hi, rfl⟩ := mem_of.mp hy
    have hp := C.pos
    have hf := C.few
    have h1 := Int.emod_nonneg (fc n A x i) (show (D : Int) ≠ 0 by omega)
    have h2 := Int.emod_lt_of_pos (fc n A x i) (show (0 : Int) < D by omega)
    omega
theorem move_comm (C : Cram n M D A) {j k : Nat} (hj : j < n) (hk : k < n) {v : List Int} (hv : v.length = n) : moveM M j (moveM M k v) = moveM M k (moveM M j v) := by
  rw [← of_co hv, move_of C hk, move_of C hj, move_of C hj, move_of C hk]
  refine of_congr fun i _ => ?_
  rw [Int.emod_add_emod, Int.emod_add_emod]
  congr 1
  omega
theorem move_len (C : Cram n M D A) {k : Nat} (hk : k < n) {v : List Int} (hv : v.length = n) : (moveM M k v).length = n := by
  rw [← of_co hv, move_of C hk, of_len]
theorem iter_comm (C : Cram n M D A) {j k : Nat} (hj : j < n) (hk : k < n) {v : List Int} (hv : v.length = n) : ∀ m, (Bx.iter (moveM M k) m v).length = n ∧ moveM M j (Bx.iter (moveM M k) m v) = Bx.iter (moveM M k) m (moveM M j v)
  | 0 => ⟨hv, rfl⟩
  | m + 1 => by
    obtain ⟨h1, h2⟩ := iter_comm C hj hk hv m
    refine ⟨move_len C hk h1, ?_⟩
    show moveM M j (moveM M k _) = moveM M k (Bx.iter (moveM M k) m (moveM M j v))
    rw [move_comm C hj hk h1, h2]
theorem iter_mem {st : Bx.Pt → Bx.Pt} {L : List Bx.Pt} (h : ∀ v ∈ L, st v ∈ L) {v : Bx.Pt} (hv : v ∈ L) : ∀ m, Bx.iter st m v ∈ L
  | 0 => hv
  | m + 1 => h _ (iter_mem h hv m)
/-- what is found is closed under all steps done -/
theorem fac_closed (C : Cram n M D A) : ∀ {k : Nat} {F : List Bx.Pt}, Bx.Fac (moveM M) (zeroV n) k F → k ≤ n → (∀ v ∈ F, v.length = n) ∧ ∀ v ∈ F, ∀ j, j < k → moveM M j v ∈ F
  | _, _, .zero, _ => ⟨fun v hv => by
    have e : v = zeroV n := by simpa using hv
    rw [e, zero_of, of_len], fun v _ j hj => absurd hj (Nat.not_lt_zero j)⟩
  | _, _, .succ (k := k) (F := F) f g, hk => by
    obtain ⟨h1, h2⟩ := fac_closed C f (by omega)
    refine ⟨fun v hv => ?_, fun v hv j hj => ?_⟩
    · obtain ⟨w, hw, m, rfl⟩ := g.rc v hv
      exact (iter_comm C (show k < n by omega) (show k < n by omega) (h1 w hw) m).1
    · by_cases e : j = k
      · subst e
        exact g.cl v hv
      · obtain ⟨w, hw, m, rfl⟩ := g.rc v hv
        rw [(iter_comm C (show j < n by omega) (show k < n by omega) (h1 w hw) m).2]
        exact iter_mem g.cl (g.sub _ (h2 w hw j (by omega))) m
/-- .. so all that there is -/
theorem fac_all (C : Cram n M D A) {F : List Bx.Pt} (hF : Bx.Fac (moveM M) (zeroV n) n F) : F.Perm ((goodM M).map (facS M)) := by
  have H := home_of C
  obtain ⟨f1, f2, f3⟩ := Bx.Fac.in H.zero H.step hF (Nat.le_refl n)
  obtain ⟨_, cl⟩ := fac_closed C hF (Nat.le_refl n)
  have p : ∀ x : List Int, x ∈ goodM M → x.length = n := fun x hx => ((good_iff C).mp hx).1
  have reach : ∀ (y : Nat → Nat) (k : Nat), k ≤ n → red n D A (of n fun c => if c < k then (y c : Int) else 0) ∈ F := fun y k => by
    induction k with
    | zero =>
      intro _
      rw [red_zero _ fun c _ => if_neg (Nat.not_lt_zero c)]
      exact f2
    | succ k ih =>
      intro hk
      have inner : ∀ m : Nat, red n D A (of n fun c => if c < k then (y c : Int) else if c = k then (m : Int) else 0) ∈ F := fun m => by
        induction m with
        | zero =>
          have e : (of n fun c => if c < k then (y c : Int) else if c = k then ((0 : Nat) : Int) else 0) = of n fun c => if c < k then (y c : Int) else 0 := of_congr fun c _ => by
            split
            · rfl
            · split <;> rfl
          rw [e]
          exact ih (by omega)
        | succ m ihm =>
          have h := cl _ ihm k (by omega)
          rw [move_red C (by omega)] at h
          have e : up (of n fun c => if c < k then (y c : Int) else if c = k then (m : Int) else 0) n k = of n fun c => if c < k then (y c : Int) else if c = k then ((m + 1 : Nat) : Int) else 0 := by
            unfold up
            refine of_congr fun c hc => ?_
            rw [co_of hc]
            by_cases e1 : c = k
            · subst e1
              rw [if_neg (by omega), if_pos rfl, if_pos rfl, if_neg (by omega), if_pos rfl]
              omega
            · rw [if_neg e1, if_neg e1, if_neg e1]
              omega
          rwa [e] at h
      have e : (of n fun c => if c < k + 1 then (y c : Int) else 0) = of n fun c => if c < k then (y c : Int) else if c = k then (y k : Int) else 0 := of_congr fun c _ => by
        by_cases e1 : c < k
        · rw [if_pos e1, if_pos (by omega)]
        · by_cases e2 : c = k
          · subst e2
            rw [if_pos (by omega), if_neg e1, if_pos rfl]
          · rw [if_neg (by omega), if_neg e1, if_neg e2]
      rw [e]
      exact inner (y k)
  have nd : ((goodM M).map (facS M)).Nodup := nodup_map_on (good_nodup M) fun a ha b hb e => by
    rw [← pt_fac C (p a ha), e, pt_fac C (p b hb)]
  rw [List.perm_ext_iff_of_nodup f1 nd]
  intro v
  refine ⟨f3 v, fun hv => ?_⟩
  obtain ⟨g, hg, rfl⟩ := List.mem_map.mp hv
  rw [fac_red C hg]
  have hp := C.pos
  have h := reach (fun c => (co g c + (D : Int) * ((co g c).natAbs : Int)).toNat) n (Nat.le_refl n)
  have e : red n D A (of n fun c => if c < n then (((co g c + (D : Int) * ((co g c).natAbs : Int)).toNat : Nat) : Int) else 0) = red n D A g := by
    unfold red
    refine of_congr fun i _ => ?_
    have e2 : fc n A (of n fun c => if c < n then (((co g c + (D : Int) * ((co g c).natAbs : Int)).toNat : Nat) : Int) else 0) i = fc n A g i + (D : Int) * sm n fun c => A i c * ((co g c).natAbs : Int) := by
      unfold fc
      rw [← sm_mul, ← sm_add]
      refine sm_congr fun c hc => ?_
      rw [co_of hc, if_pos hc]
      have h1 : (0 : Int) ≤ co g c + (D : Int) * ((co g c).natAbs : Int) := by
        have := Int.mul_le_mul_of_nonneg_right (show (1 : Int) ≤ D by omega) (show (0 : Int) ≤ ((co g c).natAbs : Int) by omega)
        omega
      rw [Int.toNat_of_nonneg h1]
      grind
    rw [e2, Int.add_mul_emod_self_left]
  rw [e] at h
  exact h
theorem sorted_one {X Y L R : List (List Int)} (hL : SortedOf X L) (hR : SortedOf Y R) (h : X.Perm Y) (hl : ∀ x ∈ X, x.length = n ∧ ∀ y ∈ x, -1000 ≤ y ∧ y < 1000) : L = R := by
  have hp : L.Perm R := (hL.perm.trans h).trans hR.perm.symm
  refine List.Perm.eq_of_pairwise (le := fun a b => SgS.rank 1000 a ≤ SgS.rank 1000 b) (fun a b ha hb h1 h2 => ?_) hL.asc hR.asc hp
  have ha := hl a (hL.perm.mem_iff.mp ha)
  have hb := hl b (hL.perm.mem_iff.mp (hp.mem_iff.mpr hb))
  exact SgS.rank_inj (by rw [ha.1, hb.1]) ha.2 hb.2 (Int.le_antisymm h1 h2)
theorem good_bd (C : Cram n M D A) : ∀ x ∈ goodM M, x.length = n ∧ ∀ y ∈ x, -1000 ≤ y ∧ y < 1000 := fun x hx => by
  have h1 := (List.mem_filter.mp hx).1
  obtain ⟨h2, h3⟩ := (boxM_ok C.sqr C.n4 M.length).1 x h1
  exact ⟨by rw [h2, C.sqr.len], fun y hy => by have := h3 y hy; omega⟩
theorem main_of {X : List (List Int)} {n : Nat} (C : Cram (n + 1) (K84.liftM X) D A) (hdet : DetOk 4 (n + 1) (K84.liftM X)) (hl : X.length ≤ 100) (hr : ∀ r ∈ X, r.length ≤ 100) (hnz : Br.bareM (traM (K84.liftM X)) ≠ 0) (hv : (D : Int) = if 0 < n then volM X else 1) : Main n X := by
  have hp := C.pos
  have hw := C.whoB
  have hf := C.few
  have hbn : Br.bareM (K84.liftM X) ≠ 0 := fun z => by
    unfold whoM at hw
    rw [z] at hw
    simp at hw
    omega
  refine ⟨⟨by omega, hl, hr, hdet, hnz, by rw [hw]; exact hp⟩, hbn, by rw [hw]; omega, ⟨_, home_of C, fun f hf x hx => ?_⟩, by rw [good_len C]; exact hf, fun R L hR hL => ?_, by rw [good_len C]; exact hv⟩
  · obtain ⟨g, hg, rfl⟩ := List.mem_map.mp hf
    rw [hw, pt_fac C (good_bd C g hg).1] at hx
    exact (good_bd C g hg).2 x hx
  · obtain ⟨L', ⟨F, hF, hs⟩, hR⟩ := hR
    have h1 := fac_all C hF
    have h2 : (L'.map (ptM (K84.liftM X) (whoM (K84.liftM X) : Nat))).Perm (goodM (K84.liftM X)) := by
      have h3 := (hs.perm.trans h1).map (ptM (K84.liftM X) (whoM (K84.liftM X) : Nat))
      rw [List.map_map] at h3
      have e : (goodM (K84.liftM X)).map (ptM (K84.liftM X) (whoM (K84.liftM X) : Nat) ∘ facS (K84.liftM X)) = goodM (K84.liftM X) := by
        have : ∀ x ∈ goodM (K84.liftM X), (ptM (K84.liftM X) (whoM (K84.liftM X) : Nat) ∘ facS (K84.liftM X)) x = id x := fun x hx => by
          show ptM (K84.liftM X) (whoM (K84.liftM X) : Nat) (facS (K84.liftM X) x) = x
          rw [hw]
          exact pt_fac C (good_bd C x hx).1
        rw [List.map_congr_left this, List.map_id]
      rwa [e] at h3
    exact (sorted_one hL hR h2.symm (good_bd C)).symm
end
end Ln

set_option maxHeartbeats 4000000
/-! Fraction-free elimination gives the determinant, up to four rows (own work, plain). -/
namespace Br
abbrev Fn := Nat → Nat → Int
def t2 (a b c d : Int) : Int := a * d - b * c
def t3 (a1 a2 a3 b1 b2 b3 c1 c2 c3 : Int) : Int := a1 * (b2 * c3 - b3 * c2) - a2 * (b1 * c3 - b3 * c1) + a3 * (b1 * c2 - b2 * c1)
def t4 (a1 a2 a3 a4 b1 b2 b3 b4 c1 c2 c3 c4 d1 d2 d3 d4 : Int) : Int :=
  (a1 * b2 - a2 * b1) * (c3 * d4 - c4 * d3) - (a1 * b3 - a3 * b1) * (c2 * d4 - c4 * d2) + (a1 * b4 - a4 * b1) * (c2 * d3 - c3 * d2)
    + (a2 * b3 - a3 * b2) * (c1 * d4 - c4 * d1) - (a2 * b4 - a4 * b2) * (c1 * d3 - c3 * d1) + (a3 * b4 - a4 * b3) * (c1 * d2 - c2 * d1)
theorem syl3 (a1 a2 a3 b1 b2 b3 c1 c2 c3 : Int) : t2 a1 a3 c1 c3 * t2 a1 a2 b1 b2 - t2 a1 a2 c1 c2 * t2 a1 a3 b1 b3 = a1 * t3 a1 a2 a3 b1 b2 b3 c1 c2 c3 := by
  unfold t2 t3
  grind
theorem syl4 (a1 a2 a3 a4 b1 b2 b3 b4 c1 c2 c3 c4 d1 d2 d3 d4 : Int) : t3 a1 a2 a4 b1 b2 b4 d1 d2 d4 * t3 a1 a2 a3 b1 b2 b3 c1 c2 c3 - t3 a1 a2 a3 b1 b2 b3 d1 d2 d3 * t3 a1 a2 a4 b1 b2 b4 c1 c2 c4
    = t2 a1 a2 b1 b2 * t4 a1 a2 a3 a4 b1 b2 b3 b4 c1 c2 c3 c4 d1 d2 d3 d4 := by
  unfold t2 t3 t4
  grind
/-- Chio's -/
theorem chio4 (a1 a2 a3 a4 b1 b2 b3 b4 c1 c2 c3 c4 d1 d2 d3 d4 : Int) : t3 (t2 a1 a2 b1 b2) (t2 a1 a3 b1 b3) (t2 a1 a4 b1 b4) (t2 a1 a2 c1 c2) (t2 a1 a3 c1 c3) (t2 a1 a4 c1 c4) (t2 a1 a2 d1 d2) (t2 a1 a3 d1 d3) (t2 a1 a4 d1 d4)
    = a1 * a1 * t4 a1 a2 a3 a4 b1 b2 b3 b4 c1 c2 c3 c4 d1 d2 d3 d4 := by
  unfold t2 t3 t4
  grind
/-- the minor of the rows 0 .. k - 1, i and the columns 0 .. k - 1, j -/
def mm (p : Fn) (k i j : Nat) : Int :=
  if k = 0 then p i j
  else if k = 1 then t2 (p 0 0) (p 0 j) (p i 0) (p i j)
  else if k = 2 then t3 (p 0 0) (p 0 1) (p 0 j) (p 1 0) (p 1 1) (p 1 j) (p i 0) (p i 1) (p i j)
  else t4 (p 0 0) (p 0 1) (p 0 2) (p 0 j) (p 1 0) (p 1 1) (p 1 2) (p 1 j) (p 2 0) (p 2 1) (p 2 2) (p 2 j) (p i 0) (p i 1) (p i 2) (p i j)
def lead (p : Fn) (k : Nat) : Int := if k = 0 then 1 else mm p (k - 1) (k - 1) (k - 1)
theorem step_id (p : Fn) {k : Nat} (hk : k < 3) (i j : Nat) : mm p k i j * mm p k k k - mm p k i k * mm p k k j = lead p k * mm p (k + 1) i j := by
  have h : k = 0 ∨ k = 1 ∨ k = 2 := by omega
  rcases h with rfl | rfl | rfl
  · show p i j * p 0 0 - p i 0 * p 0 j = 1 * (p 0 0 * p i j - p 0 j * p i 0)
    grind
  · exact syl3 (p 0 0) (p 0 1) (p 0 j) (p 1 0) (p 1 1) (p 1 j) (p i 0) (p i 1) (p i j)
  · exact syl4 (p 0 0) (p 0 1) (p 0 2) (p 0 j) (p 1 0) (p 1 1) (p 1 2) (p 1 j) (p 2 0) (p 2 1) (p 2 2) (p 2 j) (p i 0) (p i 1) (p i 2) (p i j)
/-- the determinant -/
def dt (n : Nat) (p : Fn) : Int := mm p (n - 1) (n - 1) (n - 1)
theorem zero_id (p : Fn) {n k : Nat} (hn : n ≤ 4) (hk : k < n) (hl : lead p k ≠ 0) (hz : ∀ i, k ≤ i → i < n → mm p k i k = 0) : dt n p = 0 := by
  by_cases e : k = n - 1
  · subst e
    exact hz (n - 1) (Nat.le_refl _) (by omega)
  · have h : (k = 0 ∧ n = 2) ∨ (k = 0 ∧ n = 3) ∨ (k = 0 ∧ n = 4) ∨ (k = 1 ∧ n = 3) ∨ (k = 1 ∧ n = 4) ∨ (k = 2 ∧ n = 4) := by omega
    rcases h with ⟨rfl, rfl⟩ | ⟨rfl, rfl⟩ | ⟨rfl, rfl⟩ | ⟨rfl, rfl⟩ | ⟨rfl, rfl⟩ | ⟨rfl, rfl⟩
    · have h0 : p 0 0 = 0 := hz 0 (by decide) (by decide)
      have h1 : p 1 0 = 0 := hz 1 (by decide) (by decide)
      show t2 (p 0 0) (p 0 1) (p 1 0) (p 1 1) = 0
      rw [h0, h1]
      unfold t2
      grind
    · have h0 : p 0 0 = 0 := hz 0 (by decide) (by decide)
      have h1 : p 1 0 = 0 := hz 1 (by decide) (by decide)
      have h2 : p 2 0 = 0 := hz 2 (by decide) (by decide)
      show t3 (p 0 0) (p 0 1) (p 0 2) (p 1 0) (p 1 1) (p 1 2) (p 2 0) (p 2 1) (p 2 2) = 0
      rw [h0, h1, h2]
      unfold t3
      grind
    · have h0 : p 0 0 = 0 := hz 0 (by decide) (by decide)
      have h1 : p 1 0 = 0 := hz 1 (by decide) (by decide)
      have h2 : p 2 0 = 0 := hz 2 (by decide) (by decide)
      have h3 : p 3 0 = 0 := hz 3 (by decide) (by decide)
      show t4 (p 0 0) (p 0 1) (p 0 2) (p 0 3) (p 1 0) (p 1 1) (p 1 2) (p 1 3) (p 2 0) (p 2 1) (p 2 2) (p 2 3) (p 3 0) (p 3 1) (p 3 2) (p 3 3) = 0
      rw [h0, h1, h2, h3]
      unfold t4
      grind
    · have hl : p 0 0 ≠ 0 := hl
      have h1 : t2 (p 0 0) (p 0 1) (p 1 0) (p 1 1) = 0 := hz 1 (by decide) (by decide)
      have h2 : t2 (p 0 0) (p 0 1) (p 2 0) (p 2 1) = 0 := hz 2 (by decide) (by decide)
      have h := syl3 (p 0 0) (p 0 1) (p 0 2) (p 1 0) (p 1 1) (p 1 2) (p 2 0) (p 2 1) (p 2 2)
      rw [h1, h2, Int.mul_zero, Int.zero_mul, Int.sub_zero] at h
      exact (Int.mul_eq_zero.mp h.symm).resolve_left hl
    · have hl : p 0 0 ≠ 0 := hl
      have h1 : t2 (p 0 0) (p 0 1) (p 1 0) (p 1 1) = 0 := hz 1 (by decide) (by decide)
      have h2 : t2 (p 0 0) (p 0 1) (p 2 0) (p 2 1) = 0 := hz 2 (by decide) (by decide)
      have h3 : t2 (p 0 0) (p 0 1) (p 3 0) (p 3 1) = 0 := hz 3 (by decide) (by decide)
      have h := chio4 (p 0 0) (p 0 1) (p 0 2) (p 0 3) (p 1 0) (p 1 1) (p 1 2) (p 1 3) (p 2 0) (p 2 1) (p 2 2) (p 2 3) (p 3 0) (p 3 1) (p 3 2) (p 3 3)
      rw [h1, h2, h3] at h
      have e0 : ∀ x y z u v w : Int, t3 0 x y 0 z u 0 v w = 0 := fun x y z u v w => by
        unfold t3
        grind
      rw [e0] at h
      rcases Int.mul_eq_zero.mp h.symm with q | q
      · exact absurd (by rcases Int.mul_eq_zero.mp q with q | q <;> exact q) hl
      · exact q
    · have hl : t2 (p 0 0) (p 0 1) (p 1 0) (p 1 1) ≠ 0 := hl
      have h2 : t3 (p 0 0) (p 0 1) (p 0 2) (p 1 0) (p 1 1) (p 1 2) (p 2 0) (p 2 1) (p 2 2) = 0 := hz 2 (by decide) (by decide)
      have h3 : t3 (p 0 0) (p 0 1) (p 0 2) (p 1 0) (p 1 1) (p 1 2) (p 3 0) (p 3 1) (p 3 2) = 0 := hz 3 (by decide) (by decide)
      have h := syl4 (p 0 0) (p 0 1) (p 0 2) (p 0 3) (p 1 0) (p 1 1) (p 1 2) (p 1 3) (p 2 0) (p 2 1) (p 2 2) (p 2 3) (p 3 0) (p 3 1) (p 3 2) (p 3 3)
      rw [h2, h3, Int.mul_zero, Int.zero_mul, Int.sub_zero] at h
      exact (Int.mul_eq_zero.mp h.symm).resolve_left hl
/-- rows k and l exchanged -/
def sw (p : Fn) (k l : Nat) : Fn := fun i j => if i = l then p k j else if i = k then p l j else p i j
theorem sw_mm (p : Fn) {k l : Nat} (hl : k ≤ l) (hk : k < 4) (i j : Nat) : mm (sw p k l) k i j = if i = l then mm p k k j else if i = k then mm p k l j else mm p k i j := by
  have low : ∀ r c, r < k → sw p k l r c = p r c := fun r c h => by
    unfold sw
    rw [if_neg (by omega), if_neg (by omega)]
  have hi : ∀ c, sw p k l i c = if i = l then p k c else if i = k then p l c else p i c := fun c => rfl
  have h : k = 0 ∨ k = 1 ∨ k = 2 ∨ k = 3 := by omega
  rcases h with rfl | rfl | rfl | rfl
  · exact rfl
  · show t2 (sw p 1 l 0 0) (sw p 1 l 0 j) (sw p 1 l i 0) (sw p 1 l i j) = _
    rw [low 0 0 (by decide), low 0 j (by decide), hi, hi]
    split
    · rfl
    · split <;> rfl
  · show t3 (sw p 2 l 0 0) (sw p 2 l 0 1) (sw p 2 l 0 j) (sw p 2 l 1 0) (sw p 2 l 1 1) (sw p 2 l 1 j) (sw p 2 l i 0) (sw p 2 l i 1) (sw p 2 l i j) = _
    rw [low 0 0 (by decide), low 0 1 (by decide), low 0 j (by decide), low 1 0 (by decide), low 1 1 (by decide), low 1 j (by decide), hi, hi, hi]
    split
    · rfl
    · split <;> rfl
  · show t4 (sw p 3 l 0 0) (sw p 3 l 0 1) (sw p 3 l 0 2) (sw p 3 l 0 j) (sw p 3 l 1 0) (sw p 3 l 1 1) (sw p 3 l 1 2) (sw p 3 l 1 j) (sw p 3 l 2 0) (sw p 3 l 2 1) (sw p 3 l 2 2) (sw p 3 l 2 j) (sw p 3 l i 0) (sw p 3 l i 1) (sw p 3 l i 2) (sw p 3 l i j) = _
    rw [low 0 0 (by decide), low 0 1 (by decide), low 0 2 (by decide), low 0 j (by decide), low 1 0 (by decide), low 1 1 (by decide), low 1 2 (by decide), low 1 j (by decide), low 2 0 (by decide), low 2 1 (by decide), low 2 2 (by decide), low 2 j (by decide), hi, hi, hi, hi]
    split
    · rfl
    · split <;> rfl
theorem sw_lead (p : Fn) {k l : Nat} (hl : k ≤ l) (hk : k < 4) : lead (sw p k l) k = lead p k := by
  have low : ∀ r c, r < k → sw p k l r c = p r c := fun r c h => by
    unfold sw
    rw [if_neg (by omega), if_neg (by omega)]
  have h : k = 0 ∨ k = 1 ∨ k = 2 ∨ k = 3 := by omega
  rcases h with rfl | rfl | rfl | rfl
  · rfl
  · exact low 0 0 (by decide)
  · show t2 (sw p 2 l 0 0) (sw p 2 l 0 1) (sw p 2 l 1 0) (sw p 2 l 1 1) = _
    rw [low 0 0 (by decide), low 0 1 (by decide), low 1 0 (by decide), low 1 1 (by decide)]
    rfl
  · show t3 (sw p 3 l 0 0) (sw p 3 l 0 1) (sw p 3 l 0 2) (sw p 3 l 1 0) (sw p 3 l 1 1) (sw p 3 l 1 2) (sw p 3 l 2 0) (sw p 3 l 2 1) (sw p 3 l 2 2) = _
    rw [low 0 0 (by decide), low 0 1 (by decide), low 0 2 (by decide), low 1 0 (by decide), low 1 1 (by decide), low 1 2 (by decide), low 2 0 (by decide), low 2 1 (by decide), low 2 2 (by decide)]
    rfl
theorem sw_dt (p : Fn) {n k l : Nat} (hn : n ≤ 4) (hl : k < l) (hln : l < n) : dt n (sw p k l) = -dt n p := by
  have h : (n = 2 ∧ k = 0 ∧ l = 1) ∨ (n = 3 ∧ k = 0 ∧ l = 1) ∨ (n = 3 ∧ k = 0 ∧ l = 2) ∨ (n = 3 ∧ k = 1 ∧ l = 2) ∨ (n = 4 ∧ k = 0 ∧ l = 1) ∨ (n = 4 ∧ k = 0 ∧ l = 2) ∨ (n = 4 ∧ k = 0 ∧ l = 3) ∨ (n = 4 ∧ k = 1 ∧ l = 2) ∨ (n = 4 ∧ k = 1 ∧ l = 3) ∨ (n = 4 ∧ k = 2 ∧ l = 3) := by omega
  rcases h with ⟨rfl, rfl, rfl⟩ | ⟨rfl, rfl, rfl⟩ | ⟨rfl, rfl, rfl⟩ | ⟨rfl, rfl, rfl⟩ | ⟨rfl, rfl, rfl⟩ | ⟨rfl, rfl, rfl⟩ | ⟨rfl, rfl, rfl⟩ | ⟨rfl, rfl, rfl⟩ | ⟨rfl, rfl, rfl⟩ | ⟨rfl, rfl, rfl⟩
  · show t2 (p 1 0) (p 1 1) (p 0 0) (p 0 1) = -t2 (p 0 0) (p 0 1) (p 1 0) (p 1 1)
    unfold t2
    grind
  · show t3 (p 1 0) (p 1 1) (p 1 2) (p 0 0) (p 0 1) (p 0 2) (p 2 0) (p 2 1) (p 2 2) = -t3 (p 0 0) (p 0 1) (p 0 2) (p 1 0) (p 1 1) (p 1 2) (p 2 0) (p 2 1) (p 2 2)
    unfold t3
    grind
  · show t3 (p 2 0) (p 2 1) (p 2 2) (p 1 0) (p 1 1) (p 1 2) (p 0 0) (p 0 1) (p 0 2) = -t3 (p 0 0) (p 0 1) (p 0 2) (p 1 0) (p 1 1) (p 1 2) (p 2 0) (p 2 1) (p 2 2)
    unfold t3
    grind
  · show t3 (p 0 0) (p 0 1) (p 0 2) (p 2 0) (p 2 1) (p 2 2) (p 1 0) (p 1 1) (p 1 2) = -t3 (p 0 0) (p 0 1) (p 0 2) (p 1 0) (p 1 1) (p 1 2) (p 2 0) (p 2 1) (p 2 2)
    unfold t3
    grind
  · show t4 (p 1 0) (p 1 1) (p 1 2) (p 1 3) (p 0 0) (p 0 1) (p 0 2) (p 0 3) (p 2 0) (p 2 1) (p 2 2) (p 2 3) (p 3 0) (p 3 1) (p 3 2) (p 3 3) = -t4 (p 0 0) (p 0 1) (p 0 2) (p 0 3) (p 1 0) (p 1 1) (p 1 2) (p 1 3) (p 2 0) (p 2 1) (p 2 2) (p 2 3) (p 3 0) (p 3 1) (p 3 2) (p 3 3)
    unfold t4
    grind
  · show t4 (p 2 0) (p 2 1) (p 2 2) (p 2 3) (p 1 0) (p 1 1) (p 1 2) (p 1 3) (p 0 0) (p 0 1) (p 0 2) (p 0 3) (p 3 0) (p 3 1) (p 3 2) (p 3 3) = -t4 (p 0 0) (p 0 1) (p 0 2) (p 0 3) (p 1 0) (p 1 1) (p 1 2) (p 1 3) (p 2 0) (p 2 1) (p 2 2) (p 2 3) (p 3 0) (p 3 1) (p 3 2) (p 3 3)
    unfold t4
    grind
  · show t4 (p 3 0) (p 3 1) (p 3 2) (p 3 3) (p 1 0) (p 1 1) (p 1 2) (p 1 3) (p 2 0) (p 2 1) (p 2 2) (p 2 3) (p 0 0) (p 0 1) (p 0 2) (p 0 3) = -t4 (p 0 0) (p 0 1) (p 0 2) (p 0 3) (p 1 0) (p 1 1) (p 1 2) (p 1 3) (p 2 0) (p 2 1) (p 2 2) (p 2 3) (p 3 0) (p 3 1) (p 3 2) (p 3 3)
    unfold t4
    grind
  · show t4 (p 0 0) (p 0 1) (p 0 2) (p 0 3) (p 2 0) (p 2 1) (p 2 2) (p 2 3) (p 1 0) (p 1 1) (p 1 2) (p 1 3) (p 3 0) (p 3 1) (p 3 2) (p 3 3) = -t4 (p 0 0) (p 0 1) (p 0 2) (p 0 3) (p 1 0) (p 1 1) (p 1 2) (p 1 3) (p 2 0) (p 2 1) (p 2 2) (p 2 3) (p 3 0) (p 3 1) (p 3 2) (p 3 3)
    unfold t4
    grind
  · show t4 (p 0 0) (p 0 1) (p 0 2) (p 0 3) (p 3 0) (p 3 1) (p 3 2) (p 3 3) (p 2 0) (p 2 1) (p 2 2) (p 2 3) (p 1 0) (p 1 1) (p 1 2) (p 1 3) = -t4 (p 0 0) (p 0 1) (p 0 2) (p 0 3) (p 1 0) (p 1 1) (p 1 2) (p 1 3) (p 2 0) (p 2 1) (p 2 2) (p 2 3) (p 3 0) (p 3 1) (p 3 2) (p 3 3)
    unfold t4
    grind
  · show t4 (p 0 0) (p 0 1) (p 0 2) (p 0 3) (p 1 0) (p 1 1) (p 1 2) (p 1 3) (p 3 0) (p 3 1) (p 3 2) (p 3 3) (p 2 0) (p 2 1) (p 2 2) (p 2 3) = -t4 (p 0 0) (p 0 1) (p 0 2) (p 0 3) (p 1 0) (p 1 1) (p 1 2) (p 1 3) (p 2 0) (p 2 1) (p 2 2) (p 2 3) (p 3 0) (p 3 1) (p 3 2) (p 3 3)
    unfold t4
    grind
/-- the elimination as it goes: a reordering q of the matrix, its minors -/
structure Run (n k : Nat) (M N : Mx) (s b : Int) (q : Fn) : Prop where
  shp : Shp n N
  sgn : s = 1 ∨ s = -1
  det : s * dt n (E M) = dt n q
  led : b = lead q k
  nz : b ≠ 0
  ent : k < n → ∀ i j, k ≤ i → i < n → k ≤ j → j < n → E N i j = mm q k i j
theorem run_step {n k : Nat} {M N : Mx} {s b : Int} {q : Fn} (hn : n ≤ 4) (hk : k < n) (R : Run n k M N s b q) {i : Nat} {r : List Nat} (hp : pivs n k N = i :: r) :
    ∃ q', Run n (k + 1) M (rowsB n k b (if i = 0 then N else swapB N k (k + i)) (n - (k + 1))) (if i = 0 then s else -s) (E (rowsB n k b (if i = 0 then N else swapB N k (k + i)) (n - (k + 1))) k k) q' := by
  obtain ⟨hi, hz⟩ := piv_head hp
  -- the rows exchanged
  have hq : ∃ q', Shp n (if i = 0 then N else swapB N k (k + i)) ∧ (if i = 0 then s else -s) * dt n (E M) = dt n q' ∧ b = lead q' k ∧ (∀ i' j, k ≤ i' → i' < n → k ≤ j → j < n → E (if i = 0 then N else swapB N k (k + i)) i' j = mm q' k i' j) ∧ E (if i = 0 then N else swapB N k (k + i)) k k ≠ 0 := by
    by_cases h0 : i = 0
    · subst h0
      rw [if_pos rfl, if_pos rfl]
      exact ⟨q, R.shp, R.det, R.led, R.ent hk, hz⟩
    · rw [if_neg h0, if_neg h0]
      refine ⟨sw q k (k + i), R.shp.swap hk (by omega), ?_, ?_, fun i' j h1 h2 h3 h4 => ?_, ?_⟩
      · rw [sw_dt q hn (by omega) (by omega), ← R.det, Int.neg_mul]
      · rw [sw_lead q (by omega) (by omega)]
        exact R.led
      · rw [E_swap R.shp hk (by omega), sw_mm q (by omega) (by omega), R.ent hk k j (by omega) hk h3 h4, R.ent hk (k + i) j (by omega) (by omega) h3 h4, R.ent hk i' j h1 h2 h3 h4]
      · rw [E_swap R.shp hk (by omega), if_neg (by omega), if_pos rfl]
        exact hz
  obtain ⟨q', S1, hd, hl, he, hz1⟩ := hq
  generalize (if i = 0 then N else swapB N k (k + i)) = N1 at *
  have hE := fun i j => E_rows (b := b) S1 i j (n - (k + 1)) (a := k) (by omega)
  have hkk : E (rowsB n k b N1 (n - (k + 1))) k k = mm q' k k k := by
    rw [hE, if_neg (by omega)]
    exact he k k (Nat.le_refl _) hk (Nat.le_refl _) hk
  refine ⟨q', rows_shp S1 _ (by omega), ?_, hd, ?_, ?_, fun hk1 i' j h1 h2 h3 h4 => ?_⟩
  · split
    · exact R.sgn
    · rcases R.sgn with rfl | rfl
      · exact .inr rfl
      · exact .inl rfl
  · rw [hkk]
    rfl
  · rw [hE, if_neg (by omega)]
    exact hz1
  · rw [hE, if_pos (by omega)]
    unfold cellB
    rw [he i' j (by omega) h2 (by omega) h4, he k k (Nat.le_refl _) hk (Nat.le_refl _) hk, he i' k (by omega) h2 (Nat.le_refl _) hk, he k j (Nat.le_refl _) hk (by omega) h4, step_id q' (by omega) i' j, ← hl]
    exact Int.mul_fdiv_cancel_left _ R.nz
theorem run_all {n : Nat} {M : Mx} (S : Shp n M) (hn : n ≤ 4) : ∀ k, k ≤ n → (∃ N s b q, barB n M k = some (N, s, b) ∧ Run n k M N s b q) ∨ (barB n M k = none ∧ dt n (E M) = 0)
  | 0, _ => .inl ⟨M, 1, 1, E M, rfl, S, .inl rfl, Int.one_mul _, rfl, by decide, fun _ i j _ _ _ _ => rfl⟩
  | k + 1, hk => by
    rcases run_all S hn k (by omega) with ⟨N, s, b, q, e, R⟩ | ⟨e, h⟩
    · cases hp : pivs n k N with
      | nil =>
        refine .inr ⟨?_, ?_⟩
        · unfold barB
          rw [e]
          show (match pivs n k N with | [] => none | i :: _ => _) = none
          rw [hp]
        · have hz : dt n q = 0 := zero_id (k := k) q hn (by omega) (by rw [← R.led]; exact R.nz) fun i h1 h2 => by
            rw [← R.ent (by omega) i k h1 h2 (Nat.le_refl _) (by omega)]
            by_cases z : E N i k = 0
            · exact z
            · have hm : i - k ∈ pivs n k N := List.mem_filter.mpr ⟨List.mem_range.mpr (by omega), by
                rw [show k + (i - k) = i by omega, decide_eq_false z]
                rfl⟩
              rw [hp] at hm
              cases hm
          have h := R.det
          rw [hz] at h
          rcases R.sgn with z | z
          · rw [z, Int.one_mul] at h
            exact h
          · rw [z] at h
            omega
      | cons i r =>
        obtain ⟨q', R'⟩ := run_step hn (by omega) R hp
        refine .inl ⟨_, _, _, q', ?_, R'⟩
        unfold barB
        rw [e]
        show (match pivs n k N with | [] => none | i :: _ => _) = _
        rw [hp]
    · refine .inr ⟨?_, h⟩
      unfold barB
      rw [e]
theorem bare_dt {n : Nat} {M : Mx} (S : Shp n M) (h1 : 1 ≤ n) (hn : n ≤ 4) : bareM M = dt n (E M) := by
  unfold bareM
  rw [S.len]
  rcases run_all S hn n (Nat.le_refl n) with ⟨N, s, b, q, e, R⟩ | ⟨e, h⟩
  · rw [e]
    show s * b = _
    have hb : b = dt n q := by
      rw [R.led]
      unfold lead dt
      rw [if_neg (by omega)]
    rw [hb, ← R.det]
    rcases R.sgn with z | z
    · rw [z]
      omega
    · rw [z]
      omega
  · rw [e]
    exact h.symm
end Br

set_option maxHeartbeats 4000000
/-! The number of cosets of a lattice is its determinant, up to three rows (own work, plain). -/
namespace Ln
open Br
theorem sm_first (n : Nat) (g : Nat → Int) : sm (n + 1) g = g 0 + sm n fun i => g (i + 1) := by
  induction n with
  | zero => show 0 + g 0 = g 0 + 0; omega
  | succ n ih =>
    rw [sm, ih]
    show _ = g 0 + (sm n (fun i => g (i + 1)) + g (n + 1))
    omega
/-- in the lattice of the rows -/
def LatF (n : Nat) (p : Fn) (u : Nat → Int) : Prop := ∃ c : Nat → Int, ∀ k, k < n → u k = sm n fun i => c i * p i k
structure CrsF (n : Nat) (p : Fn) (S : List (List Int)) : Prop where
  row : ∀ s ∈ S, s.length = n
  nd : S.Nodup
  one : ∀ s ∈ S, ∀ t ∈ S, LatF n p (fun k => co s k - co t k) → s = t
  all : ∀ u : Nat → Int, ∃ s ∈ S, LatF n p fun k => u k - co s k
theorem CrsF.of_iff {n : Nat} {p q : Fn} {S : List (List Int)} (h : ∀ u, LatF n p u ↔ LatF n q u) (c : CrsF n q S) : CrsF n p S :=
  ⟨c.row, c.nd, fun s hs t ht l => c.one s hs t ht ((h _).mp l), fun u => by obtain ⟨s, hs, l⟩ := c.all u; exact ⟨s, hs, (h _).mpr l⟩⟩
theorem bezout : ∀ (m : Nat) (a d : Int), d.natAbs ≤ m → ∃ u v s t g : Int, u * a + v * d = g ∧ s * a + t * d = 0 ∧ u * t - v * s = 1
  | 0, a, d, h => by
    have e : d = 0 := by omega
    subst e
    exact ⟨1, 0, 0, 1, a, by omega, by omega, by omega⟩
  | m + 1, a, d, h => by
    by_cases e : d = 0
    · subst e
      exact ⟨1, 0, 0, 1, a, by omega, by omega, by omega⟩
    · have h1 := Int.emod_nonneg a e
      have h2 : a % d < d.natAbs := Int.emod_lt a e
      obtain ⟨u, v, s, t, g, q1, q2, q3⟩ := bezout m d (a % d) (by omega)
      have h3 := Int.mul_ediv_add_emod a d
      generalize a % d = r at *
      generalize a / d = k at *
      exact ⟨v, u - k * v, -t, -(s - k * t), g, by grind, by grind, by grind⟩
/-- rows 0 and l mixed -/
def mix (p : Fn) (l : Nat) (u v s t : Int) : Fn := fun i k => if i = 0 then u * p 0 k + v * p l k else if i = l then s * p 0 k + t * p l k else p i k
theorem mix_to {n : Nat} {p : Fn} {l : Nat} {u v s t : Int} (hl : 0 < l) (hln : l < n) (h : u * t - v * s = 1) {w : Nat → Int} (q : LatF n p w) : LatF n (mix p l u v s t) w := by
  obtain ⟨c, hc⟩ := q
  refine ⟨fun i => if i = 0 then c 0 * t - c l * s else if i = l then c l * u - c 0 * v else c i, fun k hk => ?_⟩
  rw [hc k hk]
  have e : ∀ i, i < n → (if i = 0 then c 0 * t - c l * s else if i = l then c l * u - c 0 * v else c i) * mix p l u v s t i k
      = c i * p i k + ((if i = 0 then (c 0 * t - c l * s) * (u * p 0 k + v * p l k) - c 0 * p 0 k else 0) + if i = l then (c l * u - c 0 * v) * (s * p 0 k + t * p l k) - c l * p l k else 0) := fun i _ => by
    unfold mix
    by_cases e0 : i = 0
    · subst e0
      rw [if_pos rfl, if_pos rfl, if_pos rfl, if_neg (by omega)]
      omega
    · by_cases e1 : i = l
      · subst e1
        rw [if_neg e0, if_neg e0, if_neg e0, if_pos rfl, if_pos rfl, if_pos rfl]
        omega
      · rw [if_neg e0, if_neg e0, if_neg e0, if_neg e1, if_neg e1, if_neg e1]
        omega
  rw [sm_congr e, sm_add, sm_add, sm_delta (show 0 < n by omega), sm_delta hln]
  grind
theorem mix_of {n : Nat} {p : Fn} {l : Nat} {u v s t : Int} (hl : 0 < l) (hln : l < n) (h : u * t - v * s = 1) {w : Nat → Int} (q : LatF n (mix p l u v s t) w) : LatF n p w := by
  obtain ⟨c, hc⟩ := q
  refine ⟨fun i => if i = 0 then c 0 * u + c l * s else if i = l then c 0 * v + c l * t else c i, fun k hk => ?_⟩
  rw [hc k hk]
  have e : ∀ i, i < n → c i * mix p l u v s t i k = (if i = 0 then c 0 * u + c l * s else if i = l then c 0 * v + c l * t else c i) * p i k
      + ((if i = 0 then c 0 * (u * p 0 k + v * p l k) - (c 0 * u + c l * s) * p 0 k else 0) + if i = l then c l * (s * p 0 k + t * p l k) - (c 0 * v + c l * t) * p l k else 0) := fun i _ => by
    unfold mix
    by_cases e0 : i = 0
    · subst e0
      rw [if_pos rfl, if_pos rfl, if_pos rfl, if_neg (by omega)]
      omega
    · by_cases e1 : i = l
      · subst e1
        rw [if_neg e0, if_neg e0, if_neg e0, if_pos rfl, if_pos rfl, if_pos rfl]
        omega
      · rw [if_neg e0, if_neg e0, if_neg e0, if_neg e1, if_neg e1, if_neg e1]
        omega
  rw [sm_congr e, sm_add, sm_add, sm_delta (show 0 < n by omega), sm_delta hln]
  grind
theorem mix_iff {n : Nat} {p : Fn} {l : Nat} {u v s t : Int} (hl : 0 < l) (hln : l < n) (h : u * t - v * s = 1) (w : Nat → Int) : LatF n p w ↔ LatF n (mix p l u v s t) w := ⟨mix_to hl hln h, mix_of hl hln h⟩
theorem co_cons0 (r : Int) (s : List Int) : co (r :: s) 0 = r := rfl
theorem co_consS (r : Int) (s : List Int) (k : Nat) : co (r :: s) (k + 1) = co s k := rfl
/-- a first column that is zero but for its top -/
theorem tri {n : Nat} {p : Fn} {S : List (List Int)} (h0 : p 0 0 ≠ 0) (hz : ∀ i, i < n → p (i + 1) 0 = 0) (C : CrsF n (fun i k => p (i + 1) (k + 1)) S) :
    CrsF (n + 1) p ((List.range (p 0 0).natAbs).flatMap fun r : Nat => S.map fun s => (r : Int) :: s) := by
  have mem : ∀ x : List Int, x ∈ ((List.range (p 0 0).natAbs).flatMap fun r : Nat => S.map fun s => (r : Int) :: s) ↔ ∃ (r : Nat) (s : List Int), r < (p 0 0).natAbs ∧ s ∈ S ∧ x = (r : Int) :: s := fun x => by
    rw [List.mem_flatMap]
    constructor
    · rintro ⟨r, h1, h2⟩
      obtain ⟨s, h3, rfl⟩ := List.mem_map.mp h2
      exact ⟨r, s, List.mem_range.mp h1, h3, rfl⟩
    · rintro ⟨r, s, h1, h2, rfl⟩
      exact ⟨r, List.mem_range.mpr h1, List.mem_map.mpr ⟨s, h2, rfl⟩⟩
  have zs : ∀ c : Nat → Int, sm n (fun i => c (i + 1) * p (i + 1) 0) = 0 := fun c => by
    rw [sm_congr (h := fun _ => 0) fun i hi => by rw [hz i hi, Int.mul_zero], sm_zero]
  refine ⟨fun x hx => ?_, ?_, fun x hx y hy l => ?_, fun u => ?_⟩
  · obtain ⟨r, s, _, h2, rfl⟩ := (mem x).mp hx
    rw [List.length_cons, C.row s h2]
  · show List.Pairwise _ _
    rw [List.pairwise_flatMap]
    refine ⟨fun r _ => ?_, ?_⟩
    · rw [List.pairwise_map]
      exact List.Pairwise.imp (fun h e => h (List.cons.inj e).2) C.nd
    · refine List.Pairwise.imp ?_ List.nodup_range
      intro a b hab x hx y hy e
      obtain ⟨s, _, rfl⟩ := List.mem_map.mp hx
      obtain ⟨t, _, rfl⟩ := List.mem_map.mp hy
      have := (List.cons.inj e).1
      omega
  · obtain ⟨r, s, h1, h2, rfl⟩ := (mem x).mp hx
    obtain ⟨r', t, h1', h2', rfl⟩ := (mem y).mp hy
    obtain ⟨c, hc⟩ := l
    have e0 : (r : Int) - (r' : Int) = sm (n + 1) fun i => c i * p i 0 := hc 0 (by omega)
    rw [sm_first, zs c, Int.add_zero] at e0
    have c0 : c 0 = 0 := by
      by_cases z : c 0 = 0
      · exact z
      · have h : (c 0 * p 0 0).natAbs = (c 0).natAbs * (p 0 0).natAbs := Int.natAbs_mul ..
        have h' : 1 * (p 0 0).natAbs ≤ (c 0).natAbs * (p 0 0).natAbs := Nat.mul_le_mul_right _ (by omega)
        omega
    rw [c0, Int.zero_mul] at e0
    have er : r = r' := by omega
    subst er
    have es : s = t := C.one s h2 t h2' ⟨fun i => c (i + 1), fun k hk => by
      have h : co s k - co t k = sm (n + 1) fun i => c i * p i (k + 1) := hc (k + 1) (by omega)
      rw [sm_first, c0, Int.zero_mul, Int.zero_add] at h
      exact h⟩
    rw [es]
  · have hr0 := Int.emod_nonneg (u 0) h0
    have hr1 : u 0 % p 0 0 < (p 0 0).natAbs := Int.emod_lt (u 0) h0
    have hdiv := Int.mul_ediv_add_emod (u 0) (p 0 0)
    obtain ⟨s, hs, c, hc⟩ := C.all fun k => u (k + 1) - (u 0 / p 0 0) * p 0 (k + 1)
    refine ⟨_, (mem _).mpr ⟨(u 0 % p 0 0).toNat, s, by omega, hs, rfl⟩, fun i => match i with | 0 => u 0 / p 0 0 | i + 1 => c i, fun k hk => ?_⟩
    cases k with
    | zero =>
      rw [sm_first]
      show u 0 - (((u 0 % p 0 0).toNat : Nat) : Int) = (u 0 / p 0 0) * p 0 0 + sm n fun i => c i * p (i + 1) 0
      rw [sm_congr (h := fun _ => 0) fun i hi => by rw [hz i hi, Int.mul_zero], sm_zero, Int.mul_comm]
      omega
    | succ k =>
      rw [sm_first]
      show u (k + 1) - co s k = (u 0 / p 0 0) * p 0 (k + 1) + sm n fun i => c i * p (i + 1) (k + 1)
      have hk' : u (k + 1) - (u 0 / p 0 0) * p 0 (k + 1) - co s k = sm n fun i => c i * p (i + 1) (k + 1) := hc k (by omega)
      rw [← hk']
      omega
theorem tri_len (m : Nat) (S : List (List Int)) : ((List.range m).flatMap fun r : Nat => S.map fun s => (r : Int) :: s).length = m * S.length := by
  induction m with
  | zero => simp
  | succ m ih =>
    rw [List.range_succ, List.flatMap_append, List.length_append, ih]
    rw [Nat.add_mul, Nat.one_mul]
    simp
theorem cnt0 (p : Fn) : CrsF 0 p [[]] := ⟨by simp, by simp, fun s hs t ht _ => by simp at hs ht; rw [hs, ht], fun u => ⟨[], by simp, fun _ => 0, fun k hk => absurd hk (Nat.not_lt_zero k)⟩⟩
theorem cnt1 (p : Fn) (h : dt 1 p ≠ 0) : ∃ S, CrsF 1 p S ∧ S.length = (dt 1 p).natAbs := by
  have h0 : p 0 0 ≠ 0 := h
  refine ⟨_, tri h0 (fun i hi => absurd hi (Nat.not_lt_zero i)) (cnt0 _), ?_⟩
  rw [tri_len]
  show (p 0 0).natAbs * 1 = _
  rw [Nat.mul_one]
  rfl
theorem cnt2 (p : Fn) (h : dt 2 p ≠ 0) : ∃ S, CrsF 2 p S ∧ S.length = (dt 2 p).natAbs := by
  obtain ⟨u, v, s, t, g, q1, q2, q3⟩ := bezout _ (p 0 0) (p 1 0) (Nat.le_refl _)
  have hd : dt 2 p = g * dt 1 (fun i k => mix p 1 u v s t (i + 1) (k + 1)) := by
    show t2 (p 0 0) (p 0 1) (p 1 0) (p 1 1) = g * (s * p 0 1 + t * p 1 1)
    unfold t2
    grind
  have hg : g ≠ 0 := fun z => h (by rw [hd, z, Int.zero_mul])
  have h1 : dt 1 (fun i k => mix p 1 u v s t (i + 1) (k + 1)) ≠ 0 := fun z => h (by rw [hd, z, Int.mul_zero])
  obtain ⟨S, hS, hl⟩ := cnt1 _ h1
  have h00 : mix p 1 u v s t 0 0 = g := q1
  refine ⟨_, (tri (p := mix p 1 u v s t) (by rw [h00]; exact hg) (fun i hi => ?_) hS).of_iff (mix_iff (by decide) (by decide) q3), ?_⟩
  · have e : i = 0 := by omega
    subst e
    exact q2
  · rw [tri_len, h00, hl, hd, Int.natAbs_mul]
theorem cnt3 (p : Fn) (h : dt 3 p ≠ 0) : ∃ S, CrsF 3 p S ∧ S.length = (dt 3 p).natAbs := by
  obtain ⟨u, v, s, t, g, q1, q2, q3⟩ := bezout _ (p 0 0) (p 1 0) (Nat.le_refl _)
  have hd1 : dt 3 (mix p 1 u v s t) = dt 3 p := by
    show t3 (u * p 0 0 + v * p 1 0) (u * p 0 1 + v * p 1 1) (u * p 0 2 + v * p 1 2) (s * p 0 0 + t * p 1 0) (s * p 0 1 + t * p 1 1) (s * p 0 2 + t * p 1 2) (p 2 0) (p 2 1) (p 2 2)
      = t3 (p 0 0) (p 0 1) (p 0 2) (p 1 0) (p 1 1) (p 1 2) (p 2 0) (p 2 1) (p 2 2)
    have e : t3 (u * p 0 0 + v * p 1 0) (u * p 0 1 + v * p 1 1) (u * p 0 2 + v * p 1 2) (s * p 0 0 + t * p 1 0) (s * p 0 1 + t * p 1 1) (s * p 0 2 + t * p 1 2) (p 2 0) (p 2 1) (p 2 2)
        = (u * t - v * s) * t3 (p 0 0) (p 0 1) (p 0 2) (p 1 0) (p 1 1) (p 1 2) (p 2 0) (p 2 1) (p 2 2) := by
      unfold t3
      grind
    rw [e, q3, Int.one_mul]
  have i1 := mix_iff (n := 3) (p := p) (l := 1) (by decide) (by decide) q3
  have z1 : mix p 1 u v s t 1 0 = 0 := q2
  generalize mix p 1 u v s t = p1 at *
  obtain ⟨u', v', s', t', g', r1, r2, r3⟩ := bezout _ (p1 0 0) (p1 2 0) (Nat.le_refl _)
  have hd : dt 3 p = g' * dt 2 (fun i k => mix p1 2 u' v' s' t' (i + 1) (k + 1)) := by
    rw [← hd1]
    show t3 (p1 0 0) (p1 0 1) (p1 0 2) (p1 1 0) (p1 1 1) (p1 1 2) (p1 2 0) (p1 2 1) (p1 2 2) = g' * t2 (p1 1 1) (p1 1 2) (s' * p1 0 1 + t' * p1 2 1) (s' * p1 0 2 + t' * p1 2 2)
    have e : t3 (u' * p1 0 0 + v' * p1 2 0) (u' * p1 0 1 + v' * p1 2 1) (u' * p1 0 2 + v' * p1 2 2) (p1 1 0) (p1 1 1) (p1 1 2) (s' * p1 0 0 + t' * p1 2 0) (s' * p1 0 1 + t' * p1 2 1) (s' * p1 0 2 + t' * p1 2 2)
        = (u' * t' - v' * s') * t3 (p1 0 0) (p1 0 1) (p1 0 2) (p1 1 0) (p1 1 1) (p1 1 2) (p1 2 0) (p1 2 1) (p1 2 2) := by
      unfold t3
      grind
    rw [r3, Int.one_mul, r1, r2, z1] at e
    rw [z1, ← e]
    unfold t3 t2
    grind
  have hg : g' ≠ 0 := fun z => h (by rw [hd, z, Int.zero_mul])
  have h1 : dt 2 (fun i k => mix p1 2 u' v' s' t' (i + 1) (k + 1)) ≠ 0 := fun z => h (by rw [hd, z, Int.mul_zero])
  obtain ⟨S, hS, hl⟩ := cnt2 _ h1
  have h00 : mix p1 2 u' v' s' t' 0 0 = g' := r1
  have i2 := mix_iff (n := 3) (p := p1) (l := 2) (by decide) (by decide) r3
  refine ⟨_, (tri (p := mix p1 2 u' v' s' t') (by rw [h00]; exact hg) (fun i hi => ?_) hS).of_iff (fun w => (i1 w).trans (i2 w)), ?_⟩
  · have e : i = 0 ∨ i = 1 := by omega
    rcases e with rfl | rfl
    · exact z1
    · exact r2
  · rw [tri_len, h00, hl, hd, Int.natAbs_mul]
theorem cntN {n : Nat} (h3 : n ≤ 3) (p : Fn) (h : n = 0 ∨ dt n p ≠ 0) : ∃ S, CrsF n p S ∧ S.length = if n = 0 then 1 else (dt n p).natAbs := by
  have e : n = 0 ∨ n = 1 ∨ n = 2 ∨ n = 3 := by omega
  rcases e with rfl | rfl | rfl | rfl
  · exact ⟨_, cnt0 p, rfl⟩
  · exact cnt1 p (h.resolve_left (by decide))
  · exact cnt2 p (h.resolve_left (by decide))
  · exact cnt3 p (h.resolve_left (by decide))
/-- the lattice of lifted points, by their differences -/
theorem crs_lift {n : Nat} {M : Br.Mx} {S : List (List Int)} (h1 : ∀ i, i < n + 1 → E M i n = 1) (C : CrsF n (fun i k => E M (i + 1) k - E M 0 k) S) : Crs (n + 1) M (S.map fun s => s ++ [0]) := by
  have coa : ∀ s ∈ S, ∀ k, k < n → co (s ++ [0]) k = co s k := fun s hs k hk => by
    rw [co_app, if_pos (by rw [C.row s hs]; exact hk)]
  have cob : ∀ s ∈ S, co (s ++ [0]) n = 0 := fun s hs => by
    rw [co_app, C.row s hs, if_neg (by omega), if_pos rfl]
  refine ⟨fun x hx => ?_, ?_, fun x hx y hy l => ?_, fun x hx => ?_⟩
  · obtain ⟨s, hs, rfl⟩ := List.mem_map.mp hx
    rw [List.length_append, C.row s hs]
    rfl
  · exact nodup_map_on C.nd fun a _ b _ e => List.append_cancel_right e
  · obtain ⟨s, hs, rfl⟩ := List.mem_map.mp hx
    obtain ⟨t, ht, rfl⟩ := List.mem_map.mp hy
    obtain ⟨c, hc⟩ := l
    have hn := hc n (by omega)
    rw [cob s hs, cob t ht, sm_congr (h := c) (fun i hi => by rw [h1 i hi, Int.mul_one]), sm_first] at hn
    have es : s = t := C.one s hs t ht ⟨fun i => c (i + 1), fun k hk => by
      have h := hc k (by omega)
      rw [coa s hs k hk, coa t ht k hk, sm_first] at h
      show co s k - co t k = sm n fun i => c (i + 1) * (E M (i + 1) k - E M 0 k)
      rw [h, sm_congr (g := fun i => c (i + 1) * (E M (i + 1) k - E M 0 k)) (h := fun i => c (i + 1) * E M (i + 1) k - E M 0 k * c (i + 1)) (fun i _ => by rw [Int.mul_sub, Int.mul_comm (E M 0 k)]), sm_sub, sm_mul]
      have e0 : c 0 = -sm n fun i => c (i + 1) := by omega
      rw [e0]
      grind⟩
    rw [es]
  · obtain ⟨s, hs, c, hc⟩ := C.all fun k => co x k - co x n * E M 0 k
    refine ⟨_, List.mem_map.mpr ⟨s, hs, rfl⟩, fun i => match i with | 0 => co x n - sm n c | i + 1 => c i, fun k hk => ?_⟩
    rw [sm_first]
    show co x k - co (s ++ [0]) k = (co x n - sm n c) * E M 0 k + sm n fun i => c i * E M (i + 1) k
    by_cases e : k = n
    · subst e
      rw [cob s hs, h1 0 (by omega), sm_congr (g := fun i => c i * E M (i + 1) k) (h := c) (fun i hi => by rw [h1 (i + 1) (by omega), Int.mul_one])]
      omega
    · have hk' : k < n := by omega
      have h : co x k - co x n * E M 0 k - co s k = sm n fun i => c i * (E M (i + 1) k - E M 0 k) := hc k hk'
      rw [coa s hs k hk']
      rw [sm_congr (h := fun i => c i * E M (i + 1) k - E M 0 k * c i) (fun i _ => by rw [Int.mul_sub, Int.mul_comm (E M 0 k)]), sm_sub, sm_mul] at h
      grind
end Ln

set_option maxHeartbeats 4000000
/-! Identities of determinants, up to four rows (printed by gendet.py, own work). -/
namespace Ln
open Br
/-- row i replaced -/
def rowset (p : Fn) (i : Nat) (x : Nat → Int) : Fn := fun r k => if r = i then x k else p r k
def unitF (c : Nat) : Nat → Int := fun k => if k = c then 1 else 0
/-- the factor of an entry in the determinant -/
def cf (n : Nat) (p : Fn) (i c : Nat) : Int := dt n (rowset p i (unitF c))
theorem dt_congr {n : Nat} {p q : Fn} (h1 : 1 ≤ n) (hn : n ≤ 4) (h : ∀ i j, i < n → j < n → p i j = q i j) : dt n p = dt n q := by
  have hN : n = 1 ∨ n = 2 ∨ n = 3 ∨ n = 4 := by omega
  rcases hN with rfl | rfl | rfl | rfl
  · show (p 0 0) = (q 0 0)
    rw [h 0 0 (by decide) (by decide)]
  · show t2 (p 0 0) (p 0 1) (p 1 0) (p 1 1) = t2 (q 0 0) (q 0 1) (q 1 0) (q 1 1)
    rw [h 0 0 (by decide) (by decide), h 0 1 (by decide) (by decide), h 1 0 (by decide) (by decide), h 1 1 (by decide) (by decide)]
  · show t3 (p 0 0) (p 0 1) (p 0 2) (p 1 0) (p 1 1) (p 1 2) (p 2 0) (p 2 1) (p 2 2) = t3 (q 0 0) (q 0 1) (q 0 2) (q 1 0) (q 1 1) (q 1 2) (q 2 0) (q 2 1) (q 2 2)
    rw [h 0 0 (by decide) (by decide), h 0 1 (by decide) (by decide), h 0 2 (by decide) (by decide), h 1 0 (by decide) (by decide), h 1 1 (by decide) (by decide), h 1 2 (by decide) (by decide), h 2 0 (by decide) (by decide), h 2 1 (by decide) (by decide), h 2 2 (by decide) (by decide)]
  · show t4 (p 0 0) (p 0 1) (p 0 2) (p 0 3) (p 1 0) (p 1 1) (p 1 2) (p 1 3) (p 2 0) (p 2 1) (p 2 2) (p 2 3) (p 3 0) (p 3 1) (p 3 2) (p 3 3) = t4 (q 0 0) (q 0 1) (q 0 2) (q 0 3) (q 1 0) (q 1 1) (q 1 2) (q 1 3) (q 2 0) (q 2 1) (q 2 2) (q 2 3) (q 3 0) (q 3 1) (q 3 2) (q 3 3)
    rw [h 0 0 (by decide) (by decide), h 0 1 (by decide) (by decide), h 0 2 (by decide) (by decide), h 0 3 (by decide) (by decide), h 1 0 (by decide) (by decide), h 1 1 (by decide) (by decide), h 1 2 (by decide) (by decide), h 1 3 (by decide) (by decide), h 2 0 (by decide) (by decide), h 2 1 (by decide) (by decide), h 2 2 (by decide) (by decide), h 2 3 (by decide) (by decide), h 3 0 (by decide) (by decide), h 3 1 (by decide) (by decide), h 3 2 (by decide) (by decide), h 3 3 (by decide) (by decide)]
theorem dt_tr {n : Nat} (p : Fn) (h1 : 1 ≤ n) (hn : n ≤ 4) : dt n (fun i j => p j i) = dt n p := by
  have hN : n = 1 ∨ n = 2 ∨ n = 3 ∨ n = 4 := by omega
  rcases hN with rfl | rfl | rfl | rfl
  · rfl
  · show t2 (p 0 0) (p 1 0) (p 0 1) (p 1 1) = t2 (p 0 0) (p 0 1) (p 1 0) (p 1 1)
    unfold t2
    grind
  · show t3 (p 0 0) (p 1 0) (p 2 0) (p 0 1) (p 1 1) (p 2 1) (p 0 2) (p 1 2) (p 2 2) = t3 (p 0 0) (p 0 1) (p 0 2) (p 1 0) (p 1 1) (p 1 2) (p 2 0) (p 2 1) (p 2 2)
    unfold t3
    grind
  · show t4 (p 0 0) (p 1 0) (p 2 0) (p 3 0) (p 0 1) (p 1 1) (p 2 1) (p 3 1) (p 0 2) (p 1 2) (p 2 2) (p 3 2) (p 0 3) (p 1 3) (p 2 3) (p 3 3) = t4 (p 0 0) (p 0 1) (p 0 2) (p 0 3) (p 1 0) (p 1 1) (p 1 2) (p 1 3) (p 2 0) (p 2 1) (p 2 2) (p 2 3) (p 3 0) (p 3 1) (p 3 2) (p 3 3)
    unfold t4
    grind
theorem lin1 (p : Fn) (x : Nat → Int) {i : Nat} (hi : i < 1) : dt 1 (rowset p i x) = sm 1 fun c => cf 1 p i c * x c := by
  have h : i = 0 := by omega
  rcases h with rfl
  · show (x 0) = (0 + (1) * x 0)
    grind
theorem ione1 (p : Fn) {c k : Nat} (hc : c < 1) (hk : k < 1) : sm 1 (fun i => cf 1 p i c * p i k) = if c = k then dt 1 p else 0 := by
  have h : c = 0 := by omega
  have h' : k = 0 := by omega
  rcases h with rfl <;> rcases h' with rfl
  · show (0 + (1) * p 0 0) = (p 0 0)
    grind
theorem itwo1 (p : Fn) {i j : Nat} (hi : i < 1) (hj : j < 1) : sm 1 (fun c => cf 1 p i c * p j c) = if i = j then dt 1 p else 0 := by
  rw [← lin1 p (p j) hi]
  have h : i = 0 := by omega
  have h' : j = 0 := by omega
  rcases h with rfl <;> rcases h' with rfl
  · rfl
theorem lin2 (p : Fn) (x : Nat → Int) {i : Nat} (hi : i < 2) : dt 2 (rowset p i x) = sm 2 fun c => cf 2 p i c * x c := by
  have h : i = 0 ∨ i = 1 := by omega
  rcases h with rfl | rfl
  · show t2 (x 0) (x 1) (p 1 0) (p 1 1) = ((0 + (t2 1 0 (p 1 0) (p 1 1)) * x 0) + (t2 0 1 (p 1 0) (p 1 1)) * x 1)
    unfold t2
    grind
  · show t2 (p 0 0) (p 0 1) (x 0) (x 1) = ((0 + (t2 (p 0 0) (p 0 1) 1 0) * x 0) + (t2 (p 0 0) (p 0 1) 0 1) * x 1)
    unfold t2
    grind
theorem ione2 (p : Fn) {c k : Nat} (hc : c < 2) (hk : k < 2) : sm 2 (fun i => cf 2 p i c * p i k) = if c = k then dt 2 p else 0 := by
  have h : c = 0 ∨ c = 1 := by omega
  have h' : k = 0 ∨ k = 1 := by omega
  rcases h with rfl | rfl <;> rcases h' with rfl | rfl
  · show ((0 + (t2 1 0 (p 1 0) (p 1 1)) * p 0 0) + (t2 (p 0 0) (p 0 1) 1 0) * p 1 0) = t2 (p 0 0) (p 0 1) (p 1 0) (p 1 1)
    unfold t2
    grind
  · show ((0 + (t2 1 0 (p 1 0) (p 1 1)) * p 0 1) + (t2 (p 0 0) (p 0 1) 1 0) * p 1 1) = 0
    unfold t2
    grind
  · show ((0 + (t2 0 1 (p 1 0) (p 1 1)) * p 0 0) + (t2 (p 0 0) (p 0 1) 0 1) * p 1 0) = 0
    unfold t2
    grind
  · show ((0 + (t2 0 1 (p 1 0) (p 1 1)) * p 0 1) + (t2 (p 0 0) (p 0 1) 0 1) * p 1 1) = t2 (p 0 0) (p 0 1) (p 1 0) (p 1 1)
    unfold t2
    grind
theorem itwo2 (p : Fn) {i j : Nat} (hi : i < 2) (hj : j < 2) : sm 2 (fun c => cf 2 p i c * p j c) = if i = j then dt 2 p else 0 := by
  rw [← lin2 p (p j) hi]
  have h : i = 0 ∨ i = 1 := by omega
  have h' : j = 0 ∨ j = 1 := by omega
  rcases h with rfl | rfl <;> rcases h' with rfl | rfl
  · rfl
  · show t2 (p 1 0) (p 1 1) (p 1 0) (p 1 1) = 0
    unfold t2
    grind
  · show t2 (p 0 0) (p 0 1) (p 0 0) (p 0 1) = 0
    unfold t2
    grind
  · rfl
theorem lin3 (p : Fn) (x : Nat → Int) {i : Nat} (hi : i < 3) : dt 3 (rowset p i x) = sm 3 fun c => cf 3 p i c * x c := by
  have h : i = 0 ∨ i = 1 ∨ i = 2 := by omega
  rcases h with rfl | rfl | rfl
  · show t3 (x 0) (x 1) (x 2) (p 1 0) (p 1 1) (p 1 2) (p 2 0) (p 2 1) (p 2 2) = (((0 + (t3 1 0 0 (p 1 0) (p 1 1) (p 1 2) (p 2 0) (p 2 1) (p 2 2)) * x 0) + (t3 0 1 0 (p 1 0) (p 1 1) (p 1 2) (p 2 0) (p 2 1) (p 2 2)) * x 1) + (t3 0 0 1 (p 1 0) (p 1 1) (p 1 2) (p 2 0) (p 2 1) (p 2 2)) * x 2)
    unfold t3
    grind
  · show t3 (p 0 0) (p 0 1) (p 0 2) (x 0) (x 1) (x 2) (p 2 0) (p 2 1) (p 2 2) = (((0 + (t3 (p 0 0) (p 0 1) (p 0 2) 1 0 0 (p 2 0) (p 2 1) (p 2 2)) * x 0) + (t3 (p 0 0) (p 0 1) (p 0 2) 0 1 0 (p 2 0) (p 2 1) (p 2 2)) * x 1) + (t3 (p 0 0) (p 0 1) (p 0 2) 0 0 1 (p 2 0) (p 2 1) (p 2 2)) * x 2)
    unfold t3
    grind
  · show t3 (p 0 0) (p 0 1) (p 0 2) (p 1 0) (p 1 1) (p 1 2) (x 0) (x 1) (x 2) = (((0 + (t3 (p 0 0) (p 0 1) (p 0 2) (p 1 0) (p 1 1) (p 1 2) 1 0 0) * x 0) + (t3 (p 0 0) (p 0 1) (p 0 2) (p 1 0) (p 1 1) (p 1 2) 0 1 0) * x 1) + (t3 (p 0 0) (p 0 1) (p 0 2) (p 1 0) (p 1 1) (p 1 2) 0 0 1) * x 2)
    unfold t3
    grind
theorem ione3 (p : Fn) {c k : Nat} (hc : c < 3) (hk : k < 3) : sm 3 (fun i => cf 3 p i c * p i k) = if c = k then dt 3 p else 0 := by
  have h : c = 0 ∨ c = 1 ∨ c = 2 := by omega
  have h' : k = 0 ∨ k = 1 ∨ k = 2 := by omega
  rcases h with rfl | rfl | rfl <;> rcases h' with rfl | rfl | rfl
  · show (((0 + (t3 1 0 0 (p 1 0) (p 1 1) (p 1 2) (p 2 0) (p 2 1) (p 2 2)) * p 0 0) + (t3 (p 0 0) (p 0 1) (p 0 2) 1 0 0 (p 2 0) (p 2 1) (p 2 2)) * p 1 0) + (t3 (p 0 0) (p 0 1) (p 0 2) (p 1 0) (p 1 1) (p 1 2) 1 0 0) * p 2 0) = t3 (p 0 0) (p 0 1) (p 0 2) (p 1 0) (p 1 1) (p 1 2) (p 2 0) (p 2 1) (p 2 2)
    unfold t3
    grind
  · show (((0 + (t3 1 0 0 (p 1 0) (p 1 1) (p 1 2) (p 2 0) (p 2 1) (p 2 2)) * p 0 1) + (t3 (p 0 0) (p 0 1) (p 0 2) 1 0 0 (p 2 0) (p 2 1) (p 2 2)) * p 1 1) + (t3 (p 0 0) (p 0 1) (p 0 2) (p 1 0) (p 1 1) (p 1 2) 1 0 0) * p 2 1) = 0
    unfold t3
    grind
  · show (((0 + (t3 1 0 0 (p 1 0) (p 1 1) (p 1 2) (p 2 0) (p 2 1) (p 2 2)) * p 0 2) + (t3 (p 0 0) (p 0 1) (p 0 2) 1 0 0 (p 2 0) (p 2 1) (p 2 2)) * p 1 2) + (t3 (p 0 0) (p 0 1) (p 0 2) (p 1 0) (p 1 1) (p 1 2) 1 0 0) * p 2 2) = 0
    unfold t3
    grind
  · show (((0 + (t3 0 1 0 (p 1 0) (p 1 1) (p 1 2) (p 2 0) (p 2 1) (p 2 2)) * p 0 0) + (t3 (p 0 0) (p 0 1) (p 0 2) 0 1 0 (p 2 0) (p 2 1) (p 2 2)) * p 1 0) + (t3 (p 0 0) (p 0 1) (p 0 2) (p 1 0) (p 1 1) (p 1 2) 0 1 0) * p 2 0) = 0
    unfold t3
    grind
  · show (((0 + (t3 0 1 0 (p 1 0) (p 1 1) (p 1 2) (p 2 0) (p 2 1) (p 2 2)) * p 0 1) + (t3 (p 0 0) (p 0 1) (p 0 2) 0 1 0 (p 2 0) (p 2 1) (p 2 2)) * p 1 1) + (t3 (p 0 0) (p 0 1) (p 0 2) (p 1 0) (p 1 1) (p 1 2) 0 1 0) * p 2 1) = t3 (p 0 0) (p 0 1) (p 0 2) (p 1 0) (p 1 1) (p 1 2) (p 2 0) (p 2 1) (p 2 2)
    unfold t3
    grind
  · show (((0 + (t3 0 1 0 (p 1 0) (p 1 1) (p 1 2) (p 2 0) (p 2 1) (p 2 2)) * p 0 2) + (t3 (p 0 0) (p 0 1) (p 0 2) 0 1 0 (p 2 0) (p 2 1) (p 2 2)) * p 1 2) + (t3 (p 0 0) (p 0 1) (p 0 2) (p 1 0) (p 1 1) (p 1 2) 0 1 0) * p 2 2) = 0
    unfold t3
    grind
  · show (((0 + (t3 0 0 1 (p 1 0) (p 1 1) (p 1 2) (p 2 0) (p 2 1) (p 2 2)) * p 0 0) + (t3 (p 0 0) (p 0 1) (p 0 2) 0 0 1 (p 2 0) (p 2 1) (p 2 2)) * p 1 0) + (t3 (p 0 0) (p 0 1) (p 0 2) (p 1 0) (p 1 1) (p 1 2) 0 0 1) * p 2 0) = 0
    unfold t3
    grind
  · show (((0 + (t3 0 0 1 (p 1 0) (p 1 1) (p 1 2) (p 2 0) (p 2 1) (p 2 2)) * p 0 1) + (t3 (p 0 0) (p 0 1) (p 0 2) 0 0 1 (p 2 0) (p 2 1) (p 2 2)) * p 1 1) + (t3 (p 0 0) (p 0 1) (p 0 2) (p 1 0) (p 1 1) (p 1 2) 0 0 1) * p 2 1) = 0
    unfold t3
    grind
  · show (((0 + (t3 0 0 1 (p 1 0) (p 1 1) (p 1 2) (p 2 0) (p 2 1) (p 2 2)) * p 0 2) + (t3 (p 0 0) (p 0 1) (p 0 2) 0 0 1 (p 2 0) (p 2 1) (p 2 2)) * p 1 2) + (t3 (p 0 0) (p 0 1) (p 0 2) (p 1 0) (p 1 1) (p 1 2) 0 0 1) * p 2 2) = t3 (p 0 0) (p 0 1) (p 0 2) (p 1 0) (p 1 1) (p 1 2) (p 2 0) (p 2 1) (p 2 2)
    unfold t3
    grind
theorem itwo3 (p : Fn) {i j : Nat} (hi : i < 3) (hj : j < 3) : sm 3 (fun c => cf 3 p i c * p j c) = if i = j then dt 3 p else 0 := by
  rw [← lin3 p (p j) hi]
  have h : i = 0 ∨ i = 1 ∨ i = 2 := by omega
  have h' : j = 0 ∨ j = 1 ∨ j = 2 := by omega
  rcases h with rfl | rfl | rfl <;> rcases h' with rfl | rfl | rfl
  · rfl
  · show t3 (p 1 0) (p 1 1) (p 1 2) (p 1 0) (p 1 1) (p 1 2) (p 2 0) (p 2 1) (p 2 2) = 0
    unfold t3
    grind
  · show t3 (p 2 0) (p 2 1) (p 2 2) (p 1 0) (p 1 1) (p 1 2) (p 2 0) (p 2 1) (p 2 2) = 0
    unfold t3
    grind
  · show t3 (p 0 0) (p 0 1) (p 0 2) (p 0 0) (p 0 1) (p 0 2) (p 2 0) (p 2 1) (p 2 2) = 0
    unfold t3
    grind
  · rfl
  · show t3 (p 0 0) (p 0 1) (p 0 2) (p 2 0) (p 2 1) (p 2 2) (p 2 0) (p 2 1) (p 2 2) = 0
    unfold t3
    grind
  · show t3 (p 0 0) (p 0 1) (p 0 2) (p 1 0) (p 1 1) (p 1 2) (p 0 0) (p 0 1) (p 0 2) = 0
    unfold t3
    grind
  · show t3 (p 0 0) (p 0 1) (p 0 2) (p 1 0) (p 1 1) (p 1 2) (p 1 0) (p 1 1) (p 1 2) = 0
    unfold t3
    grind
  · rfl
theorem lin4 (p : Fn) (x : Nat → Int) {i : Nat} (hi : i < 4) : dt 4 (rowset p i x) = sm 4 fun c => cf 4 p i c * x c := by
  have h : i = 0 ∨ i = 1 ∨ i = 2 ∨ i = 3 := by omega
  rcases h with rfl | rfl | rfl | rfl
  · show t4 (x 0) (x 1) (x 2) (x 3) (p 1 0) (p 1 1) (p 1 2) (p 1 3) (p 2 0) (p 2 1) (p 2 2) (p 2 3) (p 3 0) (p 3 1) (p 3 2) (p 3 3) = ((((0 + (t4 1 0 0 0 (p 1 0) (p 1 1) (p 1 2) (p 1 3) (p 2 0) (p 2 1) (p 2 2) (p 2 3) (p 3 0) (p 3 1) (p 3 2) (p 3 3)) * x 0) + (t4 0 1 0 0 (p 1 0) (p 1 1) (p 1 2) (p 1 3) (p 2 0) (p 2 1) (p 2 2) (p 2 3) (p 3 0) (p 3 1) (p 3 2) (p 3 3)) * x 1) + (t4 0 0 1 0 (p 1 0) (p 1 1) (p 1 2) (p 1 3) (p 2 0) (p 2 1) (p 2 2) (p 2 3) (p 3 0) (p 3 1) (p 3 2) (p 3 3)) * x 2) + (t4 0 0 0 1 (p 1 0) (p 1 1) (p 1 2) (p 1 3) (p 2 0) (p 2 1) (p 2 2) (p 2 3) (p 3 0) (p 3 1) (p 3 2) (p 3 3)) * x 3)
    unfold t4
    grind
  · show t4 (p 0 0) (p 0 1) (p 0 2) (p 0 3) (x 0) (x 1) (x 2) (x 3) (p 2 0) (p 2 1) (p 2 2) (p 2 3) (p 3 0) (p 3 1) (p 3 2) (p 3 3) = ((((0 + (t4 (p 0 0) (p 0 1) (p 0 2) (p 0 3) 1 0 0 0 (p 2 0) (p 2 1) (p 2 2) (p 2 3) (p 3 0) (p 3 1) (p 3 2) (p 3 3)) * x 0) + (t4 (p 0 0) (p 0 1) (p 0 2) (p 0 3) 0 1 0 0 (p 2 0) (p 2 1) (p 2 2) (p 2 3) (p 3 0) (p 3 1) (p 3 2) (p 3 3)) * x 1) + (t4 (p 0 0) (p 0 1) (p 0 2) (p 0 3) 0 0 1 0 (p 2 0) (p 2 1) (p 2 2) (p 2 3) (p 3 0) (p 3 1) (p 3 2) (p 3 3)) * x 2) + (t4 (p 0 0) (p 0 1) (p 0 2) (p 0 3) 0 0 0 1 (p 2 0) (p 2 1) (p 2 2) (p 2 3) (p 3 0) (p 3 1) (p 3 2) (p 3 3)) * x 3)
    unfold t4
    grind
  · show t4 (p 0 0) (p 0 1) (p 0 2) (p 0 3) (p 1 0) (p 1 1) (p 1 2) (p 1 3) (x 0) (x 1) (x 2) (x 3) (p 3 0) (p 3 1) (p 3 2) (p 3 3) = ((((0 + (t4 (p 0 0) (p 0 1) (p 0 2) (p 0 3) (p 1 0) (p 1 1) (p 1 2) (p 1 3) 1 0 0 0 (p 3 0) (p 3 1) (p 3 2) (p 3 3)) * x 0) + (t4 (p 0 0) (p 0 1) (p 0 2) (p 0 3) (p 1 0) (p 1 1) (p 1 2) (p 1 3) 0 1 0 0 (p 3 0) (p 3 1) (p 3 2) (p 3 3)) * x 1) + (t4 (p 0 0) (p 0 1) (p 0 2) (p 0 3) (p 1 0) (p 1 1) (p 1 2) (p 1 3) 0 0 1 0 (p 3 0) (p 3 1) (p 3 2) (p 3 3)) * x 2) + (t4 (p 0 0) (p 0 1) (p 0 2) (p 0 3) (p 1 0) (p 1 1) (p 1 2) (p 1 3) 0 0 0 1 (p 3 0) (p 3 1) (p 3 2) (p 3 3)) * x 3)
    unfold t4
    grind
  · show t4 (p 0 0) (p 0 1) (p 0 2) (p 0 3) (p 1 0) (p 1 1) (p 1 2) (p 1 3) (p 2 0) (p 2 1) (p 2 2) (p 2 3) (x 0) (x 1) (x 2) (x 3) = ((((0 + (t4 (p 0 0) (p 0 1) (p 0 2) (p 0 3) (p 1 0) (p 1 1) (p 1 2) (p 1 3) (p 2 0) (p 2 1) (p 2 2) (p 2 3) 1 0 0 0) * x 0) + (t4 (p 0 0) (p 0 1) (p 0 2) (p 0 3) (p 1 0) (p 1 1) (p 1 2) (p 1 3) (p 2 0) (p 2 1) (p 2 2) (p 2 3) 0 1 0 0) * x 1) + (t4 (p 0 0) (p 0 1) (p 0 2) (p 0 3) (p 1 0) (p 1 1) (p 1 2) (p 1 3) (p 2 0) (p 2 1) (p 2 2) (p 2 3) 0 0 1 0) * x 2) + (t4 (p 0 0) (p 0 1) (p 0 2) (p 0 3) (p 1 0) (p 1 1) (p 1 2) (p 1 3) (p 2 0) (p 2 1) (p 2 2) (p 2 3) 0 0 0 1) * x 3)
    unfold t4
    grind
theorem ione4 (p : Fn) {c k : Nat} (hc : c < 4) (hk : k < 4) : sm 4 (fun i => cf 4 p i c * p i k) = if c = k then dt 4 p else 0 := by
  have h : c = 0 ∨ c = 1 ∨ c = 2 ∨ c = 3 := by omega
  have h' : k = 0 ∨ k = 1 ∨ k = 2 ∨ k = 3 := by omega
  rcases h with rfl | rfl | rfl | rfl <;> rcases h' with rfl | rfl | rfl | rfl
  · show ((((0 + (t4 1 0 0 0 (p 1 0) (p 1 1) (p 1 2) (p 1 3) (p 2 0) (p 2 1) (p 2 2) (p 2 3) (p 3 0) (p 3 1) (p 3 2) (p 3 3)) * p 0 0) + (t4 (p 0 0) (p 0 1) (p 0 2) (p 0 3) 1 0 0 0 (p 2 0) (p 2 1) (p 2 2) (p 2 3) (p 3 0) (p 3 1) (p 3 2) (p 3 3)) * p 1 0) + (t4 (p 0 0) (p 0 1) (p 0 2) (p 0 3) (p 1 0) (p 1 1) (p 1 2) (p 1 3) 1 0 0 0 (p 3 0) (p 3 1) (p 3 2) (p 3 3)) * p 2 0) + (t4 (p 0 0) (p 0 1) (p 0 2) (p 0 3) (p 1 0) (p 1 1) (p 1 2) (p 1 3) (p 2 0) (p 2 1) (p 2 2) (p 2 3) 1 0 0 0) * p 3 0) = t4 (p 0 0) (p 0 1) (p 0 2) (p 0 3) (p 1 0) (p 1 1) (p 1 2) (p 1 3) (p 2 0) (p 2 1) (p 2 2) (p 2 3) (p 3 0) (p 3 1) (p 3 2) (p 3 3)
    unfold t4
    grind
  · show ((((0 + (t4 1 0 0 0 (p 1 0) (p 1 1) (p 1 2) (p 1 3) (p 2 0) (p 2 1) (p 2 2) (p 2 3) (p 3 0) (p 3 1) (p 3 2) (p 3 3)) * p 0 1) + (t4 (p 0 0) (p 0 1) (p 0 2) (p 0 3) 1 0 0 0 (p 2 0) (p 2 1) (p 2 2) (p 2 3) (p 3 0) (p 3 1) (p 3 2) (p 3 3)) * p 1 1) + (t4 (p 0 0) (p 0 1) (p 0 2) (p 0 3) (p 1 0) (p 1 1) (p 1 2) (p 1 3) 1 0 0 0 (p 3 0) (p 3 1) (p 3 2) (p 3 3)) * p 2 1) + (t4 (p 0 0) (p 0 1) (p 0 2) (p 0 3) (p 1 0) (p 1 1) (p 1 2) (p 1 3) (p 2 0) (p 2 1) (p 2 2) (p 2 3) 1 0 0 0) * p 3 1) = 0
    unfold t4
    grind
  · show ((((0 + (t4 1 0 0 0 (p 1 0) (p 1 1) (p 1 2) (p 1 3) (p 2 0) (p 2 1) (p 2 2) (p 2 3) (p 3 0) (p 3 1) (p 3 2) (p 3 3)) * p 0 2) + (t4 (p 0 0) (p 0 1) (p 0 2) (p 0 3) 1 0 0 0 (p 2 0) (p 2 1) (p 2 2) (p 2 3) (p 3 0) (p 3 1) (p 3 2) (p 3 3)) * p 1 2) + (t4 (p 0 0) (p 0 1) (p 0 2) (p 0 3) (p 1 0) (p 1 1) (p 1 2) (p 1 3) 1 0 0 0 (p 3 0) (p 3 1) (p 3 2) (p 3 3)) * p 2 2) + (t4 (p 0 0) (p 0 1) (p 0 2) (p 0 3) (p 1 0) (p 1 1) (p 1 2) (p 1 3) (p 2 0) (p 2 1) (p 2 2) (p 2 3) 1 0 0 0) * p 3 2) = 0
    unfold t4
    grind
  · show ((((0 + (t4 1 0 0 0 (p 1 0) (p 1 1) (p 1 2) (p 1 3) (p 2 0) (p 2 1) (p 2 2) (p 2 3) (p 3 0) (p 3 1) (p 3 2) (p 3 3)) * p 0 3) + (t4 (p 0 0) (p 0 1) (p 0 2) (p 0 3) 1 0 0 0 (p 2 0) (p 2 1) (p 2 2) (p 2 3) (p 3 0) (p 3 1) (p 3 2) (p 3 3)) * p 1 3) + (t4 (p 0 0) (p 0 1) (p 0 2) (p 0 3) (p 1 0) (p 1 1) (p 1 2) (p 1 3) 1 0 0 0 (p 3 0) (p 3 1) (p 3 2) (p 3 3)) * p 2 3) + (t4 (p 0 0) (p 0 1) (p 0 2) (p 0 3) (p 1 0) (p 1 1) (p 1 2) (p 1 3) (p 2 0) (p 2 1) (p 2 2) (p 2 3) 1 0 0 0) * p 3 3) = 0
    unfold t4
    grind
  · show ((((0 + (t4 0 1 0 0 (p 1 0) (p 1 1) (p 1 2) (p 1 3) (p 2 0) (p 2 1) (p 2 2) (p 2 3) (p 3 0) (p 3 1) (p 3 2) (p 3 3)) * p 0 0) + (t4 (p 0 0) (p 0 1) (p 0 2) (p 0 3) 0 1 0 0 (p 2 0) (p 2 1) (p 2 2) (p 2 3) (p 3 0) (p 3 1) (p 3 2) (p 3 3)) * p 1 0) + (t4 (p 0 0) (p 0 1) (p 0 2) (p 0 3) (p 1 0) (p 1 1) (p 1 2) (p 1 3) 0 1 0 0 (p 3 0) (p 3 1) (p 3 2) (p 3 3)) * p 2 0) + (t4 (p 0 0) (p 0 1) (p 0 2) (p 0 3) (p 1 0) (p 1 1) (p 1 2) (p 1 3) (p 2 0) (p 2 1) (p 2 2) (p 2 3) 0 1 0 0) * p 3 0) = 0
    unfold t4
    grind
  · show ((((0 + (t4 0 1 0 0 (p 1 0) (p 1 1) (p 1 2) (p 1 3) (p 2 0) (p 2 1) (p 2 2) (p 2 3) (p 3 0) (p 3 1) (p 3 2) (p 3 3)) * p 0 1) + (t4 (p 0 0) (p 0 1) (p 0 2) (p 0 3) 0 1 0 0 (p 2 0) (p 2 1) (p 2 2) (p 2 3) (p 3 0) (p 3 1) (p 3 2) (p 3 3)) * p 1 1) + (t4 (p 0 0) (p 0 1) (p 0 2) (p 0 3) (p 1 0) (p 1 1) (p 1 2) (p 1 3) 0 1 0 0 (p 3 0) (p 3 1) (p 3 2) (p 3 3)) * p 2 1) + (t4 (p 0 0) (p 0 1) (p 0 2) (p 0 3) (p 1 0) (p 1 1) (p 1 2) (p 1 3) (p 2 0) (p 2 1) (p 2 2) (p 2 3) 0 1 0 0) * p 3 1) = t4 (p 0 0) (p 0 1) (p 0 2) (p 0 3) (p 1 0) (p 1 1) (p 1 2) (p 1 3) (p 2 0) (p 2 1) (p 2 2) (p 2 3) (p 3 0) (p 3 1) (p 3 2) (p 3 3)
    unfold t4
    grind
  · show ((((0 + (t4 0 1 0 0 (p 1 0) (p 1 1) (p 1 2) (p 1 3) (p 2 0) (p 2 1) (p 2 2) (p 2 3) (p 3 0) (p 3 1) (p 3 2) (p 3 3)) * p 0 2) + (t4 (p 0 0) (p 0 1) (p 0 2) (p 0 3) 0 1 0 0 (p 2 0) (p 2 1) (p 2 2) (p 2 3) (p 3 0) (p 3 1) (p 3 2) (p 3 3)) * p 1 2) + (t4 (p 0 0) (p 0 1) (p 0 2) (p 0 3) (p 1 0) (p 1 1) (p 1 2) (p 1 3) 0 1 0 0 (p 3 0) (p 3 1) (p 3 2) (p 3 3)) * p 2 2) + (t4 (p 0 0) (p 0 1) (p 0 2) (p 0 3) (p 1 0) (p 1 1) (p 1 2) (p 1 3) (p 2 0) (p 2 1) (p 2 2) (p 2 3) 0 1 0 0) * p 3 2) = 0
    unfold t4
    grind
  · show ((((0 + (t4 0 1 0 0 (p 1 0) (p 1 1) (p 1 2) (p 1 3) (p 2 0) (p 2 1) (p 2 2) (p 2 3) (p 3 0) (p 3 1) (p 3 2) (p 3 3)) * p 0 3) + (t4 (p 0 0) (p 0 1) (p 0 2) (p 0 3) 0 1 0 0 (p 2 0) (p 2 1) (p 2 2) (p 2 3) (p 3 0) (p 3 1) (p 3 2) (p 3 3)) * p 1 3) + (t4 (p 0 0) (p 0 1) (p 0 2) (p 0 3) (p 1 0) (p 1 1) (p 1 2) (p 1 3) 0 1 0 0 (p 3 0) (p 3 1) (p 3 2) (p 3 3)) * p 2 3) + (t4 (p 0 0) (p 0 1) (p 0 2) (p 0 3) (p 1 0) (p 1 1) (p 1 2) (p 1 3) (p 2 0) (p 2 1) (p 2 2) (p 2 3) 0 1 0 0) * p 3 3) = 0
    unfold t4
    grind
  · show ((((0 + (t4 0 0 1 0 (p 1 0) (p 1 1) (p 1 2) (p 1 3) (p 2 0) (p 2 1) (p 2 2) (p 2 3) (p 3 0) (p 3 1) (p 3 2) (p 3 3)) * p 0 0) + (t4 (p 0 0) (p 0 1) (p 0 2) (p 0 3) 0 0 1 0 (p 2 0) (p 2 1) (p 2 2) (p 2 3) (p 3 0) (p 3 1) (p 3 2) (p 3 3)) * p 1 0) + (t4 (p 0 0) (p 0 1) (p 0 2) (p 0 3) (p 1 0) (p 1 1) (p 1 2) (p 1 3) 0 0 1 0 (p 3 0) (p 3 1) (p 3 2) (p 3 3)) * p 2 0) + (t4 (p 0 0) (p 0 1) (p 0 2) (p 0 3) (p 1 0) (p 1 1) (p 1 2) (p 1 3) (p 2 0) (p 2 1) (p 2 2) (p 2 3) 0 0 1 0) * p 3 0) = 0
    unfold t4
    grind
  · show ((((0 + (t4 0 0 1 0 (p 1 0) (p 1 1) (p 1 2) (p 1 3) (p 2 0) (p 2 1) (p 2 2) (p 2 3) (p 3 0) (p 3 1) (p 3 2) (p 3 3)) * p 0 1) + (t4 (p 0 0) (p 0 1) (p 0 2) (p 0 3) 0 0 1 0 (p 2 0) (p 2 1) (p 2 2) (p 2 3) (p 3 0) (p 3 1) (p 3 2) (p 3 3)) * p 1 1) + (t4 (p 0 0) (p 0 1) (p 0 2) (p 0 3) (p 1 0) (p 1 1) (p 1 2) (p 1 3) 0 0 1 0 (p 3 0) (p 3 1) (p 3 2) (p 3 3)) * p 2 1) + (t4 (p 0 0) (p 0 1) (p 0 2) (p 0 3) (p 1 0) (p 1 1) (p 1 2) (p 1 3) (p 2 0) (p 2 1) (p 2 2) (p 2 3) 0 0 1 0) * p 3 1) = 0
    unfold t4
    grind
  · show ((((0 + (t4 0 0 1 0 (p 1 0) (p 1 1) (p 1 2) (p 1 3) (p 2 0) (p 2 1) (p 2 2) (p 2 3) (p 3 0) (p 3 1) (p 3 2) (p 3 3)) * p 0 2) + (t4 (p 0 0) (p 0 1) (p 0 2) (p 0 3) 0 0 1 0 (p 2 0) (p 2 1) (p 2 2) (p 2 3) (p 3 0) (p 3 1) (p 3 2) (p 3 3)) * p 1 2) + (t4 (p 0 0) (p 0 1) (p 0 2) (p 0 3) (p 1 0) (p 1 1) (p 1 2) (p 1 3) 0 0 1 0 (p 3 0) (p 3 1) (p 3 2) (p 3 3)) * p 2 2) + (t4 (p 0 0) (p 0 1) (p 0 2) (p 0 3) (p 1 0) (p 1 1) (p 1 2) (p 1 3) (p 2 0) (p 2 1) (p 2 2) (p 2 3) 0 0 1 0) * p 3 2) = t4 (p 0 0) (p 0 1) (p 0 2) (p 0 3) (p 1 0) (p 1 1) (p 1 2) (p 1 3) (p 2 0) (p 2 1) (p 2 2) (p 2 3) (p 3 0) (p 3 1) (p 3 2) (p 3 3)
    unfold t4
    grind
  · show ((((0 + (t4 0 0 1 0 (p 1 0) (p 1 1) (p 1 2) (p 1 3) (p 2 0) (p 2 1) (p 2 2) (p 2 3) (p 3 0) (p 3 1) (p 3 2) (p 3 3)) * p 0 3) + (t4 (p 0 0) (p 0 1) (p 0 2) (p 0 3) 0 0 1 0 (p 2 0) (p 2 1) (p 2 2) (p 2 3) (p 3 0) (p 3 1) (p 3 2) (p 3 3)) * p 1 3) + (t4 (p 0 0) (p 0 1) (p 0 2) (p 0 3) (p 1 0) (p 1 1) (p 1 2) (p 1 3) 0 0 1 0 (p 3 0) (p 3 1) (p 3 2) (p 3 3)) * p 2 3) + (t4 (p 0 0) (p 0 1) (p 0 2) (p 0 3) (p 1 0) (p 1 1) (p 1 2) (p 1 3) (p 2 0) (p 2 1) (p 2 2) (p 2 3) 0 0 1 0) * p 3 3) = 0
    unfold t4
    grind
  · show ((((0 + (t4 0 0 0 1 (p 1 0) (p 1 1) (p 1 2) (p 1 3) (p 2 0) (p 2 1) (p 2 2) (p 2 3) (p 3 0) (p 3 1) (p 3 2) (p 3 3)) * p 0 0) + (t4 (p 0 0) (p 0 1) (p 0 2) (p 0 3) 0 0 0 1 (p 2 0) (p 2 1) (p 2 2) (p 2 3) (p 3 0) (p 3 1) (p 3 2) (p 3 3)) * p 1 0) + (t4 (p 0 0) (p 0 1) (p 0 2) (p 0 3) (p 1 0) (p 1 1) (p 1 2) (p 1 3) 0 0 0 1 (p 3 0) (p 3 1) (p 3 2) (p 3 3)) * p 2 0) + (t4 (p 0 0) (p 0 1) (p 0 2) (p 0 3) (p 1 0) (p 1 1) (p 1 2) (p 1 3) (p 2 0) (p 2 1) (p 2 2) (p 2 3) 0 0 0 1) * p 3 0) = 0
    unfold t4
    grind
  · show ((((0 + (t4 0 0 0 1 (p 1 0) (p 1 1) (p 1 2) (p 1 3) (p 2 0) (p 2 1) (p 2 2) (p 2 3) (p 3 0) (p 3 1) (p 3 2) (p 3 3)) * p 0 1) + (t4 (p 0 0) (p 0 1) (p 0 2) (p 0 3) 0 0 0 1 (p 2 0) (p 2 1) (p 2 2) (p 2 3) (p 3 0) (p 3 1) (p 3 2) (p 3 3)) * p 1 1) + (t4 (p 0 0) (p 0 1) (p 0 2) (p 0 3) (p 1 0) (p 1 1) (p 1 2) (p 1 3) 0 0 0 1 (p 3 0) (p 3 1) (p 3 2) (p 3 3)) * p 2 1) + (t4 (p 0 0) (p 0 1) (p 0 2) (p 0 3) (p 1 0) (p 1 1) (p 1 2) (p 1 3) (p 2 0) (p 2 1) (p 2 2) (p 2 3) 0 0 0 1) * p 3 1) = 0
    unfold t4
    grind
  · show ((((0 + (t4 0 0 0 1 (p 1 0) (p 1 1) (p 1 2) (p 1 3) (p 2 0) (p 2 1) (p 2 2) (p 2 3) (p 3 0) (p 3 1) (p 3 2) (p 3 3)) * p 0 2) + (t4 (p 0 0) (p 0 1) (p 0 2) (p 0 3) 0 0 0 1 (p 2 0) (p 2 1) (p 2 2) (p 2 3) (p 3 0) (p 3 1) (p 3 2) (p 3 3)) * p 1 2) + (t4 (p 0 0) (p 0 1) (p 0 2) (p 0 3) (p 1 0) (p 1 1) (p 1 2) (p 1 3) 0 0 0 1 (p 3 0) (p 3 1) (p 3 2) (p 3 3)) * p 2 2) + (t4 (p 0 0) (p 0 1) (p 0 2) (p 0 3) (p 1 0) (p 1 1) (p 1 2) (p 1 3) (p 2 0) (p 2 1) (p 2 2) (p 2 3) 0 0 0 1) * p 3 2) = 0
    unfold t4
    grind
  · show ((((0 + (t4 0 0 0 1 (p 1 0) (p 1 1) (p 1 2) (p 1 3) (p 2 0) (p 2 1) (p 2 2) (p 2 3) (p 3 0) (p 3 1) (p 3 2) (p 3 3)) * p 0 3) + (t4 (p 0 0) (p 0 1) (p 0 2) (p 0 3) 0 0 0 1 (p 2 0) (p 2 1) (p 2 2) (p 2 3) (p 3 0) (p 3 1) (p 3 2) (p 3 3)) * p 1 3) + (t4 (p 0 0) (p 0 1) (p 0 2) (p 0 3) (p 1 0) (p 1 1) (p 1 2) (p 1 3) 0 0 0 1 (p 3 0) (p 3 1) (p 3 2) (p 3 3)) * p 2 3) + (t4 (p 0 0) (p 0 1) (p 0 2) (p 0 3) (p 1 0) (p 1 1) (p 1 2) (p 1 3) (p 2 0) (p 2 1) (p 2 2) (p 2 3) 0 0 0 1) * p 3 3) = t4 (p 0 0) (p 0 1) (p 0 2) (p 0 3) (p 1 0) (p 1 1) (p 1 2) (p 1 3) (p 2 0) (p 2 1) (p 2 2) (p 2 3) (p 3 0) (p 3 1) (p 3 2) (p 3 3)
    unfold t4
    grind
theorem itwo4 (p : Fn) {i j : Nat} (hi : i < 4) (hj : j < 4) : sm 4 (fun c => cf 4 p i c * p j c) = if i = j then dt 4 p else 0 := by
  rw [← lin4 p (p j) hi]
  have h : i = 0 ∨ i = 1 ∨ i = 2 ∨ i = 3 := by omega
  have h' : j = 0 ∨ j = 1 ∨ j = 2 ∨ j = 3 := by omega
  rcases h with rfl | rfl | rfl | rfl <;> rcases h' with rfl | rfl | rfl | rfl
  · rfl
  · show t4 (p 1 0) (p 1 1) (p 1 2) (p 1 3) (p 1 0) (p 1 1) (p 1 2) (p 1 3) (p 2 0) (p 2 1) (p 2 2) (p 2 3) (p 3 0) (p 3 1) (p 3 2) (p 3 3) = 0
    unfold t4
    grind
  · show t4 (p 2 0) (p 2 1) (p 2 2) (p 2 3) (p 1 0) (p 1 1) (p 1 2) (p 1 3) (p 2 0) (p 2 1) (p 2 2) (p 2 3) (p 3 0) (p 3 1) (p 3 2) (p 3 3) = 0
    unfold t4
    grind
  · show t4 (p 3 0) (p 3 1) (p 3 2) (p 3 3) (p 1 0) (p 1 1) (p 1 2) (p 1 3) (p 2 0) (p 2 1) (p 2 2) (p 2 3) (p 3 0) (p 3 1) (p 3 2) (p 3 3) = 0
    unfold t4
    grind
  · show t4 (p 0 0) (p 0 1) (p 0 2) (p 0 3) (p 0 0) (p 0 1) (p 0 2) (p 0 3) (p 2 0) (p 2 1) (p 2 2) (p 2 3) (p 3 0) (p 3 1) (p 3 2) (p 3 3) = 0
    unfold t4
    grind
  · rfl
  · show t4 (p 0 0) (p 0 1) (p 0 2) (p 0 3) (p 2 0) (p 2 1) (p 2 2) (p 2 3) (p 2 0) (p 2 1) (p 2 2) (p 2 3) (p 3 0) (p 3 1) (p 3 2) (p 3 3) = 0
    unfold t4
    grind
  · show t4 (p 0 0) (p 0 1) (p 0 2) (p 0 3) (p 3 0) (p 3 1) (p 3 2) (p 3 3) (p 2 0) (p 2 1) (p 2 2) (p 2 3) (p 3 0) (p 3 1) (p 3 2) (p 3 3) = 0
    unfold t4
    grind
  · show t4 (p 0 0) (p 0 1) (p 0 2) (p 0 3) (p 1 0) (p 1 1) (p 1 2) (p 1 3) (p 0 0) (p 0 1) (p 0 2) (p 0 3) (p 3 0) (p 3 1) (p 3 2) (p 3 3) = 0
    unfold t4
    grind
  · show t4 (p 0 0) (p 0 1) (p 0 2) (p 0 3) (p 1 0) (p 1 1) (p 1 2) (p 1 3) (p 1 0) (p 1 1) (p 1 2) (p 1 3) (p 3 0) (p 3 1) (p 3 2) (p 3 3) = 0
    unfold t4
    grind
  · rfl
  · show t4 (p 0 0) (p 0 1) (p 0 2) (p 0 3) (p 1 0) (p 1 1) (p 1 2) (p 1 3) (p 3 0) (p 3 1) (p 3 2) (p 3 3) (p 3 0) (p 3 1) (p 3 2) (p 3 3) = 0
    unfold t4
    grind
  · show t4 (p 0 0) (p 0 1) (p 0 2) (p 0 3) (p 1 0) (p 1 1) (p 1 2) (p 1 3) (p 2 0) (p 2 1) (p 2 2) (p 2 3) (p 0 0) (p 0 1) (p 0 2) (p 0 3) = 0
    unfold t4
    grind
  · show t4 (p 0 0) (p 0 1) (p 0 2) (p 0 3) (p 1 0) (p 1 1) (p 1 2) (p 1 3) (p 2 0) (p 2 1) (p 2 2) (p 2 3) (p 1 0) (p 1 1) (p 1 2) (p 1 3) = 0
    unfold t4
    grind
  · show t4 (p 0 0) (p 0 1) (p 0 2) (p 0 3) (p 1 0) (p 1 1) (p 1 2) (p 1 3) (p 2 0) (p 2 1) (p 2 2) (p 2 3) (p 2 0) (p 2 1) (p 2 2) (p 2 3) = 0
    unfold t4
    grind
  · rfl
theorem detM1 {M : Mx} (h : M.length = 1) : K84.detM M = dt 1 (E M) := by
  unfold K84.detM
  rw [h]
  have ho : K84.ordersM 1 = [[0]] := by decide
  rw [ho]
  simp only [K84.sumM, h]
  show (1 * E M 0 0 + 0) = (E M 0 0)
  grind
theorem detM2 {M : Mx} (h : M.length = 2) : K84.detM M = dt 2 (E M) := by
  unfold K84.detM
  rw [h]
  have ho : K84.ordersM 2 = [[0, 1], [1, 0]] := by decide
  rw [ho]
  simp only [K84.sumM, h]
  show (1 * E M 0 0 * E M 1 1 + ((-1) * E M 0 1 * E M 1 0 + 0)) = t2 (E M 0 0) (E M 0 1) (E M 1 0) (E M 1 1)
  unfold t2
  grind
theorem detM3 {M : Mx} (h : M.length = 3) : K84.detM M = dt 3 (E M) := by
  unfold K84.detM
  rw [h]
  have ho : K84.ordersM 3 = [[0, 1, 2], [0, 2, 1], [1, 0, 2], [1, 2, 0], [2, 0, 1], [2, 1, 0]] := by decide
  rw [ho]
  simp only [K84.sumM, h]
  show (1 * E M 0 0 * E M 1 1 * E M 2 2 + ((-1) * E M 0 0 * E M 1 2 * E M 2 1 + ((-1) * E M 0 1 * E M 1 0 * E M 2 2 + (1 * E M 0 1 * E M 1 2 * E M 2 0 + (1 * E M 0 2 * E M 1 0 * E M 2 1 + ((-1) * E M 0 2 * E M 1 1 * E M 2 0 + 0)))))) = t3 (E M 0 0) (E M 0 1) (E M 0 2) (E M 1 0) (E M 1 1) (E M 1 2) (E M 2 0) (E M 2 1) (E M 2 2)
  unfold t3
  grind
theorem detM4 {M : Mx} (h : M.length = 4) : K84.detM M = dt 4 (E M) := by
  unfold K84.detM
  rw [h]
  have ho : K84.ordersM 4 = [[0, 1, 2, 3], [0, 1, 3, 2], [0, 2, 1, 3], [0, 2, 3, 1], [0, 3, 1, 2], [0, 3, 2, 1], [1, 0, 2, 3], [1, 0, 3, 2], [1, 2, 0, 3], [1, 2, 3, 0], [1, 3, 0, 2], [1, 3, 2, 0], [2, 0, 1, 3], [2, 0, 3, 1], [2, 1, 0, 3], [2, 1, 3, 0], [2, 3, 0, 1], [2, 3, 1, 0], [3, 0, 1, 2], [3, 0, 2, 1], [3, 1, 0, 2], [3, 1, 2, 0], [3, 2, 0, 1], [3, 2, 1, 0]] := by decide
  rw [ho]
  simp only [K84.sumM, h]
  show (1 * E M 0 0 * E M 1 1 * E M 2 2 * E M 3 3 + ((-1) * E M 0 0 * E M 1 1 * E M 2 3 * E M 3 2 + ((-1) * E M 0 0 * E M 1 2 * E M 2 1 * E M 3 3 + (1 * E M 0 0 * E M 1 2 * E M 2 3 * E M 3 1 + (1 * E M 0 0 * E M 1 3 * E M 2 1 * E M 3 2 + ((-1) * E M 0 0 * E M 1 3 * E M 2 2 * E M 3 1 + ((-1) * E M 0 1 * E M 1 0 * E M 2 2 * E M 3 3 + (1 * E M 0 1 * E M 1 0 * E M 2 3 * E M 3 2 + (1 * E M 0 1 * E M 1 2 * E M 2 0 * E M 3 3 + ((-1) * E M 0 1 * E M 1 2 * E M 2 3 * E M 3 0 + ((-1) * E M 0 1 * E M 1 3 * E M 2 0 * E M 3 2 + (1 * E M 0 1 * E M 1 3 * E M 2 2 * E M 3 0 + (1 * E M 0 2 * E M 1 0 * E M 2 1 * E M 3 3 + ((-1) * E M 0 2 * E M 1 0 * E M 2 3 * E M 3 1 + ((-1) * E M 0 2 * E M 1 1 * E M 2 0 * E M 3 3 + (1 * E M 0 2 * E M 1 1 * E M 2 3 * E M 3 0 + (1 * E M 0 2 * E M 1 3 * E M 2 0 * E M 3 1 + ((-1) * E M 0 2 * E M 1 3 * E M 2 1 * E M 3 0 + ((-1) * E M 0 3 * E M 1 0 * E M 2 1 * E M 3 2 + (1 * E M 0 3 * E M 1 0 * E M 2 2 * E M 3 1 + (1 * E M 0 3 * E M 1 1 * E M 2 0 * E M 3 2 + ((-1) * E M 0 3 * E M 1 1 * E M 2 2 * E M 3 0 + ((-1) * E M 0 3 * E M 1 2 * E M 2 0 * E M 3 1 + (1 * E M 0 3 * E M 1 2 * E M 2 1 * E M 3 0 + 0)))))))))))))))))))))))) = t4 (E M 0 0) (E M 0 1) (E M 0 2) (E M 0 3) (E M 1 0) (E M 1 1) (E M 1 2) (E M 1 3) (E M 2 0) (E M 2 1) (E M 2 2) (E M 2 3) (E M 3 0) (E M 3 1) (E M 3 2) (E M 3 3)
  unfold t4
  grind
theorem lin_all {n : Nat} (h1 : 1 ≤ n) (hn : n ≤ 4) (p : Fn) (x : Nat → Int) {i : Nat} (hi : i < n) : dt n (rowset p i x) = sm n fun c => cf n p i c * x c := by
  have hN : n = 1 ∨ n = 2 ∨ n = 3 ∨ n = 4 := by omega
  rcases hN with rfl | rfl | rfl | rfl
  · exact lin1 p x hi
  · exact lin2 p x hi
  · exact lin3 p x hi
  · exact lin4 p x hi
theorem ione_all {n : Nat} (h1 : 1 ≤ n) (hn : n ≤ 4) (p : Fn) {c k : Nat} (hc : c < n) (hk : k < n) : sm n (fun i => cf n p i c * p i k) = if c = k then dt n p else 0 := by
  have hN : n = 1 ∨ n = 2 ∨ n = 3 ∨ n = 4 := by omega
  rcases hN with rfl | rfl | rfl | rfl
  · exact ione1 p hc hk
  · exact ione2 p hc hk
  · exact ione3 p hc hk
  · exact ione4 p hc hk
theorem itwo_all {n : Nat} (h1 : 1 ≤ n) (hn : n ≤ 4) (p : Fn) {i j : Nat} (hi : i < n) (hj : j < n) : sm n (fun c => cf n p i c * p j c) = if i = j then dt n p else 0 := by
  have hN : n = 1 ∨ n = 2 ∨ n = 3 ∨ n = 4 := by omega
  rcases hN with rfl | rfl | rfl | rfl
  · exact itwo1 p hi hj
  · exact itwo2 p hi hj
  · exact itwo3 p hi hj
  · exact itwo4 p hi hj
theorem detM_all {n : Nat} (h1 : 1 ≤ n) (hn : n ≤ 4) {M : Mx} (h : M.length = n) : K84.detM M = dt n (E M) := by
  have hN : n = 1 ∨ n = 2 ∨ n = 3 ∨ n = 4 := by omega
  rcases hN with rfl | rfl | rfl | rfl
  · exact detM1 h
  · exact detM2 h
  · exact detM3 h
  · exact detM4 h
theorem lift_dt {n : Nat} (p : Fn) (hn : n ≤ 3) (h1 : 1 ≤ n) (hp : ∀ i, i < n + 1 → p i n = 1) : (dt (n + 1) p).natAbs = (dt n fun i k => p (i + 1) k - p 0 k).natAbs := by
  have hN : n = 1 ∨ n = 2 ∨ n = 3 := by omega
  rcases hN with rfl | rfl | rfl
  · have e : dt 2 p = -dt 1 fun i k => p (i + 1) k - p 0 k := by
      show t2 (p 0 0) (p 0 1) (p 1 0) (p 1 1) = -((p 1 0 - p 0 0))
      rw [hp 0 (by decide), hp 1 (by decide)]
      unfold t2
      grind
    rw [e, Int.natAbs_neg]
  · have e : dt 3 p = dt 2 fun i k => p (i + 1) k - p 0 k := by
      show t3 (p 0 0) (p 0 1) (p 0 2) (p 1 0) (p 1 1) (p 1 2) (p 2 0) (p 2 1) (p 2 2) = (t2 (p 1 0 - p 0 0) (p 1 1 - p 0 1) (p 2 0 - p 0 0) (p 2 1 - p 0 1))
      rw [hp 0 (by decide), hp 1 (by decide), hp 2 (by decide)]
      unfold t3 t2
      grind
    rw [e]
  · have e : dt 4 p = -dt 3 fun i k => p (i + 1) k - p 0 k := by
      show t4 (p 0 0) (p 0 1) (p 0 2) (p 0 3) (p 1 0) (p 1 1) (p 1 2) (p 1 3) (p 2 0) (p 2 1) (p 2 2) (p 2 3) (p 3 0) (p 3 1) (p 3 2) (p 3 3) = -(t3 (p 1 0 - p 0 0) (p 1 1 - p 0 1) (p 1 2 - p 0 2) (p 2 0 - p 0 0) (p 2 1 - p 0 1) (p 2 2 - p 0 2) (p 3 0 - p 0 0) (p 3 1 - p 0 1) (p 3 2 - p 0 2))
      rw [hp 0 (by decide), hp 1 (by decide), hp 2 (by decide), hp 3 (by decide)]
      unfold t4 t3
      grind
    rw [e, Int.natAbs_neg]
end Ln

set_option maxHeartbeats 4000000
namespace Ln
open Br K84 D8
def sgnD (d : Int) : Int := if d < 0 then -1 else 1
theorem sgn_mul (d : Int) : sgnD d * d = d.natAbs := by
  unfold sgnD
  split <;> omega
/-- a fraction in lowest terms, times the whole -/
theorem frac_id {a d : Int} (hd : d ≠ 0) : fracA a d * Int.fdiv ((d.natAbs : Nat) : Int) (fracB a d) = sgnD d * a := by
  obtain ⟨α, hα⟩ : ((Nat.gcd a.natAbs d.natAbs : Nat) : Int) ∣ a := Int.ofNat_dvd_left.mpr (Nat.gcd_dvd_left _ _)
  obtain ⟨δ, hδ⟩ : ((Nat.gcd a.natAbs d.natAbs : Nat) : Int) ∣ d := Int.ofNat_dvd_left.mpr (Nat.gcd_dvd_right _ _)
  have hg : gcS a d = sgnD d * ((Nat.gcd a.natAbs d.natAbs : Nat) : Int) := by
    unfold gcS sgnD
    split <;> omega
  have hg0 := (gcS_ok (a := a) hd).1
  generalize ((Nat.gcd a.natAbs d.natAbs : Nat) : Int) = h at *
  have hσ : sgnD d = 1 ∨ sgnD d = -1 := by unfold sgnD; split <;> simp
  have hh : h ≠ 0 := fun z => hd (by rw [hδ, z, Int.zero_mul])
  have e1 : fracA a d = sgnD d * α := by
    unfold fracA
    have : a = gcS a d * (sgnD d * α) := by
      rw [hg]
      rcases hσ with q | q <;> rw [q] <;> rw [hα] <;> grind
    rw [show a.fdiv (gcS a d) = (gcS a d * (sgnD d * α)).fdiv (gcS a d) by rw [← this]]
    exact Int.mul_fdiv_cancel_left _ hg0
  have e2 : fracB a d = sgnD d * δ := by
    unfold fracB
    have : d = gcS a d * (sgnD d * δ) := by
      rw [hg]
      rcases hσ with q | q <;> rw [q] <;> grind
    rw [show d.fdiv (gcS a d) = (gcS a d * (sgnD d * δ)).fdiv (gcS a d) by rw [← this]]
    exact Int.mul_fdiv_cancel_left _ hg0
  have hδ0 : sgnD d * δ ≠ 0 := fun z => by
    rcases Int.mul_eq_zero.mp z with q | q
    · rcases hσ with r | r <;> rw [r] at q <;> cases q
    · exact hd (by rw [hδ, q, Int.mul_zero])
  have e3 : ((d.natAbs : Nat) : Int) = (sgnD d * δ) * h := by
    rw [← sgn_mul]
    have : sgnD d * d = sgnD d * (h * δ) := by rw [← hδ]
    rw [this]
    grind
  rw [e1, e2, e3, Int.mul_fdiv_cancel_left _ hδ0, hα]
  grind
theorem E_set {n : Nat} {M : Mx} (S : Shp n M) {i : Nat} (hi : i < n) (x : List Int) {r c : Nat} (hr : r < n) : E (M.set i x) r c = rowset (E M) i (co x) r c := by
  unfold E rowset
  rw [List.getElem?_set]
  by_cases h : i = r
  · subst h
    rw [if_pos rfl, if_pos (by rw [S.len]; exact hi), if_pos rfl]
    rfl
  · rw [if_neg h, if_neg (fun z => h z.symm)]
theorem set_len {M : Mx} (i : Nat) (x : List Int) : (M.set i x).length = M.length := List.length_set
theorem co_unV {n k c : Nat} (hc : c < n) : co (unV n k) c = if c = k then 1 else 0 := by
  unfold unV
  show co (of n _) c = _
  rw [co_of hc]
  by_cases e : c = k
  · subst e
    rw [if_pos (by simp), if_pos rfl]
  · rw [if_neg (by simp; omega), if_neg e]
theorem E_row {M : Mx} {i k : Nat} {r : List Int} (h : M[i]? = some r) : E M i k = co r k := by
  unfold E co
  rw [h]
  rfl
section
variable {n : Nat} {M : Mx}
theorem tra_get (S : Shp n M) (h1 : 1 ≤ n) (h4 : n ≤ 100) {r : Nat} (hr : r < n) : (traM M)[r]? = some (of n fun i => E M i r) := by
  have hne : M ≠ [] := fun z => by have := S.len; rw [z] at this; simp at this; omega
  have hw : widM M = n := widM_eq ⟨by rw [S.len]; exact h4, S.row, h4⟩ hne
  unfold traM
  rw [hw, List.getElem?_map, List.getElem?_range hr]
  show some (colM M r) = _
  rw [col_of S.len]
theorem tra_len (S : Shp n M) (h1 : 1 ≤ n) (h4 : n ≤ 100) : (traM M).length = n := by
  have hne : M ≠ [] := fun z => by have := S.len; rw [z] at this; simp at this; omega
  have hw : widM M = n := widM_eq ⟨by rw [S.len]; exact h4, S.row, h4⟩ hne
  unfold traM
  rw [hw, List.length_map, List.length_range]
theorem tra_shp (S : Shp n M) (h1 : 1 ≤ n) (h4 : n ≤ 100) : Shp n (traM M) := by
  refine ⟨tra_len S h1 h4, fun r hr => ?_⟩
  obtain ⟨k, _, rfl⟩ := List.mem_map.mp hr
  unfold colM
  rw [List.length_map, S.len]
theorem E_tra (S : Shp n M) (h1 : 1 ≤ n) (h4 : n ≤ 100) {r c : Nat} (hr : r < n) (hc : c < n) : E (traM M) r c = E M c r := by
  rw [E_row (tra_get S h1 h4 hr), co_of hc]
theorem chg_get (S : Shp n M) (h1 : 1 ≤ n) (h4 : n ≤ 100) {k j r : Nat} (hr : r < n) : (chgM (traM M) (unV n k) j)[r]? = some ((of n fun i => E M i r).set j (if r = k then 1 else 0)) := by
  unfold chgM
  rw [List.getElem?_zipWith, tra_get S h1 h4 hr]
  have e : (unV n k)[r]? = some (if r = k then 1 else 0) := by
    have h := co_unV (k := k) hr
    have hl : (unV n k).length = n := by unfold unV; rw [List.length_map, List.length_range]
    unfold co at h
    rw [List.getElem?_eq_getElem (by omega)] at h ⊢
    exact congrArg some h
  rw [e]
theorem chg_shp (S : Shp n M) (h1 : 1 ≤ n) (h4 : n ≤ 100) (k j : Nat) : Shp n (chgM (traM M) (unV n k) j) := by
  refine ⟨by unfold chgM; rw [List.length_zipWith, tra_len S h1 h4]; unfold unV; rw [List.length_map, List.length_range, Nat.min_self], fun r hr => ?_⟩
  obtain ⟨i, h2, h3⟩ := List.mem_iff_getElem.mp hr
  unfold chgM at h2 h3
  rw [List.getElem_zipWith] at h3
  rw [← h3, List.length_set]
  exact (tra_shp S h1 h4).row _ (List.getElem_mem _)
theorem E_chg (S : Shp n M) (h1 : 1 ≤ n) (h4 : n ≤ 100) {k j r c : Nat} (hr : r < n) (hc : c < n) : E (chgM (traM M) (unV n k) j) r c = rowset (E M) j (unitF k) c r := by
  rw [E_row (chg_get S h1 h4 hr)]
  unfold co rowset unitF
  rw [List.getElem?_set]
  by_cases e : j = c
  · subst e
    rw [if_pos rfl, if_pos (by rw [of_len]; exact hc), if_pos rfl]
    rfl
  · rw [if_neg e, if_neg (fun z => e z.symm)]
    exact co_of hc _
theorem cram_of (S : Sqr 4 n M) (h1 : 1 ≤ n) (h4 : n ≤ 4) (hd : dt n (E M) ≠ 0) (hf : (dt n (E M)).natAbs < 64) (hcnt : ∃ L, Crs n M L ∧ L.length = (dt n (E M)).natAbs) :
    Cram n M (dt n (E M)).natAbs (fun i c => sgnD (dt n (E M)) * cf n (E M) i c) ∧ bareM (traM M) ≠ 0 := by
  have P : Shp n M := ⟨S.len, S.row⟩
  have hn : n ≤ 100 := by omega
  have hb : bareM M = dt n (E M) := bare_dt P h1 h4
  have hbt : bareM (traM M) = dt n (E M) := by
    rw [bare_dt (tra_shp P h1 hn) h1 h4, dt_congr h1 h4 (q := fun i j => E M j i) fun i j hi hj => E_tra P h1 hn hi hj, dt_tr _ h1 h4]
  have hw : whoM M = (dt n (E M)).natAbs := by unfold whoM; rw [hb]
  refine ⟨⟨h1, h4, S, by omega, hf, hw, by rw [detM_all h1 h4 S.len], fun x hx => ?_, fun k hk => ?_, fun c k hc hk => ?_, fun i j hi hj => ?_, hcnt⟩, by rw [hbt]; exact hd⟩
  · -- the factors
    have hfac : facM M x = of n fun i => sm n fun c => cf n (E M) i c * co x c := by
      unfold facM
      rw [S.len]
      show of n _ = of n _
      refine of_congr fun i hi => ?_
      rw [detM_all h1 h4 (by rw [set_len]; exact S.len), dt_congr h1 h4 (q := rowset (E M) i (co x)) fun r c hr _ => E_set P hi x hr, lin_all h1 h4 _ _ hi]
    unfold facS
    rw [detM_all h1 h4 S.len, hfac]
    unfold sgnD
    by_cases e : dt n (E M) < 0
    · rw [if_pos e, if_pos e]
      show (List.map _ _).map _ = List.map _ _
      rw [List.map_map]
      refine List.map_congr_left fun i _ => ?_
      show -(sm n fun c => cf n (E M) i c * co x c) = sm n fun c => -1 * cf n (E M) i c * co x c
      rw [sm_congr (g := fun c => -1 * cf n (E M) i c * co x c) (h := fun c => -1 * (cf n (E M) i c * co x c)) (fun c _ => Int.mul_assoc ..), sm_mul]
      omega
    · rw [if_neg e, if_neg e]
      refine of_congr fun i _ => sm_congr fun c _ => ?_
      rw [Int.one_mul]
  · -- the steps
    unfold stepsM
    rw [S.len, hw]
    show of n _ = of n _
    refine of_congr fun j hj => ?_
    have hbc : bareM (chgM (traM M) (unV n k) j) = cf n (E M) j k := by
      rw [bare_dt (chg_shp P h1 hn k j) h1 h4, dt_congr h1 h4 (q := fun r c => rowset (E M) j (unitF k) c r) fun r c hr hc => E_chg P h1 hn hr hc, dt_tr _ h1 h4]
      rfl
    rw [hbc, hbt]
    exact frac_id hd
  · rw [sm_congr (h := fun i => sgnD (dt n (E M)) * (cf n (E M) i c * E M i k)) (fun i _ => Int.mul_assoc ..), sm_mul, ione_all h1 h4 _ hc hk]
    split
    · exact sgn_mul _
    · exact Int.mul_zero _
  · rw [sm_congr (h := fun c => sgnD (dt n (E M)) * (cf n (E M) i c * E M j c)) (fun c _ => Int.mul_assoc ..), sm_mul, itwo_all h1 h4 _ hi hj]
    split
    · exact sgn_mul _
    · exact Int.mul_zero _
end
/-! ### the simplices that the law draws -/
theorem lift_get {n : Nat} {X : List (List Int)} (S : Simp 3 n X) {i : Nat} (hi : i < n + 1) : ∃ r, X[i]? = some r ∧ r.length = n ∧ (K84.liftM X)[i]? = some (r ++ [1]) := by
  have hl : i < X.length := by rw [S.len]; exact hi
  refine ⟨X[i], List.getElem?_eq_getElem hl, S.row _ (List.getElem_mem hl), ?_⟩
  unfold K84.liftM
  rw [List.getElem?_map, List.getElem?_eq_getElem hl]
  rfl
theorem lift_one {n : Nat} {X : List (List Int)} (S : Simp 3 n X) : ∀ i, i < n + 1 → E (K84.liftM X) i n = 1 := fun i hi => by
  obtain ⟨r, h1, h2, h3⟩ := lift_get S hi
  rw [E_row h3, co_app, if_neg (by omega), if_pos h2.symm]
theorem vol_dt {n : Nat} {X : List (List Int)} (S : Simp 3 n X) (h1 : 1 ≤ n) (h3 : n ≤ 3) : volM X = ((dt n fun i k => E (K84.liftM X) (i + 1) k - E (K84.liftM X) 0 k).natAbs : Nat) := by
  unfold volM
  have Q := S.sqr
  rw [detM_all h1 (by omega) Q.len, dt_congr h1 (by omega) (q := fun i k => E (K84.liftM X) (i + 1) k - E (K84.liftM X) 0 k) fun i k hi hk => ?_]
  obtain ⟨r, a1, a2, a3⟩ := lift_get S (show i + 1 < n + 1 by omega)
  obtain ⟨r0, b1, b2, b3⟩ := lift_get S (show 0 < n + 1 by omega)
  rw [E_row a3, E_row b3, co_app, co_app, if_pos (by omega), if_pos (by omega)]
  have e : (lessRows X)[i]? = some (subL r r0) := by
    unfold lessRows
    rw [List.getElem?_map]
    have : X.tail[i]? = some r := by
      rw [List.getElem?_tail]
      exact a1
    rw [this]
    have : X.head?.getD [] = r0 := by
      rw [List.head?_eq_getElem?, b1]
      rfl
    rw [this]
    rfl
  rw [E_row e]
  unfold co subL
  rw [List.getElem?_zipWith, List.getElem?_eq_getElem (by omega), List.getElem?_eq_getElem (by omega)]
  rfl
theorem bnd4 : ∀ n, n ≤ 3 → Br.bnd 4 n < 1073741824 := fun n hn => by
  have h : n = 0 ∨ n = 1 ∨ n = 2 ∨ n = 3 := by omega
  rcases h with rfl | rfl | rfl | rfl <;> decide
theorem main_ok (n : Nat) (X : List (List Int)) (hn : n ≤ 3) (hD : Drawn1 n X) : Main n X := by
  obtain ⟨S, hv⟩ := hD
  have SL := lift_sqr S
  have hdet : DetOk 4 (n + 1) (K84.liftM X) := ⟨by decide, SL, by omega, bnd4 n hn⟩
  have h1 := lift_one S
  -- the determinant
  have hvol : ((dt (n + 1) (E (K84.liftM X))).natAbs : Int) = if 0 < n then volM X else 1 := by
    by_cases h0 : n = 0
    · subst h0
      show ((E (K84.liftM X) 0 0).natAbs : Int) = 1
      rw [h1 0 (by decide)]
      rfl
    · rw [if_pos (by omega), lift_dt _ hn (by omega) h1, vol_dt S (by omega) hn]
  have hpos : 0 < (dt (n + 1) (E (K84.liftM X))).natAbs ∧ (dt (n + 1) (E (K84.liftM X))).natAbs ≤ 40 := by
    rcases hv with h0 | h0
    · rw [if_neg (by omega)] at hvol
      omega
    · split at hvol <;> omega
  have hcnt : ∃ L, Crs (n + 1) (K84.liftM X) L ∧ L.length = (dt (n + 1) (E (K84.liftM X))).natAbs := by
    obtain ⟨L, hL, hl⟩ := cntN hn (fun i k => E (K84.liftM X) (i + 1) k - E (K84.liftM X) 0 k) (by
      by_cases h0 : n = 0
      · exact .inl h0
      · refine .inr fun z => ?_
        have := lift_dt (E (K84.liftM X)) hn (by omega) h1
        rw [z] at this
        simp at this
        omega)
    refine ⟨_, crs_lift h1 hL, ?_⟩
    rw [List.length_map, hl]
    by_cases h0 : n = 0
    · rw [if_pos h0]
      rw [if_neg (by omega)] at hvol
      omega
    · rw [if_neg h0]
      exact (lift_dt _ hn (by omega) h1).symm
  obtain ⟨C, hnz⟩ := cram_of SL (by omega) (by omega) (by omega) (by omega) hcnt
  exact main_of C hdet (by rw [S.len]; omega) (fun r hr => by rw [S.row r hr]; omega) hnz hvol
end Ln

set_option maxHeartbeats 8000000
namespace K84
open PySem PySem.Spec PyProof.Rows L2 D8
/-! ### what the top has written; the law's own head -/
theorem exm_of {K : PySem.W.Frag} {S T : Addr} {b : Bool} (h1 : PySem.W.subIn K (.ref T) (.type "BaseException") = some true) (h2 : PySem.W.isClsIn K T = true) (h3 : PySem.W.typeIn K (.ref T) = some (.type "type")) (h4 : PySem.W.subIn K (.ref S) (.ref T) = some b) :
    PySem.W.exmOne K (.ref S) (.ref T) = some b := by
  have e1 : (PySem.W.subIn K (.ref T) (.type "BaseException") == some true) = true := by rw [h1] <;> rfl
  have e2 : ((PySem.W.clsIn K T).isSome && PySem.W.typeIn K (.ref T) == some (.type "type")) = true := by
    have q : (PySem.W.clsIn K T).isSome = true := h2
    rw [q, h3] <;> rfl
  show (if (PySem.W.subIn K (.ref T) (.type "BaseException") == some true) = true then (if ((PySem.W.clsIn K T).isSome && PySem.W.typeIn K (.ref T) == some (.type "type")) = true then PySem.W.subIn K (.ref S) (.ref T) else none) else none) = some b
  rw [if_pos e1, if_pos e2]
  exact h4
theorem def_mk {K : PySem.W.Frag} {h : Heap} {mg : Str → Option Value} (X : K.In h) (G : h.Ns mainGlobals mg) {x : Str} {st : Stmt} {f : Addr} {fd : FuncData} {ps : List Str} (a : PySem.W.nsIn K mainGlobals x = some (some (.ref f))) (F : Fun K x x st f fd) (b : Binds K fd ps []) : DefAt K mg x st f fd ps := ⟨F, PySem.W.mg_of X G a, b⟩
theorem ve_tail (c : Addr) : PySem.HandSPX.refsVE [.ref c, .type "ValueError", .type "Exception", .type "BaseException", .type "object"] = true := by
  show PySem.HandSPX.refsVE [.type "ValueError", .type "Exception", .type "BaseException", .type "object"] = true
  decide +kernel
theorem all_mk {l : PySem.W.OpenLaw} {w : World} {K : PySem.W.Frag} {h : Heap} {mg : Str → Option Value} {fa g_width g_transposed g_dot g_determinant g_fraction g_solved g_lifted g_box_factors g_point_of g_simplex_box g_law_deck g_law_take g_law_plain g_law_orders g_law_sign g_law_determinant g_law_less g_law_choices g_law_volume g_law_is_full g_law_points g_law_factors g_law_box g_law_refusal g_law cP cT g_iT cM g_iM : Addr} (X : K.In h) (G : h.Ns mainGlobals mg) (hfa : mg "law" = some (.ref fa)) {tkM : Tok}
    {od_width an_width od_transposed an_transposed od_dot an_dot od_determinant an_determinant od_fraction an_fraction od_solved an_solved od_lifted an_lifted od_box_factors an_box_factors od_point_of an_point_of od_simplex_box an_simplex_box od_law_deck an_law_deck od_law_take an_law_take od_law_plain an_law_plain od_law_orders an_law_orders od_law_sign an_law_sign od_law_determinant an_law_determinant od_law_less an_law_less od_law_choices an_law_choices od_law_volume an_law_volume od_law_is_full an_law_is_full od_law_points an_law_points od_law_factors an_law_factors od_law_box an_law_box od_law_refusal an_law_refusal od_law an_law od_iT an_iT od_iM an_iM : Option Addr} {sl_width sl_transposed sl_dot sl_determinant sl_fraction sl_solved sl_lifted sl_box_factors sl_point_of sl_simplex_box sl_law_deck sl_law_take sl_law_plain sl_law_orders sl_law_sign sl_law_determinant sl_law_less sl_law_choices sl_law_volume sl_law_is_full sl_law_points sl_law_factors sl_law_box sl_law_refusal sl_law sl_iT sl_iM : Array (Option Value)} {oc_width kV_width dc_width pm_width cd_width ct_width oc_transposed kV_transposed dc_transposed pm_transposed cd_transposed ct_transposed oc_dot kV_dot dc_dot pm_dot cd_dot ct_dot oc_determinant kV_determinant dc_determinant pm_determinant cd_determinant ct_determinant oc_fraction kV_fraction dc_fraction pm_fraction cd_fraction ct_fraction oc_solved kV_solved dc_solved pm_solved cd_solved ct_solved oc_lifted kV_lifted dc_lifted pm_lifted cd_lifted ct_lifted oc_box_factors kV_box_factors dc_box_factors pm_box_factors cd_box_factors ct_box_factors oc_point_of kV_point_of dc_point_of pm_point_of cd_point_of ct_point_of oc_simplex_box kV_simplex_box dc_simplex_box pm_simplex_box cd_simplex_box ct_simplex_box oc_law_deck kV_law_deck dc_law_deck pm_law_deck cd_law_deck ct_law_deck oc_law_take kV_law_take dc_law_take pm_law_take cd_law_take ct_law_take oc_law_plain kV_law_plain dc_law_plain pm_law_plain cd_law_plain ct_law_plain oc_law_orders kV_law_orders dc_law_orders pm_law_orders cd_law_orders ct_law_orders oc_law_sign kV_law_sign dc_law_sign pm_law_sign cd_law_sign ct_law_sign oc_law_determinant kV_law_determinant dc_law_determinant pm_law_determinant cd_law_determinant ct_law_determinant oc_law_less kV_law_less dc_law_less pm_law_less cd_law_less ct_law_less oc_law_choices kV_law_choices dc_law_choices pm_law_choices cd_law_choices ct_law_choices oc_law_volume kV_law_volume dc_law_volume pm_law_volume cd_law_volume ct_law_volume oc_law_is_full kV_law_is_full dc_law_is_full pm_law_is_full cd_law_is_full ct_law_is_full oc_law_points kV_law_points dc_law_points pm_law_points cd_law_points ct_law_points oc_law_factors kV_law_factors dc_law_factors pm_law_factors cd_law_factors ct_law_factors oc_law_box kV_law_box dc_law_box pm_law_box cd_law_box ct_law_box oc_law_refusal kV_law_refusal dc_law_refusal pm_law_refusal cd_law_refusal ct_law_refusal oc_law kV_law dc_law pm_law cd_law ct_law oc_iT kV_iT dc_iT pm_iT cd_iT ct_iT oc_iM kV_iM dc_iM pm_iM cd_iM ct_iM : Value}
    {nmT qT : Str} {NT : Addr} {bsT : List Value} {snT : List Str} {subT : List Value} {abT : Bool} {colT : Option Bool} {ddT : Option Addr} {m0T m1T m2T m3T m5T : Option Value} {nmM qM : Str} {NM : Addr} {bsM : List Value} {snM : List Str} {subM : List Value} {abM : Bool} {colM : Option Bool} {ddM : Option Addr} {m0M m1M m2M m3M m5M : Option Value}
    (a_width : PySem.W.nsIn K mainGlobals "width" = some (some (.ref g_width)))
    (l_width : K.lookup g_width = some ⟨oc_width, od_width, .func (PySem.W.fnOf "width" "width" (defArgs s_width) (defBody s_width) (defScope s_width) .none kV_width dc_width pm_width an_width cd_width ct_width), sl_width⟩)
    (c_width : PySem.W.codeIn K cd_width "width" = true)
    (k_width : PySem.W.keepIn K (.ref g_width) = true)
    (a_transposed : PySem.W.nsIn K mainGlobals "transposed" = some (some (.ref g_transposed)))
    (l_transposed : K.lookup g_transposed = some ⟨oc_transposed, od_transposed, .func (PySem.W.fnOf "transposed" "transposed" (defArgs s_transposed) (defBody s_transposed) (defScope s_transposed) .none kV_transposed dc_transposed pm_transposed an_transposed cd_transposed ct_transposed), sl_transposed⟩)
    (c_transposed : PySem.W.codeIn K cd_transposed "transposed" = true)
    (k_transposed : PySem.W.keepIn K (.ref g_transposed) = true)
    (a_dot : PySem.W.nsIn K mainGlobals "dot" = some (some (.ref g_dot)))
    (l_dot : K.lookup g_dot = some ⟨oc_dot, od_dot, .func (PySem.W.fnOf "dot" "dot" (defArgs s_dot) (defBody s_dot) (defScope s_dot) .none kV_dot dc_dot pm_dot an_dot cd_dot ct_dot), sl_dot⟩)
    (c_dot : PySem.W.codeIn K cd_dot "dot" = true)
    (k_dot : PySem.W.keepIn K (.ref g_dot) = true)
    (a_determinant : PySem.W.nsIn K mainGlobals "determinant" = some (some (.ref g_determinant)))
    (l_determinant : K.lookup g_determinant = some ⟨oc_determinant, od_determinant, .func (PySem.W.fnOf "determinant" "determinant" (defArgs s_determinant) (defBody s_determinant) (defScope s_determinant) .none kV_determinant dc_determinant pm_determinant an_determinant cd_determinant ct_determinant), sl_determinant⟩)
    (c_determinant : PySem.W.codeIn K cd_determinant "determinant" = true)
    (k_determinant : PySem.W.keepIn K (.ref g_determinant) = true)
    (a_fraction : PySem.W.nsIn K mainGlobals "fraction" = some (some (.ref g_fraction)))
    (l_fraction : K.lookup g_fraction = some ⟨oc_fraction, od_fraction, .func (PySem.W.fnOf "fraction" "fraction" (defArgs s_fraction) (defBody s_fraction) (defScope s_fraction) .none kV_fraction dc_fraction pm_fraction an_fraction cd_fraction ct_fraction), sl_fraction⟩)
    (c_fraction : PySem.W.codeIn K cd_fraction "fraction" = true)
    (k_fraction : PySem.W.keepIn K (.ref g_fraction) = true)
    (a_solved : PySem.W.nsIn K mainGlobals "solved" = some (some (.ref g_solved)))
    (l_solved : K.lookup g_solved = some ⟨oc_solved, od_solved, .func (PySem.W.fnOf "solved" "solved" (defArgs s_solved) (defBody s_solved) (defScope s_solved) .none kV_solved dc_solved pm_solved an_solved cd_solved ct_solved), sl_solved⟩)
    (c_solved : PySem.W.codeIn K cd_solved "solved" = true)
    (k_solved : PySem.W.keepIn K (.ref g_solved) = true)
    (a_lifted : PySem.W.nsIn K mainGlobals "lifted" = some (some (.ref g_lifted)))
    (l_lifted : K.lookup g_lifted = some ⟨oc_lifted, od_lifted, .func (PySem.W.fnOf "lifted" "lifted" (defArgs s_lifted) (defBody s_lifted) (defScope s_lifted) .none kV_lifted dc_lifted pm_lifted an_lifted cd_lifted ct_lifted), sl_lifted⟩)
    (c_lifted : PySem.W.codeIn K cd_lifted "lifted" = true)
    (k_lifted : PySem.W.keepIn K (.ref g_lifted) = true)
    (a_box_factors : PySem.W.nsIn K mainGlobals "box_factors" = some (some (.ref g_box_factors)))
    (l_box_factors : K.lookup g_box_factors = some ⟨oc_box_factors, od_box_factors, .func (PySem.W.fnOf "box_factors" "box_factors" (defArgs s_box_factors) (defBody s_box_factors) (defScope s_box_factors) .none kV_box_factors dc_box_factors pm_box_factors an_box_factors cd_box_factors ct_box_factors), sl_box_factors⟩)
    (c_box_factors : PySem.W.codeIn K cd_box_factors "box_factors" = true)
    (k_box_factors : PySem.W.keepIn K (.ref g_box_factors) = true)
    (a_point_of : PySem.W.nsIn K mainGlobals "point_of" = some (some (.ref g_point_of)))
    (l_point_of : K.lookup g_point_of = some ⟨oc_point_of, od_point_of, .func (PySem.W.fnOf "point_of" "point_of" (defArgs s_point_of) (defBody s_point_of) (defScope s_point_of) .none kV_point_of dc_point_of pm_point_of an_point_of cd_point_of ct_point_of), sl_point_of⟩)
    (c_point_of : PySem.W.codeIn K cd_point_of "point_of" = true)
    (k_point_of : PySem.W.keepIn K (.ref g_point_of) = true)
    (a_simplex_box : PySem.W.nsIn K mainGlobals "simplex_box" = some (some (.ref g_simplex_box)))
    (l_simplex_box : K.lookup g_simplex_box = some ⟨oc_simplex_box, od_simplex_box, .func (PySem.W.fnOf "simplex_box" "simplex_box" (defArgs s_simplex_box) (defBody s_simplex_box) (defScope s_simplex_box) .none kV_simplex_box dc_simplex_box pm_simplex_box an_simplex_box cd_simplex_box ct_simplex_box), sl_simplex_box⟩)
    (c_simplex_box : PySem.W.codeIn K cd_simplex_box "simplex_box" = true)
    (k_simplex_box : PySem.W.keepIn K (.ref g_simplex_box) = true)
    (a_law_deck : PySem.W.nsIn K mainGlobals "_law_deck" = some (some (.ref g_law_deck)))
    (l_law_deck : K.lookup g_law_deck = some ⟨oc_law_deck, od_law_deck, .func (PySem.W.fnOf "_law_deck" "_law_deck" (defArgs s_law_deck) (defBody s_law_deck) (defScope s_law_deck) .none kV_law_deck dc_law_deck pm_law_deck an_law_deck cd_law_deck ct_law_deck), sl_law_deck⟩)
    (c_law_deck : PySem.W.codeIn K cd_law_deck "_law_deck" = true)
    (k_law_deck : PySem.W.keepIn K (.ref g_law_deck) = true)
    (a_law_take : PySem.W.nsIn K mainGlobals "_law_take" = some (some (.ref g_law_take)))
    (l_law_take : K.lookup g_law_take = some ⟨oc_law_take, od_law_take, .func (PySem.W.fnOf "_law_take" "_law_take" (defArgs s_law_take) (defBody s_law_take) (defScope s_law_take) .none kV_law_take dc_law_take pm_law_take an_law_take cd_law_take ct_law_take), sl_law_take⟩)
    (c_law_take : PySem.W.codeIn K cd_law_take "_law_take" = true)
    (k_law_take : PySem.W.keepIn K (.ref g_law_take) = true)
    (a_law_plain : PySem.W.nsIn K mainGlobals "_law_plain" = some (some (.ref g_law_plain)))
    (l_law_plain : K.lookup g_law_plain = some ⟨oc_law_plain, od_law_plain, .func (PySem.W.fnOf "_law_plain" "_law_plain" (defArgs s_law_plain) (defBody s_law_plain) (defScope s_law_plain) .none kV_law_plain dc_law_plain pm_law_plain an_law_plain cd_law_plain ct_law_plain), sl_law_plain⟩)
    (c_law_plain : PySem.W.codeIn K cd_law_plain "_law_plain" = true)
    (k_law_plain : PySem.W.keepIn K (.ref g_law_plain) = true)
    (a_law_orders : PySem.W.nsIn K mainGlobals "_law_orders" = some (some (.ref g_law_orders)))
    (l_law_orders : K.lookup g_law_orders = some ⟨oc_law_orders, od_law_orders, .func (PySem.W.fnOf "_law_orders" "_law_orders" (defArgs s_law_orders) (defBody s_law_orders) (defScope s_law_orders) .none kV_law_orders dc_law_orders pm_law_orders an_law_orders cd_law_orders ct_law_orders), sl_law_orders⟩)
    (c_law_orders : PySem.W.codeIn K cd_law_orders "_law_orders" = true)
    (k_law_orders : PySem.W.keepIn K (.ref g_law_orders) = true)
    (a_law_sign : PySem.W.nsIn K mainGlobals "_law_sign" = some (some (.ref g_law_sign)))
    (l_law_sign : K.lookup g_law_sign = some ⟨oc_law_sign, od_law_sign, .func (PySem.W.fnOf "_law_sign" "_law_sign" (defArgs s_law_sign) (defBody s_law_sign) (defScope s_law_sign) .none kV_law_sign dc_law_sign pm_law_sign an_law_sign cd_law_sign ct_law_sign), sl_law_sign⟩)
    (c_law_sign : PySem.W.codeIn K cd_law_sign "_law_sign" = true)
    (k_law_sign : PySem.W.keepIn K (.ref g_law_sign) = true)
    (a_law_determinant : PySem.W.nsIn K mainGlobals "_law_determinant" = some (some (.ref g_law_determinant)))
    (l_law_determinant : K.lookup g_law_determinant = some ⟨oc_law_determinant, od_law_determinant, .func (PySem.W.fnOf "_law_determinant" "_law_determinant" (defArgs s_law_determinant) (defBody s_law_determinant) (defScope s_law_determinant) .none kV_law_determinant dc_law_determinant pm_law_determinant an_law_determinant cd_law_determinant ct_law_determinant), sl_law_determinant⟩)
    (c_law_determinant : PySem.W.codeIn K cd_law_determinant "_law_determinant" = true)
    (k_law_determinant : PySem.W.keepIn K (.ref g_law_determinant) = true)
    (a_law_less : PySem.W.nsIn K mainGlobals "_law_less" = some (some (.ref g_law_less)))
    (l_law_less : K.lookup g_law_less = some ⟨oc_law_less, od_law_less, .func (PySem.W.fnOf "_law_less" "_law_less" (defArgs s_law_less) (defBody s_law_less) (defScope s_law_less) .none kV_law_less dc_law_less pm_law_less an_law_less cd_law_less ct_law_less), sl_law_less⟩)
    (c_law_less : PySem.W.codeIn K cd_law_less "_law_less" = true)
    (k_law_less : PySem.W.keepIn K (.ref g_law_less) = true)
    (a_law_choices : PySem.W.nsIn K mainGlobals "_law_choices" = some (some (.ref g_law_choices)))
    (l_law_choices : K.lookup g_law_choices = some ⟨oc_law_choices, od_law_choices, .func (PySem.W.fnOf "_law_choices" "_law_choices" (defArgs s_law_choices) (defBody s_law_choices) (defScope s_law_choices) .none kV_law_choices dc_law_choices pm_law_choices an_law_choices cd_law_choices ct_law_choices), sl_law_choices⟩)
    (c_law_choices : PySem.W.codeIn K cd_law_choices "_law_choices" = true)
    (k_law_choices : PySem.W.keepIn K (.ref g_law_choices) = true)
    (a_law_volume : PySem.W.nsIn K mainGlobals "_law_volume" = some (some (.ref g_law_volume)))
    (l_law_volume : K.lookup g_law_volume = some ⟨oc_law_volume, od_law_volume, .func (PySem.W.fnOf "_law_volume" "_law_volume" (defArgs s_law_volume) (defBody s_law_volume) (defScope s_law_volume) .none kV_law_volume dc_law_volume pm_law_volume an_law_volume cd_law_volume ct_law_volume), sl_law_volume⟩)
    (c_law_volume : PySem.W.codeIn K cd_law_volume "_law_volume" = true)
    (k_law_volume : PySem.W.keepIn K (.ref g_law_volume) = true)
    (a_law_is_full : PySem.W.nsIn K mainGlobals "_law_is_full" = some (some (.ref g_law_is_full)))
    (l_law_is_full : K.lookup g_law_is_full = some ⟨oc_law_is_full, od_law_is_full, .func (PySem.W.fnOf "_law_is_full" "_law_is_full" (defArgs s_law_is_full) (defBody s_law_is_full) (defScope s_law_is_full) .none kV_law_is_full dc_law_is_full pm_law_is_full an_law_is_full cd_law_is_full ct_law_is_full), sl_law_is_full⟩)
    (c_law_is_full : PySem.W.codeIn K cd_law_is_full "_law_is_full" = true)
    (k_law_is_full : PySem.W.keepIn K (.ref g_law_is_full) = true)
    (a_law_points : PySem.W.nsIn K mainGlobals "_law_points" = some (some (.ref g_law_points)))
    (l_law_points : K.lookup g_law_points = some ⟨oc_law_points, od_law_points, .func (PySem.W.fnOf "_law_points" "_law_points" (defArgs s_law_points) (defBody s_law_points) (defScope s_law_points) .none kV_law_points dc_law_points pm_law_points an_law_points cd_law_points ct_law_points), sl_law_points⟩)
    (c_law_points : PySem.W.codeIn K cd_law_points "_law_points" = true)
    (k_law_points : PySem.W.keepIn K (.ref g_law_points) = true)
    (a_law_factors : PySem.W.nsIn K mainGlobals "_law_factors" = some (some (.ref g_law_factors)))
    (l_law_factors : K.lookup g_law_factors = some ⟨oc_law_factors, od_law_factors, .func (PySem.W.fnOf "_law_factors" "_law_factors" (defArgs s_law_factors) (defBody s_law_factors) (defScope s_law_factors) .none kV_law_factors dc_law_factors pm_law_factors an_law_factors cd_law_factors ct_law_factors), sl_law_factors⟩)
    (c_law_factors : PySem.W.codeIn K cd_law_factors "_law_factors" = true)
    (k_law_factors : PySem.W.keepIn K (.ref g_law_factors) = true)
    (a_law_box : PySem.W.nsIn K mainGlobals "_law_box" = some (some (.ref g_law_box)))
    (l_law_box : K.lookup g_law_box = some ⟨oc_law_box, od_law_box, .func (PySem.W.fnOf "_law_box" "_law_box" (defArgs s_law_box) (defBody s_law_box) (defScope s_law_box) .none kV_law_box dc_law_box pm_law_box an_law_box cd_law_box ct_law_box), sl_law_box⟩)
    (c_law_box : PySem.W.codeIn K cd_law_box "_law_box" = true)
    (k_law_box : PySem.W.keepIn K (.ref g_law_box) = true)
    (a_law_refusal : PySem.W.nsIn K mainGlobals "_law_refusal" = some (some (.ref g_law_refusal)))
    (l_law_refusal : K.lookup g_law_refusal = some ⟨oc_law_refusal, od_law_refusal, .func (PySem.W.fnOf "_law_refusal" "_law_refusal" (defArgs s_law_refusal) (defBody s_law_refusal) (defScope s_law_refusal) .none kV_law_refusal dc_law_refusal pm_law_refusal an_law_refusal cd_law_refusal ct_law_refusal), sl_law_refusal⟩)
    (c_law_refusal : PySem.W.codeIn K cd_law_refusal "_law_refusal" = true)
    (k_law_refusal : PySem.W.keepIn K (.ref g_law_refusal) = true)
    (a_law : PySem.W.nsIn K mainGlobals "law" = some (some (.ref g_law)))
    (l_law : K.lookup g_law = some ⟨oc_law, od_law, .func (PySem.W.fnOf "law" "law" (defArgs s_law) (defBody s_law) (defScope s_law) .none kV_law dc_law pm_law an_law cd_law ct_law), sl_law⟩)
    (c_law : PySem.W.codeIn K cd_law "law" = true)
    (k_law : PySem.W.keepIn K (.ref g_law) = true)
    (zlen : PySem.W.nsIn K mainGlobals "len" = some none)
    (zrange : PySem.W.nsIn K mainGlobals "range" = some none)
    (zzip : PySem.W.nsIn K mainGlobals "zip" = some none)
    (zenumerate : PySem.W.nsIn K mainGlobals "enumerate" = some none)
    (zsum : PySem.W.nsIn K mainGlobals "sum" = some none)
    (zany : PySem.W.nsIn K mainGlobals "any" = some none)
    (zsorted : PySem.W.nsIn K mainGlobals "sorted" = some none)
    (zmin : PySem.W.nsIn K mainGlobals "min" = some none)
    (zmax : PySem.W.nsIn K mainGlobals "max" = some none)
    (zabs : PySem.W.nsIn K mainGlobals "abs" = some none)
    (zint : PySem.W.nsIn K mainGlobals "int" = some none)
    (zlist : PySem.W.nsIn K mainGlobals "list" = some none)
    (ztuple : PySem.W.nsIn K mainGlobals "tuple" = some none)
    (zset : PySem.W.nsIn K mainGlobals "set" = some none)
    (zisinstance : PySem.W.nsIn K mainGlobals "isinstance" = some none)
    (zbool : PySem.W.nsIn K mainGlobals "bool" = some none)
    (zstr : PySem.W.nsIn K mainGlobals "str" = some none)
    (zgcd : PySem.W.nsIn K mainGlobals "gcd" = some (some (.builtin "math.gcd")))
    (zMOST : PySem.W.nsIn K mainGlobals "MOST_POINTS" = some (some (.int 2000 tkM)))
    (pA : PySem.W.nsIn K mainGlobals "PolyError" = some (some (.ref cP)))
    (pS : PySem.W.specialIn K (.ref cP) "__getattribute__" = some (some (.builtin "type.__getattribute__")))
    (pR : PySem.W.readsIn K cP (.type "type") = true)
    (pI : PySem.W.findCls K (.ref cP) (.type "type") "__init__" = some (.val (.builtin "ValueError.__init__")))
    (eTA : PySem.W.nsIn K mainGlobals "InvalidTriangulation" = some (some (.ref cT)))
    (eTL : K.lookup cT = some (excClassObj nmT qT cT NT bsT [.ref cP, .type "ValueError", .type "Exception", .type "BaseException", .type "object"] true snT subT abT colT ddT m0T m1T m2T m3T m5T "ValueError.__new__"))
    (eTS : PySem.W.findIn K (.ref cT) "__setattr__" = some (some (.builtin "object.__setattr__")))
    (eTG : PySem.W.findIn K (.ref cT) "__getattribute__" = some (some (.builtin "BaseException.__getattribute__")))
    (eTH : PySem.W.findIn K (.ref cT) "__getattr__" = some none)
    (eTN : PySem.W.findIn K (.ref cT) "what" = some none)
    (eTX : PySem.W.subIn K (.ref cT) (.type "BaseException") = some true)
    (eTY : PySem.W.typeIn K (.ref cT) = some (.type "type"))
    (eTK : PySem.W.keepIn K (.ref cT) = true)
    (eTD : PySem.W.hasDictIn K cT = true)
    (eTC : PySem.W.isClsIn K cT = true)
    (a_iT : PySem.W.findIn K (.ref cT) "__init__" = some (some (.ref g_iT)))
    (l_iT : K.lookup g_iT = some ⟨oc_iT, od_iT, .func (PySem.W.fnOf "__init__" "InvalidTriangulation.__init__" (defArgs s_iT) (defBody s_iT) (defScope s_iT) .none kV_iT dc_iT pm_iT an_iT cd_iT ct_iT), sl_iT⟩)
    (c_iT : PySem.W.codeIn K cd_iT "InvalidTriangulation.__init__" = true)
    (k_iT : PySem.W.keepIn K (.ref g_iT) = true)
    (eTF : PySem.W.typeIn K (.ref g_iT) = some (.type "function"))
    (eMA : PySem.W.nsIn K mainGlobals "TooMany" = some (some (.ref cM)))
    (eML : K.lookup cM = some (excClassObj nmM qM cM NM bsM [.ref cP, .type "ValueError", .type "Exception", .type "BaseException", .type "object"] true snM subM abM colM ddM m0M m1M m2M m3M m5M "ValueError.__new__"))
    (eMS : PySem.W.findIn K (.ref cM) "__setattr__" = some (some (.builtin "object.__setattr__")))
    (eMG : PySem.W.findIn K (.ref cM) "__getattribute__" = some (some (.builtin "BaseException.__getattribute__")))
    (eMH : PySem.W.findIn K (.ref cM) "__getattr__" = some none)
    (eMN : PySem.W.findIn K (.ref cM) "what" = some none)
    (eMX : PySem.W.subIn K (.ref cM) (.type "BaseException") = some true)
    (eMY : PySem.W.typeIn K (.ref cM) = some (.type "type"))
    (eMK : PySem.W.keepIn K (.ref cM) = true)
    (eMD : PySem.W.hasDictIn K cM = true)
    (eMC : PySem.W.isClsIn K cM = true)
    (a_iM : PySem.W.findIn K (.ref cM) "__init__" = some (some (.ref g_iM)))
    (l_iM : K.lookup g_iM = some ⟨oc_iM, od_iM, .func (PySem.W.fnOf "__init__" "TooMany.__init__" (defArgs s_iM) (defBody s_iM) (defScope s_iM) .none kV_iM dc_iM pm_iM an_iM cd_iM ct_iM), sl_iM⟩)
    (c_iM : PySem.W.codeIn K cd_iM "TooMany.__init__" = true)
    (k_iM : PySem.W.keepIn K (.ref g_iM) = true)
    (eMF : PySem.W.typeIn K (.ref g_iM) = some (.type "function"))
    (sTT : PySem.W.subIn K (.ref cT) (.ref cT) = some true)
    (sMT : PySem.W.subIn K (.ref cM) (.ref cT) = some false)
    (sMM : PySem.W.subIn K (.ref cM) (.ref cM) = some true) :
    ∃ fd : FuncData, (∀ (s : Shared) (v : Value), BindsTo s fd ⟨[v], []⟩ [("script", v)]) ∧ ∀ base : Heap, K.In base → base.Ns mainGlobals mg → FnOk l.prog w K mg base CX0 7 fa fd ["script"] (sp_law K) := by
  have e := hfa.symm.trans (PySem.W.mg_of X G a_law)
  cases e
  have Fwidth := fun_mk (st := s_width) l_width c_width k_width
  have bwidth := Fwidth.binds (ps := ["rows"]) fun _ _ _ _ _ _ us hl => match us, hl with | [_], _ => rfl
  have Ftransposed := fun_mk (st := s_transposed) l_transposed c_transposed k_transposed
  have btransposed := Ftransposed.binds (ps := ["rows"]) fun _ _ _ _ _ _ us hl => match us, hl with | [_], _ => rfl
  have Fdot := fun_mk (st := s_dot) l_dot c_dot k_dot
  have bdot := Fdot.binds (ps := ["first", "second"]) fun _ _ _ _ _ _ us hl => match us, hl with | [_, _], _ => rfl
  have Fdeterminant := fun_mk (st := s_determinant) l_determinant c_determinant k_determinant
  have bdeterminant := Fdeterminant.binds (ps := ["rows"]) fun _ _ _ _ _ _ us hl => match us, hl with | [_], _ => rfl
  have Ffraction := fun_mk (st := s_fraction) l_fraction c_fraction k_fraction
  have bfraction := Ffraction.binds (ps := ["above", "below"]) fun _ _ _ _ _ _ us hl => match us, hl with | [_, _], _ => rfl
  have Fsolved := fun_mk (st := s_solved) l_solved c_solved k_solved
  have bsolved := Fsolved.binds (ps := ["rows", "values"]) fun _ _ _ _ _ _ us hl => match us, hl with | [_, _], _ => rfl
  have Flifted := fun_mk (st := s_lifted) l_lifted c_lifted k_lifted
  have blifted := Flifted.binds (ps := ["points"]) fun _ _ _ _ _ _ us hl => match us, hl with | [_], _ => rfl
  have Fbox_factors := fun_mk (st := s_box_factors) l_box_factors c_box_factors k_box_factors
  have bbox_factors := Fbox_factors.binds (ps := ["points"]) fun _ _ _ _ _ _ us hl => match us, hl with | [_], _ => rfl
  have Fpoint_of := fun_mk (st := s_point_of) l_point_of c_point_of k_point_of
  have bpoint_of := Fpoint_of.binds (ps := ["points", "whole", "factors"]) fun _ _ _ _ _ _ us hl => match us, hl with | [_, _, _], _ => rfl
  have Fsimplex_box := fun_mk (st := s_simplex_box) l_simplex_box c_simplex_box k_simplex_box
  have bsimplex_box := Fsimplex_box.binds (ps := ["points"]) fun _ _ _ _ _ _ us hl => match us, hl with | [_], _ => rfl
  have Flaw_deck := fun_mk (st := s_law_deck) l_law_deck c_law_deck k_law_deck
  have blaw_deck := Flaw_deck.binds (ps := ["script", "cells", "each"]) fun _ _ _ _ _ _ us hl => match us, hl with | [_, _, _], _ => rfl
  have Flaw_take := fun_mk (st := s_law_take) l_law_take c_law_take k_law_take
  have blaw_take := Flaw_take.binds (ps := ["deck", "many"]) fun _ _ _ _ _ _ us hl => match us, hl with | [_, _], _ => rfl
  have Flaw_plain := fun_mk (st := s_law_plain) l_law_plain c_law_plain k_law_plain
  have blaw_plain := Flaw_plain.binds (ps := ["value"]) fun _ _ _ _ _ _ us hl => match us, hl with | [_], _ => rfl
  have Flaw_orders := fun_mk (st := s_law_orders) l_law_orders c_law_orders k_law_orders
  have blaw_orders := Flaw_orders.binds (ps := ["size"]) fun _ _ _ _ _ _ us hl => match us, hl with | [_], _ => rfl
  have Flaw_sign := fun_mk (st := s_law_sign) l_law_sign c_law_sign k_law_sign
  have blaw_sign := Flaw_sign.binds (ps := ["order"]) fun _ _ _ _ _ _ us hl => match us, hl with | [_], _ => rfl
  have Flaw_determinant := fun_mk (st := s_law_determinant) l_law_determinant c_law_determinant k_law_determinant
  have blaw_determinant := Flaw_determinant.binds (ps := ["rows"]) fun _ _ _ _ _ _ us hl => match us, hl with | [_], _ => rfl
  have Flaw_less := fun_mk (st := s_law_less) l_law_less c_law_less k_law_less
  have blaw_less := Flaw_less.binds (ps := ["one", "two"]) fun _ _ _ _ _ _ us hl => match us, hl with | [_, _], _ => rfl
  have Flaw_choices := fun_mk (st := s_law_choices) l_law_choices c_law_choices k_law_choices
  have blaw_choices := Flaw_choices.binds (ps := ["size", "many"]) fun _ _ _ _ _ _ us hl => match us, hl with | [_, _], _ => rfl
  have Flaw_volume := fun_mk (st := s_law_volume) l_law_volume c_law_volume k_law_volume
  have blaw_volume := Flaw_volume.binds (ps := ["points"]) fun _ _ _ _ _ _ us hl => match us, hl with | [_], _ => rfl
  have Flaw_is_full := fun_mk (st := s_law_is_full) l_law_is_full c_law_is_full k_law_is_full
  have blaw_is_full := Flaw_is_full.binds (ps := ["points", "size"]) fun _ _ _ _ _ _ us hl => match us, hl with | [_, _], _ => rfl
  have Flaw_points := fun_mk (st := s_law_points) l_law_points c_law_points k_law_points
  have blaw_points := Flaw_points.binds (ps := ["deck", "size", "more", "low", "high"]) fun _ _ _ _ _ _ us hl => match us, hl with | [_, _, _, _, _], _ => rfl
  have Flaw_factors := fun_mk (st := s_law_factors) l_law_factors c_law_factors k_law_factors
  have blaw_factors := Flaw_factors.binds (ps := ["rows", "goal"]) fun _ _ _ _ _ _ us hl => match us, hl with | [_, _], _ => rfl
  have Flaw_box := fun_mk (st := s_law_box) l_law_box c_law_box k_law_box
  have blaw_box := Flaw_box.binds (ps := ["points"]) fun _ _ _ _ _ _ us hl => match us, hl with | [_], _ => rfl
  have Flaw_refusal := fun_mk (st := s_law_refusal) l_law_refusal c_law_refusal k_law_refusal
  have blaw_refusal := Flaw_refusal.binds (ps := ["points"]) fun _ _ _ _ _ _ us hl => match us, hl with | [_], _ => rfl
  have Flaw := fun_mk (st := s_law) l_law c_law k_law
  have blaw := Flaw.binds (ps := ["script"]) fun _ _ _ _ _ _ us hl => match us, hl with | [_], _ => rfl
  have FiT := fun_mk (st := s_iT) l_iT c_iT k_iT
  have biT := FiT.binds (ps := ["self", "what"]) fun _ _ _ _ _ _ us hl => match us, hl with | [_, _], _ => rfl
  have FiM := fun_mk (st := s_iM) l_iM c_iM k_iM
  have biM := FiM.binds (ps := ["self", "what"]) fun _ _ _ _ _ _ us hl => match us, hl with | [_, _], _ => rfl
  have oexT : OexC K cT := ⟨⟨nmT, qT, NT, bsT, _, snT, subT, abT, colT, ddT, m0T, m1T, m2T, m3T, m5T, eTL, ve_tail cP⟩, eTS, eTX, eTY, eTK⟩
  have oexM : OexC K cM := ⟨⟨nmM, qM, NM, bsM, _, snM, subM, abM, colM, ddM, m0M, m1M, m2M, m3M, m5M, eML, ve_tail cP⟩, eMS, eMX, eMY, eMK⟩
  let M : Mod K mg := {
    m_len := PySem.W.mg_none_of X G zlen,
    m_range := PySem.W.mg_none_of X G zrange,
    m_zip := PySem.W.mg_none_of X G zzip,
    m_enumerate := PySem.W.mg_none_of X G zenumerate,
    m_sum := PySem.W.mg_none_of X G zsum,
    m_any := PySem.W.mg_none_of X G zany,
    m_sorted := PySem.W.mg_none_of X G zsorted,
    m_min := PySem.W.mg_none_of X G zmin,
    m_max := PySem.W.mg_none_of X G zmax,
    m_abs := PySem.W.mg_none_of X G zabs,
    m_int := PySem.W.mg_none_of X G zint,
    m_list := PySem.W.mg_none_of X G zlist,
    m_tuple := PySem.W.mg_none_of X G ztuple,
    m_set := PySem.W.mg_none_of X G zset,
    m_isinstance := PySem.W.mg_none_of X G zisinstance,
    m_bool := PySem.W.mg_none_of X G zbool,
    m_str := PySem.W.mg_none_of X G zstr,
    m_gcd := PySem.W.mg_of X G zgcd,
    tkM := tkM,
    m_MOST_POINTS := PySem.W.mg_of X G zMOST,
    cP := cP,
    mcP := .type "type",
    poly := ⟨PySem.W.mg_of X G pA, pS, pR, pI⟩,
    cT := cT,
    fiT := g_iT,
    fdT := _,
    errT := ⟨PySem.W.mg_of X G eTA, oexT, eTG, eTH, eTN, a_iT, eTF, eTD, FiT, biT⟩,
    cM := cM,
    fiM := g_iM,
    fdM := _,
    errM := ⟨PySem.W.mg_of X G eMA, oexM, eMG, eMH, eMN, a_iM, eMF, eMD, FiM, biM⟩,
    ett := exm_of eTX eTC eTY sTT,
    emt := exm_of eTX eTC eTY sMT,
    emm := exm_of eMX eMC eMY sMM,
    f_width := g_width,
    fd_width := _,
    d_width := def_mk X G a_width Fwidth bwidth,
    f_transposed := g_transposed,
    fd_transposed := _,
    d_transposed := def_mk X G a_transposed Ftransposed btransposed,
    f_dot := g_dot,
    fd_dot := _,
    d_dot := def_mk X G a_dot Fdot bdot,
    f_determinant := g_determinant,
    fd_determinant := _,
    d_determinant := def_mk X G a_determinant Fdeterminant bdeterminant,
    f_fraction := g_fraction,
    fd_fraction := _,
    d_fraction := def_mk X G a_fraction Ffraction bfraction,
    f_solved := g_solved,
    fd_solved := _,
    d_solved := def_mk X G a_solved Fsolved bsolved,
    f_lifted := g_lifted,
    fd_lifted := _,
    d_lifted := def_mk X G a_lifted Flifted blifted,
    f_box_factors := g_box_factors,
    fd_box_factors := _,
    d_box_factors := def_mk X G a_box_factors Fbox_factors bbox_factors,
    f_point_of := g_point_of,
    fd_point_of := _,
    d_point_of := def_mk X G a_point_of Fpoint_of bpoint_of,
    f_simplex_box := g_simplex_box,
    fd_simplex_box := _,
    d_simplex_box := def_mk X G a_simplex_box Fsimplex_box bsimplex_box,
    f_law_deck := g_law_deck,
    fd_law_deck := _,
    d_law_deck := def_mk X G a_law_deck Flaw_deck blaw_deck,
    f_law_take := g_law_take,
    fd_law_take := _,
    d_law_take := def_mk X G a_law_take Flaw_take blaw_take,
    f_law_plain := g_law_plain,
    fd_law_plain := _,
    d_law_plain := def_mk X G a_law_plain Flaw_plain blaw_plain,
    f_law_orders := g_law_orders,
    fd_law_orders := _,
    d_law_orders := def_mk X G a_law_orders Flaw_orders blaw_orders,
    f_law_sign := g_law_sign,
    fd_law_sign := _,
    d_law_sign := def_mk X G a_law_sign Flaw_sign blaw_sign,
    f_law_determinant := g_law_determinant,
    fd_law_determinant := _,
    d_law_determinant := def_mk X G a_law_determinant Flaw_determinant blaw_determinant,
    f_law_less := g_law_less,
    fd_law_less := _,
    d_law_less := def_mk X G a_law_less Flaw_less blaw_less,
    f_law_choices := g_law_choices,
    fd_law_choices := _,
    d_law_choices := def_mk X G a_law_choices Flaw_choices blaw_choices,
    f_law_volume := g_law_volume,
    fd_law_volume := _,
    d_law_volume := def_mk X G a_law_volume Flaw_volume blaw_volume,
    f_law_is_full := g_law_is_full,
    fd_law_is_full := _,
    d_law_is_full := def_mk X G a_law_is_full Flaw_is_full blaw_is_full,
    f_law_points := g_law_points,
    fd_law_points := _,
    d_law_points := def_mk X G a_law_points Flaw_points blaw_points,
    f_law_factors := g_law_factors,
    fd_law_factors := _,
    d_law_factors := def_mk X G a_law_factors Flaw_factors blaw_factors,
    f_law_box := g_law_box,
    fd_law_box := _,
    d_law_box := def_mk X G a_law_box Flaw_box blaw_box,
    f_law_refusal := g_law_refusal,
    fd_law_refusal := _,
    d_law_refusal := def_mk X G a_law_refusal Flaw_refusal blaw_refusal,
    f_law := fa,
    fd_law := _,
    d_law := def_mk X G a_law Flaw blaw }
  exact ⟨M.fd_law, fun s v => .of_eq rfl, fun base _ _ => ok_law M Ln.main_ok⟩
end K84
open PySem PySem.W PyProof.Rows
set_option maxRecDepth 100000 in
set_option maxHeartbeats 0 in
theorem PySem.Challenge.cw_polywork_k84_box_points_of_simplices_holds : PySem.Challenge.rw_polywork_k84_box_points_of_simplices.Holds := by
  w_on; o_law; k_head; (case hw => w_witness2)
  k_fill
  refine L2.walk_of (l := PySem.Challenge.rw_polywork_k84_box_points_of_simplices) (n := 63) (k := 7) (x := "script") (CX := fun _ => L2.CX0) (sp := fun w => K84.sp_law _) rfl (by decide) rfl ⟨rfl, by decide, by decide⟩ (fun w h Y => PySem.W.kIn_of Y) ?F (fun _ _ a ns hl _ hS => ⟨a, ns, rfl, hS, hl, fun _ => rfl⟩) (fun _ _ _ _ _ h => h)
  case F =>
    intro w mg fa h KX G hmg
    refine' K84.all_mk KX G hmg ?a_width ?l_width ?c_width ?k_width ?a_transposed ?l_transposed ?c_transposed ?k_transposed ?a_dot ?l_dot ?c_dot ?k_dot ?a_determinant ?l_determinant ?c_determinant ?k_determinant ?a_fraction ?l_fraction ?c_fraction ?k_fraction ?a_solved ?l_solved ?c_solved ?k_solved ?a_lifted ?l_lifted ?c_lifted ?k_lifted ?a_box_factors ?l_box_factors ?c_box_factors ?k_box_factors ?a_point_of ?l_point_of ?c_point_of ?k_point_of ?a_simplex_box ?l_simplex_box ?c_simplex_box ?k_simplex_box ?a_law_deck ?l_law_deck ?c_law_deck ?k_law_deck ?a_law_take ?l_law_take ?c_law_take ?k_law_take ?a_law_plain ?l_law_plain ?c_law_plain ?k_law_plain ?a_law_orders ?l_law_orders ?c_law_orders ?k_law_orders ?a_law_sign ?l_law_sign ?c_law_sign ?k_law_sign ?a_law_determinant ?l_law_determinant ?c_law_determinant ?k_law_determinant ?a_law_less ?l_law_less ?c_law_less ?k_law_less ?a_law_choices ?l_law_choices ?c_law_choices ?k_law_choices ?a_law_volume ?l_law_volume ?c_law_volume ?k_law_volume ?a_law_is_full ?l_law_is_full ?c_law_is_full ?k_law_is_full ?a_law_points ?l_law_points ?c_law_points ?k_law_points ?a_law_factors ?l_law_factors ?c_law_factors ?k_law_factors ?a_law_box ?l_law_box ?c_law_box ?k_law_box ?a_law_refusal ?l_law_refusal ?c_law_refusal ?k_law_refusal ?a_law ?l_law ?c_law ?k_law ?zlen ?zrange ?zzip ?zenumerate ?zsum ?zany ?zsorted ?zmin ?zmax ?zabs ?zint ?zlist ?ztuple ?zset ?zisinstance ?zbool ?zstr ?zgcd ?zMOST ?pA ?pS ?pR ?pI ?eTA ?eTL ?eTS ?eTG ?eTH ?eTN ?eTX ?eTY ?eTK ?eTD ?eTC ?a_iT ?l_iT ?c_iT ?k_iT ?eTF ?eMA ?eML ?eMS ?eMG ?eMH ?eMN ?eMX ?eMY ?eMK ?eMD ?eMC ?a_iM ?l_iM ?c_iM ?k_iM ?eMF ?sTT ?sMT ?sMM
    (case a_width => k_is)
    (case l_width => k_is)
    (case c_width => k_is)
    (case k_width => k_is)
    (case a_transposed => k_is)
    (case l_transposed => k_is)
    (case c_transposed => k_is)
    (case k_transposed => k_is)
    (case a_dot => k_is)
    (case l_dot => k_is)
    (case c_dot => k_is)
    (case k_dot => k_is)
    (case a_determinant => k_is)
    (case l_determinant => k_is)
    (case c_determinant => k_is)
    (case k_determinant => k_is)
    (case a_fraction => k_is)
    (case l_fraction => k_is)
    (case c_fraction => k_is)
    (case k_fraction => k_is)
    (case a_solved => k_is)
    (case l_solved => k_is)
    (case c_solved => k_is)
    (case k_solved => k_is)
    (case a_lifted => k_is)
    (case l_lifted => k_is)
    (case c_lifted => k_is)
    (case k_lifted => k_is)
    (case a_box_factors => k_is)
    (case l_box_factors => k_is)
    (case c_box_factors => k_is)
    (case k_box_factors => k_is)
    (case a_point_of => k_is)
    (case l_point_of => k_is)
    (case c_point_of => k_is)
    (case k_point_of => k_is)
    (case a_simplex_box => k_is)
    (case l_simplex_box => k_is)
    (case c_simplex_box => k_is)
    (case k_simplex_box => k_is)
    (case a_law_deck => k_is)
    (case l_law_deck => k_is)
    (case c_law_deck => k_is)
    (case k_law_deck => k_is)
    (case a_law_take => k_is)
    (case l_law_take => k_is)
    (case c_law_take => k_is)
    (case k_law_take => k_is)
    (case a_law_plain => k_is)
    (case l_law_plain => k_is)
    (case c_law_plain => k_is)
    (case k_law_plain => k_is)
    (case a_law_orders => k_is)
    (case l_law_orders => k_is)
    (case c_law_orders => k_is)
    (case k_law_orders => k_is)
    (case a_law_sign => k_is)
    (case l_law_sign => k_is)
    (case c_law_sign => k_is)
    (case k_law_sign => k_is)
    (case a_law_determinant => k_is)
    (case l_law_determinant => k_is)
    (case c_law_determinant => k_is)
    (case k_law_determinant => k_is)
    (case a_law_less => k_is)
    (case l_law_less => k_is)
    (case c_law_less => k_is)
    (case k_law_less => k_is)
    (case a_law_choices => k_is)
    (case l_law_choices => k_is)
    (case c_law_choices => k_is)
    (case k_law_choices => k_is)
    (case a_law_volume => k_is)
    (case l_law_volume => k_is)
    (case c_law_volume => k_is)
    (case k_law_volume => k_is)
    (case a_law_is_full => k_is)
    (case l_law_is_full => k_is)
    (case c_law_is_full => k_is)
    (case k_law_is_full => k_is)
    (case a_law_points => k_is)
    (case l_law_points => k_is)
    (case c_law_points => k_is)
    (case k_law_points => k_is)
    (case a_law_factors => k_is)
    (case l_law_factors => k_is)
    (case c_law_factors => k_is)
    (case k_law_factors => k_is)
    (case a_law_box => k_is)
    (case l_law_box => k_is)
    (case c_law_box => k_is)
    (case k_law_box => k_is)
    (case a_law_refusal => k_is)
    (case l_law_refusal => k_is)
    (case c_law_refusal => k_is)
    (case k_law_refusal => k_is)
    (case a_law => k_is)
    (case l_law => k_is)
    (case c_law => k_is)
    (case k_law => k_is)
    (case zlen => k_is)
    (case zrange => k_is)
    (case zzip => k_is)
    (case zenumerate => k_is)
    (case zsum => k_is)
    (case zany => k_is)
    (case zsorted => k_is)
    (case zmin => k_is)
    (case zmax => k_is)
    (case zabs => k_is)
    (case zint => k_is)
    (case zlist => k_is)
    (case ztuple => k_is)
    (case zset => k_is)
    (case zisinstance => k_is)
    (case zbool => k_is)
    (case zstr => k_is)
    (case zgcd => k_is)
    (case zMOST => k_is)
    (case pA => k_is)
    (case pS => k_is)
    (case pR => k_is)
    (case pI => k_is)
    (case eTA => k_is)
    (case eTL => k_is)
    (case eTS => k_is)
    (case eTG => k_is)
    (case eTH => k_is)
    (case eTN => k_is)
    (case eTX => k_is)
    (case eTY => k_is)
    (case eTK => k_is)
    (case eTD => k_is)
    (case eTC => k_is)
    (case a_iT => k_is)
    (case l_iT => k_is)
    (case c_iT => k_is)
    (case k_iT => k_is)
    (case eTF => k_is)
    (case eMA => k_is)
    (case eML => k_is)
    (case eMS => k_is)
    (case eMG => k_is)
    (case eMH => k_is)
    (case eMN => k_is)
    (case eMX => k_is)
    (case eMY => k_is)
    (case eMK => k_is)
    (case eMD => k_is)
    (case eMC => k_is)
    (case a_iM => k_is)
    (case l_iM => k_is)
    (case c_iM => k_is)
    (case k_iM => k_is)
    (case eMF => k_is)
    (case sTT => first | rfl | k_is)
    (case sMT => k_is)
    (case sMM => first | rfl | k_is)

