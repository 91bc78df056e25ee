import PyProof.Rows.All
import HandS.ForMost
import HandS.Codes
import HandS.Style
import HandS.Conv
import HandS.IsInst
import HandS.Wide
import PySem.Challenge.RW_everrow_k47_whole_widths_and_cuttings
import KE.DatumOrd
import HandS.SetFor
import HandS.SortInts
import HandS.Strs
import HandS.Text
import PyProof.StrBlock2
import KE.KEqDeep
set_option Elab.async false
set_option linter.all false
set_option maxRecDepth 100000
set_option maxHeartbeats 4000000
/-! D0: plain data over the abstract heap: what a value stands for, what an evaluation leaves. -/
namespace DL
open PySem L2

/-! ### heaps -/
def Le (H H' : Hp) : Prop := ∀ a o, H a = some o → H' a = some o
theorem Le.refl (H : Hp) : Le H H := fun _ _ h => h
theorem Le.trans {A B C : Hp} (x : Le A B) (y : Le B C) : Le A C := fun a o h => y a o (x a o h)
/-- but for the pump -/
def LeP (pp : Option Addr) (H H' : Hp) : Prop := ∀ a o, pp ≠ some a → H a = some o → H' a = some o
theorem LeP.refl {pp : Option Addr} (H : Hp) : LeP pp H H := fun _ _ _ h => h
theorem LeP.trans {pp : Option Addr} {A B C : Hp} (x : LeP pp A B) (y : LeP pp B C) : LeP pp A C := fun a o n h => y a o n (x a o n h)

mutual
/-- the value stands for the datum, by what stands in the heap -/
def Rp (H : Hp) : PyData → V → Prop
  | .none, v => v = .non
  | .bool b, v => v = .bl b
  | .int i, v => v = .int i
  | .str s, v => v = .str s
  | .list ds, v => ∃ a xs, v = .ref a ∧ H a = some (.lst xs) ∧ RpL H ds xs
  | .tuple ds, v => ∃ a xs, v = .ref a ∧ H a = some (.tup xs) ∧ RpL H ds xs
  | .dict _, _ => False
def RpL (H : Hp) : List PyData → List V → Prop
  | [], xs => xs = []
  | d :: ds, xs => ∃ x r, xs = x :: r ∧ Rp H d x ∧ RpL H ds r
end
mutual
theorem Rp.mono {H H' : Hp} (e : Le H H') : ∀ (d : PyData) (v : V), Rp H d v → Rp H' d v
  | .none, v, h => h
  | .bool _, v, h => h
  | .int _, v, h => h
  | .str _, v, h => h
  | .list ds, v, h => by
    obtain ⟨a, xs, e1, e2, e3⟩ := h
    exact ⟨a, xs, e1, e a _ e2, RpL.mono e ds xs e3⟩
  | .tuple ds, v, h => by
    obtain ⟨a, xs, e1, e2, e3⟩ := h
    exact ⟨a, xs, e1, e a _ e2, RpL.mono e ds xs e3⟩
  | .dict _, v, h => h.elim
theorem RpL.mono {H H' : Hp} (e : Le H H') : ∀ (ds : List PyData) (xs : List V), RpL H ds xs → RpL H' ds xs
  | [], xs, h => h
  | d :: ds, xs, h => by
    obtain ⟨x, r, e1, e2, e3⟩ := h
    exact ⟨x, r, e1, Rp.mono e d x e2, RpL.mono e ds r e3⟩
end
mutual
theorem Rp.dp {K : PySem.W.Frag} {H : Hp} : ∀ (d : PyData) (v : V), Rp H d v → Dp K H v d
  | .none, v, h => by cases (show v = .non from h); exact .non
  | .bool _, v, h => by cases (show v = .bl _ from h); exact .bl _
  | .int _, v, h => by cases (show v = .int _ from h); exact .int _
  | .str _, v, h => by cases (show v = .str _ from h); exact .str _
  | .list ds, v, h => by
    obtain ⟨a, xs, rfl, e2, e3⟩ := h
    exact .lst (.of e2) (RpL.dp ds xs e3)
  | .tuple ds, v, h => by
    obtain ⟨a, xs, rfl, e2, e3⟩ := h
    exact .tup (.of e2) (RpL.dp ds xs e3)
  | .dict _, v, h => h.elim
theorem RpL.dp {K : PySem.W.Frag} {H : Hp} : ∀ (ds : List PyData) (xs : List V), RpL H ds xs → DpAll K H xs ds
  | [], xs, h => by cases (show xs = [] from h); exact .nil
  | d :: ds, xs, h => by
    obtain ⟨x, r, rfl, e2, e3⟩ := h
    exact .cons (Rp.dp d x e2) (RpL.dp ds r e3)
end
theorem RpL.length {H : Hp} : ∀ {ds : List PyData} {xs : List V}, RpL H ds xs → xs.length = ds.length
  | [], xs, h => by cases (show xs = [] from h); rfl
  | d :: ds, xs, h => by
    obtain ⟨x, r, rfl, _, e3⟩ := h
    rw [List.length_cons, List.length_cons, RpL.length e3]
theorem RpL.get {H : Hp} : ∀ {ds : List PyData} {xs : List V} {i : Nat} {d : PyData}, RpL H ds xs → ds[i]? = some d → ∃ x, xs[i]? = some x ∧ Rp H d x
  | [], xs, i, d, h, e => by simp at e
  | d' :: ds, xs, 0, d, h, e => by
    obtain ⟨x, r, rfl, e2, _⟩ := h
    have : d' = d := by simpa using e
    subst this
    exact ⟨x, rfl, e2⟩
  | d' :: ds, xs, i + 1, d, h, e => by
    obtain ⟨x, r, rfl, _, e3⟩ := h
    exact RpL.get (i := i) e3 (by simpa using e)
theorem RpL.append {H : Hp} : ∀ {ds es : List PyData} {xs ys : List V}, RpL H ds xs → RpL H es ys → RpL H (ds ++ es) (xs ++ ys)
  | [], es, xs, ys, h, g => by cases (show xs = [] from h); exact g
  | d :: ds, es, xs, ys, h, g => by
    obtain ⟨x, r, rfl, e2, e3⟩ := h
    exact ⟨x, r ++ ys, rfl, e2, RpL.append e3 g⟩
theorem RpL.one {H : Hp} {d : PyData} {x : V} (h : Rp H d x) : RpL H [d] [x] := ⟨x, [], rfl, h, rfl⟩
theorem RpL.drop {H : Hp} : ∀ {ds : List PyData} {xs : List V} (n : Nat), RpL H ds xs → RpL H (ds.drop n) (xs.drop n)
  | ds, xs, 0, h => by simpa using h
  | [], xs, n + 1, h => by cases (show xs = [] from h); exact rfl
  | d :: ds, xs, n + 1, h => by
    obtain ⟨x, r, rfl, _, e3⟩ := h
    exact RpL.drop n e3
theorem RpL.take {H : Hp} : ∀ {ds : List PyData} {xs : List V} (n : Nat), RpL H ds xs → RpL H (ds.take n) (xs.take n)
  | ds, xs, 0, h => by simp; rfl
  | [], xs, n + 1, h => by cases (show xs = [] from h); exact rfl
  | d :: ds, xs, n + 1, h => by
    obtain ⟨x, r, rfl, e2, e3⟩ := h
    exact ⟨x, r.take n, rfl, e2, RpL.take n e3⟩
theorem RpL.set {H : Hp} {d : PyData} {x : V} (q : Rp H d x) : ∀ {ds : List PyData} {xs : List V} (n : Nat), RpL H ds xs → RpL H (ds.set n d) (xs.set n x)
  | [], xs, n, h => by cases (show xs = [] from h); exact rfl
  | d' :: ds, xs, 0, h => by
    obtain ⟨y, r, rfl, e2, e3⟩ := h
    exact ⟨x, r, rfl, q, e3⟩
  | d' :: ds, xs, n + 1, h => by
    obtain ⟨y, r, rfl, e2, e3⟩ := h
    exact ⟨y, r.set n x, rfl, e2, RpL.set q n e3⟩
theorem RpL.reverse {H : Hp} : ∀ {ds : List PyData} {xs : List V}, RpL H ds xs → RpL H ds.reverse xs.reverse
  | [], xs, h => by cases (show xs = [] from h); exact rfl
  | d :: ds, xs, h => by
    obtain ⟨x, r, rfl, e2, e3⟩ := h
    rw [List.reverse_cons, List.reverse_cons]
    exact RpL.append (RpL.reverse e3) (RpL.one e2)
theorem RpL.flat {H : Hp} {ds : List PyData} {xs : List V} (h : RpL H ds xs) : ∀ n : Nat, RpL H (List.replicate n ds).flatten (List.replicate n xs).flatten
  | 0 => rfl
  | n + 1 => by
    rw [List.replicate_succ, List.replicate_succ, List.flatten_cons, List.flatten_cons]
    exact RpL.append h (RpL.flat h n)
theorem RpL.ints {H : Hp} : ∀ {ns : List Int} {xs : List V}, RpL H (ns.map PyData.int) xs → xs = ns.map V.int
  | [], xs, h => h
  | n :: ns, xs, h => by
    obtain ⟨x, r, rfl, e2, e3⟩ := h
    rw [RpL.ints e3, List.map_cons]
    cases (show x = .int n from e2)
    rfl
theorem RpL.ofInts {H : Hp} : ∀ (ns : List Int), RpL H (ns.map PyData.int) (ns.map V.int)
  | [] => rfl
  | n :: ns => ⟨.int n, ns.map V.int, rfl, rfl, RpL.ofInts ns⟩
theorem RpL.strs {H : Hp} : ∀ {ns : List Str} {xs : List V}, RpL H (ns.map PyData.str) xs → xs = ns.map V.str
  | [], xs, h => h
  | n :: ns, xs, h => by
    obtain ⟨x, r, rfl, e2, e3⟩ := h
    rw [RpL.strs e3, List.map_cons]
    cases (show x = .str n from e2)
    rfl
theorem RpL.ofStrs {H : Hp} : ∀ (ns : List Str), RpL H (ns.map PyData.str) (ns.map V.str)
  | [] => rfl
  | n :: ns => ⟨.str n, ns.map V.str, rfl, rfl, RpL.ofStrs ns⟩

/-! ### what an evaluation leaves: Hs the part that stands for ever, H the whole -/
structure Wf (pp : Option Addr) (Hs H : Hp) : Prop where
  le : Le Hs H
  pump : ∀ p, pp = some p → Hs p = none ∧ ∃ n, H p = some (.lst [.int n])
structure Gr (pp : Option Addr) (Hs H Hs' H' : Hp) : Prop where
  s : Le Hs Hs'
  h : LeP pp H H'
  wf : Wf pp Hs' H'
  fr : ∀ a o, H a = some o → Hs a = none → Hs' a = none
theorem Gr.refl {pp : Option Addr} {Hs H : Hp} (w : Wf pp Hs H) : Gr pp Hs H Hs H := ⟨Le.refl _, LeP.refl _, w, fun _ _ _ h => h⟩
theorem Gr.trans {pp : Option Addr} {A B A1 B1 A2 B2 : Hp} (x : Gr pp A B A1 B1) (y : Gr pp A1 B1 A2 B2) : Gr pp A B A2 B2 := by
  refine ⟨x.s.trans y.s, x.h.trans y.h, y.wf, fun a o h1 h2 => ?_⟩
  have h3 := x.fr a o h1 h2
  by_cases e : pp = some a
  · obtain ⟨_, n, h4⟩ := x.wf.pump a e
    exact y.fr a _ h4 h3
  · exact y.fr a o (x.h a o e h1) h3
theorem Gr.keep {pp : Option Addr} {Hs H Hs' H' : Hp} (g : Gr pp Hs H Hs' H') {a : Addr} {o : HO} (e : pp ≠ some a) (h : H a = some o) : H' a = some o := g.h a o e h
theorem Gr.new {pp : Option Addr} {Hs H : Hp} {p : Addr} {o : HO} (w : Wf pp Hs H) (hp : H p = none) : Gr pp Hs H (upd Hs p o) (upd H p o) := by
  have le1 : ∀ {X : Hp}, X p = none → Le X (upd X p o) := fun h a u e => by
    rw [upd_ne (ne_of_none e h)]
    exact e
  have hs : Hs p = none := by
    cases e : Hs p with
    | none => rfl
    | some u =>
      have := w.le p u e
      rw [hp] at this
      cases this
  refine ⟨le1 hs, fun a u _ e => le1 hp a u e, ⟨fun a u e => ?_, fun q e => ?_⟩, fun a u e1 e2 => ?_⟩
  · by_cases z : a = p
    · subst z
      rw [upd_same] at e ⊢
      exact e
    · rw [upd_ne z] at e ⊢
      exact w.le a u e
  · obtain ⟨h1, n, h2⟩ := w.pump q e
    have z : q ≠ p := fun z => by rw [z, hp] at h2; cases h2
    rw [upd_ne z, upd_ne z]
    exact ⟨h1, n, h2⟩
  · rw [upd_ne (ne_of_none e1 hp)]
    exact e2
/-- a new object of one's own -/
theorem Gr.mine {pp : Option Addr} {Hs H : Hp} {p : Addr} {o : HO} (w : Wf pp Hs H) (hp : H p = none) : Gr pp Hs H Hs (upd H p o) := by
  refine ⟨Le.refl _, fun a u _ e => ?_, ⟨fun a u e => ?_, fun q e => ?_⟩, fun a u e1 e2 => e2⟩
  · rw [upd_ne (ne_of_none e hp)]
    exact e
  · have := w.le a u e
    rw [upd_ne (ne_of_none this hp)]
    exact this
  · obtain ⟨h1, n, h2⟩ := w.pump q e
    rw [upd_ne (ne_of_none h2 hp)]
    exact ⟨h1, n, h2⟩
/-- from no pump to any -/
theorem Gr.lift {pp : Option Addr} {Hs H Hs' H' : Hp} (g : Gr none Hs H Hs' H') (w : Wf pp Hs H) : Gr pp Hs H Hs' H' :=
  ⟨g.s, fun a o _ e => g.h a o (fun z => nomatch z) e, ⟨g.wf.le, fun p e => by
    obtain ⟨h1, n, h2⟩ := w.pump p e
    exact ⟨g.fr p _ h2 h1, n, g.h p _ (fun z => nomatch z) h2⟩⟩, g.fr⟩
theorem Wf.bare {pp : Option Addr} {Hs H : Hp} (w : Wf pp Hs H) : Wf none Hs H := ⟨w.le, fun p e => nomatch e⟩

/-! ### the names' data -/
inductive Cell where
  | val (d : PyData)
  | own (ds : List PyData)
  | pump
abbrev Dn := List (Option Cell)
def CellOk (pp : Option Addr) (H0 Hs H : Hp) : Cell → V → Prop
  | .val d, v => Rp Hs d v
  | .own ds, v => ∃ p xs, v = .ref p ∧ H p = some (.lst xs) ∧ Hs p = none ∧ H0 p = none ∧ pp ≠ some p ∧ RpL Hs ds xs
  | .pump, v => ∃ p, pp = some p ∧ v = .ref p
structure Env (pp : Option Addr) (B : Hp × Hp) (Δ : Dn) (σ : St) (Hs H : Hp) : Prop where
  gr : Gr pp B.1 B.2 Hs H
  len : σ.length = Δ.length
  at_ : ∀ (i : Nat) c, Δ[i]? = some (some c) → ∃ v, σ[i]? = some (some v) ∧ CellOk pp B.2 Hs H c v
  sep : ∀ (i j : Nat) di dj a, i ≠ j → Δ[i]? = some (some (.own di)) → Δ[j]? = some (some (.own dj)) → σ[i]? = some (some (.ref a)) → σ[j]? = some (some (.ref a)) → False
theorem CellOk.grow {pp : Option Addr} {H0 Hs H Hs' H' : Hp} {c : Cell} {v : V} (g : Gr pp Hs H Hs' H') (h : CellOk pp H0 Hs H c v) : CellOk pp H0 Hs' H' c v := by
  cases c with
  | val d => exact Rp.mono g.s d v h
  | own ds =>
    obtain ⟨p, xs, e1, e2, e3, e4, e5, e6⟩ := h
    exact ⟨p, xs, e1, g.h p _ e5 e2, g.fr p _ e2 e3, e4, e5, RpL.mono g.s ds xs e6⟩
  | pump => exact h
theorem Env.wf {pp : Option Addr} {B : Hp × Hp} {Δ : Dn} {σ : St} {Hs H : Hp} (E : Env pp B Δ σ Hs H) : Wf pp Hs H := E.gr.wf
theorem Env.grow {pp : Option Addr} {B : Hp × Hp} {Δ : Dn} {σ : St} {Hs H Hs' H' : Hp} (E : Env pp B Δ σ Hs H) (g : Gr pp Hs H Hs' H') : Env pp B Δ σ Hs' H' :=
  ⟨E.gr.trans g, E.len, fun i c h => let ⟨v, h1, h2⟩ := E.at_ i c h; ⟨v, h1, h2.grow g⟩, E.sep⟩
theorem set_some {α : Type} {l : List α} {i j : Nat} {x y : α} (h : (l.set i x)[j]? = some y) : (j = i ∧ x = y ∧ i < l.length) ∨ (j ≠ i ∧ l[j]? = some y) := by
  rw [List.getElem?_set] at h
  by_cases e : i = j
  · subst e
    rw [if_pos rfl] at h
    by_cases z : i < l.length
    · rw [if_pos z] at h
      exact .inl ⟨rfl, Option.some.inj h, z⟩
    · rw [if_neg z] at h
      cases h
  · rw [if_neg e] at h
    exact .inr ⟨fun z => e z.symm, h⟩
theorem set_at {α : Type} {l : List α} {i : Nat} (x : α) (h : i < l.length) : (l.set i x)[i]? = some x := by
  rw [List.getElem?_set, if_pos rfl, if_pos h]
theorem set_off {α : Type} {l : List α} {i j : Nat} (x : α) (h : j ≠ i) : (l.set i x)[j]? = l[j]? := by
  rw [List.getElem?_set, if_neg (fun z => h z.symm)]
theorem Env.set {pp : Option Addr} {B : Hp × Hp} {Δ : Dn} {σ : St} {Hs H : Hp} (E : Env pp B Δ σ Hs H) {i : Nat} {d : PyData} {v : V} (r : Rp Hs d v) : Env pp B (Δ.set i (some (.val d))) (σ.set i (some v)) Hs H := by
  refine ⟨E.gr, by rw [List.length_set, List.length_set, E.len], fun j c h => ?_, fun j k dj dk a hn h1 h2 h3 h4 => ?_⟩
  · rcases set_some h with ⟨rfl, e, z⟩ | ⟨n, h⟩
    · cases e
      exact ⟨v, set_at _ (by rw [E.len]; exact z), r⟩
    · obtain ⟨w, h1, h2⟩ := E.at_ j c h
      exact ⟨w, by rw [set_off _ n]; exact h1, h2⟩
  · rcases set_some h1 with ⟨rfl, e, z⟩ | ⟨n1, h1⟩
    · cases e
    · rcases set_some h2 with ⟨rfl, e, z⟩ | ⟨n2, h2⟩
      · cases e
      · rw [set_off _ n1] at h3
        rw [set_off _ n2] at h4
        exact E.sep j k dj dk a hn h1 h2 h3 h4
theorem Env.clear {pp : Option Addr} {B : Hp × Hp} {Δ : Dn} {σ : St} {Hs H : Hp} (E : Env pp B Δ σ Hs H) (i : Nat) : Env pp B (Δ.set i none) (σ.set i none) Hs H := by
  refine ⟨E.gr, by rw [List.length_set, List.length_set, E.len], fun j c h => ?_, fun j k dj dk a hn h1 h2 h3 h4 => ?_⟩
  · rcases set_some h with ⟨rfl, e, z⟩ | ⟨n, h⟩
    · cases e
    · obtain ⟨w, h1, h2⟩ := E.at_ j c h
      exact ⟨w, by rw [set_off _ n]; exact h1, h2⟩
  · rcases set_some h1 with ⟨rfl, e, z⟩ | ⟨n1, h1⟩
    · cases e
    · rcases set_some h2 with ⟨rfl, e, z⟩ | ⟨n2, h2⟩
      · cases e
      · rw [set_off _ n1] at h3
        rw [set_off _ n2] at h4
        exact E.sep j k dj dk a hn h1 h2 h3 h4
/-- a new list of one's own -/
theorem Env.setOwn {pp : Option Addr} {B : Hp × Hp} {Δ : Dn} {σ : St} {Hs H Hs' H' : Hp} (E : Env pp B Δ σ Hs H) {i : Nat} {ds : List PyData} {p : Addr} {xs : List V} (g : Gr pp Hs H Hs' H') (hn : H p = none) (hs : Hs' p = none) (hp : H' p = some (.lst xs)) (r : RpL Hs' ds xs) :
    Env pp B (Δ.set i (some (.own ds))) (σ.set i (some (.ref p))) Hs' H' := by
  have E' := E.grow g
  have pn : pp ≠ some p := fun e => by
    obtain ⟨_, n, h⟩ := E.wf.pump p e
    rw [hn] at h
    cases h
  have b0 : B.2 p = none := by
    cases e : B.2 p with
    | none => rfl
    | some o =>
      have := E.gr.h p o pn e
      rw [hn] at this
      cases this
  have other : ∀ (j : Nat) (dj : List PyData), Δ[j]? = some (some (Cell.own dj)) → σ[j]? = some (some (V.ref p)) → False := fun j dj h1 h2 => by
    obtain ⟨v, h3, q, ys, e1, e2, _⟩ := E.at_ j _ h1
    rw [h3] at h2
    cases h2
    cases e1
    rw [hn] at e2
    cases e2
  refine ⟨E'.gr, by rw [List.length_set, List.length_set, E.len], fun j c h => ?_, fun j k dj dk a hjk h1 h2 h3 h4 => ?_⟩
  · rcases set_some h with ⟨rfl, e, z⟩ | ⟨n, h⟩
    · cases e
      exact ⟨.ref p, set_at _ (by rw [E.len]; exact z), p, xs, rfl, hp, hs, b0, pn, r⟩
    · obtain ⟨w, h1, h2⟩ := E'.at_ j c h
      exact ⟨w, by rw [set_off _ n]; exact h1, h2⟩
  · rcases set_some h1 with ⟨rfl, e, z⟩ | ⟨n1, h1⟩
    · rcases set_some h2 with ⟨rfl, _, _⟩ | ⟨n2, h2⟩
      · exact hjk rfl
      · rw [set_at _ (by rw [E.len]; exact z)] at h3
        cases h3
        rw [set_off _ n2] at h4
        exact other k dk h2 h4
    · rw [set_off _ n1] at h3
      rcases set_some h2 with ⟨e0, e, z⟩ | ⟨n2, h2⟩
      · rw [e0, set_at _ (by rw [E.len]; exact z)] at h4
        cases h4
        exact other j dj h1 h3
      · rw [set_off _ n2] at h4
        exact E.sep j k dj dk a hjk h1 h2 h3 h4
/-- a list of one's own is changed -/
theorem Env.change {pp : Option Addr} {B : Hp × Hp} {Δ : Dn} {σ : St} {Hs H : Hp} (E : Env pp B Δ σ Hs H) {i : Nat} {ds ds' : List PyData} {p : Addr} {xs' : List V} (hi : Δ[i]? = some (some (.own ds))) (hσ : σ[i]? = some (some (.ref p))) (r : RpL Hs ds' xs') :
    Env pp B (Δ.set i (some (.own ds'))) σ Hs (upd H p (.lst xs')) := by
  obtain ⟨v, h3, q, ys, e1, e2, e3, e4, e5, e6⟩ := E.at_ i _ hi
  rw [h3] at hσ
  cases hσ
  cases e1
  have il : i < Δ.length := (List.getElem?_eq_some_iff.mp hi).1
  refine ⟨⟨E.gr.s, fun a o n h => ?_, ⟨fun a o h => ?_, fun a e => ?_⟩, fun a o h1 h2 => E.gr.fr a o h1 h2⟩, by rw [List.length_set, E.len], fun j c h => ?_, fun j k dj dk a hjk h1 h2 h5 h6 => ?_⟩
  · rw [upd_ne (ne_of_none h e4)]
    exact E.gr.h a o n h
  · rw [upd_ne (ne_of_none h e3)]
    exact E.wf.le a o h
  · rw [upd_ne (show a ≠ p from fun z => e5 (by rw [← z]; exact e))]
    exact E.wf.pump a e
  · rcases set_some h with ⟨rfl, e, z⟩ | ⟨n, h⟩
    · cases e
      exact ⟨.ref p, h3, p, xs', rfl, upd_same, e3, e4, e5, r⟩
    · obtain ⟨w, h1, h2⟩ := E.at_ j c h
      refine ⟨w, h1, ?_⟩
      cases c with
      | val d => exact h2
      | own dj =>
        obtain ⟨q, zs, f1, f2, f3, f4, f5, f6⟩ := h2
        subst f1
        have qn : q ≠ p := fun z => by
          subst z
          exact E.sep j i dj ds q n h hi h1 h3
        exact ⟨q, zs, rfl, by rw [upd_ne qn]; exact f2, f3, f4, f5, f6⟩
      | pump => exact h2
  · have g1 : ∃ dj', Δ[j]? = some (some (.own dj')) := by
      rcases set_some h1 with ⟨rfl, _, _⟩ | ⟨_, h1⟩
      · exact ⟨_, hi⟩
      · exact ⟨_, h1⟩
    have g2 : ∃ dk', Δ[k]? = some (some (.own dk')) := by
      rcases set_some h2 with ⟨rfl, _, _⟩ | ⟨_, h2⟩
      · exact ⟨_, hi⟩
      · exact ⟨_, h2⟩
    obtain ⟨dj', g1⟩ := g1
    obtain ⟨dk', g2⟩ := g2
    exact E.sep j k dj' dk' a hjk g1 g2 h5 h6
/-- one's own list is done: from now on it stands for ever -/
theorem Env.freeze {pp : Option Addr} {B : Hp × Hp} {Δ : Dn} {σ : St} {Hs H : Hp} (E : Env pp B Δ σ Hs H) {i : Nat} {ds : List PyData} (hi : Δ[i]? = some (some (.own ds))) : ∃ Hs', Env pp B (Δ.set i (some (.val (.list ds)))) σ Hs' H ∧ Le Hs Hs' := by
  obtain ⟨v, h3, p, xs, e1, e2, e3, e4, e5, e6⟩ := E.at_ i _ hi
  subst e1
  have il : i < Δ.length := (List.getElem?_eq_some_iff.mp hi).1
  have le : Le Hs (upd Hs p (.lst xs)) := fun a o h => by
    rw [upd_ne (ne_of_none h e3)]
    exact h
  refine ⟨upd Hs p (.lst xs), ⟨⟨E.gr.s.trans le, E.gr.h, ⟨fun a o h => ?_, fun a e => ?_⟩, fun a o h1 h2 => ?_⟩, by rw [List.length_set, E.len], fun j c h => ?_, fun j k dj dk a hjk h1 h2 h5 h6 => ?_⟩, le⟩
  · by_cases z : a = p
    · subst z
      rw [upd_same] at h
      cases h
      exact e2
    · rw [upd_ne z] at h
      exact E.wf.le a o h
  · rw [upd_ne (show a ≠ p from fun z => e5 (by rw [← z]; exact e))]
    exact E.wf.pump a e
  · rw [upd_ne (ne_of_none h1 e4)]
    exact E.gr.fr a o h1 h2
  · rcases set_some h with ⟨rfl, e, z⟩ | ⟨n, h⟩
    · cases e
      exact ⟨.ref p, h3, p, xs, rfl, upd_same, RpL.mono le ds xs e6⟩
    · obtain ⟨w, h1, h2⟩ := E.at_ j c h
      refine ⟨w, h1, ?_⟩
      cases c with
      | val d => exact Rp.mono le d w h2
      | own dj =>
        obtain ⟨q, zs, f1, f2, f3, f4, f5, f6⟩ := h2
        subst f1
        have qn : q ≠ p := fun z => by
          subst z
          exact E.sep j i dj ds q n h hi h1 h3
        exact ⟨q, zs, rfl, f2, by rw [upd_ne qn]; exact f3, f4, f5, RpL.mono le dj zs f6⟩
      | pump => exact h2
  · rcases set_some h1 with ⟨rfl, e, z⟩ | ⟨n1, h1⟩
    · cases e
    · rcases set_some h2 with ⟨rfl, e, z⟩ | ⟨n2, h2⟩
      · cases e
      · exact E.sep j k dj dk a hjk h1 h2 h5 h6
end DL
/-! D1: what expressions, tests, arguments evaluate to, as data. -/
namespace DL
open PySem L2

def Ans (pp : Option Addr) (Hs H : Hp) (P : PyData → Prop) (Q : VK) : Prop := ∀ v d Hs' H', Gr pp Hs H Hs' H' → Rp Hs' d v → P d → Q v H'
theorem Ans.go {pp : Option Addr} {Hs H Hs' H' : Hp} {P : PyData → Prop} {Q : VK} (q : Ans pp Hs H P Q) (g : Gr pp Hs H Hs' H') : Ans pp Hs' H' P Q := fun v d A B g' r p => q v d A B (g.trans g') r p
theorem Ans.here {pp : Option Addr} {Hs H : Hp} {P : PyData → Prop} {Q : VK} (q : Ans pp Hs H P Q) (w : Wf pp Hs H) {v : V} {d : PyData} (r : Rp Hs d v) (p : P d) : Q v H := q v d Hs H (.refl w) r p
theorem Ans.newL {pp : Option Addr} {Hs H : Hp} {P : PyData → Prop} {Q : VK} (q : Ans pp Hs H P Q) (w : Wf pp Hs H) {xs : List V} {ds : List PyData} (r : RpL Hs ds xs) (p : P (.list ds)) : ∀ a, H a = none → Q (.ref a) (upd H a (.lst xs)) := fun a ha =>
  q _ (.list ds) _ _ (.new w ha) ⟨a, xs, rfl, upd_same, r.mono (Gr.new w ha).s⟩ p
theorem Ans.newT {pp : Option Addr} {Hs H : Hp} {P : PyData → Prop} {Q : VK} (q : Ans pp Hs H P Q) (w : Wf pp Hs H) {xs : List V} {ds : List PyData} (r : RpL Hs ds xs) (p : P (.tuple ds)) : ∀ a, H a = none → Q (.ref a) (upd H a (.tup xs)) := fun a ha =>
  q _ (.tuple ds) _ _ (.new w ha) ⟨a, xs, rfl, upd_same, r.mono (Gr.new w ha).s⟩ p

def EvP (Δ : Dn) (te : TE) (P : PyData → Prop) : Prop := ∀ pp B σ Hs H, Env pp B Δ σ Hs H → ∀ Q : VK, Ans pp Hs H P Q → te σ H Q
abbrev Ev (Δ : Dn) (te : TE) (d : PyData) : Prop := EvP Δ te fun x => x = d
/-- a list of its own -/
def EvNP (Δ : Dn) (te : TE) (P : List PyData → Prop) : Prop := ∀ pp B σ Hs H, Env pp B Δ σ Hs H → ∀ Q : VK, (∀ p xs ds Hs' H', Gr pp Hs H Hs' H' → H p = none → Hs' p = none → H' p = some (.lst xs) → RpL Hs' ds xs → P ds → Q (.ref p) H') → te σ H Q
abbrev EvN (Δ : Dn) (te : TE) (ds : List PyData) : Prop := EvNP Δ te fun x => x = ds
def EvT (Δ : Dn) (tt : TT) (b : Bool) : Prop := ∀ pp B σ Hs H, Env pp B Δ σ Hs H → ∀ Q : Bool → Hp → Prop, (∀ Hs' H', Gr pp Hs H Hs' H' → Q b H') → tt σ H Q
def EvA (Δ : Dn) (ta : TA) (ds : List PyData) : Prop := ∀ pp B σ Hs H, Env pp B Δ σ Hs H → ∀ Q : List V → Hp → Prop, (∀ vs Hs' H', Gr pp Hs H Hs' H' → RpL Hs' ds vs → Q vs H') → ta σ H Q
def EvO (Δ : Dn) (to : TO) (o : Option Int) : Prop := ∀ pp B σ Hs H, Env pp B Δ σ Hs H → ∀ Q : Option Int → Hp → Prop, (∀ Hs' H', Gr pp Hs H Hs' H' → Q o H') → to σ H Q

/-- a list of its own, once its address is passed on as a value for ever -/
theorem gr_seal {pp : Option Addr} {Hs H Hs' H' : Hp} (g : Gr pp Hs H Hs' H') (w : Wf pp Hs H) {p : Addr} {o : HO} (hn : H p = none) (hs : Hs' p = none) (hp : H' p = some o) : Gr pp Hs H (upd Hs' p o) H' ∧ Le Hs' (upd Hs' p o) := by
  have le : Le Hs' (upd Hs' p o) := fun a u h => by
    rw [upd_ne (ne_of_none h hs)]
    exact h
  refine ⟨⟨g.s.trans le, g.h, ⟨fun a u h => ?_, fun a e => ?_⟩, fun a u h1 h2 => ?_⟩, le⟩
  · by_cases z : a = p
    · subst z
      rw [upd_same] at h
      cases h
      exact hp
    · rw [upd_ne z] at h
      exact g.wf.le a u h
  · have z : a ≠ p := fun z => by
      obtain ⟨_, n, h⟩ := w.pump a e
      rw [z, hn] at h
      cases h
    rw [upd_ne z]
    exact g.wf.pump a e
  · rw [upd_ne (ne_of_none h1 hn)]
    exact g.fr a u h1 h2
theorem EvNP.ev {Δ : Dn} {te : TE} {P : List PyData → Prop} (h : EvNP Δ te P) : EvP Δ te fun d => ∃ ds, d = .list ds ∧ P ds := fun pp B σ Hs H E Q q =>
  h pp B σ Hs H E Q fun p xs ds Hs' H' g hn hs hp r k => by
    obtain ⟨g', le⟩ := gr_seal g E.wf hn hs hp
    exact q _ (.list ds) _ H' g' ⟨p, xs, rfl, upd_same, r.mono le⟩ ⟨ds, rfl, k⟩
theorem EvN.ev {Δ : Dn} {te : TE} {ds : List PyData} (h : EvN Δ te ds) : Ev Δ te (.list ds) := fun pp B σ Hs H E Q q => EvNP.ev h pp B σ Hs H E Q fun v d A C g r ⟨es, e1, e2⟩ => q v d A C g r (by rw [e1, e2])

theorem EvP.weak {Δ : Dn} {te : TE} {P P' : PyData → Prop} (h : EvP Δ te P) (k : ∀ d, P d → P' d) : EvP Δ te P' := fun pp B σ Hs H E Q q => h pp B σ Hs H E Q fun v d A C g r p => q v d A C g r (k d p)
theorem Ev.is {Δ : Dn} {te : TE} {d d' : PyData} (h : Ev Δ te d) (e : d = d') : Ev Δ te d' := by
  rw [← e]
  exact h
theorem EvT.is {Δ : Dn} {tt : TT} {b b' : Bool} (h : EvT Δ tt b) (e : b = b') : EvT Δ tt b' := by
  rw [← e]
  exact h
theorem EvN.is {Δ : Dn} {te : TE} {d d' : List PyData} (h : EvN Δ te d) (e : d = d') : EvN Δ te d' := by
  rw [← e]
  exact h

/-! ### names, constants -/
theorem ev_var {Δ : Dn} {i : Nat} {d : PyData} (h : Δ[i]? = some (some (.val d))) : Ev Δ (tVar i) d := fun pp B σ Hs H E Q q => by
  obtain ⟨v, h1, h2⟩ := E.at_ i _ h
  exact ⟨v, h1, q.here E.wf h2 rfl⟩
theorem ev_int {Δ : Dn} {i : Int} : Ev Δ (tC (.int i)) (.int i) := fun pp B σ Hs H E Q q => q.here E.wf (d := .int i) rfl rfl
theorem ev_str {Δ : Dn} {x : Str} : Ev Δ (tC (.str x)) (.str x) := fun pp B σ Hs H E Q q => q.here E.wf (d := .str x) rfl rfl
theorem ev_bl {Δ : Dn} {b : Bool} : Ev Δ (tC (.bl b)) (.bool b) := fun pp B σ Hs H E Q q => q.here E.wf (d := .bool b) rfl rfl
theorem ev_non {Δ : Dn} : Ev Δ (tC .non) .none := fun pp B σ Hs H E Q q => q.here E.wf (d := .none) rfl rfl

/-! ### operations on values -/
def RV (r : R2) (d1 d2 : PyData) (P : PyData → Prop) : Prop := ∀ pp Hs H x y, Wf pp Hs H → Rp Hs d1 x → Rp Hs d2 y → ∀ Q, Ans pp Hs H P Q → r x y H Q
def RC (r : List V → Hp → VK → Prop) (ds : List PyData) (P : PyData → Prop) : Prop := ∀ pp Hs H xs, Wf pp Hs H → RpL Hs ds xs → ∀ Q, Ans pp Hs H P Q → r xs H Q
theorem ev_opP {Δ : Dn} {r : R2} {ta tb : TE} {P1 P2 P : PyData → Prop} (ha : EvP Δ ta P1) (hb : EvP Δ tb P2) (hr : ∀ d1 d2, P1 d1 → P2 d2 → RV r d1 d2 P) : EvP Δ (tOp r ta tb) P := fun pp B σ Hs H E Q q =>
  ha pp B σ Hs H E _ fun x d1 Hs1 H1 g1 r1 p1 => hb pp B σ Hs1 H1 (E.grow g1) _ fun y d2 Hs2 H2 g2 r2 p2 =>
    hr d1 d2 p1 p2 pp Hs2 H2 x y g2.wf (Rp.mono g2.s _ _ r1) r2 Q (q.go (g1.trans g2))
theorem ev_op {Δ : Dn} {r : R2} {ta tb : TE} {d1 d2 d : PyData} (ha : Ev Δ ta d1) (hb : Ev Δ tb d2) (hr : RV r d1 d2 fun x => x = d) : Ev Δ (tOp r ta tb) d :=
  ev_opP ha hb fun x y e1 e2 => by
    rw [e1, e2]
    exact hr
theorem rv_I0 {g : Int → Int → V} {f : Int → Int → PyData} {i j : Int} (h : ∀ H, Rp H (f i j) (g i j)) : RV (rI0 g) (.int i) (.int j) fun x => x = f i j := fun pp Hs H x y w r1 r2 Q q => ⟨i, j, r1, r2, q.here w (h Hs) rfl⟩
theorem rv_I {C : Int → Int → Prop} {g : Int → Int → V} {f : Int → Int → PyData} {i j : Int} (hc : C i j) (h : ∀ H, Rp H (f i j) (g i j)) : RV (rI C g) (.int i) (.int j) fun x => x = f i j := fun pp Hs H x y w r1 r2 Q q => ⟨i, j, r1, r2, hc, q.here w (h Hs) rfl⟩

section
variable {X : Cx}
/-- + of ints, of texts, of lists -/
def rAddA : R2 := fun x y H Q => (∃ i j, x = .int i ∧ y = .int j ∧ Q (.int (i + j)) H) ∨ (∃ i j, x = .str i ∧ y = .str j ∧ i.length + j.length ≤ sizeLine ∧ Q (.str (i ++ j)) H) ∨ rCat x y H Q
theorem op_addA : OpR X (binaryOp .Add) rAddA := op_add.or (op_add_str.or op_cat)
def rMulA : R2 := fun x y H Q => rI CMul (fun i j => .int (i * j)) x y H Q ∨ rRep x y H Q
theorem op_mulA : OpR X (binaryOp .Mult) rMulA := op_mul.or op_rep
/-- == -/
def rEqA (K : PySem.W.Frag) : R2 := fun x y H Q => rEq x y H Q ∨ rEqD K x y H Q
def rNeA (K : PySem.W.Frag) : R2 := fun x y H Q => rNe x y H Q ∨ rNeD K x y H Q
theorem op_eqA (hu : X.A.units + 64 < cLine) : OpR X (compareOp .Eq) (rEqA X.K) := op_eq.or (op_eqD hu)
theorem op_neA (hu : X.A.units + 64 < cLine) : OpR X (compareOp .NotEq) (rNeA X.K) := op_ne.or (op_neD hu)
/-- not in, of a sign in a text, of an int in a list -/
def rNiA (K : PySem.W.Frag) : R2 := fun x y H Q => (∃ (c : Nat) (z : Str), x = .str ⟨#[c]⟩ ∧ y = .str z ∧ Q (.bl (!decide (c ∈ z.cps.toList))) H) ∨ rIn K true x y H Q
theorem op_niA : OpR X (compareOp .NotIn) (rNiA X.K) := op_notIn_sign.or op_notIn_seq
/-- len of a list, a tuple, a text -/
def rLenA (K : PySem.W.Frag) : List V → Hp → VK → Prop := fun xs H Q => (∃ p ys, xs = [.ref p] ∧ (SqL K H p ys ∨ SqT K H p ys) ∧ Q (.int ys.length) H) ∨ (∃ z, xs = [.str z] ∧ z.length ≤ sizeLine ∧ Q (.int z.length) H)
theorem call_lenA : CallR X (.builtin "len") (rLenA X.K) := call_len_seq.or call_len_str
def rMaxA (K : PySem.W.Frag) : List V → Hp → VK → Prop := fun xs H Q => (∃ i j, xs = [.int i, .int j] ∧ Q (.int (if j > i then j else i)) H) ∨ rMax K xs H Q
theorem call_maxA (hc : X.calm = true) : CallR X (.builtin "max") (rMaxA X.K) := (call_max2 hc).or (cr_max hc)
/-- slices of lists, of texts -/
def rSlA (K : PySem.W.Frag) : V → Option Int → Option Int → Hp → VK → Prop := fun x lo hi H Q => rSlL K x lo hi H Q ∨ rSlS x lo hi H Q
theorem sl_any : SlR X (rSlA X.K) := sl_list.or sl_str
end

theorem rv_addI {i j : Int} : RV rAddA (.int i) (.int j) fun x => x = .int (i + j) := fun pp Hs H x y w r1 r2 Q q => .inl ⟨i, j, r1, r2, q.here w (d := .int (i + j)) rfl rfl⟩
theorem rv_addS {a b : Str} (h : a.length + b.length ≤ 100000) : RV rAddA (.str a) (.str b) fun x => x = .str (a ++ b) := fun pp Hs H x y w r1 r2 Q q => .inr (.inl ⟨a, b, r1, r2, Nat.le_trans h (by decide), q.here w (d := .str (a ++ b)) rfl rfl⟩)
theorem rv_addL {as bs : List PyData} (h : as.length + bs.length ≤ 100000) : RV rAddA (.list as) (.list bs) fun x => x = .list (as ++ bs) := fun pp Hs H x y w r1 r2 Q q => by
  obtain ⟨a, xs, rfl, ha, ra⟩ := r1
  obtain ⟨b, ys, rfl, hb, rb⟩ := r2
  exact .inr (.inr ⟨a, b, xs, ys, rfl, rfl, w.le _ _ ha, w.le _ _ hb, by rw [ra.length, rb.length]; exact Nat.le_trans h (by decide), q.newL w (ra.append rb) rfl⟩)
theorem rv_sub {i j : Int} : RV (rI0 fun i j => .int (i - j)) (.int i) (.int j) fun x => x = .int (i - j) := rv_I0 (f := fun i j => .int (i - j)) fun _ => rfl
theorem rv_mulI {i j : Int} (h : CMul i j) : RV rMulA (.int i) (.int j) fun x => x = .int (i * j) := fun pp Hs H x y w r1 r2 Q q => .inl ⟨i, j, r1, r2, h, q.here w (d := .int (i * j)) rfl rfl⟩
theorem rv_mulL {as : List PyData} {j : Int} (h0 : 0 ≤ j) (h1 : j ≤ 100000) (h : as.length * j.toNat ≤ 100000) : RV rMulA (.list as) (.int j) fun x => x = .list (List.replicate j.toNat as).flatten := fun pp Hs H x y w r1 r2 Q q => by
  obtain ⟨a, xs, rfl, ha, ra⟩ := r1
  exact .inr ⟨a, j, xs, rfl, r2, w.le _ _ ha, by omega, by omega, by rw [ra.length]; exact Nat.le_trans h (by decide), q.newL w (ra.flat _) rfl⟩
theorem rv_mod {i j : Int} (h : j ≠ 0) : RV (rI (fun _ j => j ≠ 0) fun i j => .int (i.fmod j)) (.int i) (.int j) fun x => x = .int (i.fmod j) := rv_I (f := fun i j => .int (i.fmod j)) h fun _ => rfl
theorem rv_div {i j : Int} (h : CDivN i j) : RV (rI CDivN fun i j => .int (i.fdiv j)) (.int i) (.int j) fun x => x = .int (i.fdiv j) := rv_I (f := fun i j => .int (i.fdiv j)) h fun _ => rfl
theorem rv_pow {i j : Int} (h : CPow i j) : RV (rI CPow fun i j => .int (i ^ j.toNat)) (.int i) (.int j) fun x => x = .int (i ^ j.toNat) := rv_I (f := fun i j => .int (i ^ j.toNat)) h fun _ => rfl
theorem rv_lt {i j : Int} : RV (rI0 fun i j => .bl (decide (i < j))) (.int i) (.int j) fun x => x = .bool (decide (i < j)) := rv_I0 (f := fun i j => .bool (decide (i < j))) fun _ => rfl
theorem rv_le {i j : Int} : RV (rI0 fun i j => .bl (decide (i ≤ j))) (.int i) (.int j) fun x => x = .bool (decide (i ≤ j)) := rv_I0 (f := fun i j => .bool (decide (i ≤ j))) fun _ => rfl
theorem rv_gt {i j : Int} : RV (rI0 fun i j => .bl (decide (j < i))) (.int i) (.int j) fun x => x = .bool (decide (j < i)) := rv_I0 (f := fun i j => .bool (decide (j < i))) fun _ => rfl
theorem rv_ge {i j : Int} : RV (rI0 fun i j => .bl (decide (j ≤ i))) (.int i) (.int j) fun x => x = .bool (decide (j ≤ i)) := rv_I0 (f := fun i j => .bool (decide (j ≤ i))) fun _ => rfl
theorem dec_vint (i j : Int) : decide (V.int i = V.int j) = decide (i = j) := by simp
theorem dec_vstr (i j : Str) : decide (V.str i = V.str j) = decide (i = j) := by simp
theorem rv_eqI {K : PySem.W.Frag} {i j : Int} : RV (rEqA K) (.int i) (.int j) fun x => x = .bool (decide (i = j)) := fun pp Hs H x y w r1 r2 Q q => by
  cases (show x = .int i from r1)
  cases (show y = .int j from r2)
  refine .inl ⟨rfl, ?_⟩
  rw [dec_vint]
  exact q.here w (d := .bool _) rfl rfl
theorem rv_neI {K : PySem.W.Frag} {i j : Int} : RV (rNeA K) (.int i) (.int j) fun x => x = .bool (!decide (i = j)) := fun pp Hs H x y w r1 r2 Q q => by
  cases (show x = .int i from r1)
  cases (show y = .int j from r2)
  refine .inl ⟨rfl, ?_⟩
  rw [dec_vint]
  exact q.here w (d := .bool _) rfl rfl
theorem rv_eqS {K : PySem.W.Frag} {i j : Str} : RV (rEqA K) (.str i) (.str j) fun x => x = .bool (decide (i = j)) := fun pp Hs H x y w r1 r2 Q q => by
  cases (show x = .str i from r1)
  cases (show y = .str j from r2)
  refine .inl ⟨rfl, ?_⟩
  rw [dec_vstr]
  exact q.here w (d := .bool _) rfl rfl
theorem rv_neS {K : PySem.W.Frag} {i j : Str} : RV (rNeA K) (.str i) (.str j) fun x => x = .bool (!decide (i = j)) := fun pp Hs H x y w r1 r2 Q q => by
  cases (show x = .str i from r1)
  cases (show y = .str j from r2)
  refine .inl ⟨rfl, ?_⟩
  rw [dec_vstr]
  exact q.here w (d := .bool _) rfl rfl
theorem rv_eqD {K : PySem.W.Frag} {d e : PyData} (h1 : SeqAt.shaped d = true) (h2 : SeqAt.shaped e = true) : RV (rEqA K) d e fun x => x = .bool (PyData.eqv d e) := fun pp Hs H x y w r1 r2 Q q =>
  .inr ⟨d, e, (Rp.mono w.le _ _ r1).dp, (Rp.mono w.le _ _ r2).dp, h1, h2, q.here w (d := .bool _) rfl rfl⟩
theorem rv_neD {K : PySem.W.Frag} {d e : PyData} (h1 : SeqAt.shaped d = true) (h2 : SeqAt.shaped e = true) : RV (rNeA K) d e fun x => x = .bool (!PyData.eqv d e) := fun pp Hs H x y w r1 r2 Q q =>
  .inr ⟨d, e, (Rp.mono w.le _ _ r1).dp, (Rp.mono w.le _ _ r2).dp, h1, h2, q.here w (d := .bool _) rfl rfl⟩
theorem rv_niS {K : PySem.W.Frag} {c : Nat} {z : Str} : RV (rNiA K) (.str ⟨#[c]⟩) (.str z) fun x => x = .bool (!decide (c ∈ z.cps.toList)) := fun pp Hs H x y w r1 r2 Q q => .inl ⟨c, z, r1, r2, q.here w (d := .bool _) rfl rfl⟩
theorem inV_int (i : Int) : ∀ ns : List Int, inV (.int i) (ns.map V.int) = decide (i ∈ ns)
  | [] => rfl
  | n :: ns => by
    have ih := inV_int i ns
    unfold inV at ih ⊢
    rw [List.map_cons, List.any_cons, ih]
    have e : eqV (V.int n) (V.int i) = decide (i = n) := by
      show (n == i) = _
      rw [Bool.eq_iff_iff]
      simp only [beq_iff_eq, decide_eq_true_eq]
      exact eq_comm
    rw [e, Bool.eq_iff_iff]
    simp
theorem flat_ints : ∀ ns : List Int, (ns.map V.int).all flatV = true
  | [] => rfl
  | n :: ns => by
    rw [List.map_cons, List.all_cons, flat_ints ns]
    rfl
theorem rv_niI {K : PySem.W.Frag} {i : Int} {ns : List Int} : RV (rNiA K) (.int i) (.list (ns.map .int)) fun x => x = .bool (!decide (i ∈ ns)) := fun pp Hs H x y w r1 r2 Q q => by
  obtain ⟨a, xs, rfl, ha, ra⟩ := r2
  cases (show x = .int i from r1)
  have e := ra.ints
  subst e
  refine .inr ⟨a, _, rfl, .inl (.of (w.le _ _ ha)), rfl, flat_ints ns, ?_⟩
  rw [if_pos rfl, inV_int]
  exact q.here w (d := .bool _) rfl rfl
theorem map_bind {α β : Type} (f : α → β) (n : Option Nat) (xs : List α) : (n.bind fun j => (xs.map f)[j]?) = (n.bind fun j => xs[j]?).map f := by
  cases n with
  | none => rfl
  | some j => simp
theorem RpL.atI {H : Hp} {ds : List PyData} {xs : List V} {k : Int} {d : PyData} (r : RpL H ds xs) (h : atI ds k = some d) : ∃ x, atI xs k = some x ∧ Rp H d x := by
  unfold L2.atI at h ⊢
  rw [r.length]
  cases e : ixN ds.length k with
  | none =>
    rw [e] at h
    cases h
  | some j =>
    rw [e] at h
    exact r.get h
theorem rv_ixL {K : PySem.W.Frag} {ds : List PyData} {k : Int} {d : PyData} (h : atI ds k = some d) : RV (rIx K) (.list ds) (.int k) fun x => x = d := fun pp Hs H x y w r1 r2 Q q => by
  obtain ⟨a, xs, rfl, ha, ra⟩ := r1
  obtain ⟨v, h1, h2⟩ := ra.atI h
  exact .inl ⟨a, xs, k, v, rfl, r2, .of (w.le _ _ ha), h1, q.here w h2 rfl⟩
theorem rv_ixT {K : PySem.W.Frag} {ds : List PyData} {k : Int} {d : PyData} (h : atI ds k = some d) : RV (rIx K) (.tuple ds) (.int k) fun x => x = d := fun pp Hs H x y w r1 r2 Q q => by
  obtain ⟨a, xs, rfl, ha, ra⟩ := r1
  obtain ⟨v, h1, h2⟩ := ra.atI h
  exact .inr (.inl ⟨a, xs, k, v, rfl, r2, .of (w.le _ _ ha), h1, q.here w h2 rfl⟩)
theorem rv_ixS {K : PySem.W.Frag} {z : Str} {k : Int} {c : Nat} (hz : z.length ≤ 100000) (h : atI z.cps.toList k = some c) : RV (rIx K) (.str z) (.int k) fun x => x = .str ⟨#[c]⟩ := fun pp Hs H x y w r1 r2 Q q =>
  .inr (.inr ⟨z, k, c, r1, r2, Nat.le_trans hz (by decide), h, q.here w (d := .str _) rfl rfl⟩)
/-- an item of one's own list -/
theorem ev_ixOwn {K : PySem.W.Frag} {Δ : Dn} {i : Nat} {tb : TE} {ds : List PyData} {k : Int} {d : PyData} (h : Δ[i]? = some (some (.own ds))) (hb : Ev Δ tb (.int k)) (hk : atI ds k = some d) : Ev Δ (tOp (rIx K) (tVar i) tb) d := fun pp B σ Hs H E Q q => by
  obtain ⟨v, h1, h2⟩ := E.at_ i _ h
  refine ⟨v, h1, hb pp B σ Hs H E _ fun y d2 Hs2 H2 g2 r2 p2 => ?_⟩
  subst p2
  obtain ⟨p, xs, rfl, e2, e3, e4, e5, e6⟩ := h2.grow g2
  obtain ⟨x, f1, f2⟩ := e6.atI hk
  exact .inl ⟨p, xs, k, x, rfl, r2, .of e2, f1, (q.go g2).here g2.wf f2 rfl⟩

/-! ### parts: tuples, lists, slices, calls -/
theorem ea_nil {Δ : Dn} : EvA Δ tNil [] := fun pp B σ Hs H E Q q => q [] Hs H (.refl E.wf) rfl
theorem ea_cons {Δ : Dn} {te : TE} {tr : TA} {d : PyData} {ds : List PyData} (h : Ev Δ te d) (hr : EvA Δ tr ds) : EvA Δ (tCons te tr) (d :: ds) := fun pp B σ Hs H E Q q =>
  h pp B σ Hs H E _ fun x d1 Hs1 H1 g1 r1 p1 => hr pp B σ Hs1 H1 (E.grow g1) _ fun vs Hs2 H2 g2 r2 => q _ Hs2 H2 (g1.trans g2) ⟨x, vs, rfl, by rw [← p1]; exact Rp.mono g2.s _ _ r1, r2⟩
theorem ev_tup {Δ : Dn} {ta : TA} {ds : List PyData} (h : EvA Δ ta ds) (hl : ds.length ≤ 100000) : Ev Δ (tTup ta) (.tuple ds) := fun pp B σ Hs H E Q q =>
  h pp B σ Hs H E _ fun vs Hs1 H1 g1 r1 => ⟨by rw [r1.length]; exact Nat.le_trans hl (by decide), (q.go g1).newT g1.wf r1 rfl⟩
theorem en_lst {Δ : Dn} {ta : TA} {ds : List PyData} (h : EvA Δ ta ds) (hl : ds.length ≤ 100000) : EvN Δ (tLst ta) ds := fun pp B σ Hs H E Q q =>
  h pp B σ Hs H E _ fun vs Hs1 H1 g1 r1 => ⟨by rw [r1.length]; exact Nat.le_trans hl (by decide), fun p hp => by
    have f : ∀ a, H1 a = none → H a = none := fun a ha => by
      cases e : H a with
      | none => rfl
      | some o =>
        by_cases z : pp = some a
        · obtain ⟨_, n, h⟩ := g1.wf.pump a z
          rw [ha] at h
          cases h
        · have := g1.h a o z e
          rw [ha] at this
          cases this
    have hs : Hs1 p = none := by
      cases e : Hs1 p with
      | none => rfl
      | some o =>
        have := g1.wf.le p o e
        rw [hp] at this
        cases this
    exact q p vs ds Hs1 _ (g1.trans (.mine g1.wf hp)) (f p hp) hs upd_same r1 rfl⟩
theorem ev_lst {Δ : Dn} {ta : TA} {ds : List PyData} (h : EvA Δ ta ds) (hl : ds.length ≤ 100000) : Ev Δ (tLst ta) (.list ds) := (en_lst h hl).ev
theorem eo_none {Δ : Dn} : EvO Δ tNoPart none := fun pp B σ Hs H E Q q => q Hs H (.refl E.wf)
theorem eo_some {Δ : Dn} {te : TE} {i : Int} (h : Ev Δ te (.int i)) : EvO Δ (tPart te) (some i) := fun pp B σ Hs H E Q q =>
  h pp B σ Hs H E _ fun x d1 Hs1 H1 g1 r1 p1 => ⟨i, by rw [p1] at r1; exact r1, q Hs1 H1 g1⟩
/-- a cut of any list -/
def cutG {α : Type} (xs : List α) (lo hi : Option Int) : List α := (xs.drop (HT.sIx xs.length 0 lo)).take (HT.sIx xs.length xs.length hi - HT.sIx xs.length 0 lo)
theorem RpL.cut {H : Hp} {ds : List PyData} {xs : List V} (r : RpL H ds xs) (lo hi : Option Int) : RpL H (cutG ds lo hi) (cutV xs lo hi) := by
  unfold cutG cutV
  rw [r.length]
  exact (r.drop _).take _
theorem ev_slL {K : PySem.W.Frag} {Δ : Dn} {te : TE} {tl th : TO} {ds : List PyData} {lo hi : Option Int} (h : Ev Δ te (.list ds)) (h1 : EvO Δ tl lo) (h2 : EvO Δ th hi) : Ev Δ (tSl (rSlA K) te tl th) (.list (cutG ds lo hi)) := fun pp B σ Hs H E Q q =>
  h pp B σ Hs H E _ fun x d1 Hs1 H1 g1 r1 p1 => h1 pp B σ Hs1 H1 (E.grow g1) _ fun Hs2 H2 g2 => h2 pp B σ Hs2 H2 ((E.grow g1).grow g2) _ fun Hs3 H3 g3 => by
    subst p1
    obtain ⟨a, xs, rfl, ha, ra⟩ := Rp.mono (g2.s.trans g3.s) _ _ r1
    exact .inl ⟨a, xs, rfl, .of (g3.wf.le _ _ ha), (q.go ((g1.trans g2).trans g3)).newL g3.wf (ra.cut lo hi) rfl⟩
theorem ev_slS {K : PySem.W.Frag} {Δ : Dn} {te : TE} {tl th : TO} {z : Str} {lo hi : Option Int} (h : Ev Δ te (.str z)) (hz : z.length ≤ 100000) (h1 : EvO Δ tl lo) (h2 : EvO Δ th hi) : Ev Δ (tSl (rSlA K) te tl th) (.str (cutS z lo hi)) := fun pp B σ Hs H E Q q =>
  h pp B σ Hs H E _ fun x d1 Hs1 H1 g1 r1 p1 => h1 pp B σ Hs1 H1 (E.grow g1) _ fun Hs2 H2 g2 => h2 pp B σ Hs2 H2 ((E.grow g1).grow g2) _ fun Hs3 H3 g3 => by
    subst p1
    exact .inr ⟨z, r1, Nat.le_trans hz (by decide), (q.go ((g1.trans g2).trans g3)).here g3.wf (d := .str _) rfl rfl⟩
theorem ev_slSP {K : PySem.W.Frag} {Δ : Dn} {te : TE} {tl th : TO} {P : PyData → Prop} {lo hi : Option Int} (h : EvP Δ te fun d => ∃ z, d = .str z ∧ z.length ≤ 100000 ∧ P (.str (cutS z lo hi))) (h1 : EvO Δ tl lo) (h2 : EvO Δ th hi) : EvP Δ (tSl (rSlA K) te tl th) P := fun pp B σ Hs H E Q q =>
  h pp B σ Hs H E _ fun x d1 Hs1 H1 g1 r1 p1 => h1 pp B σ Hs1 H1 (E.grow g1) _ fun Hs2 H2 g2 => h2 pp B σ Hs2 H2 ((E.grow g1).grow g2) _ fun Hs3 H3 g3 => by
    obtain ⟨z, rfl, hz, hp⟩ := p1
    exact .inr ⟨z, r1, Nat.le_trans hz (by decide), (q.go ((g1.trans g2).trans g3)).here g3.wf (d := .str _) rfl hp⟩
theorem ev_cb {Δ : Dn} {r : List V → Hp → VK → Prop} {ta : TA} {ds : List PyData} {d : PyData} (h : EvA Δ ta ds) (hr : RC r ds fun x => x = d) : Ev Δ (tCB r ta) d := fun pp B σ Hs H E Q q =>
  h pp B σ Hs H E _ fun vs Hs1 H1 g1 r1 => hr pp Hs1 H1 vs g1.wf r1 Q (q.go g1)
theorem rc_lenL {K : PySem.W.Frag} {ds : List PyData} : RC (rLenA K) [.list ds] fun x => x = .int ds.length := fun pp Hs H xs w r Q q => by
  obtain ⟨x, r', rfl, ⟨a, ys, rfl, ha, ra⟩, r2⟩ := r
  cases (show r' = [] from r2)
  refine .inl ⟨a, ys, rfl, .inl (.of (w.le _ _ ha)), ?_⟩
  rw [ra.length]
  exact q.here w (d := .int _) rfl rfl
theorem rc_lenS {K : PySem.W.Frag} {z : Str} (hz : z.length ≤ 100000) : RC (rLenA K) [.str z] fun x => x = .int z.length := fun pp Hs H xs w r Q q => by
  obtain ⟨x, r', rfl, rx, r2⟩ := r
  cases (show r' = [] from r2)
  cases (show x = .str z from rx)
  exact .inr ⟨z, rfl, Nat.le_trans hz (by decide), q.here w (d := .int _) rfl rfl⟩
theorem rc_max2 {K : PySem.W.Frag} {i j : Int} : RC (rMaxA K) [.int i, .int j] fun x => x = .int (if j > i then j else i) := fun pp Hs H xs w r Q q => by
  obtain ⟨x, r', rfl, rx, y, r'', rfl, ry, r2⟩ := r
  cases (show r'' = [] from r2)
  cases (show x = .int i from rx)
  cases (show y = .int j from ry)
  exact .inl ⟨i, j, rfl, q.here w (d := .int _) rfl rfl⟩
theorem rc_maxL {K : PySem.W.Frag} {ns : List Int} {m : Int} (hm : m ∈ ns) (hx : ∀ y ∈ ns, y ≤ m) : RC (rMaxA K) [.list (ns.map .int)] fun x => x = .int m := fun pp Hs H xs w r Q q => by
  obtain ⟨x, r', rfl, ⟨a, ys, rfl, ha, ra⟩, r2⟩ := r
  cases (show r' = [] from r2)
  have e := ra.ints
  subst e
  refine .inr ⟨a, ns, rfl, .of (w.le _ _ ha), List.length_pos_of_mem hm, fun m' h1 h2 => ?_⟩
  have : m' = m := by
    have a1 := hx m' h1
    have a2 := h2 m hm
    omega
  rw [this]
  exact q.here w (d := .int _) rfl rfl
theorem rc_minL {K : PySem.W.Frag} {ns : List Int} {m : Int} (hm : m ∈ ns) (hx : ∀ y ∈ ns, m ≤ y) : RC (rMin K) [.list (ns.map .int)] fun x => x = .int m := fun pp Hs H xs w r Q q => by
  obtain ⟨x, r', rfl, ⟨a, ys, rfl, ha, ra⟩, r2⟩ := r
  cases (show r' = [] from r2)
  have e := ra.ints
  subst e
  refine ⟨a, ns, rfl, .of (w.le _ _ ha), List.length_pos_of_mem hm, fun m' h1 h2 => ?_⟩
  have : m' = m := by
    have a1 := hx m' h1
    have a2 := h2 m hm
    omega
  rw [this]
  exact q.here w (d := .int _) rfl rfl
theorem rc_sum {K : PySem.W.Frag} {ns : List Int} : RC (rSum K) [.list (ns.map .int)] fun x => x = .int ns.sum := fun pp Hs H xs w r Q q => by
  obtain ⟨x, r', rfl, ⟨a, ys, rfl, ha, ra⟩, r2⟩ := r
  cases (show r' = [] from r2)
  have e := ra.ints
  subst e
  exact ⟨a, ns, rfl, .of (w.le _ _ ha), q.here w (d := .int _) rfl rfl⟩

/-! ### promises -/
def spD (Pre : List PyData → Prop) (f : List PyData → PyData) : Sp := fun vs H Q _ => ∃ Hs ds, Wf none Hs H ∧ RpL Hs ds vs ∧ Pre ds ∧ Ans none Hs H (fun d => d = f ds) Q
/-- a list of its own -/
def spN (Pre : List PyData → Prop) (f : List PyData → List PyData) : Sp := fun vs H Q _ => ∃ Hs ds, Wf none Hs H ∧ RpL Hs ds vs ∧ Pre ds ∧
  ∀ p xs Hs' H', Gr none Hs H Hs' H' → H p = none → Hs' p = none → H' p = some (.lst xs) → RpL Hs' (f ds) xs → Q (.ref p) H'
/-- with the pump ahead -/
def spP (Pre : List PyData → Prop) (Post : List PyData → PyData → Prop) : Sp := fun vs H Q _ => ∃ p vs' Hs ds, vs = .ref p :: vs' ∧ Wf (some p) Hs H ∧ RpL Hs ds vs' ∧ Pre ds ∧ Ans (some p) Hs H (Post ds) Q
theorem Wf.none_of {pp : Option Addr} {Hs H : Hp} {a : Addr} (w : Wf pp Hs H) (h : H a = none) : Hs a = none := by
  cases e : Hs a with
  | none => rfl
  | some o =>
    have := w.le a o e
    rw [h] at this
    cases this
theorem Gr.none_of {pp : Option Addr} {Hs H Hs' H' : Hp} {a : Addr} (g : Gr pp Hs H Hs' H') (h : H' a = none) : H a = none := by
  cases e : H a with
  | none => rfl
  | some o =>
    by_cases z : pp = some a
    · obtain ⟨_, n, h2⟩ := g.wf.pump a z
      rw [h] at h2
      cases h2
    · have := g.h a o z e
      rw [h] at this
      cases this
theorem ev_call {Δ : Dn} {Pre : List PyData → Prop} {f : List PyData → PyData} {E : XK} {ta : TA} {ds : List PyData} (h : EvA Δ ta ds) (hp : Pre ds) : Ev Δ (tCall (spD Pre f) [] E ta) (f ds) := fun pp B σ Hs H En Q q =>
  h pp B σ Hs H En _ fun vs Hs1 H1 g1 r1 => by
    show spD Pre f (vs ++ []) H1 Q E
    rw [List.append_nil]
    exact ⟨Hs1, ds, g1.wf.bare, r1, hp, fun v d A C g r e => q v d A C (g1.trans (g.lift g1.wf)) r e⟩
theorem en_call {Δ : Dn} {Pre : List PyData → Prop} {f : List PyData → List PyData} {E : XK} {ta : TA} {ds : List PyData} (h : EvA Δ ta ds) (hp : Pre ds) : EvN Δ (tCall (spN Pre f) [] E ta) (f ds) := fun pp B σ Hs H En Q q =>
  h pp B σ Hs H En _ fun vs Hs1 H1 g1 r1 => by
    show spN Pre f (vs ++ []) H1 Q E
    rw [List.append_nil]
    exact ⟨Hs1, ds, g1.wf.bare, r1, hp, fun p xs A C g e1 e2 e3 r => q p xs _ A C (g1.trans (g.lift g1.wf)) (g1.none_of e1) e2 e3 r rfl⟩
theorem ev_callN {Δ : Dn} {Pre : List PyData → Prop} {f : List PyData → List PyData} {E : XK} {ta : TA} {ds : List PyData} (h : EvA Δ ta ds) (hp : Pre ds) : Ev Δ (tCall (spN Pre f) [] E ta) (.list (f ds)) := (en_call h hp).ev
theorem ev_callP {Δ : Dn} {Pre : List PyData → Prop} {Post : List PyData → PyData → Prop} {E : XK} {i : Nat} {ta : TA} {ds : List PyData} (hi : Δ[i]? = some (some .pump)) (h : EvA Δ ta ds) (hp : Pre ds) : EvP Δ (tCall (spP Pre Post) [] E (tCons (tVar i) ta)) (Post ds) := fun pp B σ Hs H En Q q => by
  obtain ⟨v, h1, p, e1, e2⟩ := En.at_ i _ hi
  subst e1 e2
  refine ⟨_, h1, h (some p) B σ Hs H En _ fun vs Hs1 H1 g1 r1 => ?_⟩
  show spP Pre Post ((V.ref p :: vs) ++ []) H1 Q E
  rw [List.append_nil]
  exact ⟨p, vs, Hs1, ds, rfl, g1.wf, r1, hp, q.go g1⟩

/-! ### and, or, not; tests -/
theorem ev_not {Δ : Dn} {te : TE} {b : Bool} (h : Ev Δ te (.bool b)) : Ev Δ (tNotV te) (.bool (!b)) := fun pp B σ Hs H E Q q =>
  h pp B σ Hs H E _ fun x d1 Hs1 H1 g1 r1 p1 => ⟨b, by rw [p1] at r1; exact r1, (q.go g1).here g1.wf (d := .bool _) rfl rfl⟩
theorem ev_and {Δ : Dn} {ta tb : TE} {a b : Bool} (h : Ev Δ ta (.bool a)) (h2 : a = true → Ev Δ tb (.bool b)) : Ev Δ (tAndV ta tb) (.bool (a && b)) := fun pp B σ Hs H E Q q =>
  h pp B σ Hs H E _ fun x d1 Hs1 H1 g1 r1 p1 => ⟨a, by rw [p1] at r1; exact r1, by
    cases a with
    | true => exact h2 rfl pp B σ Hs1 H1 (E.grow g1) Q (q.go g1)
    | false => exact (q.go g1).here g1.wf (d := .bool _) rfl rfl⟩
theorem ev_or {Δ : Dn} {ta tb : TE} {a b : Bool} (h : Ev Δ ta (.bool a)) (h2 : a = false → Ev Δ tb (.bool b)) : Ev Δ (tOrV ta tb) (.bool (a || b)) := fun pp B σ Hs H E Q q =>
  h pp B σ Hs H E _ fun x d1 Hs1 H1 g1 r1 p1 => ⟨a, by rw [p1] at r1; exact r1, by
    cases a with
    | false => exact h2 rfl pp B σ Hs1 H1 (E.grow g1) Q (q.go g1)
    | true => exact (q.go g1).here g1.wf (d := .bool _) rfl rfl⟩
theorem et_test {Δ : Dn} {te : TE} {b : Bool} (h : Ev Δ te (.bool b)) : EvT Δ (tTest te) b := fun pp B σ Hs H E Q q =>
  h pp B σ Hs H E _ fun x d1 Hs1 H1 g1 r1 p1 => ⟨b, by rw [p1] at r1; exact r1, q Hs1 H1 g1⟩
theorem et_B {Δ : Dn} {te : TE} {b : Bool} (h : Ev Δ te (.bool b)) : EvT Δ (tB te) b := fun pp B σ Hs H E Q q =>
  h pp B σ Hs H E _ fun x d1 Hs1 H1 g1 r1 p1 => ⟨b, by rw [p1] at r1; exact r1, q Hs1 H1 g1⟩
theorem et_not {Δ : Dn} {t : TT} {b : Bool} (h : EvT Δ t b) : EvT Δ (tNot t) (!b) := fun pp B σ Hs H E Q q => h pp B σ Hs H E _ fun Hs1 H1 g1 => q Hs1 H1 g1
theorem et_and {Δ : Dn} {t u : TT} {a b : Bool} (h : EvT Δ t a) (h2 : a = true → EvT Δ u b) : EvT Δ (tAnd t u) (a && b) := fun pp B σ Hs H E Q q =>
  h pp B σ Hs H E _ fun Hs1 H1 g1 => by
    cases a with
    | true => exact h2 rfl pp B σ Hs1 H1 (E.grow g1) Q fun A C g => q A C (g1.trans g)
    | false => exact q Hs1 H1 g1
theorem et_or {Δ : Dn} {t u : TT} {a b : Bool} (h : EvT Δ t a) (h2 : a = false → EvT Δ u b) : EvT Δ (tOr t u) (a || b) := fun pp B σ Hs H E Q q =>
  h pp B σ Hs H E _ fun Hs1 H1 g1 => by
    cases a with
    | false => exact h2 rfl pp B σ Hs1 H1 (E.grow g1) Q fun A C g => q A C (g1.trans g)
    | true => exact q Hs1 H1 g1
theorem et_yes {Δ : Dn} : EvT Δ tYes true := fun pp B σ Hs H E Q q => q Hs H (.refl E.wf)
theorem ev_if {Δ : Dn} {t : TT} {ta tb : TE} {b : Bool} {P : PyData → Prop} (h : EvT Δ t b) (h1 : b = true → EvP Δ ta P) (h2 : b = false → EvP Δ tb P) : EvP Δ (tIf t ta tb) P := fun pp B σ Hs H E Q q =>
  h pp B σ Hs H E _ fun Hs1 H1 g1 => by
    cases b with
    | true => exact h1 rfl pp B σ Hs1 H1 (E.grow g1) Q (q.go g1)
    | false => exact h2 rfl pp B σ Hs1 H1 (E.grow g1) Q (q.go g1)
/-- a < b <= c -/
theorem ev_chain {Δ : Dn} {r r' : R2} {ta tb tc : TE} {d1 d2 d3 : PyData} {k k' : Bool} (ha : Ev Δ ta d1) (hb : Ev Δ tb d2) (hc : Ev Δ tc d3) (h1 : RV r d1 d2 fun x => x = .bool k) (h2 : RV r' d2 d3 fun x => x = .bool k') : Ev Δ (tChain r r' ta tb tc) (.bool (k && k')) := fun pp B σ Hs H E Q q =>
  ha pp B σ Hs H E _ fun x d1 Hs1 H1 g1 r1 p1 => hb pp B σ Hs1 H1 (E.grow g1) _ fun y d2 Hs2 H2 g2 r2 p2 => by
    subst p1 p2
    refine h1 pp Hs2 H2 x y g2.wf (Rp.mono g2.s _ _ r1) r2 _ fun z d Hs3 H3 g3 r3 p3 => ⟨k, by rw [p3] at r3; exact r3, ?_⟩
    cases k with
    | true =>
      exact hc pp B σ Hs3 H3 (((E.grow g1).grow g2).grow g3) _ fun w d3 Hs4 H4 g4 r4 p4 => by
        subst p4
        exact h2 pp Hs4 H4 y w g4.wf (Rp.mono (g3.s.trans g4.s) _ _ r2) r4 Q (q.go (((g1.trans g2).trans g3).trans g4))
    | false => exact (q.go ((g1.trans g2).trans g3)).here g3.wf (d := .bool _) rfl rfl
end DL
/-! D2: what loops walk, comprehensions, statements, defs. -/
namespace DL
open PySem L2
open PyProof.Rows (envOfC)

/-! ### what is walked -/
def Src (pp : Option Addr) (J : It) (xs : List PyData) (Hs : Hp) : Prop := ∀ Hs1 H, Le Hs Hs1 → Wf pp Hs1 H → (∀ (i : Nat) d, xs[i]? = some d → J.go i H ∧ ∀ v H', J.yld i H v H' → ∃ Hs', Gr pp Hs1 H Hs' H' ∧ Rp Hs' d v) ∧ J.stop xs.length H
def EvI (Δ : Dn) (wi : TI) (xs : List PyData) : Prop := ∀ pp B σ Hs H, Env pp B Δ σ Hs H → ∀ R : It → Hp → Prop, (∀ J Hs' H', Gr pp Hs H Hs' H' → Src pp J xs Hs' → R J H') → wi σ H R
theorem EvI.is {Δ : Dn} {wi : TI} {xs ys : List PyData} (h : EvI Δ wi xs) (e : xs = ys) : EvI Δ wi ys := by
  rw [← e]
  exact h
theorem ei_list {K : PySem.W.Frag} {Δ : Dn} {te : TE} {ds : List PyData} (h : Ev Δ te (.list ds)) : EvI Δ (iList K te) ds := fun pp B σ Hs H E R q =>
  h pp B σ Hs H E _ fun v d Hs1 H1 g r p => by
    subst p
    obtain ⟨a, xs, rfl, ha, ra⟩ := r
    refine ⟨a, rfl, ⟨xs, .of (g.wf.le _ _ ha)⟩, q _ Hs1 H1 g fun Hs2 H2 le w => ⟨fun i d hd => ?_, ?_⟩⟩
    · have hs : SqL K H2 a xs := .of (w.le _ _ (le _ _ ha))
      obtain ⟨x, h1, h2⟩ := ra.get hd
      refine ⟨⟨xs, x, hs, h1⟩, fun v H' y => ?_⟩
      obtain ⟨rfl, y⟩ := y
      have e := y xs hs
      rw [h1] at e
      cases e
      exact ⟨Hs2, .refl w, Rp.mono le _ _ h2⟩
    · exact ⟨xs, .of (w.le _ _ (le _ _ ha)), by rw [ra.length]; exact Nat.le_refl _⟩
def rngD (lo : Int) (n : Nat) : List PyData := (List.range n).map fun i => .int (lo + (i : Nat))
theorem rngD_length (lo : Int) (n : Nat) : (rngD lo n).length = n := by unfold rngD; rw [List.length_map, List.length_range]
theorem rngD_get {lo : Int} {n i : Nat} {d : PyData} (h : (rngD lo n)[i]? = some d) : i < n ∧ d = .int (lo + (i : Nat)) := by
  unfold rngD at h
  rw [List.getElem?_map] at h
  cases e : (List.range n)[i]? with
  | none =>
    rw [e] at h
    cases h
  | some j =>
    rw [e] at h
    obtain ⟨h1, h2⟩ := List.getElem?_eq_some_iff.mp e
    rw [List.length_range] at h1
    rw [List.getElem_range] at h2
    subst h2
    cases h
    exact ⟨h1, rfl⟩
theorem src_range {pp : Option Addr} {lo : Int} {n : Nat} {Hs : Hp} : Src pp (Itr lo n) (rngD lo n) Hs := fun Hs1 H le w => ⟨fun i d hd => by
  obtain ⟨h1, rfl⟩ := rngD_get hd
  refine ⟨h1, fun v H' y => ?_⟩
  obtain ⟨rfl, rfl⟩ := y
  exact ⟨Hs1, .refl w, rfl⟩, by rw [rngD_length]; exact Nat.le_refl _⟩
theorem ei_range1 {Δ : Dn} {ta : TA} {j : Int} (h : EvA Δ ta [.int j]) (h1 : -(2 ^ 62) ≤ j := by omega) (h2 : j < 2 ^ 62 := by omega) : EvI Δ (iRng1 ta) (rngD 0 j.toNat) := fun pp B σ Hs H E R q =>
  h pp B σ Hs H E _ fun vs Hs1 H1 g r => by
    obtain ⟨x, r', rfl, e1, e2⟩ := r
    cases (show x = .int j from e1)
    cases (show r' = [] from e2)
    exact ⟨j, rfl, h1, h2, q _ Hs1 H1 g src_range⟩
theorem ei_range2 {Δ : Dn} {ta : TA} {i j : Int} (h : EvA Δ ta [.int i, .int j]) (h1 : -(2 ^ 62) ≤ i := by omega) (h2 : i < 2 ^ 62 := by omega) (h3 : -(2 ^ 62) ≤ j := by omega) (h4 : j < 2 ^ 62 := by omega) : EvI Δ (iRng2 ta) (rngD i (j - i).toNat) := fun pp B σ Hs H E R q =>
  h pp B σ Hs H E _ fun vs Hs1 H1 g r => by
    obtain ⟨x, r', rfl, e1, y, r'', rfl, e2, e3⟩ := r
    cases (show x = .int i from e1)
    cases (show y = .int j from e2)
    cases (show r'' = [] from e3)
    exact ⟨i, j, rfl, ⟨h1, h2, h3, h4⟩, q _ Hs1 H1 g src_range⟩
/-- i, i - 1, .. (n of them) -/
def dwnD (i : Int) (n : Nat) : List PyData := (List.range n).map fun k => .int (i - (k : Nat))
theorem dwnD_length (lo : Int) (n : Nat) : (dwnD lo n).length = n := by unfold dwnD; rw [List.length_map, List.length_range]
theorem dwnD_get {lo : Int} {n i : Nat} {d : PyData} (h : (dwnD lo n)[i]? = some d) : i < n ∧ d = .int (lo - (i : Nat)) := by
  unfold dwnD at h
  rw [List.getElem?_map] at h
  cases e : (List.range n)[i]? with
  | none =>
    rw [e] at h
    cases h
  | some j =>
    rw [e] at h
    obtain ⟨h1, h2⟩ := List.getElem?_eq_some_iff.mp e
    rw [List.length_range] at h1
    rw [List.getElem_range] at h2
    subst h2
    cases h
    exact ⟨h1, rfl⟩
theorem ei_down {Δ : Dn} {ta : TA} {i j : Int} (h : EvA Δ ta [.int i, .int j, .int (-1)]) (h1 : -(2 ^ 62) ≤ i := by omega) (h2 : i < 2 ^ 62 := by omega) (h3 : -(2 ^ 62) ≤ j := by omega) (h4 : j < 2 ^ 62 := by omega) : EvI Δ (iRng3 ta) (dwnD i (i - j).toNat) := fun pp B σ Hs H E R q =>
  h pp B σ Hs H E _ fun vs Hs1 H1 g r => by
    obtain ⟨x, r', rfl, e1, y, r'', rfl, e2, z, r3, rfl, e3, e4⟩ := r
    cases (show x = .int i from e1)
    cases (show y = .int j from e2)
    cases (show z = .int (-1) from e3)
    cases (show r3 = [] from e4)
    refine ⟨i, j, -1, _, rfl, .neg h1 h2 h3 h4, q _ Hs1 H1 g fun Hs2 H2 le w => ⟨fun k d hd => ?_, by rw [dwnD_length]; exact Nat.le_refl _⟩⟩
    obtain ⟨k1, rfl⟩ := dwnD_get hd
    refine ⟨k1, fun v H' y => ?_⟩
    obtain ⟨rfl, rfl⟩ := y
    refine ⟨Hs2, .refl w, ?_⟩
    show V.int (i + (k : Int) * -1) = V.int (i - (k : Int))
    congr 1
    omega
def sgn (c : Nat) : PyData := .str ⟨#[c]⟩
theorem ei_str {Δ : Dn} {te : TE} {z : Str} (h : Ev Δ te (.str z)) : EvI Δ (iStr te) (z.cps.toList.map sgn) := fun pp B σ Hs H E R q =>
  h pp B σ Hs H E _ fun v d Hs1 H1 g r p => by
    subst p
    refine ⟨z, r, q _ Hs1 H1 g fun Hs2 H2 le w => ⟨fun i d hd => ?_, by rw [List.length_map, Array.length_toList]; exact Nat.le_refl _⟩⟩
    rw [List.getElem?_map, Array.getElem?_toList] at hd
    cases e : z.cps[i]? with
    | none =>
      rw [e] at hd
      cases hd
    | some c =>
      rw [e] at hd
      cases hd
      refine ⟨(Array.getElem?_eq_some_iff.mp e).1, fun v H' y => ?_⟩
      obtain ⟨rfl, c', e', rfl⟩ := y
      rw [e] at e'
      cases e'
      exact ⟨Hs2, .refl w, rfl⟩
theorem ei_enum {K : PySem.W.Frag} {Δ : Dn} {ta : TA} {ds : List PyData} (h : EvA Δ ta [.list ds]) : EvI Δ (iEnum K ta) (ds.mapIdx fun i d => .tuple [.int (i : Nat), d]) := fun pp B σ Hs H E R q =>
  h pp B σ Hs H E _ fun vs Hs1 H1 g r => by
    obtain ⟨x, r', rfl, ⟨a, xs, rfl, ha, ra⟩, e2⟩ := r
    cases (show r' = [] from e2)
    refine ⟨a, xs, rfl, .of (g.wf.le _ _ ha), q _ Hs1 H1 g fun Hs2 H2 le w => ⟨fun i d hd => ?_, ?_⟩⟩
    · have hs : SqL K H2 a xs := .of (w.le _ _ (le _ _ ha))
      rw [List.getElem?_mapIdx] at hd
      cases e : ds[i]? with
      | none =>
        rw [e] at hd
        cases hd
      | some d0 =>
        rw [e] at hd
        cases hd
        obtain ⟨x, h1, h2⟩ := ra.get e
        refine ⟨⟨xs, x, hs, h1⟩, fun v H' y => ?_⟩
        obtain ⟨T, x', rfl, nT, rfl, f⟩ := y
        have e' := f xs hs
        rw [h1] at e'
        cases e'
        have gn := Gr.new (o := .tup [.int (i : Nat), x]) w nT
        exact ⟨_, gn, T, _, rfl, upd_same, .int (i : Nat), [x], rfl, rfl, x, [], rfl, Rp.mono (le.trans gn.s) _ _ h2, rfl⟩
    · refine ⟨xs, .of (w.le _ _ (le _ _ ha)), ?_⟩
      rw [List.length_mapIdx, ra.length]
      exact Nat.le_refl _

/-! ### targets -/
def TgA (Δ : Dn) (g : TG) (ts : List Nat) (d : PyData) (Δ' : Dn) : Prop := ∀ pp B σ Hs H v, Env pp B Δ σ Hs H → Rp Hs d v → ∀ Q : St → Hp → Prop, (∀ σ', Env pp B Δ' σ' Hs H → (∀ vs, (∀ i ∈ ts, i ∈ vs) → wipe σ' vs = wipe σ vs) → Q σ' H) → g v σ H Q
theorem wipe_get (σ : St) (j : Nat) : ∀ vs : List Nat, (wipe σ vs)[j]? = if j ∈ vs ∧ j < σ.length then some none else σ[j]?
  | [] => by simp [wipe]
  | v :: vs => by
    unfold wipe
    rw [List.getElem?_set, wipe_length, wipe_get σ j vs]
    by_cases e : v = j
    · subst e
      rw [if_pos rfl]
      by_cases z : v < σ.length
      · rw [if_pos z, if_pos ⟨List.mem_cons_self, z⟩]
      · rw [if_neg z, if_neg (fun h => z h.2)]
        exact (List.getElem?_eq_none (by omega)).symm
    · rw [if_neg e]
      have : (j ∈ v :: vs) ↔ j ∈ vs := by
        rw [List.mem_cons]
        exact ⟨fun h => h.elim (fun z => absurd z.symm e) id, .inr⟩
      simp only [this]
theorem wipe_set {σ : St} {i : Nat} {x : Option V} {vs : List Nat} (h : i ∈ vs) : wipe (σ.set i x) vs = wipe σ vs := by
  refine List.ext_getElem? fun j => ?_
  rw [wipe_get, wipe_get, List.length_set]
  by_cases e : j ∈ vs ∧ j < σ.length
  · rw [if_pos e, if_pos e]
  · rw [if_neg e, if_neg e]
    by_cases z : j = i
    · subst z
      have : ¬ j < σ.length := fun q => e ⟨h, q⟩
      rw [List.getElem?_eq_none (by rw [List.length_set]; omega), List.getElem?_eq_none (by omega)]
    · exact set_off _ z
theorem wipe_idem {σ : St} {vs : List Nat} : wipe (wipe σ vs) vs = wipe σ vs := by
  refine List.ext_getElem? fun j => ?_
  rw [wipe_get, wipe_get, wipe_length]
  by_cases e : j ∈ vs ∧ j < σ.length
  · rw [if_pos e, if_pos e]
  · rw [if_neg e]
def wD (Δ : Dn) : List Nat → Dn
  | [] => Δ
  | v :: vs => (wD Δ vs).set v none
theorem Env.wipe {pp : Option Addr} {B : Hp × Hp} {Δ : Dn} {σ : St} {Hs H : Hp} (E : Env pp B Δ σ Hs H) : ∀ vs : List Nat, Env pp B (wD Δ vs) (wipe σ vs) Hs H
  | [] => E
  | v :: vs => (E.wipe vs).clear v
theorem tg_name {Δ : Dn} {i : Nat} {d : PyData} : TgA Δ (gName i) [i] d (Δ.set i (some (.val d))) := fun pp B σ Hs H v E r Q q =>
  q _ (E.set r) fun vs h => wipe_set (h i List.mem_cons_self)
theorem tg_pair {K : PySem.W.Frag} {Δ : Dn} {i j : Nat} {a b : PyData} : TgA Δ (gTup K 2 (gCons (gName i) (gCons (gName j) gNil))) [i, j] (.tuple [a, b]) ((Δ.set i (some (.val a))).set j (some (.val b))) := fun pp B σ Hs H v E r Q q => by
  obtain ⟨p, xs, rfl, hp, x, r1, rfl, hx, y, r2, rfl, hy, e⟩ := r
  cases (show r2 = [] from e)
  exact ⟨p, [x, y], rfl, .of (E.wf.le _ _ hp), rfl, x, [y], rfl, y, [], rfl, rfl, q _ ((E.set hx).set hy) fun vs h => by
    rw [wipe_set (h j (by simp)), wipe_set (h i (by simp))]⟩

/-! ### comprehensions -/
theorem en_lc_gen {Δ : Dn} {wi : TI} {g : TG} {tt : TT} {te : TE} {vs ts : List Nat} {xs : List PyData} (I : Nat → List PyData → Prop) (hi : EvI Δ wi xs) (hz : xs.length ≤ 100000) (hts : ∀ i ∈ ts, i ∈ vs) (h0 : I 0 [])
    (hstep : ∀ (i : Nat) d acc, xs[i]? = some d → I i acc → ∃ Δ' b, TgA (wD Δ vs) g ts d Δ' ∧ EvT Δ' tt b ∧ (b = true → EvP Δ' te fun y => I (i + 1) (acc ++ [y])) ∧ (b = false → I (i + 1) acc)) : EvNP Δ (tLc wi g tt te vs) fun ds => I xs.length ds := fun pp B σ Hs H E Q q =>
  hi pp B σ Hs H E _ fun J Hs1 H1 g1 src => by
    intro D hD
    have hDs : Hs1 D = none := g1.wf.none_of hD
    have hDp : pp ≠ some D := fun e => by
      obtain ⟨_, n, h⟩ := g1.wf.pump D e
      rw [hD] at h
      cases h
    refine ⟨fun i m H' => m = xs.length - i ∧ i ≤ xs.length ∧ ∃ Hs' accv acc, Gr pp Hs1 H1 Hs' H' ∧ Hs' D = none ∧ H' D = some (.lst accv) ∧ RpL Hs' acc accv ∧ I i acc ∧ acc.length ≤ i, ⟨xs.length, by simp, Nat.zero_le _, Hs1, [], [], .mine g1.wf hD, hDs, upd_same, rfl, h0, Nat.le_refl _⟩, ?_⟩
    rintro i m H' ⟨rfl, hile, Hs', accv, acc, g2, d1, d2, ra, hI, hl⟩
    obtain ⟨s1, s2⟩ := src Hs' H' g2.s g2.wf
    by_cases hlt : i < xs.length
    · obtain ⟨go, yl⟩ := s1 i xs[i] (List.getElem?_eq_getElem hlt)
      refine .inr ⟨go, fun H3 => ∃ Hs3 accv acc, Gr pp Hs1 H1 Hs3 H3 ∧ Hs3 D = none ∧ H3 D = some (.lst accv) ∧ RpL Hs3 acc accv ∧ I (i + 1) acc ∧ acc.length ≤ i + 1, fun H3 h3 => ⟨_, by omega, rfl, hlt, h3⟩, fun v H2 hy => ?_⟩
      obtain ⟨Hs2, g3, rv⟩ := yl v H2 hy
      obtain ⟨Δ', b, t1, t2, t3, t4⟩ := hstep i xs[i] acc (List.getElem?_eq_getElem hlt) hI
      have gA := g2.trans g3
      have E2 := ((E.grow g1).grow gA).wipe vs
      refine t1 pp B _ Hs2 H2 v E2 rv _ fun σ2 E3 hw => ⟨(hw vs hts).trans wipe_idem, ?_⟩
      refine t2 pp B σ2 Hs2 H2 E3 _ fun Hs3 H3 g4 => ?_
      have gB := g3.trans g4
      have dk : H3 D = some (.lst accv) := gB.h D _ hDp d2
      have ds : Hs3 D = none := gB.fr D _ d2 d1
      cases b with
      | false =>
        rw [if_neg (by decide)]
        exact ⟨Hs3, accv, acc, g2.trans gB, ds, dk, ra.mono gB.s, t4 rfl, by omega⟩
      | true =>
        rw [if_pos rfl]
        refine t3 rfl pp B σ2 Hs3 H3 (E3.grow g4) _ fun y d Hs4 H4 g5 ry py => ?_
        have dk4 : H4 D = some (.lst accv) := g5.h D _ hDp dk
        have ds4 : Hs4 D = none := g5.fr D _ dk ds
        have gC := g2.trans (gB.trans g5)
        refine ⟨accv, dk4, by rw [ra.length]; exact Nat.lt_of_lt_of_le (Nat.lt_of_le_of_lt hl hlt) (Nat.le_trans hz (by decide)), Hs4, accv ++ [y], acc ++ [d], ⟨gC.s, fun a o n e => ?_, ⟨fun a o e => ?_, fun a e => ?_⟩, gC.fr⟩, ds4, upd_same, (ra.mono (gB.trans g5).s).append (.one ry), py, by rw [List.length_append]; show acc.length + 1 ≤ i + 1; omega⟩
        · rw [upd_ne (ne_of_none e hD)]
          exact gC.h a o n e
        · rw [upd_ne (ne_of_none e ds4)]
          exact gC.wf.le a o e
        · rw [upd_ne (show a ≠ D from fun z => hDp (by rw [← z]; exact e))]
          exact gC.wf.pump a e
    · have e : i = xs.length := by omega
      subst e
      exact .inl ⟨s2, q D accv acc Hs' H' (g1.trans g2) (g1.none_of hD) d1 d2 ra hI⟩
/-- over items that are known: which are kept, what each gives -/
theorem en_lc {α : Type} {Δ : Dn} {wi : TI} {g : TG} {tt : TT} {te : TE} {vs ts : List Nat} (as : List α) (enc : α → PyData) (F : α → Bool) (G : α → PyData) (hi : EvI Δ wi (as.map enc)) (hz : as.length ≤ 100000) (hts : ∀ i ∈ ts, i ∈ vs)
    (hstep : ∀ a ∈ as, ∃ Δ', TgA (wD Δ vs) g ts (enc a) Δ' ∧ EvT Δ' tt (F a) ∧ (F a = true → Ev Δ' te (G a))) : EvN Δ (tLc wi g tt te vs) ((as.filter F).map G) := fun pp B σ Hs H E Q q => by
  refine en_lc_gen (ts := ts) (fun i acc => acc = ((as.take i).filter F).map G) hi (by rw [List.length_map]; exact hz) hts rfl (fun i d acc hd e => ?_) pp B σ Hs H E Q fun p xs ds Hs' H' g1 e1 e2 e3 r k => ?_
  · rw [List.getElem?_map] at hd
    cases ha : as[i]? with
    | none =>
      rw [ha] at hd
      cases hd
    | some a =>
      rw [ha] at hd
      cases hd
      obtain ⟨Δ', t1, t2, t3⟩ := hstep a (List.mem_of_getElem? ha)
      refine ⟨Δ', F a, t1, t2, fun hF => (t3 hF).weak fun y hy => ?_, fun hF => ?_⟩
      · rw [hy, e, List.take_add_one, ha, List.filter_append, List.map_append]
        show _ = _ ++ List.map G (List.filter F [a])
        rw [List.filter_cons, if_pos hF]
        rfl
      · rw [e, List.take_add_one, ha, List.filter_append, List.map_append]
        show _ = _ ++ List.map G (List.filter F [a])
        rw [List.filter_cons, if_neg (by rw [hF]; decide)]
        exact (List.append_nil _).symm
  · rw [List.length_map, List.take_length] at k
    exact q p xs ds Hs' H' g1 e1 e2 e3 r k
theorem en_lc1 {α : Type} {Δ : Dn} {wi : TI} {g : TG} {te : TE} {vs ts : List Nat} (as : List α) (enc : α → PyData) (G : α → PyData) (hi : EvI Δ wi (as.map enc)) (hz : as.length ≤ 100000) (hts : ∀ i ∈ ts, i ∈ vs)
    (hstep : ∀ a ∈ as, ∃ Δ', TgA (wD Δ vs) g ts (enc a) Δ' ∧ Ev Δ' te (G a)) : EvN Δ (tLc wi g tYes te vs) (as.map G) := by
  have h := en_lc (tt := tYes) as enc (fun _ => true) G hi hz hts fun a ha => let ⟨Δ', t1, t2⟩ := hstep a ha; ⟨Δ', t1, et_yes, fun _ => t2⟩
  rwa [List.filter_eq_self.mpr (fun _ _ => rfl)] at h

/-! ### statements -/
abbrev Ret := V → Hp → Hp → Hp → Prop
def RD (P : PyData → Prop) : Ret := fun v _ Hs _ => ∃ d, Rp Hs d v ∧ P d
def RN (P : List PyData → Prop) : Ret := fun v H0 Hs H => ∃ p xs ds, v = .ref p ∧ H0 p = none ∧ Hs p = none ∧ H p = some (.lst xs) ∧ RpL Hs ds xs ∧ P ds
def Run (Δ : Dn) (ts : TS) (N : Dn → Prop) (R : Ret) : Prop := ∀ pp B σ Hs H, Env pp B Δ σ Hs H → ∀ D : Ends, (∀ Δ' σ' Hs' H', Le Hs Hs' → Env pp B Δ' σ' Hs' H' → N Δ' → D.nx σ' H') → (∀ v Hs' H', Gr pp B.1 B.2 Hs' H' → R v B.2 Hs' H' → D.rt v H') → ts D σ H
theorem run_nil {Δ : Dn} {N : Dn → Prop} {R : Ret} (h : N Δ) : Run Δ tNext N R := fun pp B σ Hs H E D n r => n Δ σ Hs H (.refl _) E h
theorem run_seq {Δ : Dn} {t u : TS} {M N : Dn → Prop} {R : Ret} (h1 : Run Δ t M R) (h2 : ∀ Δ', M Δ' → Run Δ' u N R) : Run Δ (tSeq t u) N R := fun pp B σ Hs H E D n r =>
  h1 pp B σ Hs H E { D with nx := u D } (fun Δ' σ' Hs' H' le E' m => h2 Δ' m pp B σ' Hs' H' E' D (fun Δ2 σ2 Hs2 H2 le2 => n Δ2 σ2 Hs2 H2 (le.trans le2)) r) r
theorem run_asgP {Δ : Dn} {te : TE} {i : Nat} {P : PyData → Prop} {N : Dn → Prop} {R : Ret} (h : EvP Δ te P) (k : ∀ d, P d → N (Δ.set i (some (.val d)))) : Run Δ (tAsg te (gName i)) N R := fun pp B σ Hs H E D n r =>
  h pp B σ Hs H E _ fun v d Hs1 H1 g rv p => n _ _ Hs1 H1 g.s ((E.grow g).set rv) (k d p)
theorem run_asg {Δ : Dn} {te : TE} {i : Nat} {d : PyData} {N : Dn → Prop} {R : Ret} (h : Ev Δ te d) (k : N (Δ.set i (some (.val d)))) : Run Δ (tAsg te (gName i)) N R := run_asgP h fun x e => by
  rw [e]
  exact k
theorem q_asg {Δ : Dn} {te : TE} {i : Nat} {d : PyData} {u : TS} {N : Dn → Prop} {R : Ret} (h : Ev Δ te d) (k : Run (Δ.set i (some (.val d))) u N R) : Run Δ (tSeq (tAsg te (gName i)) u) N R := run_seq (run_asg (N := fun x => x = Δ.set i (some (.val d))) h rfl) fun Δ' e => by
  rw [e]
  exact k
theorem q_asgP {Δ : Dn} {te : TE} {i : Nat} {P : PyData → Prop} {u : TS} {N : Dn → Prop} {R : Ret} (h : EvP Δ te P) (k : ∀ d, P d → Run (Δ.set i (some (.val d))) u N R) : Run Δ (tSeq (tAsg te (gName i)) u) N R := run_seq (run_asgP (N := fun x => ∃ d, P d ∧ x = Δ.set i (some (.val d))) h fun d p => ⟨d, p, rfl⟩) fun Δ' ⟨d, p, e⟩ => by
  rw [e]
  exact k d p
/-- a list of one's own, to be changed -/
theorem run_own {Δ : Dn} {te : TE} {i : Nat} {P : List PyData → Prop} {N : Dn → Prop} {R : Ret} (h : EvNP Δ te P) (k : ∀ ds, P ds → N (Δ.set i (some (.own ds)))) : Run Δ (tAsg te (gName i)) N R := fun pp B σ Hs H E D n r =>
  h pp B σ Hs H E _ fun p xs ds Hs1 H1 g e1 e2 e3 rv q => n _ _ Hs1 H1 g.s (E.setOwn g e1 e2 e3 rv) (k ds q)
theorem q_own {Δ : Dn} {te : TE} {i : Nat} {ds : List PyData} {u : TS} {N : Dn → Prop} {R : Ret} (h : EvN Δ te ds) (k : Run (Δ.set i (some (.own ds))) u N R) : Run Δ (tSeq (tAsg te (gName i)) u) N R := run_seq (run_own (N := fun x => x = Δ.set i (some (.own ds))) h fun d e => by rw [e]) fun Δ' e => by
  rw [e]
  exact k
/-- a, b = .. -/
theorem run_asgT {Δ Δ' : Dn} {te : TE} {g : TG} {ts : List Nat} {d : PyData} {N : Dn → Prop} {R : Ret} (h : Ev Δ te d) (t : TgA Δ g ts d Δ') (k : N Δ') : Run Δ (tAsg te g) N R := fun pp B σ Hs H E D n r =>
  h pp B σ Hs H E _ fun v d1 Hs1 H1 g1 rv p => by
    subst p
    exact t pp B σ Hs1 H1 v (E.grow g1) rv _ fun σ' E' _ => n _ _ Hs1 H1 g1.s E' k
theorem q_asgT {Δ Δ' : Dn} {te : TE} {g : TG} {ts : List Nat} {d : PyData} {u : TS} {N : Dn → Prop} {R : Ret} (h : Ev Δ te d) (t : TgA Δ g ts d Δ') (k : Run Δ' u N R) : Run Δ (tSeq (tAsg te g) u) N R := run_seq (run_asgT (N := fun x => x = Δ') h t rfl) fun Δ2 e => by
  rw [e]
  exact k
theorem run_par {Δ : Dn} {ta : TA} {i j : Nat} {a b : PyData} {N : Dn → Prop} {R : Ret} (h : EvA Δ ta [a, b]) (k : N ((Δ.set i (some (.val a))).set j (some (.val b)))) : Run Δ (tPar i j ta) N R := fun pp B σ Hs H E D n r =>
  h pp B σ Hs H E _ fun vs Hs1 H1 g rv => by
    obtain ⟨x, r1, rfl, hx, y, r2, rfl, hy, e⟩ := rv
    cases (show r2 = [] from e)
    exact ⟨x, y, rfl, n _ _ Hs1 H1 g.s (((E.grow g).set hx).set hy) k⟩
theorem q_par {Δ : Dn} {ta : TA} {i j : Nat} {a b : PyData} {u : TS} {N : Dn → Prop} {R : Ret} (h : EvA Δ ta [a, b]) (k : Run ((Δ.set i (some (.val a))).set j (some (.val b))) u N R) : Run Δ (tSeq (tPar i j ta) u) N R := run_seq (run_par (N := fun x => x = _) h rfl) fun Δ2 e => by
  rw [e]
  exact k
theorem run_drop {Δ : Dn} {te : TE} {d : PyData} {N : Dn → Prop} {R : Ret} (h : Ev Δ te d) (k : N Δ) : Run Δ (tDrop te) N R := fun pp B σ Hs H E D n r =>
  h pp B σ Hs H E _ fun v d Hs1 H1 g rv p => n Δ σ Hs1 H1 g.s (E.grow g) k
theorem q_drop {Δ : Dn} {te : TE} {d : PyData} {u : TS} {N : Dn → Prop} {R : Ret} (h : Ev Δ te d) (k : Run Δ u N R) : Run Δ (tSeq (tDrop te) u) N R := run_seq (run_drop (N := fun x => x = Δ) h rfl) fun Δ2 e => by
  rw [e]
  exact k
theorem run_ret {Δ : Dn} {te : TE} {P P' : PyData → Prop} {N : Dn → Prop} (h : EvP Δ te P) (k : ∀ d, P d → P' d) : Run Δ (tRet te) N (RD P') := fun pp B σ Hs H E D n r =>
  h pp B σ Hs H E _ fun v d Hs1 H1 g rv p => r v Hs1 H1 (E.gr.trans g) ⟨d, rv, k d p⟩
theorem run_retD {Δ : Dn} {te : TE} {d d' : PyData} {N : Dn → Prop} (h : Ev Δ te d) (k : d = d') : Run Δ (tRet te) N (RD fun x => x = d') := run_ret h fun x e => by rw [e, k]
theorem run_retN {Δ : Dn} {te : TE} {P P' : List PyData → Prop} {N : Dn → Prop} (h : EvNP Δ te P) (k : ∀ d, P d → P' d) : Run Δ (tRet te) N (RN P') := fun pp B σ Hs H E D n r =>
  h pp B σ Hs H E _ fun p xs ds Hs1 H1 g e1 e2 e3 rv q => r _ Hs1 H1 (E.gr.trans g) ⟨p, xs, ds, rfl, E.gr.none_of e1, e2, e3, rv, k ds q⟩
theorem run_if {Δ : Dn} {t : TT} {u w : TS} {b : Bool} {N : Dn → Prop} {R : Ret} (h : EvT Δ t b) (h1 : b = true → Run Δ u N R) (h2 : b = false → Run Δ w N R) : Run Δ (tIfS t u w) N R := fun pp B σ Hs H E D n r =>
  h pp B σ Hs H E _ fun Hs1 H1 g => by
    cases b with
    | true => exact h1 rfl pp B σ Hs1 H1 (E.grow g) D (fun Δ2 σ2 Hs2 H2 le => n Δ2 σ2 Hs2 H2 (g.s.trans le)) r
    | false => exact h2 rfl pp B σ Hs1 H1 (E.grow g) D (fun Δ2 σ2 Hs2 H2 le => n Δ2 σ2 Hs2 H2 (g.s.trans le)) r
/-- if t: (leaves), then the rest -/
theorem q_guard {Δ : Dn} {t : TT} {u w : TS} {b : Bool} {N : Dn → Prop} {R : Ret} (h : EvT Δ t b) (h1 : b = true → Run Δ u (fun _ => False) R) (h2 : b = false → Run Δ w N R) : Run Δ (tSeq (tIfS t u tNext) w) N R :=
  run_seq (M := fun x => x = Δ ∧ b = false) (run_if h (fun e pp B σ Hs H E D n r => h1 e pp B σ Hs H E D (fun _ _ _ _ _ _ f => f.elim) r) (fun e => run_nil ⟨rfl, e⟩)) fun Δ2 ⟨e1, e2⟩ => by
    rw [e1]
    exact h2 e2
theorem run_for {Δ : Dn} {wi : TI} {g : TG} {tb : TS} {ts : List Nat} {xs : List PyData} {N : Dn → Prop} {R : Ret} (I : Nat → Dn → Prop) (hi : EvI Δ wi xs) (h0 : I 0 Δ)
    (hs : ∀ (i : Nat) d Δi, xs[i]? = some d → I i Δi → ∃ Δ', TgA Δi g ts d Δ' ∧ Run Δ' tb (I (i + 1)) R) (hd : ∀ Δ', I xs.length Δ' → N Δ') : Run Δ (tFor wi g tb) N R := fun pp B σ Hs H E D n r =>
  hi pp B σ Hs H E _ fun J Hs1 H1 g1 src => by
    refine ⟨fun i m σ' H' => m = xs.length - i ∧ i ≤ xs.length ∧ ∃ Δ' Hs', Le Hs1 Hs' ∧ Env pp B Δ' σ' Hs' H' ∧ I i Δ', ⟨xs.length, by simp, Nat.zero_le _, Δ, Hs1, .refl _, E.grow g1, h0⟩, ?_⟩
    rintro i m σ' H' ⟨rfl, hile, Δ', Hs', le, E', hI⟩
    obtain ⟨s1, s2⟩ := src Hs' H' le E'.wf
    by_cases hlt : i < xs.length
    · obtain ⟨go, yl⟩ := s1 i xs[i] (List.getElem?_eq_getElem hlt)
      refine .inr ⟨go, fun σ3 H3 => ∃ Δ3 Hs3, Le Hs1 Hs3 ∧ Env pp B Δ3 σ3 Hs3 H3 ∧ I (i + 1) Δ3, fun σ3 H3 ⟨Δ3, Hs3, l3, E3, I3⟩ => ⟨_, by omega, rfl, hlt, Δ3, Hs3, l3, E3, I3⟩, fun v H2 hy => ?_⟩
      obtain ⟨Hs2, g3, rv⟩ := yl v H2 hy
      obtain ⟨Δ2, t1, t2⟩ := hs i xs[i] Δ' (List.getElem?_eq_getElem hlt) hI
      refine t1 pp B _ Hs2 H2 v (E'.grow g3) rv _ fun σ2 E2 hw => ?_
      exact t2 pp B σ2 Hs2 H2 E2 _ (fun Δ3 σ3 Hs3 H3 l3 E3 I3 => ⟨Δ3, Hs3, (le.trans g3.s).trans l3, E3, I3⟩) r
    · have e : i = xs.length := by omega
      subst e
      exact .inl ⟨s2, n Δ' σ' Hs' H' (g1.s.trans le) E' (hd Δ' hI)⟩
theorem q_for {Δ : Dn} {wi : TI} {g : TG} {tb u : TS} {ts : List Nat} {xs : List PyData} {N : Dn → Prop} {R : Ret} (I : Nat → Dn → Prop) (hi : EvI Δ wi xs) (h0 : I 0 Δ)
    (hs : ∀ (i : Nat) d Δi, xs[i]? = some d → I i Δi → ∃ Δ', TgA Δi g ts d Δ' ∧ Run Δ' tb (I (i + 1)) R) (hd : ∀ Δ', I xs.length Δ' → Run Δ' u N R) : Run Δ (tSeq (tFor wi g tb) u) N R := run_seq (run_for I hi h0 hs fun _ h => h) hd
theorem run_while {Δ : Dn} {t : TT} {tb : TS} {N : Dn → Prop} {R : Ret} (I : Nat → Dn → Prop) (m0 : Nat) (h0 : I m0 Δ)
    (hs : ∀ m Δ', I m Δ' → ∃ b, EvT Δ' t b ∧ (b = true → Run Δ' tb (fun Δ2 => ∃ m', m' < m ∧ I m' Δ2) R) ∧ (b = false → N Δ')) : Run Δ (tWhile t tb) N R := fun pp B σ Hs H E D n r => by
  refine ⟨fun m σ' H' => ∃ Δ' Hs', Le Hs Hs' ∧ Env pp B Δ' σ' Hs' H' ∧ I m Δ', ⟨m0, Δ, Hs, .refl _, E, h0⟩, fun m σ' H' ⟨Δ', Hs', le, E', hI⟩ => ?_⟩
  obtain ⟨b, h1, h2, h3⟩ := hs m Δ' hI
  refine h1 pp B σ' Hs' H' E' _ fun Hs1 H1 g => ?_
  cases b with
  | true =>
    rw [if_pos rfl]
    refine ⟨fun σ2 H2 => ∃ m', m' < m ∧ ∃ Δ2 Hs2, Le Hs Hs2 ∧ Env pp B Δ2 σ2 Hs2 H2 ∧ I m' Δ2, fun σ2 H2 h => h, ?_⟩
    exact h2 rfl pp B σ' Hs1 H1 (E'.grow g) _ (fun Δ2 σ2 Hs2 H2 l2 E2 ⟨m', hm, hI'⟩ => ⟨m', hm, Δ2, Hs2, (le.trans g.s).trans l2, E2, hI'⟩) r
  | false =>
    rw [if_neg (by decide)]
    exact n Δ' σ' Hs1 H1 (le.trans g.s) (E'.grow g) (h3 rfl)
theorem q_while {Δ : Dn} {t : TT} {tb u : TS} {N : Dn → Prop} {R : Ret} (I : Nat → Dn → Prop) (m0 : Nat) (h0 : I m0 Δ)
    (hs : ∀ m Δ', I m Δ' → ∃ b, EvT Δ' t b ∧ (b = true → Run Δ' tb (fun Δ2 => ∃ m', m' < m ∧ I m' Δ2) R) ∧ (b = false → Run Δ' u N R)) : Run Δ (tSeq (tWhile t tb) u) N R :=
  run_seq (M := fun Δ' => Run Δ' u N R) (run_while I m0 h0 hs) fun _ h => h
/-- x.append(e), x one's own -/
theorem run_app {K : PySem.W.Frag} {Δ : Dn} {i : Nat} {te : TE} {ds : List PyData} {P : PyData → Prop} {N : Dn → Prop} {R : Ret} (hi : Δ[i]? = some (some (.own ds))) (h : EvP Δ te P) (hz : ds.length < 100000) (k : ∀ d, P d → N (Δ.set i (some (.own (ds ++ [d]))))) :
    Run Δ (tDrop (tBM K "list" rAppend (tVar i) (tCons te tNil))) N R := fun pp B σ Hs H E D n r => by
  obtain ⟨v, h1, p, xs, e1, e2, e3, e4, e5, e6⟩ := E.at_ i _ hi
  subst e1
  refine ⟨_, h1, .inl ⟨rfl, xs, .of e2⟩, h pp B σ Hs H E _ fun y d Hs1 H1 g ry py => ?_⟩
  have hp : H1 p = some (.lst xs) := g.h p _ e5 e2
  exact ⟨p, xs, y, rfl, rfl, hp, by rw [e6.length]; exact Nat.lt_of_lt_of_le hz (by decide), n _ σ Hs1 _ g.s ((E.grow g).change hi h1 ((e6.mono g.s).append (.one ry))) (k d py)⟩
theorem q_app {K : PySem.W.Frag} {Δ : Dn} {i : Nat} {te : TE} {ds : List PyData} {d : PyData} {u : TS} {N : Dn → Prop} {R : Ret} (hi : Δ[i]? = some (some (.own ds))) (h : Ev Δ te d) (hz : ds.length < 100000) (k : Run (Δ.set i (some (.own (ds ++ [d])))) u N R) :
    Run Δ (tSeq (tDrop (tBM K "list" rAppend (tVar i) (tCons te tNil))) u) N R := run_seq (run_app (N := fun x => x = _) hi h hz fun x e => by rw [e]) fun Δ2 e => by
  rw [e]
  exact k
/-- x[e] = v, x one's own -/
theorem run_setIx {Δ : Dn} {i : Nat} {te ti : TE} {ds : List PyData} {d : PyData} {c : Int} {j : Nat} {N : Dn → Prop} {R : Ret} (hi : Δ[i]? = some (some (.own ds))) (h : Ev Δ te d) (hx : Ev Δ ti (.int c)) (hj : ixN ds.length c = some j) (k : N (Δ.set i (some (.own (ds.set j d))))) :
    Run Δ (tAsg te (gSub (tVar i) ti rSetL)) N R := fun pp B σ Hs H E D n r => by
  obtain ⟨v, h1, p, xs, e1, e2, e3, e4, e5, e6⟩ := E.at_ i _ hi
  subst e1
  refine h pp B σ Hs H E _ fun y d1 Hs1 H1 g ry py => ⟨_, h1, hx pp B σ Hs1 H1 (E.grow g) _ fun z d2 Hs2 H2 g2 rz pz => ?_⟩
  subst py pz
  have gg := g.trans g2
  have hp : H2 p = some (.lst xs) := gg.h p _ e5 e2
  exact ⟨p, xs, c, j, rfl, rz, hp, by rw [e6.length]; exact hj, n _ σ Hs2 _ gg.s ((E.grow gg).change hi h1 (RpL.set (Rp.mono g2.s _ _ ry) j (e6.mono gg.s))) k⟩
theorem q_setIx {Δ : Dn} {i : Nat} {te ti : TE} {ds : List PyData} {d : PyData} {c : Int} {j : Nat} {u : TS} {N : Dn → Prop} {R : Ret} (hi : Δ[i]? = some (some (.own ds))) (h : Ev Δ te d) (hx : Ev Δ ti (.int c)) (hj : ixN ds.length c = some j) (k : Run (Δ.set i (some (.own (ds.set j d)))) u N R) :
    Run Δ (tSeq (tAsg te (gSub (tVar i) ti rSetL)) u) N R := run_seq (run_setIx (N := fun x => x = _) hi h hx hj rfl) fun Δ2 e => by
  rw [e]
  exact k
theorem run_freeze {Δ : Dn} {i : Nat} {ds : List PyData} {t : TS} {N : Dn → Prop} {R : Ret} (hi : Δ[i]? = some (some (.own ds))) (h : Run (Δ.set i (some (.val (.list ds)))) t N R) : Run Δ t N R := fun pp B σ Hs H E D n r => by
  obtain ⟨v, h3, p, xs, e1, e2, e3, e4, e5, e6⟩ := E.at_ i _ hi
  have il : i < Δ.length := (List.getElem?_eq_some_iff.mp hi).1
  obtain ⟨Hs', E', le⟩ := E.freeze hi
  exact h pp B σ Hs' H E' D (fun Δ2 σ2 Hs2 H2 l2 => n Δ2 σ2 Hs2 H2 (le.trans l2)) r
/-- a list of one's own is handed back -/
theorem run_retOwn {Δ : Dn} {i : Nat} {ds : List PyData} {P : List PyData → Prop} {N : Dn → Prop} (hi : Δ[i]? = some (some (.own ds))) (k : P ds) : Run Δ (tRet (tVar i)) N (RN P) := fun pp B σ Hs H E D n r => by
  obtain ⟨v, h3, p, xs, e1, e2, e3, e4, e5, e6⟩ := E.at_ i _ hi
  subst e1
  exact ⟨_, h3, r _ Hs H E.gr ⟨p, xs, ds, rfl, e4, e3, e2, e6, k⟩⟩
theorem Run.weak {Δ : Dn} {t : TS} {N N' : Dn → Prop} {R : Ret} (h : Run Δ t N R) (k : ∀ Δ', N Δ' → N' Δ') : Run Δ t N' R := fun pp B σ Hs H E D n r => h pp B σ Hs H E D (fun Δ2 σ2 Hs2 H2 le E2 p => n Δ2 σ2 Hs2 H2 le E2 (k Δ2 p)) r

/-! ### defs -/
def d0 (ds : List PyData) (n : Nat) : Dn := ds.map (fun d => some (.val d)) ++ List.replicate n none
theorem env0 {Hs H : Hp} {ds : List PyData} {vs : List V} {n : Nat} (w : Wf none Hs H) (r : RpL Hs ds vs) : Env none (Hs, H) (d0 ds n) (vs.map some ++ List.replicate n none) Hs H := by
  refine ⟨.refl w, by unfold d0; simp [r.length], fun i c h => ?_, fun i j di dj a hn h1 h2 => ?_⟩
  · unfold d0 at h
    by_cases z : i < ds.length
    · rw [List.getElem?_append_left (by rw [List.length_map]; exact z), List.getElem?_map] at h
      rw [List.getElem?_eq_getElem z] at h
      cases h
      obtain ⟨x, h1, h2⟩ := r.get (List.getElem?_eq_getElem z)
      refine ⟨x, ?_, h2⟩
      rw [List.getElem?_append_left (by rw [List.length_map, r.length]; exact z), List.getElem?_map, h1]
      rfl
    · rw [List.getElem?_append_right (by rw [List.length_map]; omega), List.getElem?_replicate] at h
      split at h <;> cases h
  · exfalso
    unfold d0 at h1
    by_cases z : i < ds.length
    · rw [List.getElem?_append_left (by rw [List.length_map]; exact z), List.getElem?_map] at h1
      rw [List.getElem?_eq_getElem z] at h1
      cases h1
    · rw [List.getElem?_append_right (by rw [List.length_map]; omega), List.getElem?_replicate] at h1
      split at h1 <;> cases h1
theorem d0_own {ds es : List PyData} {n i : Nat} (h1 : (d0 ds n)[i]? = some (some (Cell.own es))) : False := by
  unfold d0 at h1
  by_cases z : i < ds.length
  · rw [List.getElem?_append_left (by rw [List.length_map]; exact z), List.getElem?_map] at h1
    rw [List.getElem?_eq_getElem z] at h1
    cases h1
  · rw [List.getElem?_append_right (by rw [List.length_map]; omega), List.getElem?_replicate] at h1
    split at h1 <;> cases h1
section
variable {P : Program} {w : World} {K : PySem.W.Frag} {mg : Str → Option Value} {base : Heap}
theorem okD {x qual : Str} {st : Stmt} {f : Addr} {fd : FuncData} {N ps : List Str} {k : Nat} {Pre : List PyData → Prop} {F : List PyData → PyData} (Fn : Fun K x qual st f fd) (S : FnScope N ps (defScope st)) (hl : ∀ ds, Pre ds → ds.length = ps.length)
    (hb : ∀ (cdv : Value) (A : Around) (outer : List PySem.Env) (s : Shared) (H : Hp) (E : XK), Room k (A.deeper (envOfC qual (defScope st) s.heap.objs.size f cdv)) →
      ∃ t, PSs (cxOf CX0 P w K mg base N qual (defScope st) f cdv A outer s H E).nox (defBody st) t ∧ ∀ ds, Pre ds → Run (d0 ds (N.length - ds.length)) t (fun _ => F ds = .none) (RD fun d => d = F ds)) : FnOk P w K mg base CX0 (k + 1) f fd ps (spD Pre F) := by
  refine Fn.ok S (fun vs H Q E h => ?_) (fun cdv A outer s H vs Q E hr h => ?_)
  · obtain ⟨Hs, ds, w1, r, p, _⟩ := h
    rw [r.length, hl ds p]
  · obtain ⟨Hs, ds, w1, r, p, q⟩ := h
    obtain ⟨t, h1, h2⟩ := hb cdv A outer s H E hr
    refine ⟨t, h1, ?_⟩
    have E0 := env0 (n := N.length - ds.length) w1 r
    unfold L2.start
    rw [r.length]
    exact h2 ds p none (Hs, H) _ Hs H E0 _ (fun Δ' σ' Hs' H' _ E' e => q .non .none Hs' H' E'.gr rfl e.symm) fun v Hs' H' g ⟨d, rv, e⟩ => q v d Hs' H' g rv e
theorem okN {x qual : Str} {st : Stmt} {f : Addr} {fd : FuncData} {N ps : List Str} {k : Nat} {Pre : List PyData → Prop} {F : List PyData → List PyData} (Fn : Fun K x qual st f fd) (S : FnScope N ps (defScope st)) (hl : ∀ ds, Pre ds → ds.length = ps.length)
    (hb : ∀ (cdv : Value) (A : Around) (outer : List PySem.Env) (s : Shared) (H : Hp) (E : XK), Room k (A.deeper (envOfC qual (defScope st) s.heap.objs.size f cdv)) →
      ∃ t, PSs (cxOf CX0 P w K mg base N qual (defScope st) f cdv A outer s H E).nox (defBody st) t ∧ ∀ ds, Pre ds → Run (d0 ds (N.length - ds.length)) t (fun _ => False) (RN fun d => d = F ds)) : FnOk P w K mg base CX0 (k + 1) f fd ps (spN Pre F) := by
  refine Fn.ok S (fun vs H Q E h => ?_) (fun cdv A outer s H vs Q E hr h => ?_)
  · obtain ⟨Hs, ds, w1, r, p, _⟩ := h
    rw [r.length, hl ds p]
  · obtain ⟨Hs, ds, w1, r, p, q⟩ := h
    obtain ⟨t, h1, h2⟩ := hb cdv A outer s H E hr
    refine ⟨t, h1, ?_⟩
    have E0 := env0 (n := N.length - ds.length) w1 r
    unfold L2.start
    rw [r.length]
    exact h2 ds p none (Hs, H) _ Hs H E0 _ (fun Δ' σ' Hs' H' _ E' e => e.elim) fun v Hs' H' g ⟨p, xs, es, e1, e2, e3, e4, e5, e6⟩ => by
      rw [e1]
      rw [e6] at e5
      exact q p xs Hs' H' g e2 e3 e4 e5
/-- with the pump ahead -/
def p0 (ds : List PyData) (n : Nat) : Dn := some .pump :: d0 ds n
theorem okP {x qual : Str} {st : Stmt} {f : Addr} {fd : FuncData} {N ps : List Str} {k : Nat} {Pre : List PyData → Prop} {Post : List PyData → PyData → Prop} (Fn : Fun K x qual st f fd) (S : FnScope N ps (defScope st)) (hl : ∀ ds, Pre ds → ds.length + 1 = ps.length)
    (hb : ∀ (cdv : Value) (A : Around) (outer : List PySem.Env) (s : Shared) (H : Hp) (E : XK), Room k (A.deeper (envOfC qual (defScope st) s.heap.objs.size f cdv)) →
      ∃ t, PSs (cxOf CX0 P w K mg base N qual (defScope st) f cdv A outer s H E).nox (defBody st) t ∧ ∀ ds, Pre ds → Run (p0 ds (N.length - (ds.length + 1))) t (fun _ => False) (RD (Post ds))) : FnOk P w K mg base CX0 (k + 1) f fd ps (spP Pre Post) := by
  refine Fn.ok S (fun vs H Q E h => ?_) (fun cdv A outer s H vs Q E hr h => ?_)
  · obtain ⟨p, vs', Hs, ds, rfl, w1, r, p, _⟩ := h
    rw [List.length_cons, r.length, hl ds p]
  · obtain ⟨p, vs', Hs, ds, rfl, w1, r, pr, q⟩ := h
    obtain ⟨t, h1, h2⟩ := hb cdv A outer s H E hr
    refine ⟨t, h1, ?_⟩
    have E1 : Env (some p) (Hs, H) (p0 ds (N.length - (ds.length + 1))) (some (.ref p) :: (vs'.map some ++ List.replicate (N.length - (ds.length + 1)) none)) Hs H := by
      have E0 := env0 (n := N.length - (ds.length + 1)) w1.bare r
      refine ⟨.refl w1, by show _ + 1 = _ + 1; rw [E0.len], fun i c h => ?_, fun i j di dj a hn h1 h2 h3 h4 => ?_⟩
      · cases i with
        | zero =>
          have : Cell.pump = c := Option.some.inj (Option.some.inj h)
          subst this
          exact ⟨_, rfl, p, rfl, rfl⟩
        | succ i =>
          obtain ⟨v, a1, a2⟩ := E0.at_ i c h
          refine ⟨v, a1, ?_⟩
          cases c with
          | val d => exact a2
          | own es => exact (d0_own h).elim
          | pump =>
            obtain ⟨_, z, _⟩ := a2
            cases z
      · cases i with
        | zero => exact absurd (Option.some.inj (Option.some.inj h1)) (fun z => nomatch z)
        | succ i => exact d0_own (i := i) h1
    unfold L2.start
    rw [List.length_cons, r.length]
    exact h2 ds pr (some p) (Hs, H) _ Hs H E1 _ (fun Δ' σ' Hs' H' _ E' e => e.elim) fun v Hs' H' g ⟨d, rv, e⟩ => q v d Hs' H' g rv e
end
end DL
/-! D3: the text, what the top has; isinstance and the like. -/
namespace DL
open PySem L2
open PyProof.Rows (envOfC)
def topS (i : Nat) : Stmt := PySem.Challenge.pw_everrow_k47_whole_widths_and_cuttings.main.body.getD i (.Pass ⟨0, 0, 0, 0⟩)
def signsS : Str := "abcdefghijklmnopqrstuvwxyz \n"
def lineS : Str := " abcdefghijklmnopqrstuvwxyz"
structure Bt (mg : Str → Option Value) : Prop where
  len : mg "len" = none
  sum : mg "sum" = none
  max : mg "max" = none
  min : mg "min" = none
  range : mg "range" = none
  list : mg "list" = none
  int : mg "int" = none
  str : mg "str" = none
  bool : mg "bool" = none
  isinstance : mg "isinstance" = none
  enumerate : mg "enumerate" = none
  sorted : mg "sorted" = none
  set : mg "set" = none
  SIGNS : ∃ u, mg "SIGNS" = some u ∧ RelV (.str signsS) u
  LINE_SIGNS : ∃ u, mg "LINE_SIGNS" = some u ∧ RelV (.str lineS) u

/-! ### isinstance -/
theorem rc_isi {Δ : Dn} {K : PySem.W.Frag} {ta tb : TE} {d : PyData} {n : String} {t : Value} {b : Bool} (h : Ev Δ ta d) (hb : tb = tC (.ty n)) (ht : ∀ H x, Rp H d x → TyOf K H x t) (hk : PySem.W.kitOne K t (.type n) = some b) : Ev Δ (tCB (rIsi K) (tCons ta (tCons tb tNil))) (.bool b) := fun pp B σ Hs H E Q q => by
  subst hb
  exact h pp B σ Hs H E _ fun x d1 Hs1 H1 g r p => by
    subst p
    exact ⟨x, .ty n, t, .type n, b, rfl, .ty n, .base (ht H1 x (Rp.mono g.wf.le _ _ r)), hk, (q.go g).here g.wf (d := .bool b) rfl rfl⟩

/-! ### the rules that speak of the written part, for blocks within a def -/
section
variable {X : Cx} {K : PySem.W.Frag}
theorem k_ni (h : X.K = K) : OpR X (compareOp .NotIn) (rNiA K) := h ▸ op_niA
theorem k_eq (hu : X.A.units + 64 < cLine) (h : X.K = K) : OpR X (compareOp .Eq) (rEqA K) := h ▸ op_eqA hu
theorem k_ne (hu : X.A.units + 64 < cLine) (h : X.K = K) : OpR X (compareOp .NotEq) (rNeA K) := h ▸ op_neA hu
theorem k_ix (h : X.K = K) : IxR X (rIx K) := h ▸ ix_seq
theorem k_sl (h : X.K = K) : SlR X (rSlA K) := h ▸ sl_any
theorem k_len (h : X.K = K) : CallR X (.builtin "len") (rLenA K) := h ▸ call_lenA
theorem k_sum (hc : X.calm = true) (h : X.K = K) : CallR X (.builtin "sum") (rSum K) := h ▸ cr_sum hc
theorem k_max (hc : X.calm = true) (h : X.K = K) : CallR X (.builtin "max") (rMaxA K) := h ▸ call_maxA hc
theorem k_min (hc : X.calm = true) (h : X.K = K) : CallR X (.builtin "min") (rMin K) := h ▸ cr_min hc
theorem k_isi (h : X.K = K) : CallR X (.builtin "isinstance") (rIsi K) := h ▸ call_isi
theorem k_list {tg l : Expr} {tl : TE} (h : X.K = K) (hl : PE X l tl) : PI X tg l (iList K tl) := h ▸ pi_list hl
theorem k_enum {e : Expr} {ta : TA} {p pos tpos : Pos} {elts : List Expr} {kk : Nat} (h : X.K = K) (hg : Gl X "enumerate") (hm : X.mg "enumerate" = none) (ha : PA X [e] ta) (hs : starEach [e] X.env = [(false, eval e X.env)] := by rfl) : PI X (.Tuple elts kk tpos) (.Call (.Name "enumerate" p) [e] [] pos) (iEnum K ta) := h ▸ pi_enum hg hm ha hs
theorem k_tup {es : List Expr} {k : Nat} {tpos : Pos} {t : TGs} {n : Nat} (h : X.K = K) (hp : PG X (.Tuple es k tpos) (gTup X.K n t)) : PG X (.Tuple es k tpos) (gTup K n t) := h ▸ hp
theorem k_rev {e : Expr} {te : TE} {k : Nat} {p1 p2 p3 pos : Pos} (h : X.K = K) (he : PE X e te) : PE X (.Subscript e (.Slice none none (some (.UnaryOp .USub (.Constant (.int 1) k p1) p2)) p3) pos) (tRevL K te) := h ▸ pe_revL he
end
end DL
/-! D4: min of a list of pairs. -/
namespace DL
open PySem L2
open PySem.W (DatumOrd Datum minOf)

/-! ### the least of a list of pairs -/
def pD (p : Int × Int) : PyData := .tuple [.int p.1, .int p.2]
theorem pD_inj {p q : Int × Int} (h : pD p = pD q) : p = q := by
  unfold pD at h
  injection h with h
  injection h with h1 h2
  injection h2 with h2 _
  injection h1 with h1
  injection h2 with h2
  exact Prod.ext h1 h2
def rMinP (K : PySem.W.Frag) : List V → Hp → VK → Prop := fun vs H Q => ∃ (a : Addr) (xs : List V) (p : Int × Int) (ps : List (Int × Int)), vs = [V.ref a] ∧ SqL K H a xs ∧ DpAll K H xs ((p :: ps).map pD) ∧
  ∀ (i : Nat) x, xs[i]? = some x → (p :: ps)[i]? = some (minOf p ps) → Q x H
theorem readsAll_at {h : Heap} : ∀ {vs : List Value} {ds : List PyData} {as : List Addr} {i : Nat} {v : Value}, ReadsAll h vs ds as → vs[i]? = some v → ∃ d bs, ds[i]? = some d ∧ Reads h v d bs
  | _, _, _, i, v, .nil, e => by simp at e
  | _, _, _, 0, v, .cons r _, e => by
    cases Option.some.inj (show some _ = some v from e)
    exact ⟨_, _, rfl, r⟩
  | _, _, _, i + 1, v, .cons _ rs, e => readsAll_at (i := i) rs (by simpa using e)
theorem vals_back : ∀ {xs : List V} {us : List Value} {i : Nat} {u : Value}, Vals xs us → us[i]? = some u → ∃ x, xs[i]? = some x ∧ RelV x u
  | _, _, _, _, .nil, e => by simp at e
  | _, _, 0, u, .cons r _, e => by
    cases Option.some.inj (show some _ = some u from e)
    exact ⟨_, rfl, r⟩
  | _, _, i + 1, u, .cons _ t, e => by
    obtain ⟨x, h1, h2⟩ := vals_back (i := i) (u := u) t (by simpa using e)
    exact ⟨x, by simpa using h1, h2⟩
section
variable {X : Cx} {K : PySem.W.Frag}
theorem cr_minP (hc : X.calm = true) (hu : X.A.units + 64 < cLine) : CallR X (.builtin "min") (rMinP X.K) := by
  intro pins s σ H vs us Q I r h
  obtain ⟨a, xs, p, ps, rfl, hs, hd, q⟩ := h
  obtain ⟨its, rv, hl, _⟩ := I.list hs
  rw [Vals.ref1 r]
  obtain ⟨as, ra⟩ := Dp.readsAll I _ _ _ hd rv
  refine PySem.W.min_list_datum (x := p) (xs := ps) (I.ok.hd hc) hl.isList ⟨as, ra⟩ (Nat.lt_of_le_of_lt (show X.A.units + 1 + 1 ≤ X.A.units + 64 by omega) hu) fun i v h' tk hv hh hk => ?_
  have hv' : its[i]? = some v := by simpa using hv
  obtain ⟨x, hx, rx⟩ := vals_back rv hv'
  obtain ⟨d, bs, e1, rd⟩ := readsAll_at ra hv'
  obtain ⟨cs, rm⟩ := hh
  rw [List.getElem?_map] at e1
  cases e2 : (p :: ps)[i]? with
  | none =>
    rw [e2] at e1
    cases e1
  | some y =>
    rw [e2] at e1
    cases e1
    have e3 : pD y = pD (minOf p ps) := SeqAt.Reads.unique (pD y) _ v _ _ rfl (PySem.W.reads_keeps hk rd) rm
    refine ⟨x, H, I.kept hk, rx, q i x hx ?_⟩
    rw [e2, pD_inj e3]
theorem k_minP (hc : X.calm = true) (hu : X.A.units + 64 < cLine) (h : X.K = K) : CallR X (.builtin "min") (rMinP K) := h ▸ cr_minP hc hu
end
theorem rc_minP {K : PySem.W.Frag} {p : Int × Int} {ps : List (Int × Int)} : RC (rMinP K) [.list ((p :: ps).map pD)] fun x => x = pD (minOf p ps) := fun pp Hs H xs w r Q q => by
  obtain ⟨x, r', rfl, ⟨a, ys, rfl, ha, ra⟩, r2⟩ := r
  cases (show r' = [] from r2)
  refine ⟨a, ys, p, ps, rfl, .of (w.le _ _ ha), (ra.mono w.le).dp, fun i z hz hp => ?_⟩
  have e : ((p :: ps).map pD)[i]? = some (pD (minOf p ps)) := by rw [List.getElem?_map, hp]; rfl
  obtain ⟨z', h1, h2⟩ := ra.get e
  rw [hz] at h1
  cases h1
  exact q.here w h2 rfl
end DL
/-! DS: the set of a list of ints; a set of ints put in order, any number of them. -/
namespace DL
open PySem L2 PySem.Spec PyProof.Rows
abbrev nuSet (wd : World) : Obj := { cls := .type "set", dict := none, data := .set #[] 0 (.fresh 0 0 (!wd.params.followText "set-order")) }
section
variable {pr : Program} {wd : World} {ar : Around} {xe : Value → Shared → Prop} {sh : Shared}
theorem intsAt {us : Array Value} {ns : List Int} (hi : IntsAre us.toList ns) (hz : us.size = ns.length) : ∀ (i : Nat) (v : Value), us[i]? = some v → ∃ k t, ns[i]? = some k ∧ v = .int k t := fun i v hv => by
  have lt : i < ns.length := by rw [← hz]; exact (Array.getElem?_eq_some_iff.mp hv).1
  obtain ⟨t, e⟩ := IntsAre.int_at hi i v (by rw [Array.getElem?_toList]; exact hv)
  exact ⟨ns[i], t, List.getElem?_eq_getElem lt, by rw [e, List.getD_eq_getElem?_getD, List.getElem?_eq_getElem lt] <;> rfl⟩
theorem set_of_list {at_ : Addr} {us : Array Value} (ns : List Int) {Qk : Value → Shared → Prop} (hn : ar.handled = none) (il : sh.heap.IsList at_ us) (ia : IntsAre us.toList ns) (hb : ns.length + 1 < scanBound)
    (q : ∀ (hp : Heap) (tk c : Nat), SetR wd hp sh.heap.objs.size (fun j => decide (j ∈ ns)) c → c ≤ ns.length → (∀ b o, sh.heap.get? b = some o → hp.get? b = some o) → Qk (.ref sh.heap.objs.size) { sh with heap := hp, toks := tk }) :
    wpAny (model pr wd) ar (call (.type "set") [.ref at_]) Qk xe sh := by
  have zz : us.size = ns.length := by
    have e := IntsAre.length ia
    rw [Array.length_toList] at e
    exact e
  obtain ⟨m1, m2, f1⟩ := F.called_set.mro
  have f2 := F.called_set.made
  have f3 := F.called_set.sub
  refine wpAny_call (codeAny_of_tree ?_)
  show wpAny _ _ (callAny (.type "set") _) _ _ _
  refine wpAny_pure (.intro (Code.quiet_builtin _ (by decide +kernel)) (codeAny_builtin F.entry_type_call ?_))
  rw [Around.under_plain (weight_type_call_type "set" [.ref at_] []) rfl]
  have f4 := F.called_set.notType
  have f5 := F.called_set.canCreate
  have f6 := F.typeCall_set_1 (.ref at_)
  repeat (any_goals (first | assumption | wp_step))
  refine codeAny_mono (code_set_led1 (.ref at_) (E := xe) (Q₁ := fun ob s1 => ob = .ref sh.heap.objs.size ∧ s1 = { sh with heap := sh.heap.push (nuSet wd) }) (.intro rfl rfl)) fun rr s1 hr => ?_
  match rr, hr with
  | .error e, hr => exact hr
  | .ok (.ret ob), hr =>
    obtain ⟨rfl, rfl⟩ := hr
    have g1 : (sh.heap.push (nuSet wd)).get? sh.heap.objs.size = some (nuSet wd) := Heap.get?_push_size _ rfl
    have g2 : Shared.TypeIs { sh with heap := sh.heap.push (nuSet wd) } (.ref sh.heap.objs.size) "set" := ⟨_, g1, rfl⟩
    have f7 := F.called_set.init.lookup
    have f8 := F.called_set.init.bind (.ref sh.heap.objs.size)
    repeat (any_goals (first | assumption | wp_step))
    refine codeAny_mono (codeAny_call_builtin (R := wants (fun r s2 => r = .none ∧ ∃ hp tk c, s2 = { sh with heap := hp, toks := tk } ∧ SetR wd hp sh.heap.objs.size (fun j => decide (j ∈ ns)) c ∧ c ≤ ns.length ∧ ∀ b o, sh.heap.get? b = some o → hp.get? b = some o) xe) F.called_set.init.plain F.entry_set_init (check_set_init_1 g2 ?_)) fun r2 s2 hr2 => ?_
    · obtain ⟨ol, e1, e2, nl, e3⟩ := il
      obtain ⟨oc, od, oa, os⟩ := ol
      dsimp only at e2 e3
      cases e2
      cases e3
      have e4 : (sh.heap.push (nuSet wd)).get? at_ = some { cls := .type "list", dict := od, data := .seq us nl, slots := os } := Heap.get?_push_of_some _ e1
      have f9 := F.sub_list_set
      have fa := F.sub_list_frozenset
      have fb : (Value.type "list" == Value.type "dict") = false := by decide
      have il1 : (sh.heap.push (nuSet wd)).IsList at_ us := ⟨_, e4, rfl, nl, rfl⟩
      unfold Builtin.«set.__init__» noKeywords Builtin.Frozenset.updateFrom
      generalize hPI : pyIter = PI
      wp_walk
      subst hPI
      refine wpAny_pyIter_list il1 ?_
      refine wpAny_bind (wpAny_runValue ?_)
      have lt : at_ < sh.heap.objs.size := Heap.lt_size e1
      have hn3 : ar.in1.in1.in1.handled = none := by simp [hn]
      have z1 : (sh.heap.push (nuSet wd)).objs.size = sh.heap.objs.size + 1 := Heap.size_push ..
      have ne1 : at_ ≠ (sh.heap.push (nuSet wd)).objs.size := by
        rw [z1]
        exact Nat.ne_of_lt (Nat.lt_succ_of_lt lt)
      have ne2 : sh.heap.objs.size ∉ [(sh.heap.push (nuSet wd)).objs.size, at_] := by
        rw [z1]
        simp only [List.mem_cons, List.not_mem_nil, or_false, not_or]
        exact .intro (Nat.ne_of_lt (Nat.lt_succ_self _)) (Nat.ne_of_gt lt)
      refine set_update_ints ((Walks.list hn3 _ at_ ne1 us).toS) sh.heap.objs.size ne2 ns zz hb (intsAt ia zz) (us.size - 0) 0 _ (by omega) (Nat.zero_le _) ⟨⟨_, Heap.get?_push_size _ rfl, rfl, rfl⟩, il1.push _⟩ ⟨0, Nat.le_refl 0, setR_new_at (Heap.get?_push_of_some _ g1)⟩ fun s' c' hm hc' hS' => ?_
      obtain ⟨h', gg, dd, tk', oo⟩ := s'
      have x1 : gg = sh.gens := hm.gens
      have x2 : dd = sh.drawn := hm.drawn
      have x3 : oo = sh.os := hm.os
      cases x1
      cases x2
      cases x3
      show wpAny _ _ _ _ _ _
      refine wpAny_pure ?_
      show wpAny _ _ (ret Value.none) _ _ _
      rw [zz] at hc'
      refine wpAny_pure ⟨rfl, h', tk', c', rfl, hS', hc', fun b o e => ?_⟩
      have b0 : b < sh.heap.objs.size := Heap.lt_size e
      refine hm.heap b o ?_ (Heap.get?_push_of_some _ (Heap.get?_push_of_some _ e))
      rw [z1]
      simp only [List.mem_cons, List.not_mem_nil, or_false, not_or]
      exact .intro (Nat.ne_of_lt b0) (Nat.ne_of_lt (Nat.lt_succ_of_lt b0))
    · match r2, hr2 with
      | .error e, hr2 => exact hr2
      | .ok (.ret rv), hr2 =>
        obtain ⟨rfl, h', tk, c', rfl, hS', hc', hk'⟩ := hr2
        repeat (any_goals (first | assumption | wp_step))
        exact q _ _ _ hS' hc' hk'
theorem nodup_lt : ∀ {l : List Int}, l.Pairwise (· ≤ ·) → l.Nodup → l.Pairwise (· < ·)
  | [], _, _ => .nil
  | x :: l, h, d => by
    rw [List.pairwise_cons] at h ⊢
    rw [List.nodup_cons] at d
    refine ⟨fun y hy => ?_, nodup_lt h.2 d.2⟩
    have a := h.1 y hy
    have b : y ≠ x := fun e => d.1 (e ▸ hy)
    omega
theorem set_in_order {at_ : Addr} {Sf : Int → Bool} {n : Nat} {Qk : Value → Shared → Prop} (R : SetR wd sh.heap at_ Sf n) (hn : ar.handled = none) (hz : n ≤ sizeLine)
    (q : ∀ s' p (out : Array Value) (c : Nat) (ns : List Int), (∀ b o, sh.heap.get? b = some o → s'.heap.get? b = some o) → s'.gens = sh.gens → s'.os = sh.os → sh.heap.objs.size ≤ p →
      s'.heap.get? p = some (seqObj "list" out c) → IntsAre out.toList ns → ns.Pairwise (· < ·) → (∀ k, k ∈ ns ↔ Sf k = true) → ns.length = n → Qk (.ref p) s') :
    wpAny (model pr wd) ar (call (.builtin "sorted") [.ref at_]) Qk xe sh := by
  obtain ⟨ob, es, ep, t, h1, h2, h3, h4, h5, h6, h7, h8, h9, ha, hb⟩ := R
  refine Calls.call_function_entry kind_sorted plain_sorted entry_sorted (args_sorted1 _) ?_
  unfold Builtin.«sorted»
  refine wpAny_bind (m := checkCount "sorted" 1 1 _) (wpAny_pure ?_)
  refine wpAny_bind (collect_set (A := ar.in1) hn ⟨ob, h1, h2.1, h3⟩ h8 h7 ha hb fun s1 vs k1 z1 g1 o1 pm => ?_)
  have vl : vs.length = n := by
    rw [pm.length_eq, List.length_map, Array.length_toList]
    exact h9
  have hI : IntsAre vs (vs.map SrtO.iv) := SrtO.ints_iv fun v hv => by
    obtain ⟨e, he, x⟩ := List.mem_map.mp (pm.mem_iff.mp hv)
    obtain ⟨k, tk, y, _⟩ := h4 e he
    exact ⟨k, tk, by rw [← x]; exact y⟩
  have pk : (vs.map SrtO.iv).Perm (es.toList.map keyOf) := by
    have x := pm.map SrtO.iv
    rw [List.map_map] at x
    have e : es.toList.map (SrtO.iv ∘ fun e => e.2) = es.toList.map keyOf := List.map_congr_left fun e he => by
      obtain ⟨k, tk, y, _⟩ := h4 e he
      show SrtO.iv e.2 = keyOf e
      unfold keyOf
      rw [y]
      rfl
    rw [e] at x
    exact x
  refine wpAny_bind (wpAny_newList ?_ (by rw [vl]; exact hz))
  have hl : (s1.heap.push (seqObj "list" vs.toArray 0)).get? s1.heap.objs.size = some (seqObj "list" vs.toArray 0) := Heap.get?_push_size _ rfl
  refine wpAny_bind (wpAny_holding (wpAny_call_entry slot_list_sort ⟨_, hl, rfl⟩ entry_list_sort (SrtO.list_sort_ord SrtO.swo_int hl (by rw [vl]; exact hz) (fun h => SrtO.ints_sortable hI h) fun out a1 a2 => ⟨_, rfl, ?_⟩) (args_list_sort _)))
  obtain ⟨b1, b2, b3⟩ := SrtO.ints_out hI a1 a2
  obtain ⟨c, hc⟩ := sortedHeap_at (vs := vs) (out := out.toArray) hl
  have pn : (out.map SrtO.iv).Perm (es.toList.map keyOf) := b2.trans pk
  refine wpAny_pure ⟨_, rfl, q _ s1.heap.objs.size out.toArray c (out.map SrtO.iv) (fun b u e => ?_) g1 o1 z1 hc b1 (nodup_lt b3 (pn.nodup_iff.mpr h5)) (fun k => by rw [pn.mem_iff, ← h6 k]) (by rw [pn.length_eq, List.length_map, Array.length_toList]; exact h9)⟩
  have x := k1 b u e
  have lt := Heap.lt_size x
  show (sortedHeap (s1.heap.push (seqObj "list" vs.toArray 0)) s1.heap.objs.size vs out.toArray).get? b = some u
  rw [sortedHeap_old (Nat.ne_of_lt lt) (by rw [size_push']; exact Nat.lt_succ_of_lt lt)]
  exact Heap.get?_push_of_some _ x
end
section
variable {X : Cx}
/-- the set of a list of ints -/
def rSetI (K : PySem.W.Frag) (wd : World) : List V → Hp → VK → Prop := fun vs H Q => ∃ (a : Addr) (ns : List Int), vs = [V.ref a] ∧ SqL K H a (ns.map V.int) ∧ ns.length ≤ 4000 ∧
  ∀ (p : Addr) (n : Nat), H p = none → n ≤ ns.length → Q (.ref p) (upd H p (SetO wd p (fun j => decide (j ∈ ns)) n))
theorem call_setI (hcalm : X.calm = true) : CallR X (.type "set") (rSetI X.K X.w) := by
  intro pins s σ H vs us Q I r h
  obtain ⟨a, ns, rfl, hs, hz, q⟩ := h
  obtain ⟨its, rv, hl, _⟩ := I.list hs
  rw [Vals.ref1 r]
  refine set_of_list ns (I.ok.hd hcalm) hl.isList rv.ints (by unfold scanBound; omega) fun hp tk c R hc k => ?_
  exact ⟨.ref _, upd H s.heap.objs.size (SetO X.w s.heap.objs.size (fun j => decide (j ∈ ns)) c), I.laid (t' := tk) k (Nat.le_refl _) (setO_new R), rfl, q _ c (I.hok.fresh (Nat.le_refl _)) hc⟩
/-- the order of a set of ints -/
def rOrdSet (wd : World) : List V → Hp → VK → Prop := fun vs H Q => ∃ (a : Addr) (Sf : Int → Bool) (n : Nat), vs = [V.ref a] ∧ H a = some (SetO wd a Sf n) ∧ n ≤ 100000 ∧
  ∀ (ns : List Int) (p : Addr), ns.Pairwise (· < ·) → (∀ k : Int, k ∈ ns ↔ Sf k = true) → H p = none → Q (.ref p) (upd H p (.lst (ns.map V.int)))
theorem call_ordSet (hc : X.calm = true) : CallR X (.builtin "sorted") (rOrdSet X.w) := by
  intro pins s σ H vs us Q I r h
  obtain ⟨a, Sf, n, rfl, ha, hz, q⟩ := h
  have R := setO_get I ha
  rw [Vals.ref1 r]
  refine set_in_order R (I.ok.hd hc) (Nat.le_trans hz (by decide)) fun s' p out c ns k g o hp hg hi hs hm hl => ?_
  have len : (ns.map V.int).length ≤ sizeLine := by
    rw [List.length_map, hl]
    exact Nat.le_trans hz (by decide)
  have hn : H p = none := I.hok.fresh hp
  have J : Inv X pins σ (upd H p (.lst (ns.map V.int))) { s with heap := s'.heap, gens := s'.gens, drawn := s'.drawn, toks := s'.toks } :=
    I.call (ch := []) (Un.laid k hp hn) (I.hok.laid k hp ⟨len, out.toList, c, vals_of_ints hi, hg⟩) (by rw [g]; exact I.bare) fun _ z => nomatch z
  obtain ⟨x1, x2, x3, x4, x5⟩ := s'
  cases (show x5 = s.os from o)
  exact ⟨.ref p, _, J, rfl, q ns p hs hm hn⟩
end
/-- sorted(set(x)) of a rising list -/
theorem ev_ordSet {K : PySem.W.Frag} {wd : World} {Δ : Dn} {te : TE} {ns : List Int} (h : Ev Δ te (.list (ns.map .int))) (hp : ns.Pairwise (· < ·)) (hz : ns.length ≤ 4000) :
    Ev Δ (tCB (rOrdSet wd) (tCons (tCB (rSetI K wd) (tCons te tNil)) tNil)) (.list (ns.map .int)) := fun pp B σ Hs H E Q q => by
  refine h pp B σ Hs H E _ fun x d1 Hs1 H1 g1 r1 p1 => ?_
  subst p1
  obtain ⟨a, xs, rfl, ha, ra⟩ := r1
  have e := ra.ints
  subst e
  refine ⟨a, ns, rfl, .of (g1.wf.le _ _ ha), hz, fun p n hpn hn => ?_⟩
  refine ⟨p, _, n, rfl, upd_same, by omega, fun ms p2 hm hk hp2 => ?_⟩
  have e : ms = ns := by
    refine List.Perm.eq_of_pairwise (le := (· < ·)) (fun a b _ _ h1 h2 => by omega) hm hp ?_
    refine (List.perm_ext_iff_of_nodup (hm.imp fun h => by omega) (hp.imp fun h => by omega)).mpr fun k => ?_
    rw [hk k]
    simp
  subst e
  have hpp : H1 p2 = none := by
    by_cases z : p2 = p
    · rw [z]; exact hpn
    · rw [upd_ne z] at hp2
      exact hp2
  exact (q.go (g1.trans (.mine g1.wf hpn))).newL (Gr.mine g1.wf hpn).wf ra rfl p2 hp2
end DL
/-! M1: the plain mathematics: chunks, borders, cuts, counts, ways. No program here. -/
namespace MM

/-! ### chunks and borders -/
def chStep (p : List (List Nat) × List Nat) (c : Nat) : List (List Nat) × List Nat := if c = 32 then (p.1 ++ [p.2 ++ [c]], []) else (p.1, p.2 ++ [c])
def chEnd (p : List (List Nat) × List Nat) : List (List Nat) := if p.2 = [] then p.1 else p.1 ++ [p.2]
def chunksN (l : List Nat) : List (List Nat) := chEnd (l.foldl chStep ([], []))
def chG : List Nat → List Nat → List (List Nat)
  | h, [] => if h = [] then [] else [h]
  | h, c :: r => if c = 32 then (h ++ [c]) :: chG [] r else chG (h ++ [c]) r
theorem ch_fold : ∀ (l : List Nat) (f : List (List Nat)) (h : List Nat), chEnd (l.foldl chStep (f, h)) = f ++ chG h l
  | [], f, h => by
    unfold chEnd chG
    show (if h = [] then f else f ++ [h]) = _
    by_cases e : h = []
    · rw [if_pos e, if_pos e, List.append_nil]
    · rw [if_neg e, if_neg e]
  | c :: r, f, h => by
    rw [List.foldl_cons]
    unfold chG
    by_cases e : c = 32
    · have : chStep (f, h) c = (f ++ [h ++ [c]], []) := by unfold chStep; rw [if_pos e]
      rw [this, ch_fold r, if_pos e, List.append_assoc]
      rfl
    · have : chStep (f, h) c = (f, h ++ [c]) := by unfold chStep; rw [if_neg e]
      rw [this, ch_fold r, if_neg e]
theorem chunks_eq (l : List Nat) : chunksN l = chG [] l := by
  unfold chunksN
  rw [ch_fold]
  rfl
theorem chG_ne : ∀ (l h : List Nat), ∀ c ∈ chG h l, c ≠ []
  | [], h, c, hc => by
    unfold chG at hc
    by_cases e : h = []
    · rw [if_pos e] at hc
      cases hc
    · rw [if_neg e] at hc
      rw [List.mem_singleton.mp hc]
      exact e
  | x :: r, h, c, hc => by
    unfold chG at hc
    by_cases e : x = 32
    · rw [if_pos e] at hc
      rcases List.mem_cons.mp hc with z | z
      · rw [z]
        exact List.append_ne_nil_of_right_ne_nil _ (by simp)
      · exact chG_ne r [] c z
    · rw [if_neg e] at hc
      exact chG_ne r _ c hc
theorem chG_flat : ∀ (l h : List Nat), (chG h l).flatten = h ++ l
  | [], h => by
    unfold chG
    by_cases e : h = []
    · rw [if_pos e, e]
      rfl
    · rw [if_neg e]
      simp
  | x :: r, h => by
    unfold chG
    by_cases e : x = 32
    · rw [if_pos e, List.flatten_cons, chG_flat r [], List.append_assoc]
      rfl
    · rw [if_neg e, chG_flat r, List.append_assoc]
      rfl
def sizesN (l : List Nat) : List Nat := (chunksN l).map List.length
theorem sizes_pos {l : List Nat} : ∀ c ∈ sizesN l, 0 < c := fun c hc => by
  unfold sizesN at hc
  rw [chunks_eq] at hc
  obtain ⟨x, h1, h2⟩ := List.mem_map.mp hc
  have := chG_ne l [] x h1
  rw [← h2]
  exact List.length_pos_iff.mpr this
theorem chunks_flat (l : List Nat) : (chunksN l).flatten = l := by
  rw [chunks_eq, chG_flat]
  rfl
theorem sizes_sum (l : List Nat) : (sizesN l).sum = l.length := by
  unfold sizesN
  rw [← List.length_flatten, chunks_flat]
theorem chunks_nil : chunksN [] = [] := rfl
theorem sizes_nil_iff (l : List Nat) : sizesN l = [] ↔ l = [] := by
  constructor
  · intro h
    have e := sizes_sum l
    rw [h] at e
    exact List.length_eq_zero_iff.mp e.symm
  · intro h
    rw [h]
    rfl
theorem len_le_sum : ∀ {s : List Nat}, (∀ c ∈ s, 0 < c) → s.length ≤ s.sum
  | [], _ => Nat.le_refl _
  | c :: s, h => by
    have := len_le_sum (s := s) fun x hx => h x (List.mem_cons_of_mem _ hx)
    have h0 := h c List.mem_cons_self
    rw [List.length_cons, List.sum_cons]
    omega
theorem sizes_len (l : List Nat) : (sizesN l).length ≤ l.length := by
  rw [← sizes_sum l]
  exact len_le_sum sizes_pos
theorem chunks_len (l : List Nat) : (chunksN l).length ≤ l.length := by
  have := sizes_len l
  unfold sizesN at this
  rwa [List.length_map] at this
theorem mem_le_sum : ∀ {s : List Nat} {c : Nat}, c ∈ s → c ≤ s.sum
  | [], c, h => nomatch h
  | x :: s, c, h => by
    rw [List.sum_cons]
    rcases List.mem_cons.mp h with e | e
    · omega
    · have := mem_le_sum e
      omega
theorem chunk_len {l c : List Nat} (h : c ∈ chunksN l) : c.length ≤ l.length := by
  rw [← sizes_sum l]
  exact mem_le_sum (List.mem_map.mpr ⟨c, h, rfl⟩)

def bord : Nat → List Nat → List Nat
  | _, [] => []
  | p, c :: r => (p + c) :: bord (p + c) r
def bordersN (l : List Nat) : List Nat := ((List.range l.length).filter fun k => decide (l[k]? = some 32) || decide (k + 1 = l.length)).map (· + 1)
def brdG : Nat → List Nat → List Nat
  | _, [] => []
  | n, c :: r => if c = 32 ∨ r = [] then (n + 1) :: brdG (n + 1) r else brdG (n + 1) r
theorem brd_range : ∀ (l : List Nat) (n : Nat), ((List.range l.length).filter fun k => decide (l[k]? = some 32) || decide (k + 1 = l.length)).map (fun k => n + k + 1) = brdG n l
  | [], n => rfl
  | c :: r, n => by
    have ih := brd_range r (n + 1)
    have e0 : (fun k => decide ((c :: r)[k]? = some 32) || decide (k + 1 = (c :: r).length)) ∘ Nat.succ = fun k => decide (r[k]? = some 32) || decide (k + 1 = r.length) := by
      funext k
      show (decide ((c :: r)[k + 1]? = some 32) || decide (k + 1 + 1 = r.length + 1)) = _
      rw [List.getElem?_cons_succ]
      congr 1
      rw [decide_eq_decide]
      omega
    rw [List.length_cons, List.range_succ_eq_map, List.filter_cons]
    have e1 : (List.filter (fun k => decide ((c :: r)[k]? = some 32) || decide (k + 1 = (c :: r).length)) (List.map Nat.succ (List.range r.length))).map (fun k => n + k + 1) = brdG (n + 1) r := by
      rw [List.filter_map, List.map_map, e0, ← ih]
      refine List.map_congr_left fun k _ => ?_
      show n + (k + 1) + 1 = n + 1 + k + 1
      omega
    rw [List.length_cons] at e1
    unfold brdG
    have e2 : ((decide ((c :: r)[0]? = some 32) || decide (0 + 1 = r.length + 1)) = true) ↔ (c = 32 ∨ r = []) := by
      rw [Bool.or_eq_true, decide_eq_true_eq, decide_eq_true_eq, List.getElem?_cons_zero]
      constructor
      · rintro (h | h)
        · exact .inl (Option.some.inj h)
        · exact .inr (List.length_eq_zero_iff.mp (by omega))
      · rintro (h | h)
        · exact .inl (by rw [h])
        · exact .inr (by rw [h]; rfl)
    by_cases e : c = 32 ∨ r = []
    · rw [if_pos (e2.mpr e), if_pos e, List.map_cons, e1]
    · rw [if_neg (fun h => e (e2.mp h)), if_neg e, e1]
theorem bord_chG : ∀ (l h : List Nat) (p : Nat), (l ≠ [] ∨ h = []) → bord p ((chG h l).map List.length) = brdG (p + h.length) l
  | [], h, p, z => by
    have e : h = [] := z.elim (fun x => absurd rfl x) id
    rw [e]
    rfl
  | c :: r, h, p, _ => by
    unfold chG brdG
    by_cases e : c = 32
    · rw [if_pos e, if_pos (.inl e), List.map_cons]
      show (p + (h ++ [c]).length) :: bord (p + (h ++ [c]).length) ((chG [] r).map List.length) = _
      rw [bord_chG r [] _ (.inr rfl), List.length_append]
      rfl
    · rw [if_neg e]
      by_cases e2 : r = []
      · rw [if_pos (.inr e2), e2]
        have : chG (h ++ [c]) [] = [h ++ [c]] := by
          unfold chG
          rw [if_neg (by simp)]
        rw [this]
        show [p + (h ++ [c]).length] = [p + h.length + 1]
        rw [List.length_append]
        rfl
      · rw [if_neg (fun z => z.elim e e2), bord_chG r _ p (.inl e2), List.length_append]
        rfl
theorem borders_eq (l : List Nat) : bordersN l = bord 0 (sizesN l) := by
  have h1 := brd_range l 0
  have h2 := bord_chG l [] 0 (.inr rfl)
  unfold bordersN sizesN
  rw [chunks_eq, h2]
  show _ = brdG 0 l
  rw [← h1]
  refine List.map_congr_left fun k _ => ?_
  omega
theorem bord_length : ∀ (s : List Nat) (p : Nat), (bord p s).length = s.length
  | [], _ => rfl
  | c :: s, p => by
    show (bord (p + c) s).length + 1 = s.length + 1
    rw [bord_length s]
theorem bord_get : ∀ (s : List Nat) (p i : Nat), i < s.length → (bord p s)[i]? = some (p + (s.take (i + 1)).sum)
  | [], p, i, h => absurd h (Nat.not_lt_zero _)
  | c :: s, p, 0, h => by
    show some (p + c) = _
    simp
  | c :: s, p, i + 1, h => by
    show (bord (p + c) s)[i]? = _
    rw [bord_get s (p + c) i (by simpa using h)]
    congr 1
    rw [List.take_succ_cons, List.sum_cons]
    omega

/-! ### cutting -/
def cutStep (w : Nat) (p : List (List Nat) × List Nat) (c : List Nat) : List (List Nat) × List Nat := if p.2 = [] ∨ p.2.length + c.length ≤ w then (p.1, p.2 ++ c) else (p.1 ++ [p.2], c)
def cutN (l : List Nat) (w : Nat) : List (List Nat) := let p := (chunksN l).foldl (cutStep w) ([], []); p.1 ++ [p.2]
/-- further pieces, behind one of length k -/
def gc (w : Nat) : Nat → List Nat → Nat
  | _, [] => 0
  | k, c :: s => if k + c ≤ w then gc w (k + c) s else 1 + gc w c s
def cnt (w : Nat) : List Nat → Nat
  | [] => 0
  | c :: s => 1 + gc w c s
theorem cut_fold (w : Nat) : ∀ (cs : List (List Nat)) (i : List (List Nat)) (p : List Nat), p ≠ [] → (∀ c ∈ cs, c ≠ []) → (cs.foldl (cutStep w) (i, p)).1.length = i.length + gc w p.length (cs.map List.length)
  | [], i, p, _, _ => rfl
  | c :: cs, i, p, hp, hc => by
    have hc' : ∀ x ∈ cs, x ≠ [] := fun x hx => hc x (List.mem_cons_of_mem _ hx)
    rw [List.foldl_cons, List.map_cons]
    unfold gc
    by_cases e : p.length + c.length ≤ w
    · have : cutStep w (i, p) c = (i, p ++ c) := by unfold cutStep; rw [if_pos (.inr e)]
      rw [this, if_pos e, cut_fold w cs i (p ++ c) (List.append_ne_nil_of_left_ne_nil hp _) hc', List.length_append]
    · have : cutStep w (i, p) c = (i ++ [p], c) := by unfold cutStep; rw [if_neg (fun z => z.elim hp e)]
      rw [this, if_neg e, cut_fold w cs _ c (hc c List.mem_cons_self) hc', List.length_append]
      show i.length + 1 + _ = _
      omega
theorem cut_len (l : List Nat) (w : Nat) : (cutN l w).length = max 1 (cnt w (sizesN l)) := by
  unfold cutN sizesN
  have hne : ∀ c ∈ chunksN l, c ≠ [] := by rw [chunks_eq]; exact chG_ne l []
  cases e : chunksN l with
  | nil => rfl
  | cons c cs =>
    rw [e] at hne
    have : cutStep w ([], []) c = ([], c) := by unfold cutStep; rw [if_pos (.inl rfl)]; rfl
    show ((List.foldl (cutStep w) (cutStep w ([], []) c) cs).1 ++ [_]).length = _
    rw [this, List.length_append, cut_fold w cs [] c (hne c List.mem_cons_self) fun x hx => hne x (List.mem_cons_of_mem _ hx)]
    show 0 + gc w c.length (cs.map List.length) + 1 = max 1 (1 + gc w c.length (cs.map List.length))
    omega
theorem gc_mono (w : Nat) : ∀ (s : List Nat) (a b : Nat), a ≤ b → gc w a s ≤ gc w b s ∧ gc w b s ≤ 1 + gc w a s
  | [], _, _, _ => ⟨Nat.le_refl _, Nat.le_add_left _ _⟩
  | c :: s, a, b, h => by
    unfold gc
    by_cases e1 : b + c ≤ w
    · rw [if_pos e1, if_pos (by omega : a + c ≤ w)]
      exact gc_mono w s (a + c) (b + c) (by omega)
    · rw [if_neg e1]
      by_cases e2 : a + c ≤ w
      · rw [if_pos e2]
        have := gc_mono w s c (a + c) (by omega)
        omega
      · rw [if_neg e2]
        omega
theorem gc_fit (w : Nat) : ∀ (g r : List Nat) (k : Nat), k + g.sum ≤ w → gc w k (g ++ r) = gc w (k + g.sum) r
  | [], r, k, _ => rfl
  | c :: g, r, k, h => by
    rw [List.sum_cons] at h
    show (if k + c ≤ w then gc w (k + c) (g ++ r) else 1 + gc w c (g ++ r)) = _
    rw [if_pos (by omega), gc_fit w g r (k + c) (by omega), List.sum_cons]
    congr 1
    omega
theorem gc_cnt (w k : Nat) (r : List Nat) : gc w k r ≤ cnt w r := by
  cases r with
  | nil => exact Nat.le_refl _
  | cons c r =>
    show (if k + c ≤ w then gc w (k + c) r else 1 + gc w c r) ≤ 1 + gc w c r
    by_cases e : k + c ≤ w
    · rw [if_pos e]
      exact (gc_mono w r c (k + c) (by omega)).2
    · rw [if_neg e]
      exact Nat.le_refl _

/-! ### ways -/
inductive IsWay (w : Nat) : Nat → List Nat → List (Nat × Nat) → Prop where
  | nil (pos : Nat) : IsWay w pos [] []
  | cons {pos : Nat} {g r : List Nat} {way : List (Nat × Nat)} : g ≠ [] → (g.sum ≤ w ∨ g.length = 1) → IsWay w (pos + g.sum) r way → IsWay w pos (g ++ r) ((pos, pos + g.sum) :: way)
theorem way_ge {w pos : Nat} {s : List Nat} {way : List (Nat × Nat)} (h : IsWay w pos s way) : cnt w s ≤ way.length := by
  induction h with
  | nil => exact Nat.le_refl _
  | @cons pos g r way hg hv hr ih =>
    cases g with
    | nil => exact absurd rfl hg
    | cons c g =>
      show 1 + gc w c (g ++ r) ≤ way.length + 1
      have : gc w c (g ++ r) ≤ cnt w r := by
        rcases hv with hv | hv
        · rw [List.sum_cons] at hv
          rw [gc_fit w g r c (by omega)]
          exact gc_cnt w _ r
        · have : g = [] := List.length_eq_zero_iff.mp (by simpa using hv)
          rw [this]
          exact gc_cnt w c r
      omega
theorem way_build (w : Nat) : ∀ (s g : List Nat) (pos : Nat), g ≠ [] → (g.sum ≤ w ∨ g.length = 1) → ∃ way, IsWay w pos (g ++ s) way ∧ way.length = 1 + gc w g.sum s
  | [], g, pos, hg, hv => ⟨[(pos, pos + g.sum)], by have := IsWay.cons (pos := pos) hg hv (.nil _); exact this, rfl⟩
  | c :: s, g, pos, hg, hv => by
    unfold gc
    by_cases e : g.sum + c ≤ w
    · obtain ⟨way, h1, h2⟩ := way_build w s (g ++ [c]) pos (List.append_ne_nil_of_left_ne_nil hg _) (.inl (by rw [List.sum_append]; simpa using e))
      rw [List.append_assoc] at h1
      refine ⟨way, h1, ?_⟩
      rw [if_pos e, h2, List.sum_append]
      simp
    · obtain ⟨way, h1, h2⟩ := way_build w s [c] (pos + g.sum) (by simp) (.inr rfl)
      refine ⟨_, .cons hg hv h1, ?_⟩
      rw [if_neg e, List.length_cons, h2]
      simp
      omega
theorem way_ex (w pos : Nat) (s : List Nat) : ∃ way, IsWay w pos s way ∧ way.length = cnt w s := by
  cases s with
  | nil => exact ⟨[], .nil _, rfl⟩
  | cons c s =>
    obtain ⟨way, h1, h2⟩ := way_build w s [c] pos (by simp) (.inr rfl)
    refine ⟨way, h1, ?_⟩
    rw [h2]
    simp [cnt]
theorem way_mono {w w' pos : Nat} {s : List Nat} {way : List (Nat × Nat)} (hw : w ≤ w') (h : IsWay w pos s way) : IsWay w' pos s way := by
  induction h with
  | nil => exact .nil _
  | cons hg hv _ ih => exact .cons hg (hv.imp (fun z => Nat.le_trans z hw) id) ih
theorem cnt_anti {w w' : Nat} (hw : w ≤ w') (s : List Nat) : cnt w' s ≤ cnt w s := by
  obtain ⟨way, h1, h2⟩ := way_ex w 0 s
  rw [← h2]
  exact way_ge (way_mono hw h1)
theorem cut_anti {w w' : Nat} (hw : w ≤ w') (l : List Nat) : (cutN l w').length ≤ (cutN l w).length := by
  rw [cut_len, cut_len]
  have := cnt_anti hw (sizesN l)
  omega
theorem cut_wide {w : Nat} {l : List Nat} (h : l.length ≤ w) : (cutN l w).length = 1 := by
  rw [cut_len]
  cases e : sizesN l with
  | nil => rfl
  | cons c s =>
    have hs := sizes_sum l
    rw [e, List.sum_cons] at hs
    show max 1 (1 + gc w c s) = 1
    have h2 := gc_fit w s [] c (by omega)
    rw [List.append_nil] at h2
    rw [h2]
    rfl
theorem cut_pos (l : List Nat) (w : Nat) : 0 < (cutN l w).length := by
  rw [cut_len]
  omega
theorem way_nil {w pos : Nat} {s : List Nat} (h : IsWay w pos s []) : s = [] := by cases h; rfl
theorem way_of_nil {w pos : Nat} {way : List (Nat × Nat)} (h : IsWay w pos [] way) : way = [] := by
  cases way with
  | nil => rfl
  | cons x way =>
    exfalso
    generalize e : ([] : List Nat) = s at h
    cases h with
    | cons hg _ _ => exact hg (List.append_eq_nil_iff.mp e.symm).1
theorem way_head {w pos : Nat} {s : List Nat} {x : Nat × Nat} {way : List (Nat × Nat)} (h : IsWay w pos s (x :: way)) : x.1 = pos ∧ ∃ g r, g ≠ [] ∧ (g.sum ≤ w ∨ g.length = 1) ∧ s = g ++ r ∧ x.2 = pos + g.sum ∧ IsWay w (pos + g.sum) r way := by
  cases h with
  | @cons _ g r _ hg hv hr => exact ⟨rfl, g, r, hg, hv, rfl, rfl, hr⟩
theorem way_le {w pos : Nat} {s : List Nat} {way : List (Nat × Nat)} (h : IsWay w pos s way) : ∀ x ∈ way, x.1 ≤ x.2 ∧ x.2 ≤ pos + s.sum ∧ pos ≤ x.1 := by
  induction h with
  | nil => exact fun x hx => nomatch hx
  | @cons pos g r way hg hv hr ih =>
    intro x hx
    rw [List.sum_append]
    rcases List.mem_cons.mp hx with e | e
    · rw [e]
      exact ⟨Nat.le_add_right _ _, by show pos + g.sum ≤ _; omega, Nat.le_refl _⟩
    · have := ih x e
      omega
/-- the beginnings of a way tell it all -/
theorem way_starts {w w' : Nat} : ∀ (a b : List (Nat × Nat)) (pos : Nat) (s : List Nat), IsWay w pos s a → IsWay w' pos s b → a.map (·.1) = b.map (·.1) → a = b
  | [], [], _, _, _, _, _ => rfl
  | [], _ :: _, _, _, _, _, e => by cases e
  | _ :: _, [], _, _, _, _, e => by cases e
  | x :: a, y :: b, pos, s, ha, hb, e => by
    obtain ⟨hx, g, r, hg, _, es, ex, hr⟩ := way_head ha
    obtain ⟨hy, g', r', hg', _, es', ey, hr'⟩ := way_head hb
    have et : a.map (·.1) = b.map (·.1) := (List.cons.inj e).2
    have e2 : x.2 = y.2 := by
      cases a with
      | nil =>
        cases b with
        | cons z b => cases et
        | nil =>
          have h1 := way_nil hr
          have h2 := way_nil hr'
          rw [ex, ey]
          rw [h1, List.append_nil] at es
          rw [h2, List.append_nil] at es'
          rw [← es, ← es']
      | cons z a =>
        cases b with
        | nil => cases et
        | cons z' b =>
          have h1 := (way_head hr).1
          have h2 := (way_head hr').1
          have h3 : z.1 = z'.1 := (List.cons.inj et).1
          rw [ex, ey]
          omega
    have exy : x = y := Prod.ext (by rw [hx, hy]) e2
    have eg : pos + g.sum = pos + g'.sum := by rw [← ex, ← ey, e2]
    rw [exy]
    congr 1
    have er : r.sum = r'.sum := by
      have h1 : s.sum = g.sum + r.sum := by rw [es, List.sum_append]
      have h2 : s.sum = g'.sum + r'.sum := by rw [es', List.sum_append]
      omega
    rw [← eg] at hr'
    exact way_starts2 a b (pos + g.sum) r r' hr hr' er et
where
  way_starts2 {w w' : Nat} : ∀ (a b : List (Nat × Nat)) (pos : Nat) (s s' : List Nat), IsWay w pos s a → IsWay w' pos s' b → s.sum = s'.sum → a.map (·.1) = b.map (·.1) → a = b
    | [], [], _, _, _, _, _, _, _ => rfl
    | [], _ :: _, _, _, _, _, _, _, e => by cases e
    | _ :: _, [], _, _, _, _, _, _, e => by cases e
    | x :: a, y :: b, pos, s, s', ha, hb, hs, e => by
      obtain ⟨hx, g, r, hg, _, es, ex, hr⟩ := way_head ha
      obtain ⟨hy, g', r', hg', _, es', ey, hr'⟩ := way_head hb
      have et : a.map (·.1) = b.map (·.1) := (List.cons.inj e).2
      have h1 : s.sum = g.sum + r.sum := by rw [es, List.sum_append]
      have h2 : s'.sum = g'.sum + r'.sum := by rw [es', List.sum_append]
      have e2 : x.2 = y.2 := by
        cases a with
        | nil =>
          cases b with
          | cons z b => cases et
          | nil =>
            have k1 := way_nil hr
            have k2 := way_nil hr'
            rw [k1] at h1
            rw [k2] at h2
            simp at h1 h2
            rw [ex, ey]
            omega
        | cons z a =>
          cases b with
          | nil => cases et
          | cons z' b =>
            have k1 := (way_head hr).1
            have k2 := (way_head hr').1
            have k3 : z.1 = z'.1 := (List.cons.inj et).1
            rw [ex, ey]
            omega
      have exy : x = y := Prod.ext (by rw [hx, hy]) e2
      have eg : pos + g.sum = pos + g'.sum := by rw [← ex, ← ey, e2]
      rw [exy]
      congr 1
      rw [← eg] at hr'
      exact way_starts2 a b (pos + g.sum) r r' hr hr' (by omega) et

/-! ### the roughness -/
def rough (w : Nat) (way : List (Nat × Nat)) : Nat := (way.dropLast.map fun p => (w - (p.2 - p.1)) ^ 2).sum
theorem rough_cons (w : Nat) (x : Nat × Nat) (way : List (Nat × Nat)) : rough w (x :: way) = (if way = [] then 0 else (w - (x.2 - x.1)) ^ 2) + rough w way := by
  cases way with
  | nil => rfl
  | cons y way =>
    rw [if_neg (by simp)]
    unfold rough
    rw [List.dropLast_cons₂, List.map_cons, List.sum_cons]

/-! ### the law's own enumeration of ways -/
def stB (b : List Nat) (k : Nat) : Nat := if k = 0 then 0 else b.getD (k - 1) 0
def lawWays (b : List Nat) (w : Nat) : Nat → Nat → List (List (Nat × Nat))
  | 0, k => if k = b.length then [[]] else []
  | n + 1, k => if k = b.length then [[]] else (List.range (b.length - k)).flatMap fun j => if b.getD (k + j) 0 - stB b k ≤ w ∨ j = 0 then (lawWays b w n (k + j + 1)).map ((stB b k, b.getD (k + j) 0) :: ·) else []
theorem st_bord {s : List Nat} {k : Nat} (h : k ≤ s.length) : stB (bord 0 s) k = (s.take k).sum := by
  unfold stB
  by_cases e : k = 0
  · rw [if_pos e, e]
    rfl
  · rw [if_neg e, List.getD_eq_getElem?_getD, bord_get s 0 (k - 1) (by omega)]
    show 0 + (s.take (k - 1 + 1)).sum = _
    rw [Nat.zero_add, show k - 1 + 1 = k by omega]
theorem mem_ways {s : List Nat} {w : Nat} : ∀ (n k : Nat) (way : List (Nat × Nat)), k ≤ s.length → s.length - k ≤ n → (way ∈ lawWays (bord 0 s) w n k ↔ IsWay w (s.take k).sum (s.drop k) way)
  | 0, k, way, hk, hn => by
    have e : k = s.length := by omega
    unfold lawWays
    rw [if_pos (by rw [bord_length]; exact e), e, List.drop_length, List.mem_singleton]
    constructor
    · intro h
      rw [h]
      exact .nil _
    · exact way_of_nil
  | n + 1, k, way, hk, hn => by
    unfold lawWays
    rw [bord_length]
    by_cases e : k = s.length
    · rw [if_pos e, e, List.drop_length, List.mem_singleton]
      constructor
      · intro h
        rw [h]
        exact .nil _
      · exact way_of_nil
    · rw [if_neg e, List.mem_flatMap]
      have sum_split : ∀ j, k + j < s.length → (s.take (k + j + 1)).sum = (s.take k).sum + ((s.drop k).take (j + 1)).sum := fun j hj => by
        rw [show k + j + 1 = k + (j + 1) by omega, List.take_add, List.sum_append]
      have getb : ∀ j, k + j < s.length → (bord 0 s).getD (k + j) 0 = (s.take k).sum + ((s.drop k).take (j + 1)).sum := fun j hj => by
        rw [List.getD_eq_getElem?_getD, bord_get s 0 (k + j) hj]
        show 0 + (s.take (k + j + 1)).sum = _
        rw [Nat.zero_add, sum_split j hj]
      constructor
      · rintro ⟨j, hj, hm⟩
        rw [List.mem_range] at hj
        have hj' : k + j < s.length := by omega
        rw [getb j hj', st_bord hk] at hm
        by_cases c : (s.take k).sum + ((s.drop k).take (j + 1)).sum - (s.take k).sum ≤ w ∨ j = 0
        · rw [if_pos c] at hm
          obtain ⟨way', h1, rfl⟩ := List.mem_map.mp hm
          have ih := (mem_ways n (k + j + 1) way' (by omega) (by omega)).mp h1
          rw [sum_split j hj'] at ih
          have es : s.drop k = (s.drop k).take (j + 1) ++ s.drop (k + j + 1) := by
            conv => lhs; rw [← List.take_append_drop (j + 1) (s.drop k)]
            rw [List.drop_drop]
            rfl
          have hl : ((s.drop k).take (j + 1)).length = j + 1 := by
            rw [List.length_take, List.length_drop]
            omega
          rw [es]
          have es2 : ((s.drop k).take (j + 1) ++ s.drop (k + j + 1)).take (j + 1) = (s.drop k).take (j + 1) := by
            rw [← es]
          rw [es2]
          refine .cons (fun z => ?_) ?_ ih
          · rw [z] at hl
            cases hl
          · rcases c with c | c
            · exact .inl (by omega)
            · exact .inr (by rw [hl, c])
        · rw [if_neg c] at hm
          cases hm
      · intro h
        cases way with
        | nil =>
          have := way_nil h
          have hl : (s.drop k).length = 0 := by rw [this]; rfl
          rw [List.length_drop] at hl
          omega
        | cons x way =>
          obtain ⟨hx, g, r, hg, hv, es, ex, hr⟩ := way_head h
          have gp : 0 < g.length := List.length_pos_iff.mpr hg
          have hl : (s.drop k).length = g.length + r.length := by rw [es, List.length_append]
          rw [List.length_drop] at hl
          have hj : k + (g.length - 1) < s.length := by omega
          have eg : (s.drop k).take (g.length - 1 + 1) = g := by
            rw [es, show g.length - 1 + 1 = g.length by omega, List.take_left']
            rfl
          have er : s.drop (k + (g.length - 1) + 1) = r := by
            rw [show k + (g.length - 1) + 1 = k + g.length by omega, ← List.drop_drop, es, List.drop_left']
            rfl
          refine ⟨g.length - 1, List.mem_range.mpr (by omega), ?_⟩
          rw [getb _ hj, st_bord hk, eg, if_pos (hv.imp (fun z => by omega) (fun z => by omega))]
          refine List.mem_map.mpr ⟨way, (mem_ways n (k + (g.length - 1) + 1) way (by omega) (by omega)).mpr ?_, ?_⟩
          · rw [sum_split _ hj, eg, er]
            exact hr
          · congr 1
            exact Prod.ext hx.symm ex.symm
theorem ways_iff {s : List Nat} {w : Nat} {way : List (Nat × Nat)} : way ∈ lawWays (bord 0 s) w s.length 0 ↔ IsWay w 0 s way := by
  have := mem_ways (s := s) (w := w) s.length 0 way (Nat.zero_le _) (by omega)
  exact this
end MM
/-! M2: the plain mathematics: least roughness, heights and widths. -/
namespace MM

/-! ### the least of pairs -/
def lexLt (a b : Nat × Nat) : Bool := decide (a.1 < b.1) || (decide (a.1 = b.1) && decide (a.2 < b.2))
def minP : List (Nat × Nat) → Nat × Nat
  | [] => (0, 0)
  | x :: r => r.foldl (fun m y => if lexLt y m = true then y else m) x
theorem lexLt_irrefl (a : Nat × Nat) : lexLt a a = false := by simp [lexLt]
theorem lexLt_iff (a b : Nat × Nat) : lexLt a b = true ↔ a.1 < b.1 ∨ (a.1 = b.1 ∧ a.2 < b.2) := by simp [lexLt]
theorem lexLt_not (a b : Nat × Nat) : lexLt a b = false ↔ b.1 < a.1 ∨ (a.1 = b.1 ∧ b.2 ≤ a.2) := by
  rw [← Bool.not_eq_true, lexLt_iff]
  omega
theorem minF_spec : ∀ (r : List (Nat × Nat)) (x : Nat × Nat), (r.foldl (fun m y => if lexLt y m = true then y else m) x ∈ x :: r) ∧ ∀ y ∈ x :: r, lexLt y (r.foldl (fun m y => if lexLt y m = true then y else m) x) = false
  | [], x => ⟨List.mem_cons_self, fun y hy => by rw [List.mem_singleton.mp hy]; exact lexLt_irrefl x⟩
  | z :: r, x => by
    rw [List.foldl_cons]
    by_cases e : lexLt z x = true
    · rw [if_pos e]
      obtain ⟨h1, h2⟩ := minF_spec r z
      refine ⟨List.mem_cons_of_mem _ h1, fun y hy => ?_⟩
      rcases List.mem_cons.mp hy with rfl | hy
      · have := h2 z List.mem_cons_self
        rw [lexLt_not] at this ⊢
        rw [lexLt_iff] at e
        omega
      · exact h2 y hy
    · rw [if_neg e]
      obtain ⟨h1, h2⟩ := minF_spec r x
      refine ⟨?_, fun y hy => ?_⟩
      · rcases List.mem_cons.mp h1 with h1 | h1
        · rw [h1]
          exact List.mem_cons_self
        · exact List.mem_cons_of_mem _ (List.mem_cons_of_mem _ h1)
      · rcases List.mem_cons.mp hy with rfl | hy
        · exact h2 _ List.mem_cons_self
        · rcases List.mem_cons.mp hy with rfl | hy
          · have := h2 x List.mem_cons_self
            rw [Bool.not_eq_true, lexLt_not] at e
            rw [lexLt_not] at this ⊢
            omega
          · exact h2 y (List.mem_cons_of_mem _ hy)
theorem minP_mem {L : List (Nat × Nat)} (h : L ≠ []) : minP L ∈ L := by
  cases L with
  | nil => exact absurd rfl h
  | cons x r => exact (minF_spec r x).1
theorem minP_low {L : List (Nat × Nat)} {y : Nat × Nat} (h : y ∈ L) : lexLt y (minP L) = false := by
  cases L with
  | nil => cases h
  | cons x r => exact (minF_spec r x).2 y h
theorem minP_fst {L : List (Nat × Nat)} {y : Nat × Nat} (h : y ∈ L) : (minP L).1 ≤ y.1 := by
  have := (lexLt_not _ _).mp (minP_low h)
  omega
theorem minP_uniq {L : List (Nat × Nat)} {m : Nat × Nat} (hm : m ∈ L) (h : ∀ y ∈ L, lexLt y m = false) : m = minP L := by
  have h1 := (lexLt_not _ _).mp (minP_low hm)
  have h2 := (lexLt_not _ _).mp (h _ (minP_mem (List.ne_nil_of_mem hm)))
  exact Prod.ext (by omega) (by omega)

/-! ### the least roughness, from behind -/
def cands (w : Nat) (s : List Nat) (D : List (Nat × Nat)) : List (Nat × Nat) :=
  ((List.range s.length).filter fun j => decide ((s.take (j + 1)).sum ≤ w) || decide (j = 0)).map fun j => ((if j + 1 = s.length then 0 else (w - (s.take (j + 1)).sum) ^ 2) + (D.getD j (0, 0)).1, j + 1)
def dp (w : Nat) : List Nat → List (Nat × Nat)
  | [] => [(0, 0)]
  | c :: r => minP (cands w (c :: r) (dp w r)) :: dp w r
def hd (w : Nat) (s : List Nat) : Nat × Nat := (dp w s).headD (0, 0)
def cost (w : Nat) (s : List Nat) : Nat := (hd w s).1
def jump (w : Nat) (s : List Nat) : Nat := (hd w s).2
theorem dp_length (w : Nat) : ∀ s : List Nat, (dp w s).length = s.length + 1
  | [] => rfl
  | c :: r => by
    show (dp w r).length + 1 = r.length + 1 + 1
    rw [dp_length w r]
theorem dp_get (w : Nat) : ∀ (s : List Nat) (k : Nat), k ≤ s.length → (dp w s).getD k (0, 0) = hd w (s.drop k)
  | s, 0, _ => by
    cases s <;> rfl
  | [], k + 1, h => absurd h (Nat.not_succ_le_zero _)
  | c :: r, k + 1, h => by
    show (dp w r).getD k (0, 0) = hd w (r.drop k)
    exact dp_get w r k (by simpa using h)
theorem hd_cons (w c : Nat) (r : List Nat) : hd w (c :: r) = minP (cands w (c :: r) (dp w r)) := rfl
theorem cands_mem {w : Nat} {s : List Nat} {D : List (Nat × Nat)} {x : Nat × Nat} : x ∈ cands w s D ↔ ∃ j, j < s.length ∧ ((s.take (j + 1)).sum ≤ w ∨ j = 0) ∧ x = ((if j + 1 = s.length then 0 else (w - (s.take (j + 1)).sum) ^ 2) + (D.getD j (0, 0)).1, j + 1) := by
  unfold cands
  rw [List.mem_map]
  constructor
  · rintro ⟨j, h, rfl⟩
    rw [List.mem_filter, List.mem_range] at h
    refine ⟨j, h.1, ?_, rfl⟩
    have := h.2
    rw [Bool.or_eq_true, decide_eq_true_eq, decide_eq_true_eq] at this
    exact this
  · rintro ⟨j, h1, h2, rfl⟩
    refine ⟨j, ?_, rfl⟩
    rw [List.mem_filter, List.mem_range]
    refine ⟨h1, ?_⟩
    rw [Bool.or_eq_true, decide_eq_true_eq, decide_eq_true_eq]
    exact h2
theorem cands_ne (w c : Nat) (r : List Nat) (D : List (Nat × Nat)) : cands w (c :: r) D ≠ [] := by
  refine List.ne_nil_of_mem (a := _) (cands_mem.mpr ⟨0, by simp, .inr rfl, rfl⟩)
theorem jump_spec {w : Nat} {s : List Nat} (h : s ≠ []) : 1 ≤ jump w s ∧ jump w s ≤ s.length ∧ ((s.take (jump w s)).sum ≤ w ∨ jump w s = 1) ∧ cost w s = (if jump w s = s.length then 0 else (w - (s.take (jump w s)).sum) ^ 2) + cost w (s.drop (jump w s)) := by
  cases s with
  | nil => exact absurd rfl h
  | cons c r =>
    obtain ⟨j, h1, h2, h3⟩ := cands_mem.mp (minP_mem (cands_ne w c r (dp w r)))
    rw [← hd_cons] at h3
    have ej : jump w (c :: r) = j + 1 := by unfold jump; rw [h3]
    have ec : cost w (c :: r) = (if j + 1 = (c :: r).length then 0 else (w - ((c :: r).take (j + 1)).sum) ^ 2) + ((dp w r).getD j (0, 0)).1 := by unfold cost; rw [h3]
    rw [ej]
    refine ⟨by omega, h1, h2.imp id (fun z => by omega), ?_⟩
    rw [ec, dp_get w r j (by simpa using Nat.le_of_lt_succ h1)]
    rfl
theorem cost_le {w : Nat} {s : List Nat} {way : List (Nat × Nat)} {pos : Nat} (h : IsWay w pos s way) : cost w s ≤ rough w way := by
  induction h with
  | nil => exact Nat.le_refl _
  | @cons pos g r way hg hv hr ih =>
    cases g with
    | nil => exact absurd rfl hg
    | cons c g =>
      have hl : ((c :: g) ++ r).length = g.length + 1 + r.length := by rw [List.length_append]; rfl
      have et : (((c :: g) ++ r).take (g.length + 1)) = c :: g := List.take_left' rfl
      have hm := cands_mem (w := w) (s := (c :: g) ++ r) (D := dp w (g ++ r)).mpr ⟨g.length, by omega, by rw [et]; exact hv.imp id (fun z => by simpa using z), rfl⟩
      have := minP_fst hm
      show (hd w (c :: (g ++ r))).1 ≤ _
      rw [hd_cons]
      refine Nat.le_trans this ?_
      rw [et, dp_get w (g ++ r) g.length (by rw [List.length_append]; omega), List.drop_left' rfl, rough_cons]
      have e2 : (way = []) ↔ (g.length + 1 = ((c :: g) ++ r).length) := by
        rw [hl]
        constructor
        · intro e
          rw [e] at hr
          rw [way_nil hr]
          rfl
        · intro e
          have : r = [] := List.length_eq_zero_iff.mp (by omega)
          rw [this] at hr
          exact way_of_nil hr
      have e3 : pos + (c :: g).sum - pos = (c :: g).sum := by omega
      by_cases e : way = []
      · rw [if_pos e, if_pos (e2.mp e)]
        exact Nat.add_le_add_left ih _
      · rw [if_neg e, if_neg (fun z => e (e2.mpr z))]
        show _ ≤ (w - (pos + (c :: g).sum - pos)) ^ 2 + _
        rw [e3]
        exact Nat.add_le_add_left ih _
def chainW (w : Nat) : Nat → Nat → List Nat → List (Nat × Nat)
  | 0, _, _ => []
  | n + 1, pos, s => if s = [] then [] else (pos, pos + (s.take (jump w s)).sum) :: chainW w n (pos + (s.take (jump w s)).sum) (s.drop (jump w s))
theorem chain_way (w : Nat) : ∀ (n pos : Nat) (s : List Nat), s.length ≤ n → IsWay w pos s (chainW w n pos s) ∧ rough w (chainW w n pos s) = cost w s
  | 0, pos, s, h => by
    have : s = [] := List.length_eq_zero_iff.mp (by omega)
    rw [this]
    exact ⟨.nil _, rfl⟩
  | n + 1, pos, s, h => by
    unfold chainW
    by_cases e : s = []
    · rw [if_pos e, e]
      exact ⟨.nil _, rfl⟩
    · rw [if_neg e]
      obtain ⟨j1, j2, j3, j4⟩ := jump_spec (w := w) e
      have hl : (s.take (jump w s)).length = jump w s := by rw [List.length_take]; omega
      obtain ⟨i1, i2⟩ := chain_way w n (pos + (s.take (jump w s)).sum) (s.drop (jump w s)) (by rw [List.length_drop]; omega)
      have h1 := IsWay.cons (w := w) (pos := pos) (g := s.take (jump w s)) (r := s.drop (jump w s)) (fun z => by rw [z] at hl; simp at hl; omega) (j3.imp id (fun z => by rw [hl, z])) i1
      rw [List.take_append_drop] at h1
      refine ⟨h1, ?_⟩
      rw [rough_cons, i2, j4]
      have e3 : pos + (s.take (jump w s)).sum - pos = (s.take (jump w s)).sum := by omega
      have e2 : (chainW w n (pos + (s.take (jump w s)).sum) (s.drop (jump w s)) = []) ↔ jump w s = s.length := by
        constructor
        · intro z
          rw [z] at i1
          have := way_nil i1
          have hl2 : (s.drop (jump w s)).length = 0 := by rw [this]; rfl
          rw [List.length_drop] at hl2
          omega
        · intro z
          rw [z, List.drop_length] at i1
          rw [z]
          rw [List.drop_length]
          exact way_of_nil i1
      show (if chainW w n (pos + (s.take (jump w s)).sum) (s.drop (jump w s)) = [] then 0 else (w - (pos + (s.take (jump w s)).sum - pos)) ^ 2) + _ = _
      rw [e3]
      by_cases z : jump w s = s.length
      · rw [if_pos z, if_pos (e2.mpr z)]
      · rw [if_neg z, if_neg (fun q => z (e2.mp q))]
/-- where the further stretches begin, from the place at on -/
def startsF (w : Nat) (s : List Nat) : Nat → Nat → List Nat
  | 0, _ => []
  | n + 1, k => if k < s.length then (s.take k).sum :: startsF w s n (k + jump w (s.drop k)) else []
theorem starts_chain (w : Nat) (s : List Nat) : ∀ (n k : Nat), k ≤ s.length → (chainW w n (s.take k).sum (s.drop k)).map (·.1) = startsF w s n k
  | 0, k, _ => rfl
  | n + 1, k, hk => by
    unfold chainW startsF
    by_cases e : k < s.length
    · have hne : s.drop k ≠ [] := fun z => by
        have hl : (s.drop k).length = 0 := by rw [z]; rfl
        rw [List.length_drop] at hl
        omega
      obtain ⟨j1, j2, _, _⟩ := jump_spec (w := w) hne
      rw [List.length_drop] at j2
      rw [if_neg hne, if_pos e, List.map_cons]
      congr 1
      have es : (s.take k).sum + ((s.drop k).take (jump w (s.drop k))).sum = (s.take (k + jump w (s.drop k))).sum := by
        rw [List.take_add, List.sum_append]
      rw [es, List.drop_drop]
      exact starts_chain w s n (k + jump w (s.drop k)) (by omega)
    · have : k = s.length := by omega
      rw [if_neg e, this, List.drop_length, if_pos rfl]
      rfl
def smoothN (l : List Nat) (w : Nat) : Nat × List Nat := (cost w (sizesN l), 0 :: startsF w (sizesN l) (sizesN l).length (jump w (sizesN l)))
theorem jump_nil (w : Nat) : jump w [] = 0 := rfl
theorem startsF_fuel (w : Nat) (s : List Nat) : ∀ (n m k : Nat), k ≤ s.length → s.length - k ≤ n → s.length - k ≤ m → startsF w s n k = startsF w s m k
  | 0, m, k, hk, hn, _ => by
    have : k = s.length := by omega
    cases m with
    | zero => rfl
    | succ m =>
      unfold startsF
      rw [if_neg (by omega)]
  | n + 1, 0, k, hk, _, hm => by
    unfold startsF
    rw [if_neg (by omega)]
  | n + 1, m + 1, k, hk, hn, hm => by
    unfold startsF
    by_cases e : k < s.length
    · rw [if_pos e, if_pos e]
      have hne : s.drop k ≠ [] := fun z => by
        have hl : (s.drop k).length = 0 := by rw [z]; rfl
        rw [List.length_drop] at hl
        omega
      obtain ⟨j1, j2, _, _⟩ := jump_spec (w := w) hne
      rw [List.length_drop] at j2
      congr 1
      exact startsF_fuel w s n m _ (by omega) (by omega) (by omega)
    · rw [if_neg e, if_neg e]
/-- the way that smooth tells -/
def sway (l : List Nat) (w : Nat) : List (Nat × Nat) := chainW w (sizesN l).length 0 (sizesN l)
theorem sway_way (l : List Nat) (w : Nat) : IsWay w 0 (sizesN l) (sway l w) := (chain_way w _ 0 _ (Nat.le_refl _)).1
theorem sway_rough (l : List Nat) (w : Nat) : rough w (sway l w) = (smoothN l w).1 := (chain_way w _ 0 _ (Nat.le_refl _)).2
theorem sway_starts {l : List Nat} (h : l ≠ []) (w : Nat) : (sway l w).map (·.1) = (smoothN l w).2 := by
  have hs : sizesN l ≠ [] := fun z => h ((sizes_nil_iff l).mp z)
  have hp : 0 < (sizesN l).length := List.length_pos_iff.mpr hs
  have := starts_chain w (sizesN l) (sizesN l).length 0 (Nat.zero_le _)
  unfold sway smoothN
  have e : (chainW w (sizesN l).length 0 (sizesN l)).map (·.1) = startsF w (sizesN l) (sizesN l).length 0 := this
  rw [e]
  obtain ⟨n, hn⟩ : ∃ n, (sizesN l).length = n + 1 := ⟨(sizesN l).length - 1, by omega⟩
  obtain ⟨j1, j2, _, _⟩ := jump_spec (w := w) hs
  rw [hn]
  show (if 0 < (sizesN l).length then ((sizesN l).take 0).sum :: startsF w (sizesN l) n (0 + jump w ((sizesN l).drop 0)) else []) = _
  rw [if_pos hp]
  show 0 :: startsF w (sizesN l) n (0 + jump w (sizesN l)) = 0 :: startsF w (sizesN l) (n + 1) (jump w (sizesN l))
  rw [Nat.zero_add, startsF_fuel w (sizesN l) n (n + 1) (jump w (sizesN l)) j2 (by omega) (by omega)]
theorem smooth_low {l : List Nat} {w pos : Nat} {way : List (Nat × Nat)} (h : IsWay w pos (sizesN l) way) : (smoothN l w).1 ≤ rough w way := cost_le h

/-! ### the law's own pieces -/
def cutL (l : List Nat) (b e : Nat) : List Nat := (l.drop b).take (e - b)
structure Lp where
  i : List (List Nat)
  p : List Nat
  b : Nat
  q : Nat
def lpStep (l : List Nat) (w : Nat) (t : Lp) (e : Nat) : Lp := if t.b < t.q ∧ w < e - t.b then ⟨t.i ++ [t.p], cutL l t.q e, t.q, e⟩ else ⟨t.i, cutL l t.b e, t.b, e⟩
def lawPieces (l : List Nat) (w : Nat) : List (List Nat) := let t := (bordersN l).foldl (lpStep l w) ⟨[], [], 0, 0⟩; t.i ++ [t.p]
theorem lp_fold (l : List Nat) (w : Nat) : ∀ (cs : List (List Nat)) (t : Lp), (∀ c ∈ cs, c ≠ []) → l.drop t.q = cs.flatten → t.p = cutL l t.b t.q → t.b ≤ t.q → t.q ≤ l.length →
    (((bord t.q (cs.map List.length)).foldl (lpStep l w) t).i, ((bord t.q (cs.map List.length)).foldl (lpStep l w) t).p) = cs.foldl (cutStep w) (t.i, t.p)
  | [], t, _, _, _, _, _ => rfl
  | c :: cs, t, hc, hd, hp, hb, hq => by
    have hc' : ∀ x ∈ cs, x ≠ [] := fun x hx => hc x (List.mem_cons_of_mem _ hx)
    have hl : (l.drop t.q).length = c.length + cs.flatten.length := by rw [hd, List.flatten_cons, List.length_append]
    rw [List.length_drop] at hl
    have hpl : t.p.length = t.q - t.b := by
      rw [hp]
      unfold cutL
      rw [List.length_take, List.length_drop]
      omega
    have hd' : l.drop (t.q + c.length) = cs.flatten := by
      rw [← List.drop_drop, hd, List.flatten_cons, List.drop_left' rfl]
    have cq : cutL l t.q (t.q + c.length) = c := by
      unfold cutL
      rw [hd, List.flatten_cons, List.take_left' (by omega)]
    have cb : cutL l t.b (t.q + c.length) = t.p ++ c := by
      unfold cutL
      rw [show t.q + c.length - t.b = (t.q - t.b) + c.length by omega, List.take_add, hp]
      unfold cutL
      rw [List.drop_drop, show t.b + (t.q - t.b) = t.q by omega, hd, List.flatten_cons, List.take_left' rfl]
    rw [List.foldl_cons, List.map_cons]
    show (((bord (t.q + c.length) (cs.map List.length)).foldl (lpStep l w) (lpStep l w t (t.q + c.length))).i, ((bord (t.q + c.length) (cs.map List.length)).foldl (lpStep l w) (lpStep l w t (t.q + c.length))).p) = _
    have hcl : 0 < c.length := List.length_pos_iff.mpr (hc c List.mem_cons_self)
    by_cases e : t.b < t.q ∧ w < t.q + c.length - t.b
    · have e1 : lpStep l w t (t.q + c.length) = ⟨t.i ++ [t.p], c, t.q, t.q + c.length⟩ := by unfold lpStep; rw [if_pos e, cq]
      have e2 : cutStep w (t.i, t.p) c = (t.i ++ [t.p], c) := by
        unfold cutStep
        rw [if_neg]
        rintro (z | z)
        · have hz : t.p.length = 0 := by rw [show t.p = [] from z]; rfl
          omega
        · have z' : t.p.length + c.length ≤ w := z
          omega
      rw [e1, e2]
      exact lp_fold l w cs ⟨t.i ++ [t.p], c, t.q, t.q + c.length⟩ hc' hd' cq.symm (by show t.q ≤ t.q + c.length; omega) (by show t.q + c.length ≤ l.length; omega)
    · have e1 : lpStep l w t (t.q + c.length) = ⟨t.i, t.p ++ c, t.b, t.q + c.length⟩ := by unfold lpStep; rw [if_neg e, cb]
      have e2 : cutStep w (t.i, t.p) c = (t.i, t.p ++ c) := by
        unfold cutStep
        rw [if_pos]
        by_cases z : t.p = []
        · exact .inl z
        · have hz : 0 < t.p.length := List.length_pos_iff.mpr z
          refine .inr ?_
          show t.p.length + c.length ≤ w
          omega
      rw [e1, e2]
      exact lp_fold l w cs ⟨t.i, t.p ++ c, t.b, t.q + c.length⟩ hc' hd' cb.symm (by show t.b ≤ t.q + c.length; omega) (by show t.q + c.length ≤ l.length; omega)
theorem lawPieces_eq (l : List Nat) (w : Nat) : lawPieces l w = cutN l w := by
  have h := lp_fold l w (chunksN l) ⟨[], [], 0, 0⟩ (by rw [chunks_eq]; exact chG_ne l []) (by rw [chunks_flat]; rfl) rfl (Nat.le_refl _) (Nat.zero_le _)
  unfold lawPieces cutN
  rw [borders_eq]
  unfold sizesN
  show ((bord 0 ((chunksN l).map List.length)).foldl (lpStep l w) ⟨[], [], 0, 0⟩).i ++ [((bord 0 ((chunksN l).map List.length)).foldl (lpStep l w) ⟨[], [], 0, 0⟩).p] = _
  have h1 := congrArg Prod.fst h
  have h2 := congrArg Prod.snd h
  dsimp only at h1 h2
  rw [h1, h2]

/-! ### heights and widths -/
def hN (ls : List (List Nat)) (w : Nat) : Nat := (ls.map fun l => (cutN l w).length).sum
def widest (ls : List (List Nat)) : Nat := ls.foldl (fun m l => max m l.length) 1
theorem widest_fold : ∀ (ls : List (List Nat)) (m : Nat), m ≤ ls.foldl (fun m l => max m l.length) m ∧ ∀ l ∈ ls, l.length ≤ ls.foldl (fun m l => max m l.length) m
  | [], m => ⟨Nat.le_refl _, fun _ h => nomatch h⟩
  | x :: ls, m => by
    obtain ⟨h1, h2⟩ := widest_fold ls (max m x.length)
    rw [List.foldl_cons]
    refine ⟨by omega, fun l hl => ?_⟩
    rcases List.mem_cons.mp hl with e | e
    · rw [e]
      omega
    · exact h2 l e
theorem widest_in : ∀ (ls : List (List Nat)) (m : Nat), ls.foldl (fun m l => max m l.length) m = m ∨ ∃ l ∈ ls, ls.foldl (fun m l => max m l.length) m = l.length
  | [], m => .inl rfl
  | x :: ls, m => by
    rw [List.foldl_cons]
    rcases widest_in ls (max m x.length) with h | ⟨l, h1, h2⟩
    · rw [h]
      by_cases e : m ≤ x.length
      · exact .inr ⟨x, List.mem_cons_self, by omega⟩
      · exact .inl (by omega)
    · exact .inr ⟨l, List.mem_cons_of_mem _ h1, h2⟩
theorem widest_pos (ls : List (List Nat)) : 1 ≤ widest ls := (widest_fold ls 1).1
theorem widest_ge {ls : List (List Nat)} {l : List Nat} (h : l ∈ ls) : l.length ≤ widest ls := (widest_fold ls 1).2 l h
theorem hN_anti {w w' : Nat} (hw : w ≤ w') : ∀ ls : List (List Nat), hN ls w' ≤ hN ls w
  | [] => Nat.le_refl _
  | l :: ls => by
    have h1 := hN_anti hw ls
    have h2 := cut_anti hw l
    unfold hN at h1 ⊢
    rw [List.map_cons, List.map_cons, List.sum_cons, List.sum_cons]
    omega
theorem hN_wide {w : Nat} : ∀ {ls : List (List Nat)}, (∀ l ∈ ls, l.length ≤ w) → hN ls w = ls.length
  | [], _ => rfl
  | l :: ls, h => by
    have h1 := hN_wide (w := w) (ls := ls) fun x hx => h x (List.mem_cons_of_mem _ hx)
    have h2 := cut_wide (h l List.mem_cons_self)
    unfold hN at h1 ⊢
    rw [List.map_cons, List.sum_cons, h1, h2, List.length_cons]
    omega
theorem hN_widest (ls : List (List Nat)) : hN ls (widest ls) = ls.length := hN_wide fun _ h => widest_ge h
theorem hN_beyond (ls : List (List Nat)) : hN ls (widest ls + 1) = ls.length := hN_wide fun _ h => Nat.le_succ_of_le (widest_ge h)
def fitting (ls : List (List Nat)) (n : Nat) (H : Int) : List Nat := ((List.range n).filter fun i => decide ((hN ls (i + 1) : Int) ≤ H)).map (· + 1)
def falls (ls : List (List Nat)) (n : Nat) : List Nat := ((List.range n).filter fun i => decide (hN ls (i + 2) < hN ls (i + 1))).map (· + 2)
theorem falls_eq (ls : List (List Nat)) : falls ls (widest ls) = falls ls (widest ls - 1) := by
  have h := widest_pos ls
  unfold falls
  obtain ⟨n, hn⟩ : ∃ n, widest ls = n + 1 := ⟨widest ls - 1, by omega⟩
  have h1 := hN_widest ls
  have h2 := hN_beyond ls
  rw [hn] at h1 h2 ⊢
  rw [List.range_succ, List.filter_append, List.map_append]
  show _ ++ List.map (· + 2) (List.filter _ [n]) = _
  rw [List.filter_cons, if_neg (by rw [h1, h2]; simp)]
  exact List.append_nil _
theorem fitting_head (ls : List (List Nat)) (H : Int) : (fitting ls (widest ls + 1) H).head? = (fitting ls (widest ls) H).head? := by
  unfold fitting
  rw [List.range_succ, List.filter_append, List.map_append]
  cases e : (List.map (fun x => x + 1) (List.filter (fun i => decide ((hN ls (i + 1) : Int) ≤ H)) (List.range (widest ls)))) with
  | cons x r => rfl
  | nil =>
    have h := widest_pos ls
    have e1 : List.filter (fun i => decide ((hN ls (i + 1) : Int) ≤ H)) (List.range (widest ls)) = [] := List.map_eq_nil_iff.mp e
    have e2 := List.filter_eq_nil_iff.mp e1 (widest ls - 1) (List.mem_range.mpr (by omega))
    rw [show widest ls - 1 + 1 = widest ls by omega, hN_widest] at e2
    have e3 : List.filter (fun i => decide ((hN ls (i + 1) : Int) ≤ H)) [widest ls] = [] := by
      rw [List.filter_cons, if_neg (by rw [hN_beyond]; exact e2)]
      rfl
    rw [e3]
    rfl
end MM
/-! M3: the way that smooth tells, as the law looks at it. No program in sight. -/
namespace MM
theorem bord_app : ∀ (g r : List Nat) (p : Nat), bord p (g ++ r) = bord p g ++ bord (p + g.sum) r
  | [], r, p => by simp [bord]
  | c :: g, r, p => by
    show (p + c) :: bord (p + c) (g ++ r) = (p + c) :: (bord (p + c) g ++ bord (p + (c :: g).sum) r)
    rw [bord_app g r (p + c), List.sum_cons, Nat.add_assoc]
theorem bord_end : ∀ (g : List Nat) (p : Nat), g ≠ [] → p + g.sum ∈ bord p g
  | [], _, h => absurd rfl h
  | [c], p, _ => by simp [bord]
  | c :: d :: g, p, _ => by
    have := bord_end (d :: g) (p + c) (by simp)
    rw [List.sum_cons, ← Nat.add_assoc]
    exact List.mem_cons_of_mem _ this
theorem bord_hi : ∀ (g : List Nat) (p : Nat), ∀ x ∈ bord p g, x ≤ p + g.sum
  | [], _, _, h => nomatch h
  | c :: g, p, x, h => by
    rw [List.sum_cons]
    rcases List.mem_cons.mp h with e | e
    · omega
    · have := bord_hi g (p + c) x e
      omega
theorem bord_lo : ∀ (g : List Nat) (p : Nat), (∀ c ∈ g, 0 < c) → ∀ x ∈ bord p g, p < x
  | [], _, _, _, h => nomatch h
  | c :: g, p, hp, x, h => by
    have h0 := hp c List.mem_cons_self
    rcases List.mem_cons.mp h with e | e
    · omega
    · have := bord_lo g (p + c) (fun d hd => hp d (List.mem_cons_of_mem _ hd)) x e
      omega
theorem sum_pos {g : List Nat} (h : g ≠ []) (hp : ∀ c ∈ g, 0 < c) : 0 < g.sum := by
  cases g with
  | nil => exact absurd rfl h
  | cons c g =>
    have := hp c List.mem_cons_self
    rw [List.sum_cons]
    omega
/-- the borders within a stretch -/
def inside (x : Nat × Nat) (L : List Nat) : List Nat := L.filter fun n => decide (x.1 < n) && decide (n ≤ x.2)
theorem inside_none {x : Nat × Nat} {L : List Nat} (h : ∀ n ∈ L, n ≤ x.1 ∨ x.2 < n) : inside x L = [] := by
  unfold inside
  refine List.filter_eq_nil_iff.mpr fun n hn z => ?_
  simp only [Bool.and_eq_true, decide_eq_true_eq] at z
  have := h n hn
  omega
theorem way_look {w pos : Nat} {s : List Nat} {way : List (Nat × Nat)} (h : IsWay w pos s way) : (∀ c ∈ s, 0 < c) → (way.map (·.1)).Pairwise (· < ·) ∧
    ∀ x ∈ way, x.1 ∈ pos :: bord pos s ∧ (x.2 - x.1 ≤ w ∨ (inside x (pos :: bord pos s)).length ≤ 1) := by
  induction h with
  | nil => exact fun _ => ⟨.nil, fun x hx => nomatch hx⟩
  | @cons pos g r way hg hv hr ih =>
    intro hp
    have hpg : ∀ c ∈ g, 0 < c := fun c hc => hp c (List.mem_append_left _ hc)
    have hpr : ∀ c ∈ r, 0 < c := fun c hc => hp c (List.mem_append_right _ hc)
    obtain ⟨i1, i2⟩ := ih hpr
    have g0 := sum_pos hg hpg
    have hlo := way_le hr
    rw [bord_app]
    refine ⟨?_, fun x hx => ?_⟩
    · rw [List.map_cons, List.pairwise_cons]
      refine ⟨fun y hy => ?_, i1⟩
      obtain ⟨x, hx, rfl⟩ := List.mem_map.mp hy
      have := hlo x hx
      show pos < x.1
      omega
    · rcases List.mem_cons.mp hx with e | e
      · subst e
        refine ⟨List.mem_cons_self, ?_⟩
        rcases hv with c | c
        · left
          show pos + g.sum - pos ≤ w
          omega
        · right
          obtain ⟨c', rfl⟩ : ∃ c', g = [c'] := by
            cases g with
            | nil => cases c
            | cons a g =>
              cases g with
              | nil => exact ⟨a, rfl⟩
              | cons b g => simp at c
          have e1 : ([c'] : List Nat).sum = c' := by simp
          rw [e1]
          show (inside (pos, pos + c') (pos :: (pos + c') :: bord (pos + c') r)).length ≤ 1
          have e2 : inside (pos, pos + c') (bord (pos + c') r) = [] := inside_none fun n hn => .inr (bord_lo r _ hpr n hn)
          have e3 : inside (pos, pos + c') (pos :: (pos + c') :: bord (pos + c') r) = inside (pos, pos + c') [pos, pos + c'] ++ inside (pos, pos + c') (bord (pos + c') r) := by
            unfold inside
            rw [← List.filter_append]
            rfl
          have e4 : inside (pos, pos + c') [pos] = [] := inside_none fun n hn => .inl (by
            rw [List.mem_singleton.mp hn]
            exact Nat.le_refl _)
          have e5 : inside (pos, pos + c') [pos, pos + c'] = inside (pos, pos + c') [pos] ++ inside (pos, pos + c') [pos + c'] := by
            unfold inside
            rw [← List.filter_append]
            rfl
          rw [e3, e2, e5, e4, List.append_nil, List.nil_append]
          exact List.length_filter_le _ _
      · obtain ⟨j1, j2⟩ := i2 x e
        have hx2 := hlo x e
        refine ⟨?_, ?_⟩
        · rcases List.mem_cons.mp j1 with z | z
          · rw [z]
            exact List.mem_cons_of_mem _ (List.mem_append_left _ (bord_end g pos hg))
          · exact List.mem_cons_of_mem _ (List.mem_append_right _ z)
        · refine j2.imp id fun z => ?_
          have e1 : inside x (pos :: (bord pos g ++ bord (pos + g.sum) r)) = inside x (pos :: bord pos g) ++ inside x (bord (pos + g.sum) r) := by
            unfold inside
            rw [← List.filter_append]
            rfl
          have e2 : inside x (pos :: bord pos g) = [] := inside_none fun n hn => .inl (by
            rcases List.mem_cons.mp hn with q | q
            · omega
            · have := bord_hi g pos n q
              omega)
          rw [e1, e2, List.nil_append]
          refine Nat.le_trans ?_ z
          exact ((List.sublist_cons_self _ _).filter _).length_le
theorem way_ends : ∀ (way : List (Nat × Nat)) {w pos : Nat} {s : List Nat}, IsWay w pos s way → way ≠ [] → way.map (·.2) = (way.map (·.1)).tail ++ [pos + s.sum]
  | [], _, _, _, _, h => absurd rfl h
  | [x], w, pos, s, h, _ => by
    obtain ⟨_, g, r, _, _, es, ex, hr⟩ := way_head h
    rw [way_nil hr, List.append_nil] at es
    rw [es]
    show [x.2] = [pos + g.sum]
    rw [ex]
  | x :: y :: way, w, pos, s, h, _ => by
    obtain ⟨_, g, r, _, _, es, ex, hr⟩ := way_head h
    have ih := way_ends (y :: way) hr (by simp)
    obtain ⟨hy, _⟩ := way_head hr
    rw [List.map_cons, ih, ex, es, List.sum_append, ← Nat.add_assoc]
    show _ = (y.1 :: way.map (·.1)) ++ [pos + g.sum + r.sum]
    rw [hy]
    rfl
/-- what the law makes of the told starts -/
def wayE (l : List Nat) (w : Nat) : List (Nat × Nat) := if l = [] then [(0, 0)] else sway l w
structure WayOk (l : List Nat) (w : Nat) (way : List (Nat × Nat)) : Prop where
  starts : way.map (·.1) = (smoothN l w).2
  ends : way.map (·.2) = (smoothN l w).2.tail ++ [l.length]
  rise : (smoothN l w).2.Pairwise (· < ·)
  len : way.length ≤ max 1 l.length
  look : ∀ x ∈ way, x.1 ≤ x.2 ∧ x.1 ∈ 0 :: bord 0 (sizesN l) ∧ (x.2 - x.1 ≤ w ∨ (inside x (0 :: bord 0 (sizesN l))).length ≤ 1)
  rgh : rough w way = (smoothN l w).1
theorem wayE_ok (l : List Nat) (w : Nat) : WayOk l w (wayE l w) := by
  unfold wayE
  by_cases e : l = []
  · subst e
    rw [if_pos rfl]
    refine ⟨rfl, rfl, List.pairwise_singleton _ _, Nat.le_refl _, fun x hx => ?_, rfl⟩
    rw [List.mem_singleton.mp hx]
    exact ⟨Nat.le_refl _, List.mem_cons_self, .inl (Nat.zero_le _)⟩
  · rw [if_neg e]
    have hw := sway_way l w
    obtain ⟨a1, a2⟩ := way_look hw sizes_pos
    have hs := sway_starts e w
    have hne : sway l w ≠ [] := fun z => by
      rw [z] at hs
      cases hs
    refine ⟨hs, ?_, by rw [← hs]; exact a1, ?_, fun x hx => ⟨(way_le hw x hx).1, a2 x hx⟩, sway_rough l w⟩
    · have := way_ends _ hw hne
      rw [sizes_sum, Nat.zero_add, hs] at this
      exact this
    · have hl : ∀ {way : List (Nat × Nat)} {w pos : Nat} {s : List Nat}, IsWay w pos s way → way.length ≤ s.length := fun {way w pos s} h => by
        induction h with
        | nil => exact Nat.le_refl _
        | @cons pos g r way hg hv hr ih =>
          have := List.length_pos_iff.mpr hg
          rw [List.length_cons, List.length_append]
          omega
      have h1 := hl hw
      have h2 := sizes_len l
      omega
theorem pairs_get {way : List (Nat × Nat)} {A B : List Nat} (h1 : way.map (·.1) = A) (h2 : way.map (·.2) = B) {k : Nat} (hk : k < way.length) : ∃ x, way[k]? = some x ∧ A[k]? = some x.1 ∧ B[k]? = some x.2 := by
  refine ⟨way[k], List.getElem?_eq_getElem hk, ?_, ?_⟩
  · rw [← h1, List.getElem?_map, List.getElem?_eq_getElem hk]
    rfl
  · rw [← h2, List.getElem?_map, List.getElem?_eq_getElem hk]
    rfl
end MM
/-! M4: a line cut behind its n-th chunk has at most n chunks. -/
namespace MM
theorem chG_cut : ∀ (l h : List Nat) (m : Nat), (chG h (l.take ((((chG h l).take (m + 1)).map List.length).sum - h.length))).length ≤ m + 1
  | [], h, m => by
    rw [List.take_nil]
    unfold chG
    split <;> simp
  | c :: r, h, m => by
    by_cases e : c = 32
    · have e1 : chG h (c :: r) = (h ++ [c]) :: chG [] r := by
        conv => lhs; unfold chG
        rw [if_pos e]
      rw [e1, List.take_succ_cons, List.map_cons, List.sum_cons, List.length_append]
      have e2 : h.length + [c].length + (((chG [] r).take m).map List.length).sum - h.length = (((chG [] r).take m).map List.length).sum + 1 := by
        show h.length + 1 + _ - h.length = _
        omega
      rw [e2, List.take_succ_cons]
      have e3 : ∀ q, chG h (c :: q) = (h ++ [c]) :: chG [] q := fun q => by
        conv => lhs; unfold chG
        rw [if_pos e]
      rw [e3, List.length_cons]
      refine Nat.succ_le_succ ?_
      cases m with
      | zero =>
        show (chG [] (r.take 0)).length ≤ 0
        rw [List.take_zero]
        exact Nat.le_refl _
      | succ m => exact chG_cut r [] m
    · have e3 : ∀ q, chG h (c :: q) = chG (h ++ [c]) q := fun q => by
        conv => lhs; unfold chG
        rw [if_neg e]
      rw [e3]
      have ih := chG_cut r (h ++ [c]) m
      generalize (((chG (h ++ [c]) r).take (m + 1)).map List.length).sum = X at ih ⊢
      rw [List.length_append] at ih
      cases k : X - h.length with
      | zero =>
        rw [List.take_zero]
        unfold chG
        split <;> simp
      | succ k' =>
        rw [List.take_succ_cons, e3]
        have e4 : X - (h.length + [c].length) = k' := by
          show X - (h.length + 1) = k'
          omega
        rw [e4] at ih
        exact ih
theorem sizes_cut (l : List Nat) (m : Nat) : (sizesN (l.take ((sizesN l).take (m + 1)).sum)).length ≤ m + 1 := by
  have h := chG_cut l [] m
  unfold sizesN
  rw [List.length_map, chunks_eq, chunks_eq, ← List.map_take]
  exact h
end MM
/-! F1: kinds, chunks, cut. -/
namespace DL
open PySem L2
open PyProof.Rows (envOfC)
open MM
/-! ### texts as lists of codes -/
def S (l : List Nat) : Str := ⟨l.toArray⟩
def dS (l : List Nat) : PyData := .str (S l)
def dN (n : Nat) : PyData := .int (n : Int)
theorem S_len (l : List Nat) : (S l).length = l.length := rfl
theorem S_cps (l : List Nat) : (S l).cps.toList = l := rfl
theorem S_app (a b : List Nat) : S a ++ S b = S (a ++ b) := by
  show (⟨a.toArray ++ b.toArray⟩ : Str) = ⟨(a ++ b).toArray⟩
  rw [List.append_toArray]
theorem S_inj {a b : List Nat} : S a = S b ↔ a = b := ⟨fun h => by have := congrArg (fun s : Str => s.cps.toList) h; exact this, fun h => by rw [h]⟩
theorem S_of (s : Str) : S s.cps.toList = s := rfl
theorem sgn_S (c : Nat) : sgn c = dS [c] := rfl
theorem blank_S : (" " : Str) = S [32] := by decide +kernel
theorem empty_S : ("" : Str) = S [] := by decide +kernel
theorem nl_S : ("\n" : Str) = S [10] := by decide +kernel
abbrev s_is_whole : Stmt := topS 7
abbrev nm_is_whole : List Str := ["value"]
theorem sc_is_whole : FnScope nm_is_whole ["value"] (defScope s_is_whole) := ⟨rfl, rfl, rfl, by decide +kernel, rfl, by decide +kernel, by decide +kernel⟩
abbrev s_is_text : Stmt := topS 8
abbrev nm_is_text : List Str := ["value", "sign"]
theorem sc_is_text : FnScope nm_is_text ["value"] (defScope s_is_text) := ⟨rfl, rfl, rfl, by decide +kernel, rfl, by decide +kernel, by decide +kernel⟩
abbrev s_is_line : Stmt := topS 11
abbrev nm_is_line : List Str := ["value", "sign"]
theorem sc_is_line : FnScope nm_is_line ["value"] (defScope s_is_line) := ⟨rfl, rfl, rfl, by decide +kernel, rfl, by decide +kernel, by decide +kernel⟩
abbrev s_check_line : Stmt := topS 12
abbrev nm_check_line : List Str := ["value"]
theorem sc_check_line : FnScope nm_check_line ["value"] (defScope s_check_line) := ⟨rfl, rfl, rfl, by decide +kernel, rfl, by decide +kernel, by decide +kernel⟩
abbrev s_check_text : Stmt := topS 18
abbrev nm_check_text : List Str := ["value"]
theorem sc_check_text : FnScope nm_check_text ["value"] (defScope s_check_text) := ⟨rfl, rfl, rfl, by decide +kernel, rfl, by decide +kernel, by decide +kernel⟩
abbrev s_check_least : Stmt := topS 14
abbrev nm_check_least : List Str := ["value", "least"]
theorem sc_check_least : FnScope nm_check_least ["value", "least"] (defScope s_check_least) := ⟨rfl, rfl, rfl, by decide +kernel, rfl, by decide +kernel, by decide +kernel⟩
abbrev s_chunks : Stmt := topS 15
abbrev nm_chunks : List Str := ["line", "found", "held", "sign"]
theorem sc_chunks : FnScope nm_chunks ["line"] (defScope s_chunks) := ⟨rfl, rfl, rfl, by decide +kernel, rfl, by decide +kernel, by decide +kernel⟩
abbrev s_cut : Stmt := topS 16
abbrev nm_cut : List Str := ["line", "width", "found", "chunk"]
theorem sc_cut : FnScope nm_cut ["line", "width"] (defScope s_cut) := ⟨rfl, rfl, rfl, by decide +kernel, rfl, by decide +kernel, by decide +kernel⟩
section
variable {P : Program} {w : World} {K : PySem.W.Frag} {mg : Str → Option Value} {base : Heap} {f : Addr} {fd : FuncData}
theorem ei_S {Δ : Dn} {te : TE} {l : List Nat} (h : Ev Δ te (dS l)) : EvI Δ (iStr te) (l.map sgn) := ei_str h
theorem run_augS {Δ : Dn} {i : Nat} {te : TE} {a b : Str} {N : Dn → Prop} {R : Ret} (hi : Δ[i]? = some (some (.val (.str a)))) (h : Ev Δ te (.str b)) (hz : a.length + b.length ≤ 100000) (k : N (Δ.set i (some (.val (.str (a ++ b)))))) :
    Run Δ (tAug i te (fun x y H Q => ∃ i j, x = .str i ∧ y = .str j ∧ i.length + j.length ≤ sizeLine ∧ Q (.str (i ++ j)) H)) N R := fun pp B σ Hs H E D n r => by
  obtain ⟨v, h1, h2⟩ := E.at_ i _ hi
  refine ⟨v, h1, h pp B σ Hs H E _ fun y d1 Hs1 H1 g r1 p1 => ?_⟩
  subst p1
  exact ⟨a, b, h2, r1, Nat.le_trans hz (by decide), n _ _ Hs1 H1 g.s ((E.grow g).set (d := .str (a ++ b)) rfl) k⟩
theorem q_augS {Δ : Dn} {i : Nat} {te : TE} {a b : Str} {u : TS} {N : Dn → Prop} {R : Ret} (hi : Δ[i]? = some (some (.val (.str a)))) (h : Ev Δ te (.str b)) (hz : a.length + b.length ≤ 100000) (k : Run (Δ.set i (some (.val (.str (a ++ b))))) u N R) :
    Run Δ (tSeq (tAug i te (fun x y H Q => ∃ i j, x = .str i ∧ y = .str j ∧ i.length + j.length ≤ sizeLine ∧ Q (.str (i ++ j)) H)) u) N R := run_seq (run_augS (N := fun x => x = _) hi h hz rfl) fun Δ2 e => by
  rw [e]
  exact k
theorem rv_eqS' {K : PySem.W.Frag} {a b : List Nat} {z : Str} (hz : z = S b) : RV (rEqA K) (dS a) (.str z) fun x => x = .bool (decide (a = b)) := by
  have h := rv_eqS (K := K) (i := S a) (j := z)
  have e : decide (S a = z) = decide (a = b) := by rw [hz, decide_eq_decide]; exact S_inj
  rw [e] at h
  exact h
theorem rv_neS' {K : PySem.W.Frag} {a b : List Nat} {z : Str} (hz : z = S b) : RV (rNeA K) (dS a) (.str z) fun x => x = .bool (!decide (a = b)) := by
  have h := rv_neS (K := K) (i := S a) (j := z)
  have e : decide (S a = z) = decide (a = b) := by rw [hz, decide_eq_decide]; exact S_inj
  rw [e] at h
  exact h
theorem rv_addS' {a b : List Nat} (h : a.length + b.length ≤ 100000) : RV rAddA (dS a) (dS b) fun x => x = dS (a ++ b) := by
  have h := rv_addS (a := S a) (b := S b) h
  rw [S_app] at h
  exact h
theorem ev_neg {Δ : Dn} {te : TE} {i : Int} (h : Ev Δ te (.int i)) : Ev Δ (tUn (rU fun i => .int (-i)) te) (.int (-i)) := fun pp B σ Hs H E Q q =>
  h pp B σ Hs H E _ fun x d1 Hs1 H1 g1 r1 p1 => ⟨i, by rw [p1] at r1; exact r1, (q.go g1).here g1.wf (d := .int (-i)) rfl rfl⟩
theorem ixN_last (n : Nat) : ixN (n + 1) (-1) = some n := by
  unfold ixN
  rw [if_neg (by omega), if_pos (by omega)]
  congr 1
  omega
theorem set_last {α : Type} (xs : List α) (v d : α) : (xs ++ [v]).set xs.length d = xs ++ [d] := by
  rw [List.set_append_right _ _ (Nat.le_refl _), Nat.sub_self]
  rfl
theorem rc_lenN {K : PySem.W.Frag} {l : List Nat} (hl : l.length ≤ 100000) : RC (rLenA K) [dS l] fun x => x = dN l.length := rc_lenS (z := S l) hl
theorem rc_lenM {K : PySem.W.Frag} {α : Type} {as : List α} {f : α → PyData} : RC (rLenA K) [.list (as.map f)] fun x => x = dN as.length := by
  have h := rc_lenL (K := K) (ds := as.map f)
  rw [List.length_map] at h
  exact h
def spWhole : Sp := spD (fun ds => ∃ i, ds = [.int i]) fun _ => .bool true
theorem ok_is_whole (F : Fun K "is_whole" "is_whole" s_is_whole f fd) (T : Bt mg) : FnOk P w K mg base CX0 1 f fd ["value"] spWhole :=
  okD F sc_is_whole (fun ds ⟨i, e⟩ => by rw [e]; rfl) fun cdv A outer s H E hr => by
    refine ⟨_, (pss_one (ps_ret (pe_and (pe_callB (k_isi (K := K) rfl) (by rfl) T.isinstance (by decide +kernel) (pa_cons (pv 0) (pa_cons (pe_bltn (v := .ty "int") (u := .type "int") (by rfl) T.int (by decide +kernel) rfl) pa_nil))) (pe_one (pe_not (pe_callB (k_isi (K := K) rfl) (by rfl) T.isinstance (by decide +kernel) (pa_cons (pv 0) (pa_cons (pe_bltn (v := .ty "bool") (u := .type "bool") (by rfl) T.bool (by decide +kernel) rfl) pa_nil)))))))), ?_⟩
    rintro ds ⟨i, rfl⟩
    refine run_retD (ev_and (a := true) (b := true) ?_ fun _ => ev_not (b := false) ?_) rfl
    · exact rc_isi (t := .type "int") (ev_var rfl) rfl (fun H x r => by cases (show x = .int i from r); exact .int i) (by first | rfl | decide +kernel | kernel_rfl)
    · exact rc_isi (t := .type "int") (ev_var rfl) rfl (fun H x r => by cases (show x = .int i from r); exact .int i) (by first | rfl | decide +kernel | kernel_rfl)
/-- a text of the signs of z -/
def spSigns (z : Str) : Sp := spD (fun ds => ∃ l : List Nat, ds = [dS l] ∧ l.length ≤ 100000 ∧ ∀ c ∈ l, c ∈ z.cps.toList) fun _ => .bool true
theorem eqv_nil : PyData.eqv (.list []) (.list []) = true := by decide +kernel
theorem ok_is_text (F : Fun K "is_text" "is_text" s_is_text f fd) (T : Bt mg) : FnOk P w K mg base CX0 1 f fd ["value"] (spSigns signsS) :=
  okD F sc_is_text (fun ds ⟨l, e, _⟩ => by rw [e]; rfl) fun cdv A outer s H E hr => by
    refine ⟨_, (pss_one (ps_ret (pe_and (pe_callB (k_isi (K := K) rfl) (by rfl) T.isinstance (by decide +kernel) (pa_cons (pv 0) (pa_cons (pe_bltn (v := .ty "str") (u := .type "str") (by rfl) T.str (by decide +kernel) rfl) pa_nil))) (pe_one (pe_cmpR (k_eq (K := K) hr.units rfl) (pe_lc (own := [("sign", 1)]) rfl sc_is_text.nd (pi_str (pv 0)) (blkOk_by (own := [("sign", 1)]) (N := nm_is_text) (sc := (defScope s_is_text)) (by decide +kernel)) (fun _ _ _ _ _ => (pg_name (i := 1) sc_is_text.nd rfl (.inl rfl))) (fun _ _ _ _ _ => (pts_one (pt_cmpR (k_ni (K := K) rfl) (pv 1) (C8.pe_gc (by rfl) T.SIGNS) (by rfl)))) (fun _ _ _ _ _ => (pv 1))) (pe_lst pa_nil) (nomark _)))))), ?_⟩
    rintro ds ⟨l, rfl, hl, hs⟩
    refine run_retD (ev_and (a := true) (b := true) ?_ fun _ => ?_) rfl
    · exact rc_isi (t := .type "str") (ev_var rfl) rfl (fun H x r => by cases (show x = .str _ from r); exact .str _) (by first | rfl | decide +kernel | kernel_rfl)
    · refine Ev.is (ev_op (EvN.ev (en_lc (ts := [1]) l sgn (fun _ => false) sgn (ei_S (ev_var rfl)) hl (by simp) fun c hc => ⟨_, tg_name, ?_, nofun⟩)) (ev_lst ea_nil (by decide)) (rv_eqD ?_ rfl)) ?_
      · refine (et_test (ev_op (ev_var rfl) ev_str rv_niS)).is ?_
        rw [decide_eq_true (hs c hc)]
        rfl
      · rw [List.filter_eq_nil_iff.mpr (by simp)]
        rfl
      · rw [List.filter_eq_nil_iff.mpr (by simp)]
        show PyData.bool _ = _
        rw [List.map_nil, eqv_nil]
theorem ok_is_line (F : Fun K "is_line" "is_line" s_is_line f fd) (T : Bt mg) : FnOk P w K mg base CX0 1 f fd ["value"] (spSigns lineS) :=
  okD F sc_is_line (fun ds ⟨l, e, _⟩ => by rw [e]; rfl) fun cdv A outer s H E hr => by
    refine ⟨_, (pss_one (ps_ret (pe_and (pe_callB (k_isi (K := K) rfl) (by rfl) T.isinstance (by decide +kernel) (pa_cons (pv 0) (pa_cons (pe_bltn (v := .ty "str") (u := .type "str") (by rfl) T.str (by decide +kernel) rfl) pa_nil))) (pe_one (pe_cmpR (k_eq (K := K) hr.units rfl) (pe_lc (own := [("sign", 1)]) rfl sc_is_line.nd (pi_str (pv 0)) (blkOk_by (own := [("sign", 1)]) (N := nm_is_line) (sc := (defScope s_is_line)) (by decide +kernel)) (fun _ _ _ _ _ => (pg_name (i := 1) sc_is_line.nd rfl (.inl rfl))) (fun _ _ _ _ _ => (pts_one (pt_cmpR (k_ni (K := K) rfl) (pv 1) (C8.pe_gc (by rfl) T.LINE_SIGNS) (by rfl)))) (fun _ _ _ _ _ => (pv 1))) (pe_lst pa_nil) (nomark _)))))), ?_⟩
    rintro ds ⟨l, rfl, hl, hs⟩
    refine run_retD (ev_and (a := true) (b := true) ?_ fun _ => ?_) rfl
    · exact rc_isi (t := .type "str") (ev_var rfl) rfl (fun H x r => by cases (show x = .str _ from r); exact .str _) (by first | rfl | decide +kernel | kernel_rfl)
    · refine Ev.is (ev_op (EvN.ev (en_lc (ts := [1]) l sgn (fun _ => false) sgn (ei_S (ev_var rfl)) hl (by simp) fun c hc => ⟨_, tg_name, ?_, nofun⟩)) (ev_lst ea_nil (by decide)) (rv_eqD ?_ rfl)) ?_
      · refine (et_test (ev_op (ev_var rfl) ev_str rv_niS)).is ?_
        rw [decide_eq_true (hs c hc)]
        rfl
      · rw [List.filter_eq_nil_iff.mpr (by simp)]
        rfl
      · rw [List.filter_eq_nil_iff.mpr (by simp)]
        show PyData.bool _ = _
        rw [List.map_nil, eqv_nil]
def spNone (Pre : List PyData → Prop) : Sp := spD Pre fun _ => .none
def preSigns (z : Str) (ds : List PyData) : Prop := ∃ l : List Nat, ds = [dS l] ∧ l.length ≤ 100000 ∧ ∀ c ∈ l, c ∈ z.cps.toList
theorem ok_check_line (F : Fun K "check_line" "check_line" s_check_line f fd) (T : Bt mg) (c_is_line : C8.Cal P w K mg base 1 "is_line" (spSigns lineS) []) : FnOk P w K mg base CX0 2 f fd ["value"] (spNone (preSigns lineS)) :=
  okD F sc_check_line (fun ds ⟨l, e, _⟩ => by rw [e]; rfl) fun cdv A outer s H E hr => by
    refine ⟨_, (pss_one (ps_if (pt_not (pt_val (C8.pe_c c_is_line hr (by decide) (by rfl) (pa_cons (pv 0) pa_nil)))) (pss_one ps_never) pss_nil)), ?_⟩
    rintro ds ⟨l, rfl, hl, hs⟩
    exact run_if (b := false) (et_not (b := true) (et_B (ev_call (ea_cons (ev_var rfl) ea_nil) ⟨l, rfl, hl, hs⟩))) nofun fun _ => run_nil rfl
theorem ok_check_text (F : Fun K "check_text" "check_text" s_check_text f fd) (T : Bt mg) (c_is_text : C8.Cal P w K mg base 1 "is_text" (spSigns signsS) []) : FnOk P w K mg base CX0 2 f fd ["value"] (spNone (preSigns signsS)) :=
  okD F sc_check_text (fun ds ⟨l, e, _⟩ => by rw [e]; rfl) fun cdv A outer s H E hr => by
    refine ⟨_, (pss_one (ps_if (pt_not (pt_val (C8.pe_c c_is_text hr (by decide) (by rfl) (pa_cons (pv 0) pa_nil)))) (pss_one ps_never) pss_nil)), ?_⟩
    rintro ds ⟨l, rfl, hl, hs⟩
    exact run_if (b := false) (et_not (b := true) (et_B (ev_call (ea_cons (ev_var rfl) ea_nil) ⟨l, rfl, hl, hs⟩))) nofun fun _ => run_nil rfl
theorem ok_check_least (F : Fun K "check_least" "check_least" s_check_least f fd) (T : Bt mg) (c_is_whole : C8.Cal P w K mg base 1 "is_whole" spWhole []) : FnOk P w K mg base CX0 2 f fd ["value", "least"] (spNone fun ds => ∃ i j : Int, ds = [.int i, .int j] ∧ j ≤ i) :=
  okD F sc_check_least (fun ds ⟨i, j, e, _⟩ => by rw [e]; rfl) fun cdv A outer s H E hr => by
    refine ⟨_, (pss_one (ps_if (PW.pt (pw_or (pt_not (pt_val (C8.pe_c c_is_whole hr (by decide) (by rfl) (pa_cons (pv 0) pa_nil)))) (pw_or1 (pt_cmpR op_lt (pv 0) (pv 1) (nomark _))))) (pss_one ps_never) pss_nil)), ?_⟩
    rintro ds ⟨i, j, rfl, hij⟩
    refine run_if (b := false) ((et_or (a := false) (et_not (b := true) (et_B (ev_call (ea_cons (ev_var rfl) ea_nil) ⟨i, rfl⟩))) fun _ => et_test (ev_op (ev_var rfl) (ev_var rfl) rv_lt)).is ?_) nofun fun _ => run_nil rfl
    rw [decide_eq_false (by omega)]
    rfl
def fChunks : List PyData → PyData
  | [.str s] => .list ((chunksN s.cps.toList).map dS)
  | _ => .none
def spChunks : Sp := spD (fun ds => ∃ l : List Nat, ds = [dS l] ∧ l.length ≤ 10000) fChunks
theorem ev_chunks {Δ : Dn} {E : XK} {ta : TA} {l : List Nat} (h : EvA Δ ta [dS l]) (hl : l.length ≤ 10000) : Ev Δ (tCall spChunks [] E ta) (.list ((chunksN l).map dS)) := ev_call (f := fChunks) h ⟨l, rfl, hl⟩
theorem fold_len : ∀ (l : List Nat) (p : List (List Nat) × List Nat), (l.foldl chStep p).1.length ≤ p.1.length + l.length ∧ (l.foldl chStep p).2.length ≤ p.2.length + l.length
  | [], p => ⟨Nat.le_refl _, Nat.le_refl _⟩
  | c :: l, p => by
    have h := fold_len l (chStep p c)
    have h1 : (chStep p c).1.length ≤ p.1.length + 1 ∧ (chStep p c).2.length ≤ p.2.length + 1 := by
      unfold chStep
      split <;> simp
    rw [List.foldl_cons, List.length_cons]
    omega
theorem ok_chunks (F : Fun K "chunks" "chunks" s_chunks f fd) (T : Bt mg) : FnOk P w K mg base CX0 1 f fd ["line"] spChunks :=
  okD F sc_chunks (fun ds ⟨l, e, _⟩ => by rw [e]; rfl) fun cdv A outer s H E hr => by
    refine ⟨_, (pss_cons (ps_set (i := 1) sc_chunks.nd rfl (.inl rfl) (pe_lst pa_nil)) (pss_cons (ps_set (i := 2) sc_chunks.nd rfl (.inl rfl) pe_str) (pss_cons (ps_for PassesOwn.never rfl (pi_str (pv 0)) (pg_name (i := 3) sc_chunks.nd rfl (.inl rfl)) (pss_cons (ps_aug (i := 2) sc_chunks.nd rfl (.inl rfl) (pv 3) iop_add_str) (pss_one (ps_if (pt_cmpR (k_eq (K := K) hr.units rfl) (pv 3) pe_str (nomark _)) (pss_cons (ps_expr (pe_bm PySem.F.plainAttrs_list PySem.F.slot_list_append PySem.F.type_list_append mt_append (pv 1) (pa_cons (pv 2) pa_nil))) (pss_one (ps_set (i := 2) sc_chunks.nd rfl (.inl rfl) pe_str))) pss_nil)))) (pss_one (ps_ret (pe_ifExp (pt_cmpR (k_ne (K := K) hr.units rfl) (pv 2) pe_str (nomark _)) (pe_op op_addA (pv 1) (pe_lst (pa_cons (pv 2) pa_nil))) (pv 1))))))), ?_⟩
    rintro ds ⟨l, rfl, hl⟩
    show Run [some (.val (dS l)), none, none, none] _ _ _
    refine q_own (en_lst ea_nil (by decide)) (q_asg (ev_str.is (d' := dS []) (congrArg PyData.str empty_S)) ?_)
    let p := fun i : Nat => (l.take i).foldl chStep ([], [])
    refine q_for (ts := [3]) (fun i Δ => ∃ z, Δ = [some (.val (dS l)), some (.own ((p i).1.map dS)), some (.val (dS (p i).2)), z]) (ei_S (ev_var rfl)) ⟨none, rfl⟩ (fun i d Δi hd hI => ?_) fun Δ' hI => ?_
    · obtain ⟨z, rfl⟩ := hI
      rw [List.getElem?_map] at hd
      cases hc : l[i]? with
      | none =>
        rw [hc] at hd
        cases hd
      | some c =>
        rw [hc] at hd
        cases hd
        have hi : i < l.length := (List.getElem?_eq_some_iff.mp hc).1
        have hp : p (i + 1) = chStep (p i) c := by
          show (l.take (i + 1)).foldl chStep ([], []) = _
          rw [List.take_add_one, hc, List.foldl_append]
          rfl
        have hln := fold_len (l.take i) ([], [])
        have ht : (l.take i).length ≤ 10000 := by rw [List.length_take]; omega
        have hl1 : (p i).1.length ≤ 10000 := by
          have := hln.1
          simp only [List.length_nil] at this
          show (List.foldl chStep ([], []) (l.take i)).1.length ≤ _
          omega
        have hl2 : (p i).2.length ≤ 10000 := by
          have := hln.2
          simp only [List.length_nil] at this
          show (List.foldl chStep ([], []) (l.take i)).2.length ≤ _
          omega
        refine ⟨_, tg_name, ?_⟩
        refine q_augS (a := S (p i).2) (b := S [c]) rfl (ev_var rfl) (by show (p i).2.length + 1 ≤ _; omega) ?_
        rw [S_app]
        refine run_if (b := decide (c = 32)) ((et_test (ev_op (ev_var rfl) ev_str (rv_eqS' (a := [c]) blank_S))).is (by rw [decide_eq_decide]; simp)) (fun hb => ?_) fun hb => ?_
        · refine q_app rfl (ev_var rfl) (by rw [List.length_map]; omega) (run_asg (ev_str.is (d' := dS []) (congrArg PyData.str empty_S)) ⟨some (.val (dS [c])), ?_⟩)
          rw [hp]
          unfold chStep
          rw [if_pos (of_decide_eq_true hb), List.map_append]
          rfl
        · refine run_nil ⟨some (.val (dS [c])), ?_⟩
          rw [hp]
          unfold chStep
          rw [if_neg (of_decide_eq_false hb)]
          rfl
    · obtain ⟨z, rfl⟩ := hI
      rw [List.length_map]
      have hp : p l.length = l.foldl chStep ([], []) := by
        show (l.take l.length).foldl chStep ([], []) = _
        rw [List.take_length]
      rw [hp]
      have hln := fold_len l ([], [])
      have hl1 : (l.foldl chStep ([], [])).1.length ≤ 10000 := by
        have := hln.1
        simp only [List.length_nil] at this
        omega
      refine run_freeze (i := 1) rfl ?_
      refine run_ret (P := fun x => x = fChunks [dS l]) (ev_if ((et_test (ev_op (ev_var rfl) ev_str (rv_neS' empty_S)))) (fun hb => ?_) fun hb => ?_) fun d e => e
      · have hb' : ¬ (l.foldl chStep ([], [])).2 = [] := by simpa using hb
        refine Ev.is (ev_op (ev_var rfl) (ev_lst (ea_cons (ev_var rfl) ea_nil) (by simp)) (rv_addL (by rw [List.length_map]; show _ + 1 ≤ _; omega))) ?_
        show _ = PyData.list ((chunksN l).map dS)
        unfold chunksN chEnd
        rw [if_neg hb', List.map_append]
        rfl
      · have hb' : (l.foldl chStep ([], [])).2 = [] := by simpa using hb
        refine Ev.is (ev_var rfl) ?_
        show _ = PyData.list ((chunksN l).map dS)
        unfold chunksN chEnd
        rw [if_pos hb']
theorem cfold_len (w : Nat) : ∀ (cs : List (List Nat)) (p : List (List Nat) × List Nat), (cs.foldl (cutStep w) p).1.length ≤ p.1.length + cs.length ∧ (cs.foldl (cutStep w) p).2.length ≤ p.2.length + cs.flatten.length
  | [], p => ⟨Nat.le_refl _, Nat.le_refl _⟩
  | c :: cs, p => by
    have h := cfold_len w cs (cutStep w p c)
    have h1 : (cutStep w p c).1.length ≤ p.1.length + 1 ∧ (cutStep w p c).2.length ≤ p.2.length + c.length := by
      unfold cutStep
      split <;> simp
    rw [List.foldl_cons, List.length_cons, List.flatten_cons, List.length_append]
    omega
def fCut : List PyData → PyData
  | [.str s, .int w] => .list ((cutN s.cps.toList w.toNat).map dS)
  | _ => .none
def preCut (ds : List PyData) : Prop := ∃ (l : List Nat) (w : Nat), ds = [dS l, dN w] ∧ l.length ≤ 10000
def spCut : Sp := spD preCut fCut
theorem ev_cut {Δ : Dn} {E : XK} {ta : TA} {l : List Nat} {w : Nat} (h : EvA Δ ta [dS l, dN w]) (hl : l.length ≤ 10000) : Ev Δ (tCall spCut [] E ta) (.list ((cutN l w).map dS)) := ev_call (f := fCut) h ⟨l, w, rfl, hl⟩
theorem ok_cut (F : Fun K "cut" "cut" s_cut f fd) (T : Bt mg) (c_chunks : C8.Cal P w K mg base 1 "chunks" spChunks []) : FnOk P w K mg base CX0 2 f fd ["line", "width"] spCut :=
  okD F sc_cut (fun ds ⟨l, w, e, _⟩ => by rw [e]; rfl) fun cdv A outer s H E hr => by
    refine ⟨_, (pss_cons (ps_set (i := 2) sc_cut.nd rfl (.inl rfl) (pe_lst (pa_cons pe_str pa_nil))) (pss_cons (ps_for PassesOwn.never rfl (k_list (K := K) rfl (C8.pe_c c_chunks hr (by decide) (by rfl) (pa_cons (pv 0) pa_nil))) (pg_name (i := 3) sc_cut.nd rfl (.inl rfl)) (pss_one (ps_if (PW.pt (pw_or (pt_cmpR (k_eq (K := K) hr.units rfl) (pe_ix (k_ix (K := K) rfl) (pv 2) (pe_un un_neg pe_int) (fun _ _ => rfl)) pe_str (nomark _)) (pw_or1 (pt_cmpR op_le (pe_op op_addA (pe_callB (k_len (K := K) rfl) (by rfl) T.len (by decide +kernel) (pa_cons (pe_ix (k_ix (K := K) rfl) (pv 2) (pe_un un_neg pe_int) (fun _ _ => rfl)) pa_nil)) (pe_callB (k_len (K := K) rfl) (by rfl) T.len (by decide +kernel) (pa_cons (pv 3) pa_nil))) (pv 1) (nomark _))))) (pss_one (ps_asg (pe_op op_addA (pe_ix (k_ix (K := K) rfl) (pv 2) (pe_un un_neg pe_int) (fun _ _ => rfl)) (pv 3)) (pg_sub (pv 2) (pe_un un_neg pe_int) set_list))) (pss_one (ps_expr (pe_bm PySem.F.plainAttrs_list PySem.F.slot_list_append PySem.F.type_list_append mt_append (pv 2) (pa_cons (pv 3) pa_nil))))))) (pss_one (ps_ret (pv 2))))), ?_⟩
    rintro ds ⟨l, w, rfl, hl⟩
    show Run [some (.val (dS l)), some (.val (dN w)), none, none] _ _ _
    refine q_own (en_lst (ea_cons (ev_str.is (d' := dS []) (congrArg PyData.str empty_S)) ea_nil) (by decide)) ?_
    let cs := chunksN l
    let p := fun i : Nat => (cs.take i).foldl (cutStep w) ([], [])
    refine q_for (ts := [3]) (fun i Δ => ∃ z, Δ = [some (.val (dS l)), some (.val (dN w)), some (.own ((p i).1.map dS ++ [dS (p i).2])), z]) (ei_list (ds := cs.map dS) (ev_chunks (ea_cons (ev_var rfl) ea_nil) hl)) ⟨none, rfl⟩ (fun i d Δi hd hI => ?_) fun Δ' hI => ?_
    · obtain ⟨z, rfl⟩ := hI
      rw [List.getElem?_map] at hd
      cases hc : cs[i]? with
      | none =>
        rw [hc] at hd
        cases hd
      | some c =>
        rw [hc] at hd
        cases hd
        have hp : p (i + 1) = cutStep w (p i) c := by
          show (cs.take (i + 1)).foldl (cutStep w) ([], []) = _
          rw [List.take_add_one, hc, List.foldl_append]
          rfl
        have hcl : c.length ≤ 10000 := Nat.le_trans (chunk_len (List.mem_of_getElem? hc)) hl
        have hln := cfold_len w (cs.take i) ([], [])
        have ht : (cs.take i).length ≤ 10000 := by
          have := chunks_len l
          rw [List.length_take]
          show min i (chunksN l).length ≤ _
          omega
        have hf : (cs.take i).flatten.length ≤ 10000 := by
          have h1 : cs.flatten = l := chunks_flat l
          have h2 : cs.flatten = (cs.take i).flatten ++ (cs.drop i).flatten := by rw [← List.flatten_append, List.take_append_drop]
          have h3 : l.length = (cs.take i).flatten.length + (cs.drop i).flatten.length := by rw [← h1, h2, List.length_append]
          omega
        have hl1 : (p i).1.length ≤ 10000 := by
          have := hln.1
          simp only [List.length_nil] at this
          show (List.foldl (cutStep w) ([], []) (cs.take i)).1.length ≤ _
          omega
        have hl2 : (p i).2.length ≤ 10000 := by
          have := hln.2
          simp only [List.length_nil] at this
          show (List.foldl (cutStep w) ([], []) (cs.take i)).2.length ≤ _
          omega
        have lst : ∀ {Δ : Dn}, Δ[2]? = some (some (.own ((p i).1.map dS ++ [dS (p i).2]))) → Ev Δ (tOp (rIx K) (tVar 2) (tUn (rU fun i => .int (-i)) (tC (.int 1)))) (dS (p i).2) := fun h => ev_ixOwn h (ev_neg ev_int) (atI_last _ _)
        refine ⟨_, tg_name, ?_⟩
        refine run_if (b := decide ((p i).2 = []) || decide ((p i).2.length + c.length ≤ w)) (et_or (et_test (ev_op (lst rfl) ev_str (rv_eqS' empty_S))) fun _ => (et_test (ev_op (ev_op (ev_cb (ea_cons (lst rfl) ea_nil) (rc_lenN (by omega))) (ev_cb (ea_cons (ev_var rfl) ea_nil) (rc_lenN (by omega))) rv_addI) (ev_var rfl) rv_le)).is (by rw [decide_eq_decide]; omega)) (fun hb => ?_) fun hb => ?_
        · have hb' : (p i).2 = [] ∨ (p i).2.length + c.length ≤ w := by simpa using hb
          refine run_setIx (j := (p i).1.length) rfl (ev_op (lst rfl) (ev_var rfl) (rv_addS' (by omega))) (ev_neg ev_int) (by rw [List.length_append, List.length_map]; exact ixN_last _) ⟨some (.val (dS c)), ?_⟩
          rw [hp]
          unfold cutStep
          rw [if_pos hb']
          have e := set_last ((p i).1.map dS) (dS (p i).2) (dS ((p i).2 ++ c))
          rw [List.length_map] at e
          show [_, _, some (Cell.own _), _] = [_, _, some (Cell.own _), _]
          rw [e]
        · have hb' : ¬ ((p i).2 = [] ∨ (p i).2.length + c.length ≤ w) := by simpa using hb
          refine run_app rfl (ev_var rfl) (by rw [List.length_append, List.length_map]; show _ + 1 < _; omega) fun d e => ⟨some (.val (dS c)), ?_⟩
          rw [hp, e]
          unfold cutStep
          rw [if_neg hb', List.map_append]
          rfl
    · obtain ⟨z, rfl⟩ := hI
      rw [List.length_map]
      have hp : p cs.length = cs.foldl (cutStep w) ([], []) := by
        show (cs.take cs.length).foldl (cutStep w) ([], []) = _
        rw [List.take_length]
      rw [hp]
      refine run_freeze (i := 2) rfl ?_
      refine run_retD (ev_var rfl) ?_
      show PyData.list (List.map dS _ ++ [dS _]) = PyData.list ((cutN l ((w : Int).toNat)).map dS)
      rw [Int.toNat_natCast]
      unfold cutN
      rw [List.map_append]
      rfl
end
end DL
/-! D5: calls by keywords alone, a text many times, a list of a stepped range, int(x), join. -/
namespace DL
open PySem L2 PySem.Spec PyProof.Rows
/-- nothing by place, all by keyword -/
def kwG {α : Type} : List α → List α → List α
  | [], ws => ws.reverse
  | _ :: _, _ => []
/-- a def that is called by keywords alone; the parameters stand in the reverse order of the keywords -/
structure KCal (P : Program) (w : World) (K : PySem.W.Frag) (mg : Str → Option Value) (base : Heap) (k : Nat) (x : Str) (sp : Sp) (ks : List Str) : Prop where
  ex : ∃ (f : Addr) (fd : FuncData) (ps : List Str), FnOk P w K mg base CX0 k f fd ps sp ∧ mg x = some (.ref f) ∧ PySem.W.keepIn K (.ref f) = true ∧ KBinds K fd ps ks kwG kwG
theorem vals_snoc : ∀ {xs : List V} {us : List Value} {x : V} {u : Value}, Vals xs us → RelV x u → Vals (xs ++ [x]) (us ++ [u])
  | _, _, _, _, .nil, r => .cons r .nil
  | _, _, _, _, .cons a b, r => .cons a (vals_snoc b r)
theorem vals_rev : ∀ {xs : List V} {us : List Value}, Vals xs us → Vals xs.reverse us.reverse
  | _, _, .nil => .nil
  | _, _, .cons a b => by
    rw [List.reverse_cons, List.reverse_cons]
    exact vals_snoc (vals_rev b) a
theorem fun_kb {K : PySem.W.Frag} {x qual : Str} {st : Stmt} {f : Addr} {fd : FuncData} {ps ks : List Str} (F : Fun K x qual st f fd) (hp : ps ≠ [])
    (h : ∀ (kV doc pm : Value) (an : Option Addr) (cdv ct : Value) (ws : List Value), ws.length = ps.length → bindArgs (PySem.W.fnOf x qual (defArgs st) (defBody st) (defScope st) .none kV doc pm an cdv ct) ⟨[], ks.zip ws⟩ = pure (ps.zip ws.reverse)) : KBinds K fd ps ks kwG kwG := by
  obtain ⟨oc, od, kV, doc, pm, an, cdv, ct, osl, rfl, lk, hcd⟩ := F.ex
  refine ⟨fun s us ws _ hl => ?_, fun {vs us zs ws} r rz => ?_⟩
  · cases us with
    | nil => exact .of_eq (h kV doc pm an cdv ct ws (by rw [← hl]; exact (List.length_reverse).symm))
    | cons u us => exact absurd (List.length_eq_zero_iff.mp (hl.symm.trans rfl)) hp
  · cases r with
    | nil => exact vals_rev rz
    | cons a b => exact .nil
section
variable {X : Cx}
/-- the call by keywords alone; what runs is run_fnk with no value ahead -/
theorem pe_k0 {x : Str} {p pos : Pos} {kws : List Keyword} {tk : TA} {k j : Nat} {sp : Sp} {ks : List Str} (c : KCal X.prog X.w X.K X.mg X.base k x sp ks) (hr : Room j X.A) (hk : k ≤ j) (hg : Gl X x) (hkw : PK X kws tk)
    (hall : (backToKw pos (keywordEach kws X.env)).all (·.1.isSome) = true := by rfl) (hks : (backToKw pos (keywordEach kws X.env)).filterMap (·.1) = ks := by rfl) (hdb : (x == ("__debug__" : Str)) = false := by decide)
    (hpl : ((backTo pos (starEach [] X.env)).any (·.1) || (backToKw pos (keywordEach kws X.env)).any (·.1.isNone)) = false := by rfl) :
    PE X (.Call (.Name x p) [] kws pos) (tCallK sp kwG E0 tNil tk) := by
  obtain ⟨f, fd, ps, F, hm, kp, hb⟩ := c.ex
  refine ⟨fun pins s σ H Q I h => wpAny_Call_Name_kw (ld_glob I hg hm ?_ hdb)⟩
  refine PySem.W.callWith_KW0 (h₀ := X.base) I.ok.mod.kin kp hall (thn (hkw.run pos pins s σ H _ I h) fun ws s2 ⟨zs, H2, I2, rz, q2⟩ => ⟨I2.kIn, ?_⟩) hpl
  rw [hks]
  exact run_fnk (us := []) (vs := []) F (hr.mono hk) hb pass0 I2 .nil rz q2
/-- a text many times -/
def rMulS : R2 := fun x y H Q => ∃ z n, x = .str z ∧ y = .int n ∧ MulOk z n ∧ Q (.str (Txt.mul z n)) H
theorem op_mulS : OpR X (binaryOp .Mult) rMulS := by
  intro pins s σ H x y v u Q I rx ry h
  obtain ⟨z, n, rfl, rfl, hz, q⟩ := h
  obtain ⟨t, rfl⟩ := rx
  obtain ⟨t', rfl⟩ := ry
  exact SB.mul hz fun t' tk => ⟨.str (Txt.mul z n), H, I.tok _, ⟨_, rfl⟩, q⟩
/-- list(range(a, b, c)), n items -/
def tLstRgC (ta : TA) : TE := fun σ H Q => ta σ H fun vs H1 => ∃ (a b c : Int) (n : Nat), vs = [.int a, .int b, .int c] ∧ RgC a b c n ∧ n ≤ 100000 ∧ ∀ q, H1 q = none → Q (.ref q) (upd H1 q (.lst ((List.range n).map fun i => V.int (a + (i : Nat) * c))))
/-- a stepped range, as an object -/
def RgAt (X : Cx) (pins : List (Addr × Obj)) (σ : L2.St) (Q : VK) (v : Value) (s1 : Shared) : Prop :=
  ∃ (r : Addr) (i j k : Int) (n : Nat) (t t' t'' : Tok) (H1 : Hp), v = Value.ref r ∧ IsRange s1.heap r i j k t t' t'' ∧ RgC i j k n ∧ n ≤ 100000 ∧ Inv X pins σ H1 s1 ∧ ∀ q, H1 q = none → Q (.ref q) (upd H1 q (.lst ((List.range n).map fun l => V.int (i + (l : Nat) * k))))
theorem rg_at {a b c : Expr} {ta : TA} {p2 pos2 : Pos} {pins : List (Addr × Obj)} {s : Shared} {σ : L2.St} {H : Hp} {Q : VK} (I : Inv X pins σ H s) (hg2 : Gl X "range") (hm2 : X.mg "range" = none) (ha : PA X [a, b, c] ta) (h : tLstRgC ta σ H Q)
    (hs : starEach [a, b, c] X.env = (false, eval a X.env) :: starEach [b, c] X.env := by rfl) (hpl : (backTo pos2 (starEach [b, c] X.env)).any (·.1) = false := by rfl) :
    wpAny (model X.prog X.w) X.A (eval (.Call (.Name "range" p2) [a, b, c] [] pos2) X.env) (RgAt X pins σ Q) X.xe s := by
  refine Call_ (ld_blt I hg2 hm2 boot_range (callWith_type1 (thn (ha.run pos2 pins s σ H _ I h) fun us s1 ⟨vs, H1, I1, r1, q1⟩ => ?_) hs hpl))
  obtain ⟨i, j, k, n, e, ⟨c0, c1, c2, c3⟩, hn, q⟩ := q1
  subst e
  rcases r1 with _ | ⟨⟨t, rfl⟩, r2⟩
  rcases r2 with _ | ⟨⟨t', rfl⟩, r3⟩
  rcases r3 with _ | ⟨⟨t'', rfl⟩, r4⟩
  cases r4
  refine call_range_3 c0 ?_ (.inl (PyProof.noPylong_small c1))
  refine ⟨_, i, j, k, n, t, t', t'', H1, rfl, IsRange.new _ _ _ _ _ _ _, ⟨c0, c1, c2, c3⟩, hn, ?_, q⟩
  exact I1.kept (t' := s1.toks) fun b o e => Heap.get?_push_of_some _ e
theorem pe_listRgC {a b c : Expr} {ta : TA} {p pos p2 pos2 : Pos} (hc : X.calm = true) (hg : Gl X "list") (hm : X.mg "list" = none) (hg2 : Gl X "range") (hm2 : X.mg "range" = none) (ha : PA X [a, b, c] ta)
    (hs : starEach [a, b, c] X.env = (false, eval a X.env) :: starEach [b, c] X.env := by rfl) (hpl : (backTo pos2 (starEach [b, c] X.env)).any (·.1) = false := by rfl)
    (na : starEach [.Call (.Name "range" p2) [a, b, c] [] pos2] X.env = (false, eval (.Call (.Name "range" p2) [a, b, c] [] pos2) X.env) :: starEach [] X.env := by rfl) :
    PE X (.Call (.Name "list" p) [.Call (.Name "range" p2) [a, b, c] [] pos2] [] pos) (tLstRgC ta) := by
  refine ⟨fun pins s σ H Q I h => ?_⟩
  refine Call_ (ld_blt I hg hm boot_list (callWith_type1 (args_cons (thn (rg_at I hg2 hm2 ha h hs hpl) fun x s1 ⟨r, i, j, k, n, t, t', t'', H1, ex, hr, hR, hn, I1, q⟩ => args_nil ?_) na) na))
  subst ex
  obtain ⟨c0, c1, c2, c3⟩ := hR
  refine call_list_range (n := n) (I1.ok.hd hc) hr c2 c3 (Nat.le_trans hn (by decide)) fun hh tk acc cc hk e' hi => ?_
  have len : acc.toList.length = n := by
    rw [Array.length_toList]
    exact hi.1
  have rv : Vals ((List.range n).map fun l => V.int (i + (l : Nat) * k)) acc.toList := by
    rw [← len]
    refine vals_of_get acc.toList _ fun m u hm => ?_
    obtain ⟨tt, rfl⟩ := hi.2 m u (by rw [← hm, Array.getElem?_toList])
    exact ⟨tt, rfl⟩
  refine ⟨.ref s1.heap.objs.size, upd H1 s1.heap.objs.size (.lst ((List.range n).map fun l => V.int (i + (l : Nat) * k))), I1.laid hk (Nat.le_refl _) (show ObjOk X.prog X.w _ _ _ (.lst _) from ⟨?_, acc.toList, cc, rv, ?_⟩), rfl, q _ (I1.hok.fresh (Nat.le_refl _))⟩
  · rw [List.length_map, List.length_range]
    exact Nat.le_trans hn (by decide)
  · rw [Array.toArray_toList]
    exact e'
theorem k_join {K : PySem.W.Frag} {o e : Expr} {to te : TE} {apos pos : Pos} (h : X.K = K) (ho : PE X o to) (he : PE X e te) (hs : starEach [e] X.env = [(false, eval e X.env)] := by rfl) (hbase : attributeBase o "join" X.env (eval o X.env) = eval o X.env := by rfl) (hline : (apos.endLine == pos.line) = true := by rfl) :
    PE X (.Call (.Attribute o "join" apos) [e] [] pos) (tM1 (fun x xs H Q => ∃ a p, ∃ ys : List Str, x = .str a ∧ xs = [.ref p] ∧ (SqL K H p (ys.map V.str) ∨ SqT K H p (ys.map V.str)) ∧ (ys.map (·.length)).sum + ys.length * a.length ≤ 16777216 ∧ Q (.str (Txt.join a ys)) H) to te) := h ▸ pe_join ho he hs hbase hline
end
/-! ### what they answer -/
theorem ev_callK {Δ : Dn} {Pre : List PyData → Prop} {f : List PyData → PyData} {E : XK} {tk : TA} {ds : List PyData} (h : EvA Δ tk ds) (hp : Pre ds.reverse) : Ev Δ (tCallK (spD Pre f) kwG E tNil tk) (f ds.reverse) := fun pp B σ Hs H En Q q =>
  h pp B σ Hs H En _ fun vs Hs1 H1 g1 r1 => ⟨Hs1, ds.reverse, g1.wf.bare, r1.reverse, hp, fun v d A C g r e => q v d A C (g1.trans (g.lift g1.wf)) r e⟩
theorem ev_callKN {Δ : Dn} {Pre : List PyData → Prop} {f : List PyData → List PyData} {E : XK} {tk : TA} {ds : List PyData} (h : EvA Δ tk ds) (hp : Pre ds.reverse) : Ev Δ (tCallK (spN Pre f) kwG E tNil tk) (.list (f ds.reverse)) := EvN.ev fun pp B σ Hs H En Q q =>
  h pp B σ Hs H En _ fun vs Hs1 H1 g1 r1 => ⟨Hs1, ds.reverse, g1.wf.bare, r1.reverse, hp, fun p xs A C g e1 e2 e3 r => q p xs _ A C (g1.trans (g.lift g1.wf)) (g1.none_of e1) e2 e3 r rfl⟩
theorem rv_mulS {z : Str} {n : Int} (h : MulOk z n) : RV rMulS (.str z) (.int n) fun x => x = .str (Txt.mul z n) := fun pp Hs H x y w r1 r2 Q q => ⟨z, n, r1, r2, h, q.here w (d := .str (Txt.mul z n)) rfl rfl⟩
theorem ev_listRgC {Δ : Dn} {ta : TA} {i j k : Int} {n : Nat} (h : EvA Δ ta [.int i, .int j, .int k]) (hr : RgC i j k n) (hn : n ≤ 100000) : Ev Δ (tLstRgC ta) (.list ((List.range n).map fun l => .int (i + (l : Nat) * k))) := fun pp B σ Hs H E Q q =>
  h pp B σ Hs H E _ fun vs Hs1 H1 g1 r1 => by
    obtain ⟨x, r', rfl, rx, y, r'', rfl, ry, z, r3, rfl, rz, r4⟩ := r1
    cases (show r3 = [] from r4)
    cases (show x = .int i from rx)
    cases (show y = .int j from ry)
    cases (show z = .int k from rz)
    have e : (List.range n).map (fun l => V.int (i + (l : Nat) * k)) = ((List.range n).map fun l : Nat => i + (l : Nat) * k).map V.int := by
      rw [List.map_map]
      rfl
    have e2 : (List.range n).map (fun l => PyData.int (i + (l : Nat) * k)) = ((List.range n).map fun l : Nat => i + (l : Nat) * k).map PyData.int := by
      rw [List.map_map]
      rfl
    refine ⟨i, j, k, n, rfl, hr, hn, ?_⟩
    rw [e]
    exact (q.go g1).newL g1.wf (RpL.ofInts _) (by rw [e2])
def rInt1 : List V → Hp → VK → Prop := fun xs H Q => (∃ i, xs = [.int i] ∧ Q (.int i) H) ∨ ∃ k, xs = [.bl k] ∧ Q (.int (if k then 1 else 0)) H
theorem rc_int1 {i : Int} : RC rInt1 [.int i] fun x => x = .int i := fun pp Hs H xs w r Q q => by
  obtain ⟨x, r', rfl, rx, r2⟩ := r
  cases (show r' = [] from r2)
  cases (show x = .int i from rx)
  exact .inl ⟨i, rfl, q.here w (d := .int _) rfl rfl⟩
def rNotN1 : R2 := fun x y H Q => y = .non ∧ Q (.bl (!decide (x = .non))) H
theorem rv_notN : RV rNotN1 .none .none fun x => x = .bool false := fun pp Hs H x y w r1 r2 Q q => by
  cases (show x = .non from r1)
  exact ⟨r2, q.here w (d := .bool false) rfl rfl⟩
def rJoin (K : PySem.W.Frag) : V → List V → Hp → VK → Prop := fun x xs H Q => ∃ a p, ∃ ys : List Str, x = .str a ∧ xs = [.ref p] ∧ (SqL K H p (ys.map V.str) ∨ SqT K H p (ys.map V.str)) ∧ (ys.map (·.length)).sum + ys.length * a.length ≤ 16777216 ∧ Q (.str (Txt.join a ys)) H
theorem ev_join {K : PySem.W.Frag} {Δ : Dn} {to te : TE} {z : Str} {P : PyData → Prop} {P' : PyData → Prop} (ho : Ev Δ to (.str z)) (h : EvP Δ te P) (hp : ∀ d, P d → ∃ ls : List Str, d = .list (ls.map .str) ∧ (ls.map (·.length)).sum + ls.length * z.length ≤ 10000 ∧ P' (.str (Txt.join z ls))) : EvP Δ (tM1 (rJoin K) to te) P' := fun pp B σ Hs H E Q q =>
  ho pp B σ Hs H E _ fun x d1 Hs1 H1 g1 r1 p1 => by
    subst p1
    refine ⟨⟨z, r1⟩, h pp B σ Hs1 H1 (E.grow g1) _ fun y d2 Hs2 H2 g2 r2 p2 => ?_⟩
    obtain ⟨ls, rfl, hl, hq⟩ := hp d2 p2
    obtain ⟨a, xs, rfl, ha, ra⟩ := r2
    have e : xs = ls.map V.str := ra.strs
    subst e
    exact ⟨z, a, ls, r1, rfl, .inl (.of (g2.wf.le _ _ ha)), by omega, ((q.go (g1.trans g2)).here g2.wf (d := .str _) rfl hq)⟩
end DL
/-! F2: pieces, heights, widths. -/
namespace DL
open PySem L2
open PyProof.Rows (envOfC)
open MM
/-! ### texts of several lines -/
def nlS : Str := "\n"
structure TextOk (s : Str) (ls : List (List Nat)) : Prop where
  lines : Txt.split s nlS = ls.map S
  len : s.length ≤ 10000
  signs : ∀ c ∈ s.cps.toList, c ∈ signsS.cps.toList
  many : ls.length ≤ 60
  each : ∀ l ∈ ls, l.length ≤ 1000
def linesOf (s : Str) : List (List Nat) := (Txt.split s nlS).map fun x => x.cps.toList
theorem TextOk.of {s : Str} {ls : List (List Nat)} (h : TextOk s ls) : linesOf s = ls := by
  unfold linesOf
  rw [h.lines, List.map_map]
  exact List.map_id _
theorem ev_split {Δ : Dn} {te : TE} {s : Str} {ls : List (List Nat)} (hs : TextOk s ls) (h : Ev Δ te (.str s)) :
    Ev Δ (tM1 (fun x xs H Q => ∃ a b, x = .str a ∧ xs = [.str b] ∧ (b.length == 0) = false ∧ a.length + 2 ≤ sizeLine ∧ rNewStrs (Txt.split a b) H Q) te (tC (.str "\n"))) (.list (ls.map dS)) := fun pp B σ Hs H E Q q =>
  h pp B σ Hs H E _ fun x d1 Hs1 H1 g1 r1 p1 => by
    subst p1
    have hl : s.length ≤ 10000 := hs.len
    refine ⟨⟨s, r1⟩, s, nlS, r1, rfl, by decide +kernel, Nat.le_trans (Nat.add_le_add_right hl 2) (by decide), ?_⟩
    rw [hs.lines]
    have e : (ls.map S).map PyData.str = ls.map dS := by rw [List.map_map]; rfl
    exact (q.go g1).newL g1.wf (ds := (ls.map S).map PyData.str) (RpL.ofStrs _) (by rw [e])
theorem sum_cast : ∀ ns : List Nat, (ns.map fun n : Nat => (n : Int)).sum = (ns.sum : Nat)
  | [] => rfl
  | n :: ns => by
    rw [List.map_cons, List.sum_cons, List.sum_cons, sum_cast ns]
    omega
theorem rc_sumN {K : PySem.W.Frag} {α : Type} {as : List α} {f : α → Nat} : RC (rSum K) [.list (as.map fun a => dN (f a))] fun x => x = dN (as.map f).sum := by
  have h := rc_sum (K := K) (ns := (as.map f).map fun n : Nat => (n : Int))
  rw [sum_cast, List.map_map, List.map_map] at h
  exact h
theorem eqvAll_nilR : ∀ ds : List PyData, PyData.eqvAll ds [] = ds.isEmpty
  | [] => by simp only [PyData.eqvAll]; rfl
  | d :: ds => by simp only [PyData.eqvAll]; rfl
theorem eqv_nilR (ds : List PyData) : PyData.eqv (.list ds) (.list []) = ds.isEmpty := by
  rw [PyData.eqv]
  exact eqvAll_nilR ds
/-- a list against the empty one -/
theorem rv_neNil {K : PySem.W.Frag} {ds : List PyData} (h : SeqAt.shaped (.list ds) = true) : RV (rNeA K) (.list ds) (.list []) fun x => x = .bool (!ds.isEmpty) := by
  have := rv_neD (K := K) h (show SeqAt.shaped (.list []) = true from rfl)
  rw [eqv_nilR] at this
  exact this
theorem rv_eqNil {K : PySem.W.Frag} {ds : List PyData} (h : SeqAt.shaped (.list ds) = true) : RV (rEqA K) (.list ds) (.list []) fun x => x = .bool ds.isEmpty := by
  have := rv_eqD (K := K) h (show SeqAt.shaped (.list []) = true from rfl)
  rw [eqv_nilR] at this
  exact this
theorem canLay_all : ∀ ds : List PyData, (∀ d ∈ ds, d.canLay0 = true) → PyData.canLayAll0 ds = true
  | [], _ => rfl
  | d :: ds, h => by
    show (d.canLay0 && PyData.canLayAll0 ds) = true
    rw [h d List.mem_cons_self, canLay_all ds fun x hx => h x (List.mem_cons_of_mem _ hx)]
    rfl
theorem depth_all (m : Nat) : ∀ ds : List PyData, (∀ d ∈ ds, d.depth ≤ m) → PyData.depthAll ds ≤ m
  | [], _ => Nat.zero_le _
  | d :: ds, h => by
    show max d.depth (PyData.depthAll ds) ≤ m
    have h1 := h d List.mem_cons_self
    have h2 := depth_all m ds fun x hx => h x (List.mem_cons_of_mem _ hx)
    omega
/-- data that may be compared -/
def Cmp (m : Nat) (d : PyData) : Prop := d.canLay0 = true ∧ d.depth ≤ m
theorem Cmp.shaped {m : Nat} {d : PyData} (h : Cmp m d) (hm : m ≤ 64) : SeqAt.shaped d = true := by
  unfold SeqAt.shaped
  rw [h.1, decide_eq_true (Nat.le_trans h.2 hm)]
  rfl
theorem cmp_int (i : Int) (m : Nat) : Cmp m (.int i) := ⟨rfl, Nat.zero_le _⟩
theorem cmp_list {m : Nat} {ds : List PyData} (h : ∀ d ∈ ds, Cmp m d) : Cmp (m + 1) (.list ds) := ⟨canLay_all ds fun d hd => (h d hd).1, Nat.succ_le_succ (depth_all m ds fun d hd => (h d hd).2)⟩
theorem cmp_tup {m : Nat} {ds : List PyData} (h : ∀ d ∈ ds, Cmp m d) : Cmp (m + 1) (.tuple ds) := ⟨canLay_all ds fun d hd => (h d hd).1, Nat.succ_le_succ (depth_all m ds fun d hd => (h d hd).2)⟩
theorem sh_ints {α : Type} {as : List α} {f : α → Int} : SeqAt.shaped (.list (as.map fun a => .int (f a))) = true := (cmp_list (m := 0) fun d hd => by
  obtain ⟨a, _, rfl⟩ := List.mem_map.mp hd
  exact cmp_int _ _).shaped (by decide)

abbrev s_pieces : Stmt := topS 17
abbrev nm_pieces : List Str := ["line", "width"]
theorem sc_pieces : FnScope nm_pieces ["line", "width"] (defScope s_pieces) := ⟨rfl, rfl, rfl, by decide +kernel, rfl, by decide +kernel, by decide +kernel⟩
abbrev s_height_at : Stmt := topS 19
abbrev nm_height_at : List Str := ["text", "width", "line"]
theorem sc_height_at : FnScope nm_height_at ["text", "width"] (defScope s_height_at) := ⟨rfl, rfl, rfl, by decide +kernel, rfl, by decide +kernel, by decide +kernel⟩
abbrev s_widest : Stmt := topS 20
abbrev nm_widest : List Str := ["text", "line"]
theorem sc_widest : FnScope nm_widest ["text"] (defScope s_widest) := ⟨rfl, rfl, rfl, by decide +kernel, rfl, by decide +kernel, by decide +kernel⟩
abbrev s_least_width : Stmt := topS 21
abbrev nm_least_width : List Str := ["text", "height", "found", "width"]
theorem sc_least_width : FnScope nm_least_width ["text", "height"] (defScope s_least_width) := ⟨rfl, rfl, rfl, by decide +kernel, rfl, by decide +kernel, by decide +kernel⟩
abbrev s_widths : Stmt := topS 22
abbrev nm_widths : List Str := ["text", "found", "k", "width"]
theorem sc_widths : FnScope nm_widths ["text"] (defScope s_widths) := ⟨rfl, rfl, rfl, by decide +kernel, rfl, by decide +kernel, by decide +kernel⟩
section
variable {P : Program} {w : World} {K : PySem.W.Frag} {mg : Str → Option Value} {base : Heap} {f : Addr} {fd : FuncData}
def spLeast : Sp := spNone fun ds => ∃ i j : Int, ds = [.int i, .int j] ∧ j ≤ i
theorem ev_check_line {Δ : Dn} {E : XK} {ta : TA} {l : List Nat} (h : EvA Δ ta [dS l]) (hl : l.length ≤ 100000) (hs : ∀ c ∈ l, c ∈ lineS.cps.toList) : Ev Δ (tCall (spNone (preSigns lineS)) [] E ta) .none := ev_call (f := fun _ => .none) h ⟨l, rfl, hl, hs⟩
theorem ev_check_text {Δ : Dn} {E : XK} {ta : TA} {s : Str} {ls : List (List Nat)} (hs : TextOk s ls) (h : EvA Δ ta [.str s]) : Ev Δ (tCall (spNone (preSigns signsS)) [] E ta) .none := ev_call (f := fun _ => .none) h ⟨s.cps.toList, rfl, Nat.le_trans (show s.length ≤ 10000 from hs.len) (by decide), hs.signs⟩
theorem ev_check_least {Δ : Dn} {E : XK} {ta : TA} {i j : Int} (h : EvA Δ ta [.int i, .int j]) (hl : j ≤ i) : Ev Δ (tCall spLeast [] E ta) .none := ev_call (f := fun _ => .none) h ⟨i, j, rfl, hl⟩
structure LineOk (l : List Nat) : Prop where
  len : l.length ≤ 1000
  signs : ∀ c ∈ l, c ∈ lineS.cps.toList
def prePieces (ds : List PyData) : Prop := ∃ (l : List Nat) (w : Nat), ds = [dS l, dN w] ∧ LineOk l ∧ 1 ≤ w ∧ w ≤ 1000
def spPieces : Sp := spD prePieces fCut
theorem ev_pieces {Δ : Dn} {E : XK} {ta : TA} {l : List Nat} {w : Nat} (h : EvA Δ ta [dS l, dN w]) (hl : LineOk l) (hw : 1 ≤ w) (hw2 : w ≤ 1000) : Ev Δ (tCall spPieces [] E ta) (.list ((cutN l w).map dS)) := ev_call (f := fCut) h ⟨l, w, rfl, hl, hw, hw2⟩
theorem ok_pieces (F : Fun K "pieces" "pieces" s_pieces f fd) (T : Bt mg) (c_check_line : C8.Cal P w K mg base 2 "check_line" (spNone (preSigns lineS)) []) (c_check_least : C8.Cal P w K mg base 2 "check_least" spLeast []) (c_cut : C8.Cal P w K mg base 2 "cut" spCut []) : FnOk P w K mg base CX0 3 f fd ["line", "width"] spPieces :=
  okD F sc_pieces (fun ds ⟨l, w, e, _⟩ => by rw [e]; rfl) fun cdv A outer s H E hr => by
    refine ⟨_, (pss_cons (ps_expr (C8.pe_c c_check_line hr (by decide) (by rfl) (pa_cons (pv 0) pa_nil))) (pss_cons (ps_expr (C8.pe_c c_check_least hr (by decide) (by rfl) (pa_cons (pv 1) (pa_cons pe_int pa_nil)))) (pss_one (ps_ret (C8.pe_c c_cut hr (by decide) (by rfl) (pa_cons (pv 0) (pa_cons (pv 1) pa_nil))))))), ?_⟩
    rintro ds ⟨l, w, rfl, hl, hw, hw2⟩
    have h1 := hl.len
    show Run [some (.val (dS l)), some (.val (dN w))] _ _ _
    exact q_drop (ev_check_line (ea_cons (ev_var rfl) ea_nil) (by omega) hl.signs) (q_drop (ev_check_least (ea_cons (ev_var rfl) (ea_cons ev_int ea_nil)) (by omega)) (run_retD (ev_cut (ea_cons (ev_var rfl) (ea_cons (ev_var rfl) ea_nil)) (by omega)) rfl))
def fHeight : List PyData → PyData
  | [.str s, .int w] => dN (hN (linesOf s) w.toNat)
  | _ => .none
def spHeight : Sp := spD (fun ds => ∃ (s : Str) (ls : List (List Nat)) (w : Nat), ds = [.str s, dN w] ∧ TextOk s ls) fHeight
theorem ev_height {Δ : Dn} {E : XK} {ta : TA} {s : Str} {ls : List (List Nat)} {w : Nat} (hs : TextOk s ls) (h : EvA Δ ta [.str s, dN w]) : Ev Δ (tCall spHeight [] E ta) (dN (hN ls w)) := by
  have := ev_call (E := E) (f := fHeight) (Pre := fun ds => ∃ (s : Str) (ls : List (List Nat)) (w : Nat), ds = [.str s, dN w] ∧ TextOk s ls) h ⟨s, ls, w, rfl, hs⟩
  refine this.is ?_
  show dN (hN (linesOf s) (w : Int).toNat) = _
  rw [hs.of, Int.toNat_natCast]
theorem ok_height_at (F : Fun K "height_at" "height_at" s_height_at f fd) (T : Bt mg) (c_cut : C8.Cal P w K mg base 2 "cut" spCut []) : FnOk P w K mg base CX0 3 f fd ["text", "width"] spHeight :=
  okD F sc_height_at (fun ds ⟨s, ls, w, e, _⟩ => by rw [e]; rfl) fun cdv A outer s H E hr => by
    refine ⟨_, (pss_one (ps_ret (pe_callB (k_sum (K := K) rfl rfl) (by rfl) T.sum (by decide +kernel) (pa_cons (pe_lc (own := [("line", 2)]) rfl sc_height_at.nd (k_list (K := K) rfl (pe_split (pv 0) pe_str)) (blkOk_by (own := [("line", 2)]) (N := nm_height_at) (sc := (defScope s_height_at)) (by decide +kernel)) (fun _ _ _ _ _ => (pg_name (i := 2) sc_height_at.nd rfl (.inl rfl))) (fun _ _ _ _ _ => pts_nil) (fun _ _ _ _ _ => (pe_callB (k_len (K := K) rfl) (by rfl) T.len (by decide +kernel) (pa_cons (C8.pe_c c_cut hr (by decide) (by rfl) (pa_cons (pv 2) (pa_cons (pv 1) pa_nil))) pa_nil)))) pa_nil)))), ?_⟩
    rintro ds ⟨s, ls, w, rfl, hs⟩
    show Run [some (.val (.str s)), some (.val (dN w)), none] _ _ _
    have hm := hs.many
    refine run_retD (ev_cb (ea_cons (EvN.ev (en_lc1 (ts := [2]) ls dS (fun l => dN (cutN l w).length) (ei_list (ev_split hs (ev_var rfl))) (by omega) (by simp) fun l hl => ⟨_, tg_name, ?_⟩)) ea_nil) rc_sumN) ?_
    · have := hs.each l hl
      exact ev_cb (ea_cons (ev_cut (ea_cons (ev_var rfl) (ea_cons (ev_var rfl) ea_nil)) (by omega)) ea_nil) rc_lenM
    · show _ = dN (hN (linesOf s) (w : Int).toNat)
      rw [hs.of, Int.toNat_natCast]
      rfl
def fWidest : List PyData → PyData
  | [.str s] => dN (widest (linesOf s))
  | _ => .none
def spWidest : Sp := spD (fun ds => ∃ (s : Str) (ls : List (List Nat)), ds = [.str s] ∧ TextOk s ls) fWidest
theorem ev_widest {Δ : Dn} {E : XK} {ta : TA} {s : Str} {ls : List (List Nat)} (hs : TextOk s ls) (h : EvA Δ ta [.str s]) : Ev Δ (tCall spWidest [] E ta) (dN (widest ls)) := by
  have := ev_call (E := E) (f := fWidest) (Pre := fun ds => ∃ (s : Str) (ls : List (List Nat)), ds = [.str s] ∧ TextOk s ls) h ⟨s, ls, rfl, hs⟩
  refine this.is ?_
  show dN (widest (linesOf s)) = _
  rw [hs.of]
theorem rc_widest {K : PySem.W.Frag} {ls : List (List Nat)} : RC (rMaxA K) [.list ([.int 1] ++ ls.map fun l => dN l.length)] fun x => x = dN (widest ls) := by
  have h := rc_maxL (K := K) (ns := 1 :: ls.map fun l => (l.length : Int)) (m := (widest ls : Int)) ?_ ?_
  · rw [List.map_cons, List.map_map] at h
    exact h
  · rcases widest_in ls 1 with e | ⟨l, h1, h2⟩
    · have : widest ls = 1 := e
      rw [this]
      exact List.mem_cons_self
    · have : widest ls = l.length := h2
      rw [this]
      exact List.mem_cons_of_mem _ (List.mem_map.mpr ⟨l, h1, rfl⟩)
  · intro y hy
    rcases List.mem_cons.mp hy with e | e
    · have := widest_pos ls
      omega
    · obtain ⟨l, h1, rfl⟩ := List.mem_map.mp e
      have := widest_ge h1
      omega
theorem ok_widest (F : Fun K "widest" "widest" s_widest f fd) (T : Bt mg) : FnOk P w K mg base CX0 1 f fd ["text"] spWidest :=
  okD F sc_widest (fun ds ⟨s, ls, e, _⟩ => by rw [e]; rfl) fun cdv A outer s H E hr => by
    refine ⟨_, (pss_one (ps_ret (pe_callB (k_max (K := K) rfl rfl) (by rfl) T.max (by decide +kernel) (pa_cons (pe_op op_addA (pe_lst (pa_cons pe_int pa_nil)) (pe_lc (own := [("line", 1)]) rfl sc_widest.nd (k_list (K := K) rfl (pe_split (pv 0) pe_str)) (blkOk_by (own := [("line", 1)]) (N := nm_widest) (sc := (defScope s_widest)) (by decide +kernel)) (fun _ _ _ _ _ => (pg_name (i := 1) sc_widest.nd rfl (.inl rfl))) (fun _ _ _ _ _ => pts_nil) (fun _ _ _ _ _ => (pe_callB (k_len (K := K) rfl) (by rfl) T.len (by decide +kernel) (pa_cons (pv 1) pa_nil))))) pa_nil)))), ?_⟩
    rintro ds ⟨s, ls, rfl, hs⟩
    show Run [some (.val (.str s)), none] _ _ _
    have hm := hs.many
    refine run_retD (ev_cb (ea_cons (ev_op (ev_lst (ea_cons ev_int ea_nil) (by decide)) (EvN.ev (en_lc1 (ts := [1]) ls dS (fun l => dN l.length) (ei_list (ev_split hs (ev_var rfl))) (by omega) (by simp) fun l hl => ⟨_, tg_name, ?_⟩)) (rv_addL ?_)) ea_nil) rc_widest) ?_
    · have := hs.each l hl
      exact ev_cb (ea_cons (ev_var rfl) ea_nil) (rc_lenN (by omega))
    · rw [List.length_map]
      show 1 + ls.length ≤ _
      omega
    · show _ = dN (widest (linesOf s))
      rw [hs.of]
theorem widest_le {ls : List (List Nat)} (h : ∀ l ∈ ls, l.length ≤ 1000) : widest ls ≤ 1000 := by
  rcases widest_in ls 1 with e | ⟨l, h1, h2⟩
  · have : widest ls = 1 := e
    omega
  · have : widest ls = l.length := h2
    have := h l h1
    omega
theorem rng_eq {n m : Nat} (i : Int) (h : i = (n : Int)) (hm : (i - 1).toNat = m := by omega) : rngD 1 (i - 1).toNat = (List.range m).map fun k => .int (1 + (k : Int)) := by
  rw [hm]
  rfl
theorem atN {α : Type} {xs : List α} {z : Int} {j : Nat} {v : α} (e : z = (j : Int)) (h : xs[j]? = some v) : atI xs z = some v := by
  rw [e]
  exact atI_nat h
theorem getR {α : Type} {n i : Nat} (f : Nat → α) (h : i < n) : ((List.range n).map f)[i]? = some (f i) := by
  rw [List.getElem?_map, List.getElem?_range h]
  rfl
def fLeastW : List PyData → PyData
  | [.str s, .int h] => match (fitting (linesOf s) (widest (linesOf s)) h).head? with
    | some n => dN n
    | none => .none
  | _ => .none
def spLeastW : Sp := spD (fun ds => ∃ (s : Str) (ls : List (List Nat)) (h : Int), ds = [.str s, .int h] ∧ TextOk s ls ∧ 1 ≤ h) fLeastW
def optD : Option Nat → PyData
  | some n => dN n
  | none => .none
theorem ev_least_width {Δ : Dn} {E : XK} {ta : TA} {s : Str} {ls : List (List Nat)} {h : Int} (hs : TextOk s ls) (hh : 1 ≤ h) (ha : EvA Δ ta [.str s, .int h]) : Ev Δ (tCall spLeastW [] E ta) (optD (fitting ls (widest ls) h).head?) := by
  have := ev_call (E := E) (f := fLeastW) (Pre := fun ds => ∃ (s : Str) (ls : List (List Nat)) (h : Int), ds = [.str s, .int h] ∧ TextOk s ls ∧ 1 ≤ h) ha ⟨s, ls, h, rfl, hs, hh⟩
  refine this.is ?_
  show (match (fitting (linesOf s) (widest (linesOf s)) h).head? with | some n => dN n | none => .none) = _
  rw [hs.of]
  rfl
theorem ok_least_width (F : Fun K "least_width" "least_width" s_least_width f fd) (T : Bt mg) (c_check_text : C8.Cal P w K mg base 2 "check_text" (spNone (preSigns signsS)) []) (c_check_least : C8.Cal P w K mg base 2 "check_least" spLeast []) (c_widest : C8.Cal P w K mg base 1 "widest" spWidest []) (c_height_at : C8.Cal P w K mg base 3 "height_at" spHeight []) : FnOk P w K mg base CX0 4 f fd ["text", "height"] spLeastW :=
  okD F sc_least_width (fun ds ⟨s, ls, h, e, _⟩ => by rw [e]; rfl) fun cdv A outer s H E hr => by
    refine ⟨_, (pss_cons (ps_expr (C8.pe_c c_check_text hr (by decide) (by rfl) (pa_cons (pv 0) pa_nil))) (pss_cons (ps_expr (C8.pe_c c_check_least hr (by decide) (by rfl) (pa_cons (pv 1) (pa_cons pe_int pa_nil)))) (pss_cons (ps_setLc (i := 2) rfl sc_least_width.nd rfl rfl (sw_true rfl rfl rfl (by decide +kernel)) (pi_range2 (by rfl) T.range (pa_cons pe_int (pa_cons (pe_op op_addA (C8.pe_c c_widest hr (by decide) (by rfl) (pa_cons (pv 0) pa_nil)) pe_int) pa_nil))) (blkOk_by (own := [("width", 3)]) (N := nm_least_width) (sc := (defScope s_least_width)) (by decide +kernel)) (fun _ _ _ _ _ => (pg_name (i := 3) sc_least_width.nd rfl (.inl rfl))) (fun _ _ _ _ _ => (pts_one (pt_cmpR op_le (C8.pe_c c_height_at hr (by decide) (by rfl) (pa_cons (pv 0) (pa_cons (pv 3) pa_nil))) (pv 1) (nomark _)))) (fun _ _ _ _ _ => (pv 3))) (pss_one (ps_ret (pe_ifExp (pt_cmpR (k_ne (K := K) hr.units rfl) (pv 2) (pe_lst pa_nil) (nomark _)) (pe_ix (k_ix (K := K) rfl) (pv 2) pe_int (fun _ _ => rfl)) pe_non)))))), ?_⟩
    rintro ds ⟨s, ls, h, rfl, hs, hh⟩
    show Run [some (.val (.str s)), some (.val (.int h)), none, none] _ _ _
    have hw := widest_le hs.each
    refine q_drop (ev_check_text hs (ea_cons (ev_var rfl) ea_nil)) (q_drop (ev_check_least (ea_cons (ev_var rfl) (ea_cons ev_int ea_nil)) hh) ?_)
    refine q_own (en_lc (ts := [3]) (List.range (widest ls)) (fun k : Nat => .int (1 + (k : Int))) (fun i => decide ((hN ls (i + 1) : Int) ≤ h)) (fun k : Nat => .int (1 + (k : Int))) ((ei_range2 (i := 1) (j := (widest ls : Int) + 1) (ea_cons ev_int (ea_cons (ev_op (ev_widest hs (ea_cons (ev_var rfl) ea_nil)) ev_int rv_addI) ea_nil))).is ?_) (by rw [List.length_range]; omega) (by simp) fun k hk => ⟨_, tg_name, ?_, fun _ => ev_var rfl⟩) ?_
    · rw [show ((widest ls : Int) + 1 - 1).toNat = widest ls by omega]
      rfl
    · refine et_test (ev_op (ev_height (w := k + 1) hs (ea_cons (ev_var rfl) (ea_cons ((ev_var rfl).is ?_) ea_nil))) (ev_var rfl) rv_le)
      show PyData.int _ = PyData.int _
      congr 1
      omega
    · refine run_freeze (i := 2) rfl ?_
      have e0 : ((List.range (widest ls)).filter fun i => decide ((hN ls (i + 1) : Int) ≤ h)).map (fun k : Nat => PyData.int (1 + (k : Int))) = (fitting ls (widest ls) h).map dN := by
        unfold fitting
        rw [List.map_map]
        refine List.map_congr_left fun k _ => ?_
        show PyData.int _ = PyData.int _
        congr 1
        show (1 : Int) + k = ((k + 1 : Nat) : Int)
        omega
      rw [e0]
      refine run_ret (P := fun x => x = fLeastW [.str s, .int h]) (ev_if (et_test (ev_op (ev_var rfl) (ev_lst ea_nil (by decide)) (rv_neNil (sh_ints)))) (fun hb => ?_) fun hb => ?_) fun d e => e
      · show Ev _ _ (match (fitting (linesOf s) (widest (linesOf s)) h).head? with | some n => dN n | none => .none)
        rw [hs.of]
        cases e : fitting ls (widest ls) h with
        | nil =>
          rw [e] at hb
          cases hb
        | cons n r => exact ev_op (ev_var rfl) ev_int (rv_ixL (atI_nat (j := 0) rfl))
      · show Ev _ _ (match (fitting (linesOf s) (widest (linesOf s)) h).head? with | some n => dN n | none => .none)
        rw [hs.of]
        cases e : fitting ls (widest ls) h with
        | nil => exact ev_non
        | cons n r =>
          rw [e] at hb
          cases hb
def fWidths : List PyData → List PyData
  | [.str s] => (falls (linesOf s) (widest (linesOf s) - 1)).map dN
  | _ => []
def spWidths : Sp := spN (fun ds => ∃ (s : Str) (ls : List (List Nat)), ds = [.str s] ∧ TextOk s ls) fWidths
theorem en_widths {Δ : Dn} {E : XK} {ta : TA} {s : Str} {ls : List (List Nat)} (hs : TextOk s ls) (ha : EvA Δ ta [.str s]) : EvN Δ (tCall spWidths [] E ta) ((falls ls (widest ls)).map dN) := by
  have := en_call (E := E) (f := fWidths) (Pre := fun ds => ∃ (s : Str) (ls : List (List Nat)), ds = [.str s] ∧ TextOk s ls) ha ⟨s, ls, rfl, hs⟩
  refine this.is ?_
  show (falls (linesOf s) (widest (linesOf s) - 1)).map dN = _
  rw [hs.of, falls_eq]
theorem ok_widths (F : Fun K "widths" "widths" s_widths f fd) (T : Bt mg) (c_check_text : C8.Cal P w K mg base 2 "check_text" (spNone (preSigns signsS)) []) (c_widest : C8.Cal P w K mg base 1 "widest" spWidest []) (c_height_at : C8.Cal P w K mg base 3 "height_at" spHeight []) : FnOk P w K mg base CX0 4 f fd ["text"] spWidths :=
  okN F sc_widths (fun ds ⟨s, ls, e, _⟩ => by rw [e]; rfl) fun cdv A outer s H E hr => by
    refine ⟨_, (pss_cons (ps_expr (C8.pe_c c_check_text hr (by decide) (by rfl) (pa_cons (pv 0) pa_nil))) (pss_cons (ps_set (i := 1) sc_widths.nd rfl (.inr rfl) (pe_lc (own := [("width", 3)]) rfl sc_widths.nd (pi_range2 (by rfl) T.range (pa_cons pe_int (pa_cons (pe_op op_addA (C8.pe_c c_widest hr (by decide) (by rfl) (pa_cons (pv 0) pa_nil)) pe_int) pa_nil))) (blkOk_by (own := [("width", 3)]) (N := nm_widths) (sc := (defScope s_widths)) (by decide +kernel)) (fun _ _ _ _ _ => (pg_name (i := 3) sc_widths.nd rfl (.inl rfl))) (fun _ _ _ _ _ => pts_nil) (fun _ _ _ _ _ => (C8.pe_c c_height_at hr (by decide) (by rfl) (pa_cons (pv 0) (pa_cons (pv 3) pa_nil)))))) (pss_one (ps_ret (pe_lc (own := [("k", 2)]) rfl sc_widths.nd (pi_range2 (by rfl) T.range (pa_cons pe_int (pa_cons (pe_callB (k_len (K := K) rfl) (by rfl) T.len (by decide +kernel) (pa_cons (pv 1) pa_nil)) pa_nil))) (blkOk_by (own := [("k", 2)]) (N := nm_widths) (sc := (defScope s_widths)) (by decide +kernel)) (fun _ _ _ _ _ => (pg_name (i := 2) sc_widths.nd rfl (.inl rfl))) (fun _ _ _ _ _ => (pts_one (pt_cmpR op_lt (pe_ix (k_ix (K := K) rfl) (pv 1) (pv 2) (fun _ _ => rfl)) (pe_ix (k_ix (K := K) rfl) (pv 1) (pe_op op_sub (pv 2) pe_int) (fun _ _ => rfl)) (nomark _)))) (fun _ _ _ _ _ => (pe_op op_addA (pv 2) pe_int))))))), ?_⟩
    rintro ds ⟨s, ls, rfl, hs⟩
    show Run [some (.val (.str s)), none, none, none] _ _ _
    have hw := widest_le hs.each
    have hp := widest_pos ls
    refine q_drop (ev_check_text hs (ea_cons (ev_var rfl) ea_nil)) ?_
    refine q_own (en_lc1 (ts := [3]) (List.range (widest ls)) (fun k : Nat => .int (1 + (k : Int))) (fun k : Nat => dN (hN ls (k + 1))) ((ei_range2 (i := 1) (j := (widest ls : Int) + 1) (ea_cons ev_int (ea_cons (ev_op (ev_widest hs (ea_cons (ev_var rfl) ea_nil)) ev_int rv_addI) ea_nil))).is ?_) (by rw [List.length_range]; omega) (by simp) fun k hk => ⟨_, tg_name, ?_⟩) ?_
    · rw [show ((widest ls : Int) + 1 - 1).toNat = widest ls by omega]
      rfl
    · refine ev_height (w := k + 1) hs (ea_cons (ev_var rfl) (ea_cons ((ev_var rfl).is ?_) ea_nil))
      show PyData.int _ = PyData.int _
      congr 1
      omega
    · refine run_freeze (i := 1) rfl ?_
      refine run_retN (en_lc (ts := [2]) (List.range (widest ls - 1)) (fun k : Nat => .int (1 + (k : Int))) (fun i => decide (hN ls (i + 2) < hN ls (i + 1))) (fun k : Nat => .int (1 + (k : Int) + 1)) ((ei_range2 (i := 1) (j := (widest ls : Int)) (ea_cons ev_int (ea_cons ((ev_cb (ea_cons (ev_var rfl) ea_nil) rc_lenM).is ?_) ea_nil))).is ?_) (by rw [List.length_range]; omega) (by simp) fun k hk => ⟨_, tg_name, ?_, fun _ => ev_op (ev_var rfl) ev_int rv_addI⟩) fun d e => ?_
      · show PyData.int _ = PyData.int _
        rw [List.length_range]
      · rw [show ((widest ls : Int) - 1).toNat = widest ls - 1 by omega]
        rfl
      · have hk' := List.mem_range.mp hk
        have ix : ∀ (j : Nat) (z : Int), z = (j : Int) → j < widest ls → atI ((List.range (widest ls)).map fun k : Nat => dN (hN ls (k + 1))) z = some (dN (hN ls (j + 1))) := fun j z e h => atN e (getR (fun k : Nat => dN (hN ls (k + 1))) h)
        refine (et_test (ev_op (ev_op (ev_var rfl) (ev_var rfl) (rv_ixL (ix (k + 1) _ (by omega) (by omega)))) (ev_op (ev_var rfl) (ev_op (ev_var rfl) ev_int rv_sub) (rv_ixL (ix k _ (by omega) (by omega)))) rv_lt)).is ?_
        rw [decide_eq_decide]
        show ((hN ls (k + 2) : Nat) : Int) < ((hN ls (k + 1) : Nat) : Int) ↔ _
        omega
      · rw [e]
        show _ = (falls (linesOf s) (widest (linesOf s) - 1)).map dN
        rw [hs.of]
        unfold falls
        rw [List.map_map]
        refine List.map_congr_left fun k _ => ?_
        show PyData.int _ = PyData.int _
        congr 1
        show (1 : Int) + k + 1 = ((k + 2 : Nat) : Int)
        omega
end
end DL
/-! F3: smooth. -/
namespace DL
open PySem L2
open PyProof.Rows (envOfC)
open PySem.W (DatumOrd Datum minOf)
open MM
theorem en_mulL {Δ : Dn} {ta tb : TE} {as : List PyData} {j : Int} (ha : Ev Δ ta (.list as)) (hb : Ev Δ tb (.int j)) (h0 : 0 ≤ j) (h1 : j ≤ 100000) (h : as.length * j.toNat ≤ 100000) : EvN Δ (tOp rMulA ta tb) (List.replicate j.toNat as).flatten := fun pp B σ Hs H E Q q =>
  ha pp B σ Hs H E _ fun x d1 Hs1 H1 g1 r1 p1 => hb pp B σ Hs1 H1 (E.grow g1) _ fun y d2 Hs2 H2 g2 r2 p2 => by
    subst p1 p2
    obtain ⟨a, xs, rfl, hx, rx⟩ := Rp.mono g2.s _ _ r1
    have g := g1.trans g2
    exact .inr ⟨a, j, xs, rfl, r2, g2.wf.le _ _ hx, by omega, by omega, by rw [rx.length]; exact Nat.le_trans h (by decide), fun p hp =>
      q p _ _ Hs2 _ (g.trans (.mine g2.wf hp)) (g.none_of hp) (g2.wf.none_of hp) upd_same (rx.flat _) rfl⟩
theorem cut_ab {α : Type} {s : List Nat} {f : Nat → α} {a b : Nat} (h1 : a ≤ b) (h2 : b ≤ s.length) : cutG (s.map f) (some (a : Int)) (some (b : Int)) = ((s.drop a).take (b - a)).map f := by
  unfold cutG
  rw [HT.sIx_nat, HT.sIx_nat, List.length_map, Nat.min_eq_left h2, Nat.min_eq_left (by omega : a ≤ s.length), List.map_take, List.map_drop]
theorem cut_0b {α : Type} {s : List Nat} {f : Nat → α} {b : Nat} (h2 : b ≤ s.length) : cutG (s.map f) none (some (b : Int)) = (s.take b).map f := by
  unfold cutG
  rw [HT.sIx_nat, HT.sIx_none, List.length_map, Nat.min_eq_left h2, List.map_take]
  rfl
theorem rc_sumL {K : PySem.W.Frag} {s : List Nat} : RC (rSum K) [.list (s.map dN)] fun x => x = dN s.sum := by
  have h := rc_sumN (K := K) (as := s) (f := id)
  rw [List.map_id] at h
  exact h
def natP (b : Nat) (p : Nat × Nat) : Int × Int := ((p.1 : Int), (b : Int) + (p.2 : Int))
theorem lt_natP (b : Nat) (x y : Nat × Nat) : DatumOrd.lt (natP b x) (natP b y) = MM.lexLt x y := by
  show (if (natP b x).1 = (natP b y).1 then decide ((natP b x).2 < (natP b y).2) else decide ((natP b x).1 < (natP b y).1)) = _
  unfold natP MM.lexLt
  by_cases e : x.1 = y.1
  · rw [if_pos (by show (x.1 : Int) = y.1; omega), decide_eq_false (by omega : ¬ x.1 < y.1), decide_eq_true e, Bool.false_or, Bool.true_and, decide_eq_decide]
    show (b : Int) + x.2 < b + y.2 ↔ _
    omega
  · rw [if_neg (by show ¬ (x.1 : Int) = y.1; omega), decide_eq_false e, Bool.false_and, Bool.or_false, decide_eq_decide]
    show (x.1 : Int) < y.1 ↔ _
    omega
theorem min_natP (b : Nat) : ∀ (r : List (Nat × Nat)) (x : Nat × Nat), minOf (natP b x) (r.map (natP b)) = natP b (r.foldl (fun m y => if MM.lexLt y m = true then y else m) x)
  | [], x => rfl
  | y :: r, x => by
    have ih := fun z => min_natP b r z
    unfold minOf at ih ⊢
    rw [List.map_cons, List.foldl_cons, List.foldl_cons, lt_natP]
    by_cases e : MM.lexLt y x = true
    · rw [if_pos e, if_pos e]
      exact ih y
    · rw [if_neg e, if_neg e]
      exact ih x
theorem rc_minC {K : PySem.W.Frag} {b : Nat} {L : List (Nat × Nat)} (h : L ≠ []) : RC (rMinP K) [.list (L.map fun p => pD (natP b p))] fun x => x = pD (natP b (minP L)) := by
  cases L with
  | nil => exact absurd rfl h
  | cons x r =>
    have g := rc_minP (K := K) (p := natP b x) (ps := r.map (natP b))
    rw [min_natP, ← List.map_cons, List.map_map] at g
    exact g
theorem ev_max {Δ : Dn} {K : PySem.W.Frag} {ta : TA} {w z : Nat} (h : EvA Δ ta [.int 0, .int ((w : Int) - (z : Int))]) : Ev Δ (tCB (rMaxA K) ta) (dN (w - z)) := by
  refine (ev_cb h rc_max2).is ?_
  show PyData.int _ = PyData.int _
  congr 1
  split <;> omega
theorem pow2 (a : Nat) : ((a : Int) ^ (2 : Int).toNat) = ((a ^ 2 : Nat) : Int) := by
  show (a : Int) ^ 2 = _
  rw [Int.natCast_pow]
theorem startsF_step {w : Nat} {s : List Nat} {k : Nat} (h : k < s.length) : startsF w s s.length k = (s.take k).sum :: startsF w s s.length (k + jump w (s.drop k)) := by
  obtain ⟨n, hn⟩ : ∃ n, s.length = n + 1 := ⟨s.length - 1, by omega⟩
  have hne : s.drop k ≠ [] := fun z => by
    have hl : (s.drop k).length = 0 := by rw [z]; rfl
    rw [List.length_drop] at hl
    omega
  obtain ⟨j1, j2, _, _⟩ := jump_spec (w := w) hne
  rw [List.length_drop] at j2
  have e : startsF w s (n + 1) k = (s.take k).sum :: startsF w s n (k + jump w (s.drop k)) := by
    show (if k < s.length then (s.take k).sum :: startsF w s n (k + jump w (s.drop k)) else []) = _
    rw [if_pos h]
  rw [hn, e, startsF_fuel w s n (n + 1) _ (by omega) (by omega) (by omega)]
theorem startsF_end {w : Nat} {s : List Nat} (n : Nat) : startsF w s n s.length = [] := by
  cases n with
  | zero => rfl
  | succ n =>
    unfold startsF
    rw [if_neg (by omega)]
/-- the table of least costs, filled from m on -/
def bestE (w : Nat) (s : List Nat) (m k : Nat) : PyData := if m ≤ k ∧ k < s.length then pD (natP k (MM.hd w (s.drop k))) else pD (0, 0)
def bestT (w : Nat) (s : List Nat) (m : Nat) : List PyData := (List.range (s.length + 1)).map (bestE w s m)
theorem bestT_get {w : Nat} {s : List Nat} {m k : Nat} (h : k ≤ s.length) : (bestT w s m)[k]? = some (bestE w s m k) := getR _ (by omega)
theorem bestT_length (w : Nat) (s : List Nat) (m : Nat) : (bestT w s m).length = s.length + 1 := by unfold bestT; rw [List.length_map, List.length_range]
theorem bestT_set {w : Nat} {s : List Nat} {m : Nat} (h : m < s.length) : (bestT w s (m + 1)).set m (pD (natP m (MM.hd w (s.drop m)))) = bestT w s m := by
  refine List.ext_getElem? fun j => ?_
  by_cases hj : j ≤ s.length
  · rw [bestT_get hj]
    by_cases e : j = m
    · rw [e, set_at _ (by rw [bestT_length]; omega)]
      unfold bestE
      rw [if_pos ⟨Nat.le_refl _, h⟩]
    · rw [set_off _ e, bestT_get hj]
      unfold bestE
      have : (m + 1 ≤ j ∧ j < s.length) ↔ (m ≤ j ∧ j < s.length) := by omega
      simp only [this]
  · rw [List.getElem?_eq_none (by rw [List.length_set, bestT_length]; omega), List.getElem?_eq_none (by rw [bestT_length]; omega)]
theorem bestE_cost {w : Nat} {s : List Nat} {m k : Nat} (h1 : m ≤ k) (h2 : k ≤ s.length) : ∃ y, bestE w s m k = .tuple [dN (cost w (s.drop k)), y] := by
  unfold bestE
  by_cases e : k < s.length
  · rw [if_pos ⟨h1, e⟩]
    exact ⟨_, rfl⟩
  · have : k = s.length := by omega
    rw [if_neg (fun z => e z.2), this, List.drop_length]
    exact ⟨_, rfl⟩
theorem bestE_jump {w : Nat} {s : List Nat} {k : Nat} (h : k < s.length ∨ k = 0) : ∃ x, bestE w s 0 k = .tuple [x, dN (k + jump w (s.drop k))] := by
  unfold bestE
  by_cases e : k < s.length
  · rw [if_pos ⟨Nat.zero_le _, e⟩]
    exact ⟨_, rfl⟩
  · have e0 : k = 0 := by omega
    have : s = [] := List.length_eq_zero_iff.mp (by omega)
    rw [if_neg (fun z => e z.2), this, e0]
    exact ⟨_, rfl⟩
theorem rep_best (w : Nat) (s : List Nat) : (List.replicate (s.length + 1) [PyData.tuple [.int 0, .int 0]]).flatten = bestT w s s.length := by
  have h : ∀ n : Nat, (List.replicate n [PyData.tuple [.int 0, .int 0]]).flatten = List.replicate n (PyData.tuple [.int 0, .int 0]) := fun n => by
    induction n with
    | zero => rfl
    | succ n ih =>
      rw [List.replicate_succ, List.flatten_cons, ih]
      rfl
  rw [h]
  refine List.ext_getElem? fun j => ?_
  by_cases hj : j ≤ s.length
  · rw [bestT_get hj, List.getElem?_replicate, if_pos (by omega)]
    unfold bestE
    rw [if_neg (by omega)]
    rfl
  · rw [List.getElem?_eq_none (by rw [List.length_replicate]; omega), List.getElem?_eq_none (by rw [bestT_length]; omega)]
abbrev s_smooth : Stmt := topS 23
abbrev nm_smooth : List Str := ["line", "width", "sizes", "best", "first", "tried", "last", "size", "free", "starts", "at", "chunk"]
theorem sc_smooth : FnScope nm_smooth ["line", "width"] (defScope s_smooth) := ⟨rfl, rfl, rfl, by decide +kernel, rfl, by decide +kernel, by decide +kernel⟩
section
variable {P : Program} {w : World} {K : PySem.W.Frag} {mg : Str → Option Value} {base : Heap} {f : Addr} {fd : FuncData}
def smoothD (r : Nat × List Nat) : PyData := .tuple [dN r.1, .list (r.2.map dN)]
def fSmooth : List PyData → PyData
  | [.str s, .int w] => smoothD (smoothN s.cps.toList w.toNat)
  | _ => .none
def spSmooth : Sp := spD prePieces fSmooth
theorem ev_smooth {Δ : Dn} {E : XK} {ta : TA} {l : List Nat} {w : Nat} (h : EvA Δ ta [dS l, dN w]) (hl : LineOk l) (hw : 1 ≤ w) (hw2 : w ≤ 1000) : Ev Δ (tCall spSmooth [] E ta) (smoothD (smoothN l w)) := ev_call (f := fSmooth) h ⟨l, w, rfl, hl, hw, hw2⟩
theorem ok_smooth (F : Fun K "smooth" "smooth" s_smooth f fd) (T : Bt mg) (c_check_line : C8.Cal P w K mg base 2 "check_line" (spNone (preSigns lineS)) []) (c_check_least : C8.Cal P w K mg base 2 "check_least" spLeast []) (c_chunks : C8.Cal P w K mg base 1 "chunks" spChunks []) : FnOk P w K mg base CX0 3 f fd ["line", "width"] spSmooth :=
  okD F sc_smooth (fun ds ⟨l, w, e, _⟩ => by rw [e]; rfl) fun cdv A outer s H E hr => by
    refine ⟨_, (pss_cons (ps_expr (C8.pe_c c_check_line hr (by decide) (by rfl) (pa_cons (pv 0) pa_nil))) (pss_cons (ps_expr (C8.pe_c c_check_least hr (by decide) (by rfl) (pa_cons (pv 1) (pa_cons pe_int pa_nil)))) (pss_cons (ps_setLc (i := 2) rfl sc_smooth.nd rfl rfl (sw_true rfl rfl rfl (by decide +kernel)) (k_list (K := K) rfl (C8.pe_c c_chunks hr (by decide) (by rfl) (pa_cons (pv 0) pa_nil))) (blkOk_by (own := [("chunk", 11)]) (N := nm_smooth) (sc := (defScope s_smooth)) (by decide +kernel)) (fun _ _ _ _ _ => (pg_name (i := 11) sc_smooth.nd rfl (.inl rfl))) (fun _ _ _ _ _ => pts_nil) (fun _ _ _ _ _ => (pe_callB (k_len (K := K) rfl) (by rfl) T.len (by decide +kernel) (pa_cons (pv 11) pa_nil)))) (pss_cons (ps_set (i := 3) sc_smooth.nd rfl (.inl rfl) (pe_op op_mulA (pe_lst (pa_cons (pe_tup (pa_cons pe_int (pa_cons pe_int pa_nil))) pa_nil)) (pe_op op_addA (pe_callB (k_len (K := K) rfl) (by rfl) T.len (by decide +kernel) (pa_cons (pv 2) pa_nil)) pe_int))) (pss_cons (ps_for PassesOwn.never rfl (pi_range3 (by rfl) T.range (pa_cons (pe_op op_sub (pe_callB (k_len (K := K) rfl) (by rfl) T.len (by decide +kernel) (pa_cons (pv 2) pa_nil)) pe_int) (pa_cons (pe_un un_neg pe_int) (pa_cons (pe_un un_neg pe_int) pa_nil)))) (pg_name (i := 4) sc_smooth.nd rfl (.inl rfl)) (pss_cons (ps_set (i := 5) sc_smooth.nd rfl (.inl rfl) (pe_lst pa_nil)) (pss_cons (ps_for PassesOwn.never rfl (pi_range2 (by rfl) T.range (pa_cons (pe_op op_addA (pv 4) pe_int) (pa_cons (pe_op op_addA (pe_callB (k_len (K := K) rfl) (by rfl) T.len (by decide +kernel) (pa_cons (pv 2) pa_nil)) pe_int) pa_nil))) (pg_name (i := 6) sc_smooth.nd rfl (.inl rfl)) (pss_cons (ps_set (i := 7) sc_smooth.nd rfl (.inl rfl) (pe_callB (k_sum (K := K) rfl rfl) (by rfl) T.sum (by decide +kernel) (pa_cons (pe_slice (k_sl (K := K) rfl) (pv 2) (po_some (pv 4)) (po_some (pv 6))) pa_nil))) (pss_one (ps_if (PW.pt (pw_or (pt_cmpR op_le (pv 7) (pv 1) (nomark _)) (pw_or1 (pt_cmpR (k_eq (K := K) hr.units rfl) (pv 6) (pe_op op_addA (pv 4) pe_int) (nomark _))))) (pss_cons (ps_set (i := 8) sc_smooth.nd rfl (.inl rfl) (pe_ifExp (pt_cmpR (k_eq (K := K) hr.units rfl) (pv 6) (pe_callB (k_len (K := K) rfl) (by rfl) T.len (by decide +kernel) (pa_cons (pv 2) pa_nil)) (nomark _)) pe_int (pe_op op_pow (pe_callB (k_max (K := K) rfl rfl) (by rfl) T.max (by decide +kernel) (pa_cons pe_int (pa_cons (pe_op op_sub (pv 1) (pv 7)) pa_nil))) pe_int))) (pss_one (ps_expr (pe_bm PySem.F.plainAttrs_list PySem.F.slot_list_append PySem.F.type_list_append mt_append (pv 5) (pa_cons (pe_tup (pa_cons (pe_op op_addA (pv 8) (pe_ix (k_ix (K := K) rfl) (pe_ix (k_ix (K := K) rfl) (pv 3) (pv 6) (fun _ _ => rfl)) pe_int (fun _ _ => rfl))) (pa_cons (pv 6) pa_nil))) pa_nil))))) pss_nil)))) (pss_one (ps_asg (pe_callB (k_minP (K := K) rfl hr.units rfl) (by rfl) T.min (by decide +kernel) (pa_cons (pv 5) pa_nil)) (pg_sub (pv 3) (pv 4) set_list)))))) (pss_cons (ps_set (i := 9) sc_smooth.nd rfl (.inl rfl) (pe_lst (pa_cons pe_int pa_nil))) (pss_cons (ps_set (i := 10) sc_smooth.nd rfl (.inl rfl) (pe_ix (k_ix (K := K) rfl) (pe_ix (k_ix (K := K) rfl) (pv 3) pe_int (fun _ _ => rfl)) pe_int (fun _ _ => rfl))) (pss_cons (ps_while PassesOwn.never (pt_cmpR op_lt (pv 10) (pe_callB (k_len (K := K) rfl) (by rfl) T.len (by decide +kernel) (pa_cons (pv 2) pa_nil)) (nomark _)) (pss_cons (ps_expr (pe_bm PySem.F.plainAttrs_list PySem.F.slot_list_append PySem.F.type_list_append mt_append (pv 9) (pa_cons (pe_callB (k_sum (K := K) rfl rfl) (by rfl) T.sum (by decide +kernel) (pa_cons (pe_slice (k_sl (K := K) rfl) (pv 2) po_none (po_some (pv 10))) pa_nil)) pa_nil))) (pss_one (ps_set (i := 10) sc_smooth.nd rfl (.inl rfl) (pe_ix (k_ix (K := K) rfl) (pe_ix (k_ix (K := K) rfl) (pv 3) (pv 10) (fun _ _ => rfl)) pe_int (fun _ _ => rfl)))))) (pss_one (ps_ret (pe_tup (pa_cons (pe_ix (k_ix (K := K) rfl) (pe_ix (k_ix (K := K) rfl) (pv 3) pe_int (fun _ _ => rfl)) pe_int (fun _ _ => rfl)) (pa_cons (pv 9) pa_nil))))))))))))), ?_⟩
    rintro ds ⟨l, w, rfl, hl, hw, hw2⟩
    have h1 := hl.len
    show Run [some (.val (dS l)), some (.val (dN w)), none, none, none, none, none, none, none, none, none, none] _ _ _
    refine q_drop (ev_check_line (ea_cons (ev_var rfl) ea_nil) (by omega) hl.signs) (q_drop (ev_check_least (ea_cons (ev_var rfl) (ea_cons ev_int ea_nil)) (by omega)) ?_)
    have hc1 := chunks_len l
    refine q_own (en_lc1 (ts := [11]) (chunksN l) dS (fun c => dN c.length) (ei_list (ev_chunks (ea_cons (ev_var rfl) ea_nil) (by omega))) (by omega) (by simp) fun c hc => ⟨_, tg_name, ?_⟩) ?_
    · have := chunk_len hc
      exact ev_cb (ea_cons (ev_var rfl) ea_nil) (rc_lenN (by omega))
    refine run_freeze (i := 2) rfl ?_
    have e0 : (chunksN l).map (fun c => dN c.length) = (sizesN l).map dN := by
      unfold sizesN
      rw [List.map_map]
      rfl
    rw [e0]
    have hs1 := sizes_len l
    generalize hS : sizesN l = sz
    rw [hS] at hs1
    have ssum : sz.sum ≤ 1000 := by
      rw [← hS, sizes_sum]
      omega
    have len2 : ∀ {Δ : Dn}, Δ[2]? = some (some (.val (.list (sz.map dN)))) → Ev Δ (tCB (rLenA K) (tCons (tVar 2) tNil)) (dN sz.length) := fun h => ev_cb (ea_cons (ev_var h) ea_nil) rc_lenM
    refine q_own ((en_mulL (j := ((sz.length + 1 : Nat) : Int)) (ev_lst (ea_cons (ev_tup (ea_cons ev_int (ea_cons ev_int ea_nil)) (by decide)) ea_nil) (by simp)) ((ev_op (len2 rfl) ev_int rv_addI).is (by congr 1)) (by omega) (by omega) (by show 1 * _ ≤ _; omega)).is (d' := bestT w sz sz.length) (by rw [Int.toNat_natCast]; exact rep_best w sz)) ?_
    -- the table
    refine q_for (ts := [4]) (fun k Δ => ∃ z4 z5 z6 z7 z8, Δ = [some (.val (dS l)), some (.val (dN w)), some (.val (.list (sz.map dN))), some (.own (bestT w sz (sz.length - k))), z4, z5, z6, z7, z8, none, none, none])
      ((ei_down (i := (sz.length : Int) - 1) (j := -1) (ea_cons (ev_op (len2 rfl) ev_int rv_sub) (ea_cons (ev_neg ev_int) (ea_cons (ev_neg ev_int) ea_nil)))).is (show dwnD ((sz.length : Int) - 1) ((sz.length : Int) - 1 - -1).toNat = dwnD ((sz.length : Int) - 1) sz.length by congr 1; omega)) ⟨none, none, none, none, none, rfl⟩ (fun k d Δk hd hI => ?_) fun Δ' hI => ?_
    · obtain ⟨z4, z5, z6, z7, z8, rfl⟩ := hI
      obtain ⟨hk, rfl⟩ := dwnD_get hd
      obtain ⟨m, hm⟩ : ∃ m, sz.length - k = m + 1 := ⟨sz.length - k - 1, by omega⟩
      have em : ((sz.length : Int) - 1 - (k : Int)) = (m : Int) := by omega
      have em2 : sz.length - (k + 1) = m := by omega
      have hmn : m < sz.length := by omega
      rw [hm, em, em2]
      refine ⟨_, tg_name, ?_⟩
      show Run [some (.val (dS l)), some (.val (dN w)), some (.val (.list (sz.map dN))), some (.own (bestT w sz (m + 1))), some (.val (dN m)), z5, z6, z7, z8, none, none, none] _ _ _
      refine q_own (en_lst ea_nil (by decide)) ?_
      let r := sz.drop m
      have hr1 : r.length = sz.length - m := List.length_drop
      let D := dp w (sz.drop (m + 1))
      let Fc := fun j : Nat => decide ((r.take (j + 1)).sum ≤ w) || decide (j = 0)
      let Gc := fun j : Nat => ((if j + 1 = r.length then 0 else (w - (r.take (j + 1)).sum) ^ 2) + (D.getD j (0, 0)).1, j + 1)
      have hcands : cands w r D = ((List.range r.length).filter Fc).map Gc := rfl
      refine q_for (ts := [6]) (fun j Δ => ∃ z6 z7 z8, Δ = [some (.val (dS l)), some (.val (dN w)), some (.val (.list (sz.map dN))), some (.own (bestT w sz (m + 1))), some (.val (dN m)), some (.own ((((List.range j).filter Fc).map Gc).map fun p => pD (natP m p))), z6, z7, z8, none, none, none])
        ((ei_range2 (i := (m : Int) + 1) (j := (sz.length : Int) + 1) (ea_cons (ev_op (ev_var rfl) ev_int rv_addI) (ea_cons (ev_op (len2 rfl) ev_int rv_addI) ea_nil))).is (show rngD ((m : Int) + 1) ((sz.length : Int) + 1 - ((m : Int) + 1)).toNat = rngD ((m : Int) + 1) r.length by congr 1; omega)) ⟨z6, z7, z8, rfl⟩ (fun j d Δj hd hI => ?_) fun Δ' hI => ?_
      · obtain ⟨z6, z7, z8, rfl⟩ := hI
        obtain ⟨hj, rfl⟩ := rngD_get hd
        have el : ((m : Int) + 1 + (j : Int)) = ((m + 1 + j : Nat) : Int) := by omega
        rw [el]
        refine ⟨_, tg_name, ?_⟩
        show Run [some (.val (dS l)), some (.val (dN w)), some (.val (.list (sz.map dN))), some (.own (bestT w sz (m + 1))), some (.val (dN m)), some (.own ((((List.range j).filter Fc).map Gc).map fun p => pD (natP m p))), some (.val (dN (m + 1 + j))), z7, z8, none, none, none] _ _ _
        have hcut : cutG (sz.map dN) (some ((m : Nat) : Int)) (some ((m + 1 + j : Nat) : Int)) = (r.take (j + 1)).map dN := by
          rw [cut_ab (by omega) (by omega), show m + 1 + j - m = j + 1 by omega]
        have hsum : (r.take (j + 1)).sum ≤ 1000 := by
          have a1 : sz.sum = (sz.take m).sum + r.sum := by rw [← List.sum_append, List.take_append_drop]
          have a2 : r.sum = (r.take (j + 1)).sum + (r.drop (j + 1)).sum := by rw [← List.sum_append, List.take_append_drop]
          omega
        refine q_asg (d := dN (r.take (j + 1)).sum) (ev_cb (ea_cons ((ev_slL (ev_var rfl) (eo_some (ev_var rfl)) (eo_some (ev_var rfl))).is (congrArg PyData.list hcut)) ea_nil) rc_sumL) ?_
        refine run_if (b := Fc j) ((et_or (et_test (ev_op (ev_var rfl) (ev_var rfl) rv_le)) fun _ => et_test (ev_op (ev_var rfl) (ev_op (ev_var rfl) ev_int rv_addI) rv_eqI)).is ?_) (fun hb => ?_) fun hb => ?_
        · show (decide (((r.take (j + 1)).sum : Int) ≤ (w : Int)) || decide (((m + 1 + j : Nat) : Int) = (m : Int) + 1)) = (decide _ || decide _)
          congr 1
          · rw [decide_eq_decide]
            omega
          · rw [decide_eq_decide]
            omega
        · have hfr : Ev (List.set [some (.val (dS l)), some (.val (dN w)), some (.val (.list (sz.map dN))), some (.own (bestT w sz (m + 1))), some (.val (dN m)), some (.own ((((List.range j).filter Fc).map Gc).map fun p => pD (natP m p))), some (.val (dN (m + 1 + j))), z7, z8, none, none, none] 7 (some (.val (dN (r.take (j + 1)).sum)))) (tIf (tTest (tOp (rEqA K) (tVar 6) (tCB (rLenA K) (tCons (tVar 2) tNil)))) (tC (.int 0)) (tOp (rI CPow fun i j => .int (i ^ j.toNat)) (tCB (rMaxA K) (tCons (tC (.int 0)) (tCons (tOp (rI0 fun i j => .int (i - j)) (tVar 1) (tVar 7)) tNil))) (tC (.int 2)))) (dN (if j + 1 = r.length then 0 else (w - (r.take (j + 1)).sum) ^ 2)) := by
            refine ev_if (b := decide (j + 1 = r.length)) ((et_test (ev_op (ev_var rfl) (len2 rfl) rv_eqI)).is (by rw [decide_eq_decide]; omega)) (fun hb => ?_) fun hb => ?_
            · rw [if_pos (of_decide_eq_true hb)]
              exact ev_int
            · rw [if_neg (of_decide_eq_false hb)]
              refine (ev_op (ev_max (w := w) (z := (r.take (j + 1)).sum) (ea_cons ev_int (ea_cons (ev_op (ev_var rfl) (ev_var rfl) rv_sub) ea_nil))) ev_int (rv_pow ⟨by omega, by omega, ?_⟩)).is (congrArg PyData.int (pow2 _))
              have : w - (r.take (j + 1)).sum ≤ 1000 := by omega
              show ((w - (r.take (j + 1)).sum : Nat) : Int).natAbs < 2 ^ 64
              omega
          refine q_asg hfr ?_
          obtain ⟨y, hy⟩ := bestE_cost (w := w) (s := sz) (m := m + 1) (k := m + 1 + j) (by omega) (by omega)
          refine run_app rfl (ev_tup (ea_cons (ev_op (ev_var rfl) (ev_op (ev_ixOwn rfl (ev_var rfl) ((atI_nat (bestT_get (by omega))).trans (congrArg some hy))) ev_int (rv_ixT (atI_nat (j := 0) rfl))) rv_addI) (ea_cons (ev_var rfl) ea_nil)) (by simp)) ?_ fun d e => ?_
          · rw [List.length_map, List.length_map]
            have := List.length_filter_le Fc (List.range j)
            rw [List.length_range] at this
            omega
          · refine ⟨_, _, _, congrArg (fun q => [some (.val (dS l)), some (.val (dN w)), some (.val (.list (sz.map dN))), some (.own (bestT w sz (m + 1))), some (.val (dN m)), some (Cell.own q), some (.val (dN (m + 1 + j))), _, _, none, none, none]) ?_⟩
            rw [List.range_succ, List.filter_append, List.filter_cons, if_pos hb, List.map_append, List.map_append, e]
            congr 1
            show [_] = [pD (natP m (Gc j))]
            congr 1
            have ed : (D.getD j (0, 0)).1 = cost w (sz.drop (m + 1 + j)) := by
              show ((dp w (sz.drop (m + 1))).getD j (0, 0)).1 = _
              rw [dp_get w _ j (by rw [List.length_drop]; omega), List.drop_drop]
              rfl
            show PyData.tuple [.int _, .int _] = PyData.tuple [.int _, .int _]
            congr 2
            · show PyData.int (((if j + 1 = r.length then 0 else (w - (r.take (j + 1)).sum) ^ 2 : Nat) : Int) + (cost w (sz.drop (m + 1 + j)) : Int)) = PyData.int (((if j + 1 = r.length then 0 else (w - (r.take (j + 1)).sum) ^ 2) + (D.getD j (0, 0)).1 : Nat) : Int)
              rw [ed]
              congr 1
            · congr 1
              show PyData.int ((m + 1 + j : Nat) : Int) = PyData.int ((m : Int) + ((j + 1 : Nat) : Int))
              congr 1
              omega
        · refine run_nil ⟨_, _, _, congrArg (fun q => [some (.val (dS l)), some (.val (dN w)), some (.val (.list (sz.map dN))), some (.own (bestT w sz (m + 1))), some (.val (dN m)), some (Cell.own q), some (.val (dN (m + 1 + j))), _, _, none, none, none]) ?_⟩
          rw [List.range_succ, List.filter_append, List.filter_cons, if_neg (by rw [hb]; decide), List.filter_nil, List.append_nil]
      · obtain ⟨z6, z7, z8, rfl⟩ := hI
        rw [rngD_length]
        have hne : cands w r D ≠ [] := by
          cases hr2 : r with
          | nil =>
            rw [hr2] at hr1
            simp at hr1
            omega
          | cons c r' =>
            exact cands_ne w c r' D
        have hhd : MM.hd w r = minP (cands w r D) := by
          cases hr2 : r with
          | nil =>
            rw [hr2] at hr1
            simp at hr1
            omega
          | cons c r' =>
            have : sz.drop (m + 1) = r' := by
              have a : sz.drop (m + 1) = (sz.drop m).drop 1 := by rw [List.drop_drop]
              rw [a, show sz.drop m = c :: r' from hr2]
              rfl
            rw [hd_cons, ← this]
        refine run_freeze (i := 5) rfl ?_
        refine run_setIx (j := m) (ds := bestT w sz (m + 1)) rfl (ev_cb (ea_cons (ev_var rfl) ea_nil) (rc_minC (L := cands w r D) (b := m) hne)) (ev_var rfl) ?_ ⟨some (.val (dN m)), some (.val (.list ((cands w r D).map fun p => pD (natP m p)))), z6, z7, z8, ?_⟩
        · rw [bestT_length]
          unfold ixN
          rw [if_pos (by omega), if_pos (by omega), Int.toNat_natCast]
        · rw [← hhd]
          have e := bestT_set (w := w) hmn
          show [_, _, _, some (Cell.own _), _, _, _, _, _, _, _, _] = _
          rw [e]
          rfl
    · obtain ⟨z4, z5, z6, z7, z8, rfl⟩ := hI
      rw [dwnD_length, Nat.sub_self]
      refine run_freeze (i := 3) rfl ?_
      obtain ⟨x0, hx0⟩ := bestE_jump (w := w) (s := sz) (k := 0) (.inr rfl)
      obtain ⟨y0, hy0⟩ := bestE_cost (w := w) (s := sz) (m := 0) (k := 0) (Nat.le_refl _) (Nat.zero_le _)
      refine q_own (en_lst (ea_cons ev_int ea_nil) (by simp)) ?_
      refine q_asg (ev_op (ev_op (ev_var rfl) ev_int (rv_ixL ((atI_nat (j := 0) (bestT_get (Nat.zero_le _))).trans (congrArg some hx0)))) ev_int (rv_ixT (atI_nat (j := 1) rfl))) ?_
      let full := 0 :: startsF w sz sz.length (jump w sz)
      have hjl : jump w sz ≤ sz.length := by
        by_cases e : sz = []
        · rw [e]
          exact Nat.le_refl _
        · exact (jump_spec e).2.1
      refine q_while (fun m Δ => ∃ k acc, k ≤ sz.length ∧ m = sz.length - k ∧ acc.length + (sz.length - k) ≤ sz.length + 1 ∧ acc ++ startsF w sz sz.length k = full ∧ Δ = [some (.val (dS l)), some (.val (dN w)), some (.val (.list (sz.map dN))), some (.val (.list (bestT w sz 0))), z4, z5, z6, z7, z8, some (.own (acc.map dN)), some (.val (dN k)), none]) (sz.length - jump w sz)
        ⟨jump w sz, [0], hjl, rfl, by show 1 + _ ≤ _; omega, rfl, by rw [Nat.zero_add]; rfl⟩ fun mm Δ' hI => ?_
      obtain ⟨k, acc, hk, rfl, ha, he, rfl⟩ := hI
      refine ⟨decide (k < sz.length), (et_test (ev_op (ev_var rfl) (len2 rfl) rv_lt)).is (by rw [decide_eq_decide]; omega), fun hb => ?_, fun hb => ?_⟩
      · have hk' := of_decide_eq_true hb
        have hne : sz.drop k ≠ [] := fun z => by
          have hl : (sz.drop k).length = 0 := by rw [z]; rfl
          rw [List.length_drop] at hl
          omega
        obtain ⟨j1, j2, _, _⟩ := jump_spec (w := w) hne
        rw [List.length_drop] at j2
        obtain ⟨x1, hx1⟩ := bestE_jump (w := w) (s := sz) (k := k) (.inl hk')
        refine q_app (d := dN (sz.take k).sum) rfl (ev_cb (ea_cons ((ev_slL (ev_var rfl) eo_none (eo_some (ev_var rfl))).is (congrArg PyData.list (cut_0b hk))) ea_nil) rc_sumL) (by rw [List.length_map]; omega) ?_
        refine run_asg (ev_op (ev_op (ev_var rfl) (ev_var rfl) (rv_ixL ((atI_nat (bestT_get (by omega))).trans (congrArg some hx1)))) ev_int (rv_ixT (atI_nat (j := 1) rfl))) ⟨sz.length - (k + jump w (sz.drop k)), by omega, k + jump w (sz.drop k), acc ++ [(sz.take k).sum], by omega, rfl, by rw [List.length_append]; show acc.length + 1 + _ ≤ _; omega, ?_, ?_⟩
        · rw [List.append_assoc, ← he, startsF_step hk']
          rfl
        · rw [List.map_append]
          rfl
      · have hk' : k = sz.length := by
          have := of_decide_eq_false hb
          omega
        rw [hk', startsF_end, List.append_nil] at he
        refine run_freeze (i := 9) rfl ?_
        refine run_retD (ev_tup (ea_cons (ev_op (ev_op (ev_var rfl) ev_int (rv_ixL ((atI_nat (j := 0) (bestT_get (Nat.zero_le _))).trans (congrArg some hy0)))) ev_int (rv_ixT (atI_nat (j := 0) rfl))) (ea_cons (ev_var rfl) ea_nil)) (by simp)) ?_
        show _ = smoothD (smoothN l ((w : Int).toNat))
        rw [Int.toNat_natCast, he]
        unfold smoothN
        rw [hS]
        rfl
end
end DL
/-! F4: the law's own helpers: borders, pieces, screen, roughness. -/
namespace DL
open PySem L2
open PyProof.Rows (envOfC)
open MM
/-! ### promises that tell what the answer is like -/
def spQ (Pre : List PyData → Prop) (Post : List PyData → PyData → Prop) : Sp := fun vs H Q _ => ∃ Hs ds, Wf none Hs H ∧ RpL Hs ds vs ∧ Pre ds ∧ Ans none Hs H (Post ds) Q
theorem ev_callQ {Δ : Dn} {Pre : List PyData → Prop} {Post : List PyData → PyData → Prop} {E : XK} {ta : TA} {ds : List PyData} (h : EvA Δ ta ds) (hp : Pre ds) : EvP Δ (tCall (spQ Pre Post) [] E ta) (Post ds) := fun pp B σ Hs H En Q q =>
  h pp B σ Hs H En _ fun vs Hs1 H1 g1 r1 => by
    show spQ Pre Post (vs ++ []) H1 Q E
    rw [List.append_nil]
    exact ⟨Hs1, ds, g1.wf.bare, r1, hp, fun v d A C g r e => q v d A C (g1.trans (g.lift g1.wf)) r e⟩
section
variable {P : Program} {w : World} {K : PySem.W.Frag} {mg : Str → Option Value} {base : Heap}
theorem okQ {x qual : Str} {st : Stmt} {f : Addr} {fd : FuncData} {N ps : List Str} {k : Nat} {Pre : List PyData → Prop} {Post : List PyData → PyData → Prop} (Fn : Fun K x qual st f fd) (S : FnScope N ps (defScope st)) (hl : ∀ ds, Pre ds → ds.length = ps.length)
    (hb : ∀ (cdv : Value) (A : Around) (outer : List PySem.Env) (s : Shared) (H : Hp) (E : XK), Room k (A.deeper (envOfC qual (defScope st) s.heap.objs.size f cdv)) →
      ∃ t, PSs (cxOf CX0 P w K mg base N qual (defScope st) f cdv A outer s H E).nox (defBody st) t ∧ ∀ ds, Pre ds → Run (d0 ds (N.length - ds.length)) t (fun _ => False) (RD (Post ds))) : FnOk P w K mg base CX0 (k + 1) f fd ps (spQ Pre Post) := by
  refine Fn.ok S (fun vs H Q E h => ?_) (fun cdv A outer s H vs Q E hr h => ?_)
  · obtain ⟨Hs, ds, w1, r, p, _⟩ := h
    rw [r.length, hl ds p]
  · obtain ⟨Hs, ds, w1, r, p, q⟩ := h
    obtain ⟨t, h1, h2⟩ := hb cdv A outer s H E hr
    refine ⟨t, h1, ?_⟩
    have E0 := env0 (n := N.length - ds.length) w1 r
    unfold L2.start
    rw [r.length]
    exact h2 ds p none (Hs, H) _ Hs H E0 _ (fun Δ' σ' Hs' H' _ E' e => e.elim) fun v Hs' H' g ⟨d, rv, e⟩ => q v d Hs' H' g rv e
end
/-- its length is all that is asked -/
theorem ev_lenP {K : PySem.W.Frag} {Δ : Dn} {te : TE} {n : Nat} (h : EvP Δ te fun d => ∃ es, d = .list es ∧ es.length = n) : Ev Δ (tCB (rLenA K) (tCons te tNil)) (dN n) := fun pp B σ Hs H E Q q =>
  h pp B σ Hs H E _ fun x d1 Hs1 H1 g r ⟨es, e1, e2⟩ => by
    subst e1
    obtain ⟨a, xs, rfl, ha, ra⟩ := r
    refine .inl ⟨a, xs, rfl, .inl (.of (g.wf.le _ _ ha)), ?_⟩
    rw [ra.length, e2]
    exact (q.go g).here g.wf (d := dN n) rfl rfl
/-- a list of one's own and two more at once -/
theorem run_par3 {Δ : Dn} {te tb tc : TE} {i j l : Nat} {ds : List PyData} {b c : PyData} {N : Dn → Prop} {R : Ret} (h : EvN Δ te ds) (hb : Ev Δ tb b) (hc : Ev Δ tc c) (k : N (((Δ.set i (some (.own ds))).set j (some (.val b))).set l (some (.val c)))) :
    Run Δ (tPar3 i j l (tCons te (tCons tb (tCons tc tNil)))) N R := fun pp B σ Hs H E D n r =>
  h pp B σ Hs H E _ fun p xs ds' Hs1 H1 g1 e1 e2 e3 rv q => hb pp B σ Hs1 H1 (E.grow g1) _ fun y d2 Hs2 H2 g2 r2 p2 => hc pp B σ Hs2 H2 ((E.grow g1).grow g2) _ fun z d3 Hs3 H3 g3 r3 p3 => by
    subst q p2 p3
    exact ⟨.ref p, y, z, rfl, n _ _ Hs3 H3 ((g1.s.trans g2.s).trans g3.s) (((((E.setOwn g1 e1 e2 e3 rv).grow g2).grow g3).set (Rp.mono g3.s _ _ r2)).set r3) k⟩
theorem q_par3 {Δ : Dn} {te tb tc : TE} {i j l : Nat} {ds : List PyData} {b c : PyData} {u : TS} {N : Dn → Prop} {R : Ret} (h : EvN Δ te ds) (hb : Ev Δ tb b) (hc : Ev Δ tc c) (k : Run (((Δ.set i (some (.own ds))).set j (some (.val b))).set l (some (.val c))) u N R) :
    Run Δ (tSeq (tPar3 i j l (tCons te (tCons tb (tCons tc tNil)))) u) N R := run_seq (run_par3 (N := fun x => x = _) h hb hc rfl) fun Δ2 e => by
  rw [e]
  exact k
theorem rv_ixN {K : PySem.W.Frag} {l : List Nat} {k : Int} {j c : Nat} (hl : l.length ≤ 100000) (hk : k = (j : Int)) (h : l[j]? = some c) : RV (rIx K) (dS l) (.int k) fun x => x = dS [c] := rv_ixS (z := S l) hl (atN hk h)
theorem cutS_ab {l : List Nat} {b e : Nat} (h1 : b ≤ l.length) (h2 : e ≤ l.length) : cutS (S l) (some (b : Int)) (some (e : Int)) = S (cutL l b e) := by
  unfold cutS cutL
  rw [HT.sIx_nat, HT.sIx_nat, S_cps, S_len, Nat.min_eq_left h1, Nat.min_eq_left h2]
  rfl
theorem bord_le : ∀ (s : List Nat) (p : Nat), ∀ x ∈ bord p s, x ≤ p + s.sum
  | [], _, x, h => nomatch h
  | c :: s, p, x, h => by
    rw [List.sum_cons]
    rcases List.mem_cons.mp h with e | e
    · omega
    · have := bord_le s (p + c) x e
      omega
theorem borders_le {l : List Nat} : ∀ x ∈ bordersN l, x ≤ l.length := fun x hx => by
  rw [borders_eq] at hx
  have := bord_le _ _ x hx
  rw [sizes_sum] at this
  omega
theorem borders_len (l : List Nat) : (bordersN l).length ≤ l.length := by
  rw [borders_eq, bord_length]
  exact sizes_len l
abbrev s__law_borders : Stmt := topS 30
abbrev nm__law_borders : List Str := ["_law_line_here", "_law_k"]
theorem sc__law_borders : FnScope nm__law_borders ["_law_line_here"] (defScope s__law_borders) := ⟨rfl, rfl, rfl, by decide +kernel, rfl, by decide +kernel, by decide +kernel⟩
abbrev s__law_pieces : Stmt := topS 31
abbrev nm__law_pieces : List Str := ["_law_line_here", "_law_width_here", "_law_found", "_law_begin", "_law_last", "_law_end"]
theorem sc__law_pieces : FnScope nm__law_pieces ["_law_line_here", "_law_width_here"] (defScope s__law_pieces) := ⟨rfl, rfl, rfl, by decide +kernel, rfl, by decide +kernel, by decide +kernel⟩
abbrev s__law_screen : Stmt := topS 32
abbrev nm__law_screen : List Str := ["_law_text_here", "_law_width_here", "_law_found", "_law_k", "_law_line_here", "_law_start", "_law_piece"]
theorem sc__law_screen : FnScope nm__law_screen ["_law_text_here", "_law_width_here"] (defScope s__law_screen) := ⟨rfl, rfl, rfl, by decide +kernel, rfl, by decide +kernel, by decide +kernel⟩
abbrev s__law_rough : Stmt := topS 35
abbrev nm__law_rough : List Str := ["_law_way", "_law_width_here", "_law_end", "_law_start"]
theorem sc__law_rough : FnScope nm__law_rough ["_law_way", "_law_width_here"] (defScope s__law_rough) := ⟨rfl, rfl, rfl, by decide +kernel, rfl, by decide +kernel, by decide +kernel⟩
section
variable {P : Program} {w : World} {K : PySem.W.Frag} {mg : Str → Option Value} {base : Heap} {f : Addr} {fd : FuncData}
def fBorders : List PyData → PyData
  | [.str s] => .list ((bordersN s.cps.toList).map dN)
  | _ => .none
def spBorders : Sp := spD (fun ds => ∃ l : List Nat, ds = [dS l] ∧ l.length ≤ 1000) fBorders
theorem ev_borders {Δ : Dn} {E : XK} {ta : TA} {l : List Nat} (h : EvA Δ ta [dS l]) (hl : l.length ≤ 1000) : Ev Δ (tCall spBorders [] E ta) (.list ((bordersN l).map dN)) := ev_call (f := fBorders) h ⟨l, rfl, hl⟩
theorem ok_borders (F : Fun K "_law_borders" "_law_borders" s__law_borders f fd) (T : Bt mg) : FnOk P w K mg base CX0 1 f fd ["_law_line_here"] spBorders :=
  okD F sc__law_borders (fun ds ⟨l, e, _⟩ => by rw [e]; rfl) fun cdv A outer s H E hr => by
    refine ⟨_, (pss_one (ps_ret (pe_lc (own := [("_law_k", 1)]) rfl sc__law_borders.nd (pi_range1 (by rfl) T.range (pa_cons (pe_callB (k_len (K := K) rfl) (by rfl) T.len (by decide +kernel) (pa_cons (pv 0) pa_nil)) pa_nil)) (blkOk_by (own := [("_law_k", 1)]) (N := nm__law_borders) (sc := (defScope s__law_borders)) (by decide +kernel)) (fun _ _ _ _ _ => (pg_name (i := 1) sc__law_borders.nd rfl (.inl rfl))) (fun _ _ _ _ _ => (pts_one (PW.pt (pw_or (pt_cmpR (k_eq (K := K) hr.units rfl) (pe_ix (k_ix (K := K) rfl) (pv 0) (pv 1) (fun _ _ => rfl)) pe_str (nomark _)) (pw_or1 (pt_cmpR (k_eq (K := K) hr.units rfl) (pe_op op_addA (pv 1) pe_int) (pe_callB (k_len (K := K) rfl) (by rfl) T.len (by decide +kernel) (pa_cons (pv 0) pa_nil)) (nomark _))))))) (fun _ _ _ _ _ => (pe_op op_addA (pv 1) pe_int))))), ?_⟩
    rintro ds ⟨l, rfl, hl⟩
    show Run [some (.val (dS l)), none] _ _ _
    have len0 : ∀ {Δ : Dn}, Δ[0]? = some (some (.val (dS l))) → Ev Δ (tCB (rLenA K) (tCons (tVar 0) tNil)) (dN l.length) := fun h => ev_cb (ea_cons (ev_var h) ea_nil) (rc_lenN (by omega))
    refine run_ret (EvN.ev (en_lc (ts := [1]) (List.range l.length) (fun k : Nat => .int (0 + (k : Int))) (fun k => decide (l[k]? = some 32) || decide (k + 1 = l.length)) (fun k : Nat => .int (0 + (k : Int) + 1)) ((ei_range1 (j := (l.length : Int)) (ea_cons (len0 rfl) ea_nil)).is (by rw [Int.toNat_natCast]; rfl)) (by rw [List.length_range]; omega) (by simp) fun k hk => ⟨_, tg_name, ?_, fun _ => ev_op (ev_var rfl) ev_int rv_addI⟩)) fun d e => ?_
    · have hk' := List.mem_range.mp hk
      refine (et_or (et_test (ev_op (ev_op (ev_var rfl) (ev_var rfl) (rv_ixN (by omega) (by omega) (List.getElem?_eq_getElem hk'))) ev_str (rv_eqS' blank_S))) fun _ => et_test (ev_op (ev_op (ev_var rfl) ev_int rv_addI) (len0 rfl) rv_eqI)).is ?_
      congr 1
      · rw [decide_eq_decide, List.getElem?_eq_getElem hk']
        simp
      · rw [decide_eq_decide]
        omega
    · rw [e]
      show _ = PyData.list ((bordersN l).map dN)
      unfold bordersN
      rw [List.map_map]
      congr 1
      refine List.map_congr_left fun k _ => ?_
      show PyData.int _ = PyData.int _
      congr 1
      show (0 : Int) + k + 1 = ((k + 1 : Nat) : Int)
      omega
def spLPieces : Sp := spD (fun ds => ∃ (l : List Nat) (w : Nat), ds = [dS l, dN w] ∧ l.length ≤ 1000) fCut
theorem ev_lpieces {Δ : Dn} {E : XK} {ta : TA} {l : List Nat} {w : Nat} (h : EvA Δ ta [dS l, dN w]) (hl : l.length ≤ 1000) : Ev Δ (tCall spLPieces [] E ta) (.list ((cutN l w).map dS)) := ev_call (f := fCut) h ⟨l, w, rfl, hl⟩
theorem ok_lpieces (F : Fun K "_law_pieces" "_law_pieces" s__law_pieces f fd) (T : Bt mg) (c__law_borders : C8.Cal P w K mg base 1 "_law_borders" spBorders []) : FnOk P w K mg base CX0 2 f fd ["_law_line_here", "_law_width_here"] spLPieces :=
  okD F sc__law_pieces (fun ds ⟨l, w, e, _⟩ => by rw [e]; rfl) fun cdv A outer s H E hr => by
    refine ⟨_, (pss_cons (ps_par3 (i := 2) (j := 3) (l := 4) rfl sc__law_pieces.nd rfl rfl rfl (by decide) (by decide) (by decide) rfl rfl rfl (pa_cons (pe_lst (pa_cons pe_str pa_nil)) (pa_cons pe_int (pa_cons pe_int pa_nil))) (by rfl)) (pss_cons (ps_for PassesOwn.never rfl (k_list (K := K) rfl (C8.pe_c c__law_borders hr (by decide) (by rfl) (pa_cons (pv 0) pa_nil))) (pg_name (i := 5) sc__law_pieces.nd rfl (.inl rfl)) (pss_cons (ps_if (PW.pt (pw_and (pt_cmpR op_gt (pv 4) (pv 3) (nomark _)) (pw_and1 (pt_cmpR op_gt (pe_op op_sub (pv 5) (pv 3)) (pv 1) (nomark _))))) (pss_cons (ps_expr (pe_bm PySem.F.plainAttrs_list PySem.F.slot_list_append PySem.F.type_list_append mt_append (pv 2) (pa_cons pe_str pa_nil))) (pss_one (ps_set (i := 3) sc__law_pieces.nd rfl (.inl rfl) (pv 4)))) pss_nil) (pss_cons (ps_asg (pe_slice (k_sl (K := K) rfl) (pv 0) (po_some (pv 3)) (po_some (pv 5))) (pg_sub (pv 2) (pe_un un_neg pe_int) set_list)) (pss_one (ps_set (i := 4) sc__law_pieces.nd rfl (.inl rfl) (pv 5)))))) (pss_one (ps_ret (pv 2))))), ?_⟩
    rintro ds ⟨l, w, rfl, hl⟩
    show Run [some (.val (dS l)), some (.val (dN w)), none, none, none, none] _ _ _
    refine q_par3 (en_lst (ea_cons (ev_str.is (d' := dS []) (congrArg PyData.str empty_S)) ea_nil) (by decide)) ev_int ev_int ?_
    let t := fun i : Nat => ((bordersN l).take i).foldl (lpStep l w) ⟨[], [], 0, 0⟩
    have hbl := borders_len l
    refine q_for (ts := [5]) (fun i Δ => (t i).b ≤ l.length ∧ (t i).q ≤ l.length ∧ (t i).i.length ≤ i ∧ ∃ z, Δ = [some (.val (dS l)), some (.val (dN w)), some (.own ((t i).i.map dS ++ [dS (t i).p])), some (.val (dN (t i).b)), some (.val (dN (t i).q)), z]) (ei_list (ev_borders (ea_cons (ev_var rfl) ea_nil) hl)) ⟨Nat.zero_le _, Nat.zero_le _, Nat.le_refl _, none, rfl⟩ (fun i d Δi hd hI => ?_) fun Δ' hI => ?_
    · obtain ⟨hb, hq, hil, z, rfl⟩ := hI
      rw [List.getElem?_map] at hd
      cases he : (bordersN l)[i]? with
      | none =>
        rw [he] at hd
        cases hd
      | some e =>
        rw [he] at hd
        cases hd
        have hel := borders_le e (List.mem_of_getElem? he)
        have hi : i < (bordersN l).length := (List.getElem?_eq_some_iff.mp he).1
        have ht : t (i + 1) = lpStep l w (t i) e := by
          show ((bordersN l).take (i + 1)).foldl (lpStep l w) _ = _
          rw [List.take_add_one, he, List.foldl_append]
          rfl
        refine ⟨_, tg_name, ?_⟩
        rw [ht]
        generalize t i = u at hb hq hil
        show Run [some (.val (dS l)), some (.val (dN w)), some (.own (u.i.map dS ++ [dS u.p])), some (.val (dN u.b)), some (.val (dN u.q)), some (.val (dN e))] _ _ _
        refine run_seq (M := fun Δ => Δ = if u.b < u.q ∧ w < e - u.b then [some (.val (dS l)), some (.val (dN w)), some (.own ((u.i ++ [u.p]).map dS ++ [dS []])), some (.val (dN u.q)), some (.val (dN u.q)), some (.val (dN e))] else [some (.val (dS l)), some (.val (dN w)), some (.own (u.i.map dS ++ [dS u.p])), some (.val (dN u.b)), some (.val (dN u.q)), some (.val (dN e))]) (run_if (b := decide (u.b < u.q) && decide (w < e - u.b)) (et_and ((et_test (ev_op (ev_var rfl) (ev_var rfl) rv_gt)).is (by rw [decide_eq_decide]; omega)) fun _ => (et_test (ev_op (ev_op (ev_var rfl) (ev_var rfl) rv_sub) (ev_var rfl) rv_gt)).is (by rw [decide_eq_decide]; omega)) (fun hc => ?_) fun hc => ?_) fun Δ' hΔ => ?_
        · have hc' : u.b < u.q ∧ w < e - u.b := by simpa using hc
          refine q_app rfl (ev_str.is (d' := dS []) (congrArg PyData.str empty_S)) (by rw [List.length_append, List.length_map]; show _ + 1 < _; omega) (run_asg (ev_var rfl) ?_)
          rw [if_pos hc', List.map_append]
          rfl
        · have hc' : ¬ (u.b < u.q ∧ w < e - u.b) := by
            intro z
            rw [decide_eq_true z.1, decide_eq_true z.2] at hc
            cases hc
          refine run_nil ?_
          rw [if_neg hc']
        · by_cases hc' : u.b < u.q ∧ w < e - u.b
          · rw [if_pos hc'] at hΔ
            rw [hΔ]
            refine q_setIx (j := (u.i ++ [u.p]).length) rfl ((ev_slS (z := S l) (ev_var rfl) (by show l.length ≤ _; omega) (eo_some (ev_var rfl)) (eo_some (ev_var rfl))).is (congrArg PyData.str (cutS_ab hq hel))) (ev_neg ev_int) (by rw [List.length_append, List.length_map]; exact ixN_last _) (run_asg (ev_var rfl) ?_)
            unfold lpStep
            rw [if_pos hc']
            have e1 := set_last ((u.i ++ [u.p]).map dS) (dS []) (PyData.str (S (cutL l u.q e)))
            rw [List.length_map] at e1
            refine ⟨hq, hel, by rw [List.length_append]; show _ + 1 ≤ _; omega, some (.val (dN e)), ?_⟩
            show [_, _, some (Cell.own _), _, _, _] = [_, _, some (Cell.own _), _, _, _]
            rw [e1]
            rfl
          · rw [if_neg hc'] at hΔ
            rw [hΔ]
            refine q_setIx (j := u.i.length) rfl ((ev_slS (z := S l) (ev_var rfl) (by show l.length ≤ _; omega) (eo_some (ev_var rfl)) (eo_some (ev_var rfl))).is (congrArg PyData.str (cutS_ab hb hel))) (ev_neg ev_int) (by rw [List.length_append, List.length_map]; exact ixN_last _) (run_asg (ev_var rfl) ?_)
            unfold lpStep
            rw [if_neg hc']
            have e1 := set_last (u.i.map dS) (dS u.p) (PyData.str (S (cutL l u.b e)))
            rw [List.length_map] at e1
            refine ⟨hb, hel, by show u.i.length ≤ i + 1; omega, some (.val (dN e)), ?_⟩
            show [_, _, some (Cell.own _), _, _, _] = [_, _, some (Cell.own _), _, _, _]
            rw [e1]
            rfl
    · obtain ⟨_, _, _, z, rfl⟩ := hI
      rw [List.length_map]
      have ht : t (bordersN l).length = (bordersN l).foldl (lpStep l w) ⟨[], [], 0, 0⟩ := by
        show ((bordersN l).take _).foldl (lpStep l w) _ = _
        rw [List.take_length]
      rw [ht]
      refine run_freeze (i := 2) rfl ?_
      refine run_retD (ev_var rfl) ?_
      show PyData.list (List.map dS _ ++ [dS _]) = PyData.list ((cutN l ((w : Int).toNat)).map dS)
      rw [Int.toNat_natCast, ← lawPieces_eq]
      unfold lawPieces
      rw [List.map_append]
      rfl
/-- a screen, by the number of its rows -/
def preScreen (ds : List PyData) : Prop := ∃ (s : Str) (ls : List (List Nat)) (w : Nat), ds = [.str s, dN w] ∧ TextOk s ls
def postScreen (ds : List PyData) (d : PyData) : Prop := ∀ (s : Str) (ls : List (List Nat)) (w : Nat), ds = [.str s, dN w] → TextOk s ls → ∃ es, d = .list es ∧ es.length = hN ls w
def spScreen : Sp := spQ preScreen postScreen
theorem ev_screen {Δ : Dn} {E : XK} {ta : TA} {s : Str} {ls : List (List Nat)} {w : Nat} (hs : TextOk s ls) (h : EvA Δ ta [.str s, dN w]) : EvP Δ (tCall spScreen [] E ta) fun d => ∃ es, d = .list es ∧ es.length = hN ls w :=
  (ev_callQ (Pre := preScreen) (Post := postScreen) h ⟨s, ls, w, rfl, hs⟩).weak fun d hd => hd s ls w rfl hs
theorem hN_take {ls : List (List Nat)} {w i : Nat} {l : List Nat} (h : ls[i]? = some l) : hN (ls.take (i + 1)) w = hN (ls.take i) w + (cutN l w).length := by
  unfold hN
  rw [List.take_add_one, h, List.map_append, List.sum_append]
  simp
theorem way_len {w pos : Nat} {s : List Nat} {way : List (Nat × Nat)} (h : IsWay w pos s way) : way.length ≤ s.length := by
  induction h with
  | nil => exact Nat.le_refl _
  | cons hg _ _ ih =>
    have := List.length_pos_iff.mpr hg
    rw [List.length_cons, List.length_append]
    omega
theorem cut_flat_fold (w : Nat) : ∀ (cs : List (List Nat)) (i : List (List Nat)) (p : List Nat), (cs.foldl (cutStep w) (i, p)).1.flatten ++ (cs.foldl (cutStep w) (i, p)).2 = i.flatten ++ (p ++ cs.flatten)
  | [], i, p => by simp
  | c :: cs, i, p => by
    rw [List.foldl_cons]
    by_cases e : p = [] ∨ p.length + c.length ≤ w
    · have : cutStep w (i, p) c = (i, p ++ c) := by unfold cutStep; rw [if_pos e]
      rw [this, cut_flat_fold w cs, List.flatten_cons, List.append_assoc]
    · have : cutStep w (i, p) c = (i ++ [p], c) := by unfold cutStep; rw [if_neg e]
      rw [this, cut_flat_fold w cs, List.flatten_cons, List.flatten_append]
      simp
theorem cut_flat (l : List Nat) (w : Nat) : (cutN l w).flatten = l := by
  have h := cut_flat_fold w (chunksN l) [] []
  unfold cutN
  show (_ ++ [_]).flatten = l
  rw [List.flatten_append]
  simp only [List.flatten_cons, List.flatten_nil, List.append_nil]
  rw [h]
  simp [chunks_flat]
theorem piece_len {l p : List Nat} {w : Nat} (h : p ∈ cutN l w) : p.length ≤ l.length := by
  have e : l.length = ((cutN l w).map List.length).sum := by rw [← List.length_flatten, cut_flat]
  rw [e]
  exact mem_le_sum (List.mem_map.mpr ⟨p, h, rfl⟩)
theorem cut_le {l : List Nat} (w : Nat) : (cutN l w).length ≤ l.length + 1 := by
  obtain ⟨way, h1, h2⟩ := way_ex w 0 (sizesN l)
  have h3 := way_len h1
  have := sizes_len l
  rw [cut_len, ← h2]
  omega
theorem hN_le {w : Nat} : ∀ {ls : List (List Nat)}, (∀ l ∈ ls, l.length ≤ 1000) → hN ls w ≤ 1001 * ls.length
  | [], _ => Nat.le_refl _
  | l :: ls, h => by
    have h1 := hN_le (w := w) (ls := ls) fun x hx => h x (List.mem_cons_of_mem _ hx)
    have h2 := cut_le (l := l) w
    have h3 := h l List.mem_cons_self
    unfold hN at h1 ⊢
    rw [List.map_cons, List.sum_cons, List.length_cons]
    omega
theorem ok_screen (F : Fun K "_law_screen" "_law_screen" s__law_screen f fd) (T : Bt mg) (c__law_pieces : C8.Cal P w K mg base 2 "_law_pieces" spLPieces []) : FnOk P w K mg base CX0 3 f fd ["_law_text_here", "_law_width_here"] spScreen :=
  okQ F sc__law_screen (fun ds ⟨s, ls, w, e, _⟩ => by rw [e]; rfl) fun cdv A outer s H E hr => by
    refine ⟨_, (pss_cons (ps_set (i := 2) sc__law_screen.nd rfl (.inl rfl) (pe_lst pa_nil)) (pss_cons (ps_for PassesOwn.never rfl (k_enum (K := K) rfl (by rfl) T.enumerate (pa_cons (pe_split (pv 0) pe_str) pa_nil)) (k_tup (K := K) rfl (pg_tup (n := 2) rfl (pgs_cons (pg_name (i := 3) sc__law_screen.nd rfl (.inl rfl)) (pgs_cons (pg_name (i := 4) sc__law_screen.nd rfl (.inl rfl)) pgs_nil)))) (pss_cons (ps_set (i := 5) sc__law_screen.nd rfl (.inl rfl) pe_int) (pss_one (ps_for PassesOwn.never rfl (k_list (K := K) rfl (C8.pe_c c__law_pieces hr (by decide) (by rfl) (pa_cons (pv 4) (pa_cons (pv 1) pa_nil)))) (pg_name (i := 6) sc__law_screen.nd rfl (.inl rfl)) (pss_cons (ps_expr (pe_bm PySem.F.plainAttrs_list PySem.F.slot_list_append PySem.F.type_list_append mt_append (pv 2) (pa_cons (pe_tup (pa_cons (pv 3) (pa_cons (pv 5) (pa_cons (pv 6) pa_nil)))) pa_nil))) (pss_one (ps_set (i := 5) sc__law_screen.nd rfl (.inl rfl) (pe_op op_addA (pv 5) (pe_callB (k_len (K := K) rfl) (by rfl) T.len (by decide +kernel) (pa_cons (pv 6) pa_nil)))))))))) (pss_one (ps_ret (pv 2))))), ?_⟩
    rintro ds ⟨s, ls, w, rfl, hs⟩
    show Run [some (.val (.str s)), some (.val (dN w)), none, none, none, none, none] _ _ _
    refine q_own (en_lst ea_nil (by decide)) ?_
    refine q_for (ts := [3, 4]) (fun i Δ => ∃ es z3 z4 z5 z6, es.length = hN (ls.take i) w ∧ Δ = [some (.val (.str s)), some (.val (dN w)), some (.own es), z3, z4, z5, z6]) (ei_enum (ea_cons (ev_split hs (ev_var rfl)) ea_nil)) ⟨[], none, none, none, none, rfl, rfl⟩ (fun i d Δi hd hI => ?_) fun Δ' hI => ?_
    · obtain ⟨es, z3, z4, z5, z6, hes, rfl⟩ := hI
      rw [List.getElem?_mapIdx, List.getElem?_map] at hd
      cases hl : ls[i]? with
      | none =>
        rw [hl] at hd
        cases hd
      | some l =>
        rw [hl] at hd
        cases hd
        have hil : i < ls.length := (List.getElem?_eq_some_iff.mp hl).1
        have hm := hs.many
        have hll := hs.each l (List.mem_of_getElem? hl)
        have hle : hN (ls.take i) w ≤ 1001 * i := by
          have := hN_le (w := w) (ls := ls.take i) fun x hx => hs.each x (List.mem_of_mem_take hx)
          rw [List.length_take] at this
          have h2 : 1001 * min i ls.length ≤ 1001 * i := Nat.mul_le_mul_left _ (Nat.min_le_left _ _)
          omega
        have hcl := cut_le (l := l) w
        refine ⟨_, tg_pair, ?_⟩
        show Run [some (.val (.str s)), some (.val (dN w)), some (.own es), some (.val (dN i)), some (.val (dS l)), z5, z6] _ _ _
        refine q_asg ev_int ?_
        refine run_for (ts := [6]) (fun j Δ => ∃ es' z z6, es'.length = hN (ls.take i) w + j ∧ Δ = [some (.val (.str s)), some (.val (dN w)), some (.own es'), some (.val (dN i)), some (.val (dS l)), some (.val (.int z)), z6]) (ei_list (ev_lpieces (ea_cons (ev_var rfl) (ea_cons (ev_var rfl) ea_nil)) hll)) ⟨es, 0, z6, hes, rfl⟩ (fun j d Δj hd hJ => ?_) fun Δ' hJ => ?_
        · obtain ⟨es', z, z6, he', rfl⟩ := hJ
          rw [List.getElem?_map] at hd
          cases hp : (cutN l w)[j]? with
          | none =>
            rw [hp] at hd
            cases hd
          | some p =>
            rw [hp] at hd
            cases hd
            have hj : j < (cutN l w).length := (List.getElem?_eq_some_iff.mp hp).1
            refine ⟨_, tg_name, ?_⟩
            have hpl : p.length ≤ 100000 := by
              have := piece_len (List.mem_of_getElem? hp)
              omega
            have hbig : es'.length < 100000 := by
              rw [he']
              omega
            exact q_app rfl (ev_tup (ea_cons (ev_var rfl) (ea_cons (ev_var rfl) (ea_cons (ev_var rfl) ea_nil))) (by simp)) hbig (run_asg (ev_op (ev_var rfl) (ev_cb (ea_cons (ev_var rfl) ea_nil) (rc_lenN hpl)) rv_addI) ⟨_, _, _, by rw [List.length_append, he']; show _ + _ + 1 = _ + (_ + 1); omega, rfl⟩)
        · obtain ⟨es', z, z6, he', rfl⟩ := hJ
          rw [List.length_map] at he'
          exact ⟨es', _, _, _, _, by rw [hN_take hl]; exact he', rfl⟩
    · obtain ⟨es, z3, z4, z5, z6, hes, rfl⟩ := hI
      rw [List.length_mapIdx, List.length_map, List.take_length] at hes
      refine run_freeze (i := 2) rfl ?_
      refine run_ret (ev_var rfl) fun d e s' ls' w' ed hs' => ⟨es, e, ?_⟩
      have e1 : ls' = ls := by
        injection ed with e1 e2
        injection e1 with e1
        rw [← hs'.of, ← e1, hs.of]
      have e2 : w' = w := by
        injection ed with e1 e2
        injection e2 with e2
        injection e2 with e2
        omega
      rw [e1, e2]
      exact hes
/-! ### roughness -/
def wayD (way : List (Nat × Nat)) : PyData := .list (way.map fun p => .tuple [dN p.1, dN p.2])
def natOf : PyData → Nat
  | .int i => i.toNat
  | _ => 0
def pairOf : PyData → Nat × Nat
  | .tuple [a, b] => (natOf a, natOf b)
  | _ => (0, 0)
def fRough : List PyData → PyData
  | [.list ts, .int w] => dN (rough w.toNat (ts.map pairOf))
  | _ => .none
theorem pairs_back (way : List (Nat × Nat)) : (way.map fun p => PyData.tuple [dN p.1, dN p.2]).map pairOf = way := by
  rw [List.map_map]
  refine List.map_id'' ?_ way
  intro p
  exact Prod.ext (Int.toNat_natCast _) (Int.toNat_natCast _)
def spRough : Sp := spD (fun ds => ∃ (way : List (Nat × Nat)) (w : Nat), ds = [wayD way, dN w] ∧ way.length ≤ 1000 ∧ w ≤ 1000 ∧ ∀ p ∈ way, p.1 ≤ p.2) fRough
theorem ev_rough {Δ : Dn} {E : XK} {ta : TA} {way : List (Nat × Nat)} {w : Nat} (h : EvA Δ ta [wayD way, dN w]) (h1 : way.length ≤ 1000) (h2 : w ≤ 1000) (h3 : ∀ p ∈ way, p.1 ≤ p.2) : Ev Δ (tCall spRough [] E ta) (dN (rough w way)) := by
  have := ev_call (E := E) (f := fRough) (Pre := fun ds => ∃ (way : List (Nat × Nat)) (w : Nat), ds = [wayD way, dN w] ∧ way.length ≤ 1000 ∧ w ≤ 1000 ∧ ∀ p ∈ way, p.1 ≤ p.2) h ⟨way, w, rfl, h1, h2, h3⟩
  refine this.is ?_
  show dN (rough (w : Int).toNat ((way.map fun p => PyData.tuple [dN p.1, dN p.2]).map pairOf)) = _
  rw [pairs_back, Int.toNat_natCast]
theorem cut_last {α β : Type} (xs : List α) (f : α → β) : cutG (xs.map f) none (some (-1)) = xs.dropLast.map f := by
  unfold cutG
  rw [HT.sIx_none, List.length_map]
  have e : HT.sIx xs.length xs.length (some (-1)) = xs.length - 1 := by
    have := HT.clip_eq (-1) xs.length xs.length
    rw [if_pos (by omega)] at this
    omega
  rw [e, List.drop_zero, Nat.sub_zero, ← List.map_take, List.dropLast_eq_take]
theorem ok_rough (F : Fun K "_law_rough" "_law_rough" s__law_rough f fd) (T : Bt mg) : FnOk P w K mg base CX0 1 f fd ["_law_way", "_law_width_here"] spRough :=
  okD F sc__law_rough (fun ds ⟨way, w, e, _⟩ => by rw [e]; rfl) fun cdv A outer s H E hr => by
    refine ⟨_, (pss_one (ps_ret (pe_callB (k_sum (K := K) rfl rfl) (by rfl) T.sum (by decide +kernel) (pa_cons (pe_lc (own := [("_law_start", 3), ("_law_end", 2)]) rfl sc__law_rough.nd (k_list (K := K) rfl (pe_slice (k_sl (K := K) rfl) (pv 0) po_none (po_some (pe_un un_neg pe_int)))) (blkOk_by (own := [("_law_start", 3), ("_law_end", 2)]) (N := nm__law_rough) (sc := (defScope s__law_rough)) (by decide +kernel)) (fun _ _ _ _ _ => (k_tup (K := K) rfl (pg_tup (n := 2) rfl (pgs_cons (pg_name (i := 3) sc__law_rough.nd rfl (.inl rfl)) (pgs_cons (pg_name (i := 2) sc__law_rough.nd rfl (.inl rfl)) pgs_nil))))) (fun _ _ _ _ _ => pts_nil) (fun _ _ _ _ _ => (pe_op op_pow (pe_callB (k_max (K := K) rfl rfl) (by rfl) T.max (by decide +kernel) (pa_cons pe_int (pa_cons (pe_op op_sub (pv 1) (pe_op op_sub (pv 2) (pv 3))) pa_nil))) pe_int))) pa_nil)))), ?_⟩
    rintro ds ⟨way, w, rfl, hl, hw, hp⟩
    show Run [some (.val (wayD way)), some (.val (dN w)), none, none] _ _ _
    refine run_retD (ev_cb (ea_cons (EvN.ev (en_lc1 (ts := [3, 2]) way.dropLast (fun p => .tuple [dN p.1, dN p.2]) (fun p => dN ((w - (p.2 - p.1)) ^ 2)) ((ei_list (ev_slL (ev_var rfl) eo_none (eo_some (ev_neg ev_int)))).is (cut_last way _)) (by rw [List.length_dropLast]; omega) (by simp) fun p hpm => ⟨_, tg_pair, ?_⟩)) ea_nil) (rc_sumN (as := way.dropLast) (f := fun p => (w - (p.2 - p.1)) ^ 2))) ?_
    · have hle := hp p (List.dropLast_subset _ hpm)
      have hcast : ((p.2 : Int) - (p.1 : Int)) = ((p.2 - p.1 : Nat) : Int) := by omega
      refine (ev_op (ev_max (w := w) (z := p.2 - p.1) (ea_cons ev_int (ea_cons (ev_op (ev_var rfl) ((ev_op (ev_var rfl) (ev_var rfl) rv_sub).is (congrArg PyData.int hcast)) rv_sub) ea_nil))) ev_int (rv_pow ⟨by omega, by omega, ?_⟩)).is (congrArg PyData.int (pow2 _))
      have : w - (p.2 - p.1) ≤ 1000 := by omega
      show ((w - (p.2 - p.1) : Nat) : Int).natAbs < 2 ^ 64
      omega
    · show _ = dN (rough (w : Int).toNat ((way.map fun p => PyData.tuple [dN p.1, dN p.2]).map pairOf))
      rw [pairs_back, Int.toNat_natCast]
      rfl
end
end DL
/-! F5: the law's own helpers: all ways, the least roughness, the look at a cutting. -/
namespace DL
open PySem L2
open PyProof.Rows (envOfC)
open MM
/-! ### the mathematics of the enumeration -/
theorem ways_each {b : List Nat} {w : Nat} : ∀ (n k : Nat), ∀ way ∈ lawWays b w n k, way.length ≤ n
  | 0, k, way, h => by
    unfold lawWays at h
    by_cases e : k = b.length
    · rw [if_pos e, List.mem_singleton] at h
      rw [h]
      exact Nat.le_refl _
    · rw [if_neg e] at h
      cases h
  | n + 1, k, way, h => by
    unfold lawWays at h
    by_cases e : k = b.length
    · rw [if_pos e, List.mem_singleton] at h
      rw [h]
      exact Nat.zero_le _
    · rw [if_neg e, List.mem_flatMap] at h
      obtain ⟨j, _, hm⟩ := h
      by_cases c : b.getD (k + j) 0 - stB b k ≤ w ∨ j = 0
      · rw [if_pos c] at hm
        obtain ⟨way', h1, rfl⟩ := List.mem_map.mp hm
        have := ways_each n _ way' h1
        rw [List.length_cons]
        omega
      · rw [if_neg c] at hm
        cases hm
theorem pow_sum : ∀ (m : Nat) (g : Nat → Nat), (∀ j, j < m → g j ≤ 2 ^ (m - 1 - j)) → ((List.range m).map g).sum + 1 ≤ 2 ^ m
  | 0, g, _ => Nat.le_refl _
  | m + 1, g, h => by
    have ih := pow_sum m (fun j => g (j + 1)) fun j hj => by
      have := h (j + 1) (by omega)
      rw [show m + 1 - 1 - (j + 1) = m - 1 - j by omega] at this
      exact this
    have h0 := h 0 (by omega)
    rw [List.range_succ_eq_map, List.map_cons, List.sum_cons, List.map_map, Nat.pow_succ]
    have e : m + 1 - 1 - 0 = m := by omega
    rw [e] at h0
    have ih' : ((List.range m).map (g ∘ Nat.succ)).sum + 1 ≤ 2 ^ m := ih
    omega
theorem ways_len {b : List Nat} {w : Nat} : ∀ (n k : Nat), k ≤ b.length → b.length - k ≤ n → (lawWays b w n k).length ≤ 2 ^ (b.length - k)
  | 0, k, hk, hn => by
    unfold lawWays
    rw [if_pos (by omega)]
    exact Nat.one_le_two_pow
  | n + 1, k, hk, hn => by
    unfold lawWays
    by_cases e : k = b.length
    · rw [if_pos e]
      exact Nat.one_le_two_pow
    · rw [if_neg e, List.length_flatMap]
      refine Nat.le_trans (Nat.le_succ _) (pow_sum (b.length - k) _ fun j hj => ?_)
      have ih := ways_len (b := b) (w := w) n (k + j + 1) (by omega) (by omega)
      by_cases c : b.getD (k + j) 0 - stB b k ≤ w ∨ j = 0
      · rw [if_pos c, List.length_map, show b.length - k - 1 - j = b.length - (k + j + 1) by omega]
        exact ih
      · rw [if_neg c]
        exact Nat.zero_le _
theorem ways_fuel {b : List Nat} {w : Nat} : ∀ (n m k : Nat), k ≤ b.length → b.length - k ≤ n → b.length - k ≤ m → lawWays b w n k = lawWays b w m k
  | 0, m, k, hk, hn, _ => by
    have e : k = b.length := by omega
    cases m with
    | zero => rfl
    | succ m =>
      unfold lawWays
      rw [if_pos e, if_pos e]
  | n + 1, 0, k, hk, _, hm => by
    have e : k = b.length := by omega
    unfold lawWays
    rw [if_pos e, if_pos e]
  | n + 1, m + 1, k, hk, hn, hm => by
    unfold lawWays
    by_cases e : k = b.length
    · rw [if_pos e, if_pos e]
    · rw [if_neg e, if_neg e]
      have key : ∀ j ∈ List.range (b.length - k), lawWays b w n (k + j + 1) = lawWays b w m (k + j + 1) := fun j hj => by
        have := List.mem_range.mp hj
        exact ways_fuel n m (k + j + 1) (by omega) (by omega) (by omega)
      rw [List.flatMap_def, List.flatMap_def]
      congr 1
      refine List.map_congr_left fun j hj => ?_
      rw [key j hj]
theorem nats_back (b : List Nat) : (b.map dN).map natOf = b := by
  rw [List.map_map]
  exact List.map_id'' (fun n => Int.toNat_natCast n) b
/-! ### comparing lists of numbers -/
theorem castL_inj : ∀ {a b : List Nat}, (a.map fun n : Nat => (n : Int)) = b.map (fun n : Nat => (n : Int)) ↔ a = b
  | [], [] => by simp
  | [], _ :: _ => by simp
  | _ :: _, [] => by simp
  | x :: a, y :: b => by
    have ih := castL_inj (a := a) (b := b)
    rw [List.map_cons, List.map_cons, List.cons.injEq, List.cons.injEq, ih]
    constructor
    · rintro ⟨h1, h2⟩
      exact ⟨by omega, h2⟩
    · rintro ⟨h1, h2⟩
      exact ⟨by omega, h2⟩
theorem eqv_N (a b : List Nat) : PyData.eqv (.list (a.map dN)) (.list (b.map dN)) = decide (a = b) := by
  have h := PySem.W.ked_eqvAll (a.map fun n : Nat => (n : Int)) (b.map fun n : Nat => (n : Int))
  rw [List.map_map, List.map_map] at h
  rw [PyData.eqv]
  refine h.trans ?_
  rw [decide_eq_decide]
  exact castL_inj
theorem sh_N (a : List Nat) : SeqAt.shaped (.list (a.map dN)) = true := sh_ints
theorem rv_eqN {K : PySem.W.Frag} {a b : List Nat} : RV (rEqA K) (.list (a.map dN)) (.list (b.map dN)) fun x => x = .bool (decide (a = b)) := by
  have := rv_eqD (K := K) (sh_N a) (sh_N b)
  rw [eqv_N] at this
  exact this
theorem rv_neN {K : PySem.W.Frag} {a b : List Nat} : RV (rNeA K) (.list (a.map dN)) (.list (b.map dN)) fun x => x = .bool (!decide (a = b)) := by
  have := rv_neD (K := K) (sh_N a) (sh_N b)
  rw [eqv_N] at this
  exact this
theorem cmp_way (way : List (Nat × Nat)) : Cmp 2 (wayD way) := cmp_list fun d hd => by
  obtain ⟨p, _, rfl⟩ := List.mem_map.mp hd
  exact cmp_tup fun x hx => by
    rcases List.mem_cons.mp hx with e | e
    · rw [e]
      exact cmp_int _ _
    · rw [List.mem_singleton.mp e]
      exact cmp_int _ _
theorem sh_ways (W : List (List (Nat × Nat))) : SeqAt.shaped (.list (W.map wayD)) = true := (cmp_list (m := 2) fun d hd => by
  obtain ⟨p, _, rfl⟩ := List.mem_map.mp hd
  exact cmp_way p).shaped (by decide)
theorem ev_listRg {Δ : Dn} {te : TE} {n : Int} (h : Ev Δ te (.int n)) (h0 : 0 ≤ n) (h1 : n ≤ 100000) : Ev Δ (tLstRg (tRg1 te)) (.list (rngD 0 n.toNat)) := fun pp B σ Hs H E Q q =>
  h pp B σ Hs H E _ fun x d1 Hs1 H1 g1 r1 p1 => ⟨n, by rw [p1] at r1; exact r1, ⟨by omega, by omega, by omega, by omega, by omega⟩, by
    have e : rngD 0 n.toNat = ((List.range n.toNat).map fun i : Nat => (0 : Int) + (i : Int)).map PyData.int := by rw [List.map_map]; rfl
    have e2 : rgV 0 n = ((List.range n.toNat).map fun i : Nat => (0 : Int) + (i : Int)).map V.int := by
      unfold rgV
      rw [List.map_map, Int.sub_zero]
      rfl
    rw [e2]
    exact (q.go g1).newL g1.wf (ds := ((List.range n.toNat).map fun i : Nat => (0 : Int) + (i : Int)).map PyData.int) (RpL.ofInts _) (by rw [e])⟩
theorem ev_rev {K : PySem.W.Frag} {Δ : Dn} {te : TE} {ds : List PyData} (h : Ev Δ te (.list ds)) : Ev Δ (tRevL K te) (.list ds.reverse) := fun pp B σ Hs H E Q q =>
  h pp B σ Hs H E _ fun x d1 Hs1 H1 g1 r1 p1 => by
    subst p1
    obtain ⟨a, xs, rfl, ha, ra⟩ := r1
    exact ⟨a, xs, rfl, .of (g1.wf.le _ _ ha), (q.go g1).newL g1.wf ra.reverse rfl⟩
theorem rng_rev (n : Nat) : (rngD 0 n).reverse = dwnD ((n : Int) - 1) n := by
  refine List.ext_getElem? fun j => ?_
  by_cases hj : j < n
  · rw [List.getElem?_reverse (by rw [rngD_length]; exact hj), rngD_length]
    unfold rngD dwnD
    rw [getR _ (by omega : n - 1 - j < n), getR _ hj]
    congr 1
    show PyData.int _ = PyData.int _
    congr 1
    omega
  · rw [List.getElem?_eq_none (by rw [List.length_reverse, rngD_length]; omega), List.getElem?_eq_none (by rw [dwnD_length]; omega)]
theorem bord_inj : ∀ (s t : List Nat) (p : Nat), bord p s = bord p t → s = t
  | [], [], _, _ => rfl
  | [], _ :: _, _, h => by cases h
  | _ :: _, [], _, h => by cases h
  | x :: s, y :: t, p, h => by
    have h1 : p + x = p + y := (List.cons.inj h).1
    have h2 : bord (p + x) s = bord (p + y) t := (List.cons.inj h).2
    have e : x = y := by omega
    subst e
    rw [bord_inj s t (p + x) h2]
/-- the law's table of least costs -/
def costT (w : Nat) (s : List Nat) (m : Nat) : List PyData := (List.range (s.length + 1)).map fun k => if m ≤ k then dN (cost w (s.drop k)) else dN 0
theorem costT_get {w : Nat} {s : List Nat} {m k : Nat} (h : k ≤ s.length) (hm : m ≤ k) : (costT w s m)[k]? = some (dN (cost w (s.drop k))) := by
  unfold costT
  rw [getR _ (by omega), if_pos hm]
theorem costT_length (w : Nat) (s : List Nat) (m : Nat) : (costT w s m).length = s.length + 1 := by unfold costT; rw [List.length_map, List.length_range]
theorem costT_set {w : Nat} {s : List Nat} {m : Nat} (h : m < s.length) : (costT w s (m + 1)).set m (dN (cost w (s.drop m))) = costT w s m := by
  refine List.ext_getElem? fun j => ?_
  by_cases hj : j ≤ s.length
  · by_cases e : j = m
    · rw [e, set_at _ (by rw [costT_length]; omega), costT_get (by omega) (Nat.le_refl _)]
    · rw [set_off _ e]
      unfold costT
      rw [getR _ (by omega), getR _ (by omega)]
      have : (m + 1 ≤ j) ↔ (m ≤ j) := by omega
      simp only [this]
  · rw [List.getElem?_eq_none (by rw [List.length_set, costT_length]; omega), List.getElem?_eq_none (by rw [costT_length]; omega)]
theorem rep_cost (w : Nat) (s : List Nat) : (List.replicate (s.length + 1) [PyData.int 0]).flatten = costT w s s.length := by
  have h : ∀ n : Nat, (List.replicate n [PyData.int 0]).flatten = List.replicate n (PyData.int 0) := fun n => by
    induction n with
    | zero => rfl
    | succ n ih =>
      rw [List.replicate_succ, List.flatten_cons, ih]
      rfl
  rw [h]
  refine List.ext_getElem? fun j => ?_
  by_cases hj : j ≤ s.length
  · rw [List.getElem?_replicate, if_pos (by omega)]
    unfold costT
    rw [getR _ (by omega)]
    by_cases e : s.length ≤ j
    · have : j = s.length := by omega
      rw [if_pos e, this, List.drop_length]
      rfl
    · rw [if_neg e]
      rfl
  · rw [List.getElem?_eq_none (by rw [List.length_replicate]; omega), List.getElem?_eq_none (by rw [costT_length]; omega)]
theorem bord0_get {s : List Nat} {k : Nat} (h : k ≤ s.length) : (0 :: bord 0 s)[k]? = some (s.take k).sum := by
  cases k with
  | zero => rfl
  | succ k =>
    show (bord 0 s)[k]? = _
    rw [bord_get s 0 k (by omega), Nat.zero_add]
theorem bordD_get {s : List Nat} {k : Nat} (h : k ≤ s.length) : ((0 :: bord 0 s).map dN)[k]? = some (dN (s.take k).sum) := by
  rw [List.getElem?_map, bord0_get h]
  rfl
abbrev s__law_ways : Stmt := topS 34
abbrev nm__law_ways : List Str := ["_law_borders_here", "_law_begin", "_law_width_here", "_law_found", "_law_start", "_law_end", "_law_way"]
theorem sc__law_ways : FnScope nm__law_ways ["_law_borders_here", "_law_begin", "_law_width_here"] (defScope s__law_ways) := ⟨rfl, rfl, rfl, by decide +kernel, rfl, by decide +kernel, by decide +kernel⟩
abbrev s__law_least_rough : Stmt := topS 37
abbrev nm__law_least_rough : List Str := ["_law_borders_here", "_law_width_here", "_law_best", "_law_first", "_law_tried", "_law_last", "_law_size", "_law_free"]
theorem sc__law_least_rough : FnScope nm__law_least_rough ["_law_borders_here", "_law_width_here"] (defScope s__law_least_rough) := ⟨rfl, rfl, rfl, by decide +kernel, rfl, by decide +kernel, by decide +kernel⟩
section
variable {P : Program} {w : World} {K : PySem.W.Frag} {mg : Str → Option Value} {base : Heap} {f : Addr} {fd : FuncData}
def fWays : List PyData → PyData
  | [.list bs, .int k, .int w] => .list ((lawWays (bs.map natOf) w.toNat (bs.map natOf).length k.toNat).map wayD)
  | _ => .none
def preWays (n : Nat) (ds : List PyData) : Prop := ∃ (b : List Nat) (k w : Nat), ds = [.list (b.map dN), dN k, dN w] ∧ b.length ≤ 7 ∧ k ≤ b.length ∧ b.length - k < n
def spWays (n : Nat) : Sp := spD (preWays n) fWays
theorem fWays_eq (b : List Nat) (k w : Nat) : fWays [.list (b.map dN), dN k, dN w] = .list ((lawWays b w b.length k).map wayD) := by
  show PyData.list ((lawWays ((b.map dN).map natOf) (w : Int).toNat ((b.map dN).map natOf).length (k : Int).toNat).map wayD) = _
  rw [nats_back, Int.toNat_natCast, Int.toNat_natCast]
theorem ev_ways {Δ : Dn} {E : XK} {ta : TA} {b : List Nat} {k w n : Nat} (h : EvA Δ ta [.list (b.map dN), dN k, dN w]) (h1 : b.length ≤ 7) (h2 : k ≤ b.length) (h3 : b.length - k < n) : Ev Δ (tCall (spWays n) [] E ta) (.list ((lawWays b w b.length k).map wayD)) := by
  have := ev_call (E := E) (f := fWays) (Pre := preWays n) h ⟨b, k, w, rfl, h1, h2, h3⟩
  exact this.is (fWays_eq b k w)
theorem ok_ways0 (F : Fun K "_law_ways" "_law_ways" s__law_ways f fd) (T : Bt mg) {n : Nat} (c__law_ways : C8.Cal P w K mg base n "_law_ways" (spWays n) []) : FnOk P w K mg base CX0 (n + 1) f fd ["_law_borders_here", "_law_begin", "_law_width_here"] (spWays (n + 1)) :=
  okD F sc__law_ways (fun ds ⟨b, k, w, e, _⟩ => by rw [e]; rfl) fun cdv A outer s H E hr => by
    refine ⟨_, (pss_cons (ps_if (pt_cmpR (k_eq (K := K) hr.units rfl) (pv 1) (pe_callB (k_len (K := K) rfl) (by rfl) T.len (by decide +kernel) (pa_cons (pv 0) pa_nil)) (nomark _)) (pss_one (ps_ret (pe_lst (pa_cons (pe_lst pa_nil) pa_nil)))) pss_nil) (pss_cons (ps_asg (pe_tup (pa_cons (pe_lst pa_nil) (pa_cons (pe_ifExp (pt_cmpR (k_eq (K := K) hr.units rfl) (pv 1) pe_int (nomark _)) pe_int (pe_ix (k_ix (K := K) rfl) (pv 0) (pe_op op_sub (pv 1) pe_int) (fun _ _ => rfl))) pa_nil))) (k_tup (K := K) rfl (pg_tup (n := 2) rfl (pgs_cons (pg_name (i := 3) sc__law_ways.nd rfl (.inl rfl)) (pgs_cons (pg_name (i := 4) sc__law_ways.nd rfl (.inr rfl)) pgs_nil))))) (pss_cons (ps_for PassesOwn.never rfl (pi_range2 (by rfl) T.range (pa_cons (pe_op op_addA (pv 1) pe_int) (pa_cons (pe_op op_addA (pe_callB (k_len (K := K) rfl) (by rfl) T.len (by decide +kernel) (pa_cons (pv 0) pa_nil)) pe_int) pa_nil))) (pg_name (i := 5) sc__law_ways.nd rfl (.inr rfl)) (pss_one (ps_if (PW.pt (pw_or (pt_cmpR op_le (pe_op op_sub (pe_ix (k_ix (K := K) rfl) (pv 0) (pe_op op_sub (pv 5) pe_int) (fun _ _ => rfl)) (pv 4)) (pv 2) (nomark _)) (pw_or1 (pt_cmpR (k_eq (K := K) hr.units rfl) (pv 5) (pe_op op_addA (pv 1) pe_int) (nomark _))))) (pss_one (ps_set (i := 3) sc__law_ways.nd rfl (.inl rfl) (pe_op op_addA (pv 3) (pe_lc (own := [("_law_way", 6)]) rfl sc__law_ways.nd (k_list (K := K) rfl (C8.pe_c c__law_ways hr (by omega) (by rfl) (pa_cons (pv 0) (pa_cons (pv 5) (pa_cons (pv 2) pa_nil))))) (blkOk_by (own := [("_law_way", 6)]) (N := nm__law_ways) (sc := (defScope s__law_ways)) (by decide +kernel)) (fun _ _ _ _ _ => (pg_name (i := 6) sc__law_ways.nd rfl (.inl rfl))) (fun _ _ _ _ _ => pts_nil) (fun _ _ _ _ _ => (pe_op op_addA (pe_lst (pa_cons (pe_tup (pa_cons (pv 4) (pa_cons (pe_ix (k_ix (K := K) rfl) (pv 0) (pe_op op_sub (pv 5) pe_int) (fun _ _ => rfl)) pa_nil))) pa_nil)) (pv 6))))))) pss_nil))) (pss_one (ps_ret (pv 3)))))), ?_⟩
    rintro ds ⟨b, k, w, rfl, hb7, hk, hn⟩
    rw [fWays_eq]
    show Run [some (.val (.list (b.map dN))), some (.val (dN k)), some (.val (dN w)), none, none, none, none] _ _ _
    have len0 : ∀ {Δ : Dn}, Δ[0]? = some (some (.val (.list (b.map dN)))) → Ev Δ (tCB (rLenA K) (tCons (tVar 0) tNil)) (dN b.length) := fun h => ev_cb (ea_cons (ev_var h) ea_nil) rc_lenM
    have getB : ∀ j, j < b.length → (b.map dN)[j]? = some (dN (b.getD j 0)) := fun j hj => by
      rw [List.getElem?_map, List.getElem?_eq_getElem hj, List.getD_eq_getElem?_getD, List.getElem?_eq_getElem hj]
      rfl
    refine q_guard (b := decide (k = b.length)) ((et_test (ev_op (ev_var rfl) (len0 rfl) rv_eqI)).is (by rw [decide_eq_decide]; omega)) (fun hc => ?_) fun hc => ?_
    · refine run_retD (ev_lst (ea_cons (ev_lst ea_nil (by decide)) ea_nil) (by decide)) ?_
      have hc' := of_decide_eq_true hc
      have : lawWays b w b.length k = [[]] := by
        cases hL : b.length with
        | zero =>
          unfold lawWays
          rw [if_pos hc']
        | succ m =>
          unfold lawWays
          rw [if_pos hc']
      rw [this]
      rfl
    have hc' := of_decide_eq_false hc
    obtain ⟨m, hm⟩ : ∃ m, b.length = m + 1 := ⟨b.length - 1, by omega⟩
    let G := fun j : Nat => if b.getD (k + j) 0 - stB b k ≤ w ∨ j = 0 then (lawWays b w m (k + j + 1)).map ((stB b k, b.getD (k + j) 0) :: ·) else []
    have hW : lawWays b w b.length k = (List.range (b.length - k)).flatMap G := by
      show lawWays b w b.length k = (List.range (b.length - k)).flatMap fun j => if b.getD (k + j) 0 - stB b k ≤ w ∨ j = 0 then (lawWays b w m (k + j + 1)).map ((stB b k, b.getD (k + j) 0) :: ·) else []
      rw [hm]
      conv => lhs; unfold lawWays
      rw [if_neg (by omega), hm]
    have hlen : ∀ j, j ≤ b.length - k → ((List.range j).flatMap G).length ≤ 128 := fun j hj => by
      have h1 := ways_len (b := b) (w := w) b.length k hk (by omega)
      rw [hW] at h1
      have h2 : (List.range (b.length - k)).flatMap G = (List.range j).flatMap G ++ ((List.range (b.length - k)).drop j).flatMap G := by
        rw [← List.flatMap_append]
        congr 1
        have e : List.range j = (List.range (b.length - k)).take j := by
          rw [List.take_range, Nat.min_eq_left hj]
        rw [e, List.take_append_drop]
      rw [h2, List.length_append] at h1
      have h3 : 2 ^ (b.length - k) ≤ 2 ^ 7 := Nat.pow_le_pow_right (by decide) (by omega)
      have h4 : (2 : Nat) ^ 7 = 128 := by decide
      omega
    refine q_asgT (d := .tuple [.list [], dN (stB b k)]) (ev_tup (ea_cons (ev_lst ea_nil (by decide)) (ea_cons ?_ ea_nil)) (by simp)) tg_pair ?_
    · refine ev_if (b := decide (k = 0)) ((et_test (ev_op (ev_var rfl) ev_int rv_eqI)).is (by rw [decide_eq_decide]; omega)) (fun h0 => ?_) fun h0 => ?_
      · have h0' := of_decide_eq_true h0
        unfold stB
        rw [if_pos h0']
        exact ev_int
      · have h0' := of_decide_eq_false h0
        unfold stB
        rw [if_neg h0']
        exact ev_op (ev_var rfl) (ev_op (ev_var rfl) ev_int rv_sub) (rv_ixL (atN (j := k - 1) (by omega) (getB _ (by omega))))
    refine q_for (ts := [5]) (fun j Δ => ∃ z5 z6, Δ = [some (.val (.list (b.map dN))), some (.val (dN k)), some (.val (dN w)), some (.val (.list (((List.range j).flatMap G).map wayD))), some (.val (dN (stB b k))), z5, z6]) ((ei_range2 (i := (k : Int) + 1) (j := (b.length : Int) + 1) (ea_cons (ev_op (ev_var rfl) ev_int rv_addI) (ea_cons (ev_op (len0 rfl) ev_int rv_addI) ea_nil))).is (show rngD ((k : Int) + 1) ((b.length : Int) + 1 - ((k : Int) + 1)).toNat = rngD ((k : Int) + 1) (b.length - k) by congr 1; omega)) ⟨none, none, rfl⟩ (fun j d Δj hd hI => ?_) fun Δ' hI => ?_
    · obtain ⟨z5, z6, rfl⟩ := hI
      obtain ⟨hj, rfl⟩ := rngD_get hd
      have el : ((k : Int) + 1 + (j : Int)) = ((k + j + 1 : Nat) : Int) := by omega
      rw [el]
      refine ⟨_, tg_name, ?_⟩
      show Run [some (.val (.list (b.map dN))), some (.val (dN k)), some (.val (dN w)), some (.val (.list (((List.range j).flatMap G).map wayD))), some (.val (dN (stB b k))), some (.val (dN (k + j + 1))), z6] _ _ _
      have ixE : ∀ {Δ : Dn}, Δ[0]? = some (some (.val (.list (b.map dN)))) → Δ[5]? = some (some (.val (dN (k + j + 1)))) → Ev Δ (tOp (rIx K) (tVar 0) (tOp (rI0 fun i j => .int (i - j)) (tVar 5) (tC (.int 1)))) (dN (b.getD (k + j) 0)) := fun h h' => ev_op (ev_var h) (ev_op (ev_var h') ev_int rv_sub) (rv_ixL (atN (j := k + j) (by omega) (getB _ (by omega))))
      have hrs : (List.range (j + 1)).flatMap G = (List.range j).flatMap G ++ G j := by
        rw [List.range_succ, List.flatMap_append]
        simp
      refine run_if (b := decide (b.getD (k + j) 0 - stB b k ≤ w) || decide (j = 0)) ((et_or (et_test (ev_op (ev_op (ixE rfl rfl) (ev_var rfl) rv_sub) (ev_var rfl) rv_le)) fun _ => et_test (ev_op (ev_var rfl) (ev_op (ev_var rfl) ev_int rv_addI) rv_eqI)).is (by congr 1 <;> (rw [decide_eq_decide]; omega))) (fun hb => ?_) fun hb => ?_
      · have hb' : b.getD (k + j) 0 - stB b k ≤ w ∨ j = 0 := by simpa using hb
        have hG : G j = (lawWays b w m (k + j + 1)).map ((stB b k, b.getD (k + j) 0) :: ·) := if_pos hb'
        have hW2 : lawWays b w b.length (k + j + 1) = lawWays b w m (k + j + 1) := ways_fuel _ _ _ (by omega) (by omega) (by omega)
        have hwl : (lawWays b w m (k + j + 1)).length ≤ 128 := by
          have := hlen (j + 1) (by omega)
          rw [hrs, List.length_append, hG, List.length_map] at this
          omega
        refine run_asg (ev_op (ev_var rfl) (EvN.ev (en_lc1 (ts := [6]) (lawWays b w m (k + j + 1)) wayD (fun way => wayD ((stB b k, b.getD (k + j) 0) :: way)) (ei_list ((ev_ways (k := k + j + 1) (ea_cons (ev_var rfl) (ea_cons (ev_var rfl) (ea_cons (ev_var rfl) ea_nil))) hb7 (by omega) (by omega)).is (by rw [hW2]))) (by omega) (by simp) fun way hway => ⟨_, tg_name, ?_⟩)) (rv_addL ?_)) ⟨some (.val (dN (k + j + 1))), z6, ?_⟩
        · have := ways_each _ _ way hway
          exact ev_op (ev_lst (ea_cons (ev_tup (ea_cons (ev_var rfl) (ea_cons (ixE rfl rfl) ea_nil)) (by simp)) ea_nil) (by simp)) (ev_var rfl) (rv_addL (by rw [List.length_map]; show 1 + way.length ≤ _; omega))
        · rw [List.length_map, List.length_map]
          have := hlen j (by omega)
          omega
        · rw [hrs, hG, List.map_append, List.map_map]
          rfl
      · have hb' : ¬ (b.getD (k + j) 0 - stB b k ≤ w ∨ j = 0) := by simpa using hb
        have hG : G j = [] := if_neg hb'
        refine run_nil ⟨some (.val (dN (k + j + 1))), z6, ?_⟩
        rw [hrs, hG, List.append_nil]
    · obtain ⟨z5, z6, rfl⟩ := hI
      rw [rngD_length, ← hW]
      exact run_retD (ev_var rfl) rfl
def preLR (ds : List PyData) : Prop := ∃ (s : List Nat) (w : Nat), ds = [.list ((0 :: bord 0 s).map dN), dN w] ∧ s.length ≤ 1000 ∧ w ≤ 1000
def postLR (ds : List PyData) (d : PyData) : Prop := ∀ (s : List Nat) (w : Nat), ds = [.list ((0 :: bord 0 s).map dN), dN w] → d = dN (cost w s)
def spLR : Sp := spQ preLR postLR
theorem ev_least_rough {Δ : Dn} {E : XK} {ta : TA} {s : List Nat} {w : Nat} (h : EvA Δ ta [.list ((0 :: bord 0 s).map dN), dN w]) (h1 : s.length ≤ 1000) (h2 : w ≤ 1000) : Ev Δ (tCall spLR [] E ta) (dN (cost w s)) :=
  (ev_callQ (Pre := preLR) (Post := postLR) h ⟨s, w, rfl, h1, h2⟩).weak fun d hd => hd s w rfl
theorem listN_inj {a b : List Nat} (h : a.map dN = b.map dN) : a = b := by
  have := congrArg (List.map natOf) h
  rwa [nats_back, nats_back] at this
theorem ok_least_rough (F : Fun K "_law_least_rough" "_law_least_rough" s__law_least_rough f fd) (T : Bt mg) : FnOk P w K mg base CX0 1 f fd ["_law_borders_here", "_law_width_here"] spLR :=
  okQ F sc__law_least_rough (fun ds ⟨s, w, e, _⟩ => by rw [e]; rfl) fun cdv A outer s H E hr => by
    refine ⟨_, (pss_cons (ps_set (i := 2) sc__law_least_rough.nd rfl (.inl rfl) (pe_op op_mulA (pe_lst (pa_cons pe_int pa_nil)) (pe_callB (k_len (K := K) rfl) (by rfl) T.len (by decide +kernel) (pa_cons (pv 0) pa_nil)))) (pss_cons (ps_for PassesOwn.never rfl (k_list (K := K) rfl (k_rev (K := K) rfl (pe_listRg rfl (by rfl) T.list (prg_1 (by rfl) T.range (pe_op op_sub (pe_callB (k_len (K := K) rfl) (by rfl) T.len (by decide +kernel) (pa_cons (pv 0) pa_nil)) pe_int))))) (pg_name (i := 3) sc__law_least_rough.nd rfl (.inl rfl)) (pss_cons (ps_set (i := 4) sc__law_least_rough.nd rfl (.inl rfl) (pe_lst pa_nil)) (pss_cons (ps_for PassesOwn.never rfl (pi_range2 (by rfl) T.range (pa_cons (pe_op op_addA (pv 3) pe_int) (pa_cons (pe_callB (k_len (K := K) rfl) (by rfl) T.len (by decide +kernel) (pa_cons (pv 0) pa_nil)) pa_nil))) (pg_name (i := 5) sc__law_least_rough.nd rfl (.inl rfl)) (pss_cons (ps_set (i := 6) sc__law_least_rough.nd rfl (.inl rfl) (pe_op op_sub (pe_ix (k_ix (K := K) rfl) (pv 0) (pv 5) (fun _ _ => rfl)) (pe_ix (k_ix (K := K) rfl) (pv 0) (pv 3) (fun _ _ => rfl)))) (pss_one (ps_if (PW.pt (pw_or (pt_cmpR op_le (pv 6) (pv 1) (nomark _)) (pw_or1 (pt_cmpR (k_eq (K := K) hr.units rfl) (pv 5) (pe_op op_addA (pv 3) pe_int) (nomark _))))) (pss_cons (ps_set (i := 7) sc__law_least_rough.nd rfl (.inl rfl) (pe_ifExp (pt_cmpR (k_eq (K := K) hr.units rfl) (pv 5) (pe_op op_sub (pe_callB (k_len (K := K) rfl) (by rfl) T.len (by decide +kernel) (pa_cons (pv 0) pa_nil)) pe_int) (nomark _)) pe_int (pe_op op_pow (pe_callB (k_max (K := K) rfl rfl) (by rfl) T.max (by decide +kernel) (pa_cons pe_int (pa_cons (pe_op op_sub (pv 1) (pv 6)) pa_nil))) pe_int))) (pss_one (ps_expr (pe_bm PySem.F.plainAttrs_list PySem.F.slot_list_append PySem.F.type_list_append mt_append (pv 4) (pa_cons (pe_op op_addA (pv 7) (pe_ix (k_ix (K := K) rfl) (pv 2) (pv 5) (fun _ _ => rfl))) pa_nil))))) pss_nil)))) (pss_one (ps_asg (pe_callB (k_min (K := K) rfl rfl) (by rfl) T.min (by decide +kernel) (pa_cons (pv 4) pa_nil)) (pg_sub (pv 2) (pv 3) set_list)))))) (pss_one (ps_ret (pe_ix (k_ix (K := K) rfl) (pv 2) pe_int (fun _ _ => rfl)))))), ?_⟩
    rintro ds ⟨sz, w, rfl, hl, hw⟩
    show Run [some (.val (.list ((0 :: bord 0 sz).map dN))), some (.val (dN w)), none, none, none, none, none, none] _ _ _
    have bl : (0 :: bord 0 sz).length = sz.length + 1 := by rw [List.length_cons, bord_length]
    have len0 : ∀ {Δ : Dn}, Δ[0]? = some (some (.val (.list ((0 :: bord 0 sz).map dN)))) → Ev Δ (tCB (rLenA K) (tCons (tVar 0) tNil)) (dN (sz.length + 1)) := fun h => (ev_cb (ea_cons (ev_var h) ea_nil) rc_lenM).is (by rw [bl])
    refine q_own ((en_mulL (j := ((sz.length + 1 : Nat) : Int)) (ev_lst (ea_cons ev_int ea_nil) (by simp)) (len0 rfl) (by omega) (by omega) (by show 1 * _ ≤ _; omega)).is (d' := costT w sz sz.length) (by rw [Int.toNat_natCast]; exact rep_cost w sz)) ?_
    refine q_for (ts := [3]) (fun k Δ => ∃ z3 z4 z5 z6 z7, Δ = [some (.val (.list ((0 :: bord 0 sz).map dN))), some (.val (dN w)), some (.own (costT w sz (sz.length - k))), z3, z4, z5, z6, z7])
      (ei_list ((ev_rev (ev_listRg (n := (sz.length : Int)) ((ev_op (len0 rfl) ev_int rv_sub).is (by show PyData.int _ = PyData.int _; congr 1; omega)) (by omega) (by omega))).is (by rw [Int.toNat_natCast, rng_rev]))) ⟨none, none, none, none, none, rfl⟩ (fun k d Δk hd hI => ?_) fun Δ' hI => ?_
    · obtain ⟨z3, z4, z5, z6, z7, rfl⟩ := hI
      obtain ⟨hk, rfl⟩ := dwnD_get hd
      obtain ⟨m, hm⟩ : ∃ m, sz.length - k = m + 1 := ⟨sz.length - k - 1, by omega⟩
      have em : ((sz.length : Int) - 1 - (k : Int)) = (m : Int) := by omega
      have em2 : sz.length - (k + 1) = m := by omega
      have hmn : m < sz.length := by omega
      rw [hm, em, em2]
      refine ⟨_, tg_name, ?_⟩
      show Run [some (.val (.list ((0 :: bord 0 sz).map dN))), some (.val (dN w)), some (.own (costT w sz (m + 1))), some (.val (dN m)), z4, z5, z6, z7] _ _ _
      refine q_own (en_lst ea_nil (by decide)) ?_
      let r := sz.drop m
      have hr1 : r.length = sz.length - m := List.length_drop
      let D := dp w (sz.drop (m + 1))
      let Fc := fun j : Nat => decide ((r.take (j + 1)).sum ≤ w) || decide (j = 0)
      let Gc := fun j : Nat => ((if j + 1 = r.length then 0 else (w - (r.take (j + 1)).sum) ^ 2) + (D.getD j (0, 0)).1, j + 1)
      have hcands : cands w r D = ((List.range r.length).filter Fc).map Gc := rfl
      refine q_for (ts := [5]) (fun j Δ => ∃ z5 z6 z7, Δ = [some (.val (.list ((0 :: bord 0 sz).map dN))), some (.val (dN w)), some (.own (costT w sz (m + 1))), some (.val (dN m)), some (.own ((((List.range j).filter Fc).map Gc).map fun p => dN p.1)), z5, z6, z7])
        ((ei_range2 (i := (m : Int) + 1) (j := ((sz.length + 1 : Nat) : Int)) (ea_cons (ev_op (ev_var rfl) ev_int rv_addI) (ea_cons (len0 rfl) ea_nil))).is (show rngD ((m : Int) + 1) (((sz.length + 1 : Nat) : Int) - ((m : Int) + 1)).toNat = rngD ((m : Int) + 1) r.length by congr 1; omega)) ⟨z5, z6, z7, rfl⟩ (fun j d Δj hd hI => ?_) fun Δ' hI => ?_
      · obtain ⟨z5, z6, z7, rfl⟩ := hI
        obtain ⟨hj, rfl⟩ := rngD_get hd
        have el : ((m : Int) + 1 + (j : Int)) = ((m + 1 + j : Nat) : Int) := by omega
        rw [el]
        refine ⟨_, tg_name, ?_⟩
        show Run [some (.val (.list ((0 :: bord 0 sz).map dN))), some (.val (dN w)), some (.own (costT w sz (m + 1))), some (.val (dN m)), some (.own ((((List.range j).filter Fc).map Gc).map fun p => dN p.1)), some (.val (dN (m + 1 + j))), z6, z7] _ _ _
        have hsz : (sz.take (m + 1 + j)).sum = (sz.take m).sum + (r.take (j + 1)).sum := by
          rw [show m + 1 + j = m + (j + 1) by omega, List.take_add, List.sum_append]
        refine q_asg (d := dN (r.take (j + 1)).sum) ((ev_op (ev_op (ev_var rfl) (ev_var rfl) (rv_ixL (atI_nat (bordD_get (by omega))))) (ev_op (ev_var rfl) (ev_var rfl) (rv_ixL (atI_nat (bordD_get (by omega))))) rv_sub).is ?_) ?_
        · show PyData.int _ = PyData.int _
          congr 1
          omega
        refine run_if (b := Fc j) ((et_or (et_test (ev_op (ev_var rfl) (ev_var rfl) rv_le)) fun _ => et_test (ev_op (ev_var rfl) (ev_op (ev_var rfl) ev_int rv_addI) rv_eqI)).is ?_) (fun hb => ?_) fun hb => ?_
        · show (decide (((r.take (j + 1)).sum : Int) ≤ (w : Int)) || decide (((m + 1 + j : Nat) : Int) = (m : Int) + 1)) = (decide _ || decide _)
          congr 1
          · rw [decide_eq_decide]
            omega
          · rw [decide_eq_decide]
            omega
        · refine q_asg (d := dN (if j + 1 = r.length then 0 else (w - (r.take (j + 1)).sum) ^ 2)) (ev_if (b := decide (j + 1 = r.length)) ((et_test (ev_op (ev_var rfl) (ev_op (len0 rfl) ev_int rv_sub) rv_eqI)).is (by rw [decide_eq_decide]; omega)) (fun hb => ?_) fun hb => ?_) ?_
          · rw [if_pos (of_decide_eq_true hb)]
            exact ev_int
          · rw [if_neg (of_decide_eq_false hb)]
            refine (ev_op (ev_max (w := w) (z := (r.take (j + 1)).sum) (ea_cons ev_int (ea_cons (ev_op (ev_var rfl) (ev_var rfl) rv_sub) ea_nil))) ev_int (rv_pow ⟨by omega, by omega, ?_⟩)).is (congrArg PyData.int (pow2 _))
            have : w - (r.take (j + 1)).sum ≤ 1000 := by omega
            show ((w - (r.take (j + 1)).sum : Nat) : Int).natAbs < 2 ^ 64
            omega
          refine run_app rfl (ev_op (ev_var rfl) (ev_ixOwn rfl (ev_var rfl) (atI_nat (costT_get (by omega) (by omega)))) rv_addI) ?_ fun d e => ?_
          · rw [List.length_map, List.length_map]
            have := List.length_filter_le Fc (List.range j)
            rw [List.length_range] at this
            omega
          · refine ⟨_, _, _, congrArg (fun q => [some (.val (.list ((0 :: bord 0 sz).map dN))), some (.val (dN w)), some (.own (costT w sz (m + 1))), some (.val (dN m)), some (Cell.own q), some (.val (dN (m + 1 + j))), _, _]) ?_⟩
            rw [List.range_succ, List.filter_append, List.filter_cons, if_pos hb, List.map_append, List.map_append, e]
            congr 1
            have ed : (D.getD j (0, 0)).1 = cost w (sz.drop (m + 1 + j)) := by
              show ((dp w (sz.drop (m + 1))).getD j (0, 0)).1 = _
              rw [dp_get w _ j (by rw [List.length_drop]; omega), List.drop_drop]
              rfl
            show [PyData.int (((if j + 1 = r.length then 0 else (w - (r.take (j + 1)).sum) ^ 2 : Nat) : Int) + (cost w (sz.drop (m + 1 + j)) : Int))] = [PyData.int (((if j + 1 = r.length then 0 else (w - (r.take (j + 1)).sum) ^ 2) + (D.getD j (0, 0)).1 : Nat) : Int)]
            rw [ed]
            congr 1
        · refine run_nil ⟨_, _, _, congrArg (fun q => [some (.val (.list ((0 :: bord 0 sz).map dN))), some (.val (dN w)), some (.own (costT w sz (m + 1))), some (.val (dN m)), some (Cell.own q), some (.val (dN (m + 1 + j))), _, _]) ?_⟩
          rw [List.range_succ, List.filter_append, List.filter_cons, if_neg (by rw [hb]; decide), List.filter_nil, List.append_nil]
      · obtain ⟨z5, z6, z7, rfl⟩ := hI
        rw [rngD_length]
        obtain ⟨c, r', hr2⟩ : ∃ c r', sz.drop m = c :: r' := by
          cases h : sz.drop m with
          | nil =>
            have hr3 : r.length = 0 := by
              show (sz.drop m).length = 0
              rw [h]
              rfl
            omega
          | cons c r' => exact ⟨c, r', rfl⟩
        have hr4 : sz.drop (m + 1) = r' := by
          have a : sz.drop (m + 1) = (sz.drop m).drop 1 := by rw [List.drop_drop]
          rw [a, hr2]
          rfl
        have hcost : cost w r = (minP (cands w r D)).1 := by
          show (MM.hd w (sz.drop m)).1 = (minP (cands w (sz.drop m) (dp w (sz.drop (m + 1))))).1
          rw [hr2, hr4, hd_cons]
        have hne : cands w r D ≠ [] := by
          show cands w (sz.drop m) D ≠ []
          rw [hr2]
          exact cands_ne w c r' D
        refine run_freeze (i := 4) rfl ?_
        have hmin : RC (rMin K) [.list ((((List.range r.length).filter Fc).map Gc).map fun p => dN p.1)] fun x => x = dN (cost w r) := by
          have := rc_minL (K := K) (ns := (cands w r D).map fun p => (p.1 : Int)) (m := (cost w r : Int)) (by rw [hcost]; exact List.mem_map.mpr ⟨_, minP_mem hne, rfl⟩) (fun y hy => by
            obtain ⟨p, hp, rfl⟩ := List.mem_map.mp hy
            have := minP_fst hp
            rw [hcost]
            omega)
          rw [List.map_map] at this
          exact this
        refine run_setIx (j := m) (ds := costT w sz (m + 1)) rfl (ev_cb (ea_cons (ev_var rfl) ea_nil) hmin) (ev_var rfl) ?_ ⟨some (.val (dN m)), some (.val (.list ((((List.range r.length).filter Fc).map Gc).map fun p => dN p.1))), z5, z6, z7, ?_⟩
        · rw [costT_length]
          unfold ixN
          rw [if_pos (by omega), if_pos (by omega), Int.toNat_natCast]
        · have e := costT_set (w := w) hmn
          show [_, _, some (Cell.own _), _, _, _, _, _] = _
          rw [e]
    · obtain ⟨z3, z4, z5, z6, z7, rfl⟩ := hI
      rw [dwnD_length, Nat.sub_self]
      refine run_freeze (i := 2) rfl ?_
      refine run_ret (ev_op (ev_var rfl) ev_int (rv_ixL (atI_nat (j := 0) (costT_get (Nat.zero_le _) (Nat.le_refl _))))) fun d e s' w' ed => ?_
      injection ed with e1 e2
      injection e1 with e1
      injection e2 with e2
      injection e2 with e2
      have h1 := listN_inj e1
      have h2 : bord 0 sz = bord 0 s' := (List.cons.inj h1).2
      have h3 := bord_inj _ _ _ h2
      have h4 : w = w' := by omega
      rw [e, ← h3, ← h4]
      rfl
end
end DL
/-! F6: the looks at a cutting and at the widths. -/
namespace DL
open PySem L2
open PyProof.Rows (envOfC)
open MM
theorem rc_minM {K : PySem.W.Frag} {α : Type} {as : List α} {f : α → Nat} {m : Nat} (hm : ∃ a ∈ as, f a = m) (hx : ∀ a ∈ as, m ≤ f a) : RC (rMin K) [.list (as.map fun a => dN (f a))] fun x => x = dN m := by
  have h := rc_minL (K := K) (ns := as.map fun a => (f a : Int)) (m := (m : Int)) (by
    obtain ⟨a, h1, h2⟩ := hm
    exact List.mem_map.mpr ⟨a, h1, by rw [h2]⟩) (fun y hy => by
    obtain ⟨a, h1, rfl⟩ := List.mem_map.mp hy
    have := hx a h1
    omega)
  rw [List.map_map] at h
  exact h
/-- a list of one's own, compared -/
theorem ev_opOwnB {Δ : Dn} {r : R2} {i : Nat} {tb : TE} {ds : List PyData} {d2 : PyData} {b : Bool} (hi : Δ[i]? = some (some (.own ds))) (hb : Ev Δ tb d2) (hr : RV r (.list ds) d2 fun x => x = .bool b) : Ev Δ (tOp r (tVar i) tb) (.bool b) := fun pp B σ Hs H E Q q => by
  obtain ⟨v, h1, h2⟩ := E.at_ i _ hi
  refine ⟨v, h1, hb pp B σ Hs H E _ fun y d Hs2 H2 g2 r2 p2 => ?_⟩
  subst p2
  obtain ⟨p, xs, rfl, e2, e3, e4, e5, e6⟩ := h2.grow g2
  have le : Le Hs2 (upd Hs2 p (.lst xs)) := fun a o h => by
    rw [upd_ne (ne_of_none h e3)]
    exact h
  have w2 : Wf pp (upd Hs2 p (.lst xs)) H2 := ⟨fun a o h => by
    by_cases z : a = p
    · subst z
      rw [upd_same] at h
      cases h
      exact e2
    · rw [upd_ne z] at h
      exact g2.wf.le a o h, fun a e => by
    rw [upd_ne (show a ≠ p from fun z => e5 (by rw [← z]; exact e))]
    exact g2.wf.pump a e⟩
  refine hr pp _ H2 _ y w2 ⟨p, xs, rfl, upd_same, e6.mono le⟩ (Rp.mono le _ _ r2) Q fun v d Hs3 H3 g3 r3 p3 => ?_
  subst p3
  refine (q.go g2) v (.bool b) Hs2 H3 ⟨.refl _, g3.h, ⟨fun a o h => g3.wf.le a o (g3.s a o (le a o h)), fun a e => ?_⟩, fun a o _ h => h⟩ r3 rfl
  exact ⟨(g2.wf.pump a e).1, (g3.wf.pump a e).2⟩
theorem ev_isiOwn {K : PySem.W.Frag} {Δ : Dn} {i : Nat} {tb : TE} {ds : List PyData} (hi : Δ[i]? = some (some (.own ds))) (hb : tb = tC (.ty "list")) (hk : PySem.W.kitOne K (.type "list") (.type "list") = some true) : Ev Δ (tCB (rIsi K) (tCons (tVar i) (tCons tb tNil))) (.bool true) := fun pp B σ Hs H E Q q => by
  subst hb
  obtain ⟨v, h1, p, xs, rfl, e2, e3, e4, e5, e6⟩ := E.at_ i _ hi
  exact ⟨_, h1, .ref p, .ty "list", .type "list", .type "list", true, rfl, .ty "list", .base (.lst e2), hk, q.here E.wf (d := .bool true) rfl rfl⟩
theorem ways_l {l : List Nat} {w : Nat} {way : List (Nat × Nat)} : way ∈ lawWays (bordersN l) w (bordersN l).length 0 ↔ IsWay w 0 (sizesN l) way := by
  rw [borders_eq, bord_length]
  exact ways_iff
theorem cut_01 {α : Type} (xs : List α) : cutG xs none (some 1) = xs.take 1 := by
  unfold cutG
  rw [HT.sIx_none, show (some (1 : Int)) = some ((1 : Nat) : Int) from rfl, HT.sIx_nat]
  cases xs with
  | nil => rfl
  | cons x r =>
    rw [Nat.min_eq_left (by rw [List.length_cons]; omega)]
    rfl
theorem cmp_opt (o : Option Nat) : Cmp 0 (optD o) := by
  cases o with
  | none => exact ⟨rfl, Nat.le_refl _⟩
  | some n => exact cmp_int _ _
theorem one_of {L : List Nat} : (L.take 1).map dN = if L = [] then [] else [optD L.head?] := by
  cases L with
  | nil => rfl
  | cons n r =>
    rw [if_neg (by simp)]
    rfl
abbrev s__law_cut_right : Stmt := topS 36
abbrev nm__law_cut_right : List Str := ["_law_line_here", "_law_width_here", "_law_ways_here", "_law_told", "_law_roughness", "_law_starts_here", "_law_mine", "_law_end", "_law_start", "_law_way"]
theorem sc__law_cut_right : FnScope nm__law_cut_right ["_law_line_here", "_law_width_here"] (defScope s__law_cut_right) := ⟨rfl, rfl, rfl, by decide +kernel, rfl, by decide +kernel, by decide +kernel⟩
abbrev _sc__law_cut_right : Scope := { kind := .function, names := [(".0", .local), ("_law_way", .local), ("_law_starts_here", .cell)], isGenerator := false, isCoroutine := false }
section
variable {P : Program} {w : World} {K : PySem.W.Frag} {mg : Str → Option Value} {base : Heap} {f : Addr} {fd : FuncData}
def preCutR (ds : List PyData) : Prop := ∃ (l : List Nat) (w : Nat), ds = [dS l, dN w] ∧ LineOk l ∧ (sizesN l).length ≤ 7 ∧ 1 ≤ w ∧ w ≤ 1000
def spTrue (Pre : List PyData → Prop) : Sp := spD Pre fun _ => .bool true
theorem ev_true {Δ : Dn} {E : XK} {ta : TA} {Pre : List PyData → Prop} {ds : List PyData} (h : EvA Δ ta ds) (hp : Pre ds) : Ev Δ (tCall (spTrue Pre) [] E ta) (.bool true) := ev_call (f := fun _ => .bool true) h hp
theorem ok_cut_right (F : Fun K "_law_cut_right" "_law_cut_right" s__law_cut_right f fd) (T : Bt mg) (c__law_ways : C8.Cal P w K mg base 8 "_law_ways" (spWays 8) []) (c__law_borders : C8.Cal P w K mg base 1 "_law_borders" spBorders [])
    (c_pieces : C8.Cal P w K mg base 3 "pieces" spPieces []) (c_smooth : C8.Cal P w K mg base 3 "smooth" spSmooth []) (c__law_rough : C8.Cal P w K mg base 1 "_law_rough" spRough []) : FnOk P w K mg base CX0 9 f fd ["_law_line_here", "_law_width_here"] (spTrue preCutR) :=
  okD F sc__law_cut_right (fun ds ⟨l, w, e, _⟩ => by rw [e]; rfl) fun cdv A outer s H E hr => by
    refine ⟨_, (pss_cons (ps_set (i := 2) sc__law_cut_right.nd rfl (.inl rfl) (C8.pe_c c__law_ways hr (by decide) (by rfl) (pa_cons (C8.pe_c c__law_borders hr (by decide) (by rfl) (pa_cons (pv 0) pa_nil)) (pa_cons pe_int (pa_cons (pv 1) pa_nil))))) (pss_cons (ps_set (i := 3) sc__law_cut_right.nd rfl (.inl rfl) (C8.pe_c c_pieces hr (by decide) (by rfl) (pa_cons (pv 0) (pa_cons (pv 1) pa_nil)))) (pss_cons (ps_if (pt_cmpR (k_ne (K := K) hr.units rfl) (pe_callB (k_len (K := K) rfl) (by rfl) T.len (by decide +kernel) (pa_cons (pv 3) pa_nil)) (pe_callB (k_max (K := K) rfl rfl) (by rfl) T.max (by decide +kernel) (pa_cons pe_int (pa_cons (pe_callB (k_min (K := K) rfl rfl) (by rfl) T.min (by decide +kernel) (pa_cons (pe_lc (own := [("_law_way", 9)]) rfl sc__law_cut_right.nd (k_list (K := K) rfl (pv 2)) (blkOk_by (own := [("_law_way", 9)]) (N := nm__law_cut_right) (sc := (defScope s__law_cut_right)) (by decide +kernel)) (fun _ _ _ _ _ => (pg_name (i := 9) sc__law_cut_right.nd rfl (.inl rfl))) (fun _ _ _ _ _ => pts_nil) (fun _ _ _ _ _ => (pe_callB (k_len (K := K) rfl) (by rfl) T.len (by decide +kernel) (pa_cons (pv 9) pa_nil)))) pa_nil)) pa_nil))) (nomark _)) (pss_one (ps_ret pe_bl)) pss_nil) (pss_cons (ps_asg (C8.pe_c c_smooth hr (by decide) (by rfl) (pa_cons (pv 0) (pa_cons (pv 1) pa_nil))) (k_tup (K := K) rfl (pg_tup (n := 2) rfl (pgs_cons (pg_name (i := 4) sc__law_cut_right.nd rfl (.inl rfl)) (pgs_cons (pg_name (i := 5) sc__law_cut_right.nd rfl (.inr rfl)) pgs_nil))))) (pss_cons (ps_if (PW.pt (pw_or (pt_cmpR (k_ne (K := K) hr.units rfl) (pv 4) (pe_callB (k_min (K := K) rfl rfl) (by rfl) T.min (by decide +kernel) (pa_cons (pe_lc (own := [("_law_way", 9)]) rfl sc__law_cut_right.nd (k_list (K := K) rfl (pv 2)) (blkOk_by (own := [("_law_way", 9)]) (N := nm__law_cut_right) (sc := (defScope s__law_cut_right)) (by decide +kernel)) (fun _ _ _ _ _ => (pg_name (i := 9) sc__law_cut_right.nd rfl (.inl rfl))) (fun _ _ _ _ _ => pts_nil) (fun _ _ _ _ _ => (C8.pe_c c__law_rough hr (by decide) (by rfl) (pa_cons (pv 9) (pa_cons (pv 1) pa_nil))))) pa_nil)) (nomark _)) (pw_or1 (pt_cmpR (k_ne (K := K) hr.units rfl) (pe_ix (k_ix (K := K) rfl) (pv 5) pe_int (fun _ _ => rfl)) pe_int (nomark _))))) (pss_one (ps_ret pe_bl)) pss_nil) (pss_cons (ps_setLc (i := 6) rfl sc__law_cut_right.nd rfl rfl (sw_true rfl rfl rfl (by decide +kernel)) (k_list (K := K) rfl (pv 2)) (blkOk_by (own := [("_law_way", 9)]) (N := nm__law_cut_right) (sc := (defScope s__law_cut_right)) (by decide +kernel)) (fun _ _ _ _ _ => (pg_name (i := 9) sc__law_cut_right.nd rfl (.inl rfl))) (fun _ _ _ _ _ => (pts_one (pt_cmpR (k_eq (K := K) hr.units rfl) (pe_lc (own := [("_law_start", 8), ("_law_end", 7)]) rfl sc__law_cut_right.nd (k_list (K := K) rfl (pv 9)) (blkOk_by (own := [("_law_start", 8), ("_law_end", 7)]) (N := nm__law_cut_right) (sc := _sc__law_cut_right) (by decide +kernel)) (fun _ _ _ _ _ => (k_tup (K := K) rfl (pg_tup (n := 2) rfl (pgs_cons (pg_name (i := 8) sc__law_cut_right.nd rfl (.inl rfl)) (pgs_cons (pg_name (i := 7) sc__law_cut_right.nd rfl (.inl rfl)) pgs_nil))))) (fun _ _ _ _ _ => pts_nil) (fun _ _ _ _ _ => (pv 8))) (pv 5) (nomark _)))) (fun _ _ _ _ _ => (pv 9))) (pss_one (ps_ret (pe_or (pe_and (pe_cmpR (k_eq (K := K) hr.units rfl) (pv 0) pe_str (nomark _)) (pe_one (pe_cmpR (k_eq (K := K) hr.units rfl) (pv 5) (pe_lst (pa_cons pe_int pa_nil)) (nomark _)))) (pe_one (pe_and (pe_cmpR (k_ne (K := K) hr.units rfl) (pv 6) (pe_lst pa_nil) (nomark _)) (pe_one (pe_cmpR (k_eq (K := K) hr.units rfl) (C8.pe_c c__law_rough hr (by decide) (by rfl) (pa_cons (pe_ix (k_ix (K := K) rfl) (pv 6) pe_int (fun _ _ => rfl)) (pa_cons (pv 1) pa_nil))) (pv 4) (nomark _)))))))))))))), ?_⟩
    rintro ds ⟨l, w, rfl, hl, h7, hw, hw2⟩
    show Run [some (.val (dS l)), some (.val (dN w)), none, none, none, none, none, none, none, none] _ _ _
    have h1 := hl.len
    have hb7 : (bordersN l).length ≤ 7 := by rw [borders_eq, bord_length]; exact h7
    generalize hW : lawWays (bordersN l) w (bordersN l).length 0 = W
    have hWm : ∀ way, way ∈ W ↔ IsWay w 0 (sizesN l) way := fun way => by rw [← hW]; exact ways_l
    have hWl : W.length ≤ 128 := by
      have a1 := ways_len (b := bordersN l) (w := w) (bordersN l).length 0 (Nat.zero_le _) (Nat.le_refl _)
      have a3 : 2 ^ ((bordersN l).length - 0) ≤ 2 ^ 7 := Nat.pow_le_pow_right (by decide) (by omega)
      have a4 : (2 : Nat) ^ 7 = 128 := by decide
      rw [hW] at a1
      omega
    have hway : ∀ way ∈ W, way.length ≤ 1000 ∧ ∀ p ∈ way, p.1 ≤ p.2 := fun way hm => by
      have a1 := way_len ((hWm way).mp hm)
      exact ⟨by omega, fun p hp => (way_le ((hWm way).mp hm) p hp).1⟩
    refine q_asg ((ev_ways (k := 0) (ea_cons (ev_borders (ea_cons (ev_var rfl) ea_nil) h1) (ea_cons ev_int (ea_cons (ev_var rfl) ea_nil))) hb7 (Nat.zero_le _) (by omega)).is (by rw [hW])) ?_
    refine q_asg (ev_pieces (ea_cons (ev_var rfl) (ea_cons (ev_var rfl) ea_nil)) hl hw hw2) ?_
    refine q_guard (b := false) ((et_test (ev_op (ev_cb (ea_cons (ev_var rfl) ea_nil) rc_lenM) (ev_cb (ea_cons ev_int (ea_cons (ev_cb (ea_cons (EvN.ev (en_lc1 (ts := [9]) W wayD (fun way => dN way.length) (ei_list (ev_var rfl)) (by omega) (by simp) fun way hm => ⟨_, tg_name, ev_cb (ea_cons (ev_var rfl) ea_nil) rc_lenM⟩)) ea_nil) (rc_minM (m := cnt w (sizesN l)) ?_ ?_)) ea_nil)) rc_max2) rv_neI)).is ?_) nofun fun _ => ?_
    · obtain ⟨way, a1, a2⟩ := way_ex w 0 (sizesN l)
      exact ⟨way, (hWm way).mpr a1, a2⟩
    · exact fun way hm => way_ge ((hWm way).mp hm)
    · rw [cut_len, decide_eq_true (by split <;> omega)]
      rfl
    refine q_asgT (ev_smooth (ea_cons (ev_var rfl) (ea_cons (ev_var rfl) ea_nil)) hl hw hw2) tg_pair ?_
    refine q_guard (b := false) ((et_or (a := false) ((et_test (ev_op (ev_var rfl) (ev_cb (ea_cons (EvN.ev (en_lc1 (ts := [9]) W wayD (fun way => dN (rough w way)) (ei_list (ev_var rfl)) (by omega) (by simp) fun way hm => ⟨_, tg_name, ev_rough (ea_cons (ev_var rfl) (ea_cons (ev_var rfl) ea_nil)) (hway way hm).1 hw2 (hway way hm).2⟩)) ea_nil) (rc_minM (m := (smoothN l w).1) ?_ ?_)) rv_neI)).is ?_) fun _ => (et_test (ev_op (ev_op (ev_var rfl) ev_int (rv_ixL (d := dN 0) (atI_nat (j := 0) rfl))) ev_int rv_neI)).is ?_)) nofun fun _ => ?_
    · exact ⟨sway l w, (hWm _).mpr (sway_way l w), sway_rough l w⟩
    · exact fun way hm => smooth_low ((hWm way).mp hm)
    · rw [decide_eq_true rfl]
      rfl
    · rfl
    refine q_own (en_lc (ts := [9]) W wayD (fun way => decide (way.map (·.1) = (smoothN l w).2)) wayD (ei_list (ev_var rfl)) (by omega) (by simp) fun way hm => ⟨_, tg_name, et_test (ev_op ((EvN.ev (en_lc1 (ts := [8, 7]) way (fun p => .tuple [dN p.1, dN p.2]) (fun p => dN p.1) (ei_list (ev_var rfl)) (by have := (hway way hm).1; omega) (by simp) fun p hp => ⟨_, tg_pair, ev_var rfl⟩)).is ?_) (ev_var rfl) rv_eqN), fun _ => ev_var rfl⟩) ?_
    · rw [List.map_map]
      rfl
    refine run_freeze (i := 6) rfl ?_
    by_cases hn : l = []
    · refine run_retD (ev_or (a := true) (b := true) ((ev_and (a := true) (b := true) ((ev_op (ev_var rfl) ev_str (rv_eqS' empty_S)).is (by rw [decide_eq_true hn])) fun _ => (ev_op (ev_var rfl) (ev_lst (ea_cons ev_int ea_nil) (by simp)) (rv_eqN (b := [0]))).is ?_)) nofun) rfl
      rw [hn, decide_eq_true]
      rfl
    · have hmem : sway l w ∈ W.filter fun way => decide (way.map (·.1) = (smoothN l w).2) := List.mem_filter.mpr ⟨(hWm _).mpr (sway_way l w), decide_eq_true (sway_starts hn w)⟩
      generalize hM : (W.filter fun way => decide (way.map (·.1) = (smoothN l w).2)) = M at hmem
      have hall : ∀ way ∈ M, way = sway l w := fun way hm => by
        rw [← hM] at hm
        obtain ⟨a1, a2⟩ := List.mem_filter.mp hm
        exact way_starts _ _ 0 (sizesN l) ((hWm way).mp a1) (sway_way l w) ((of_decide_eq_true a2).trans (sway_starts hn w).symm)
      obtain ⟨M', hM'⟩ : ∃ M', M = sway l w :: M' := by
        cases M with
        | nil => cases hmem
        | cons x M' => exact ⟨M', by rw [hall x List.mem_cons_self]⟩
      have hs := hway (sway l w) ((hWm _).mpr (sway_way l w))
      refine run_retD (ev_or (a := false) (b := true) ((ev_and (a := false) (b := true) ((ev_op (ev_var rfl) ev_str (rv_eqS' empty_S)).is (by rw [decide_eq_false hn])) nofun)) fun _ => ev_and (a := true) (b := true) ((ev_op (ev_var rfl) (ev_lst ea_nil (by simp)) (rv_neNil (sh_ways M))).is ?_) fun _ => (ev_op (ev_rough (ea_cons (ev_op (ev_var rfl) ev_int (rv_ixL (d := wayD (sway l w)) (atI_nat (j := 0) ?_))) (ea_cons (ev_var rfl) ea_nil)) hs.1 hw2 hs.2) (ev_var rfl) rv_eqI).is ?_) rfl
      · rw [hM']
        rfl
      · rw [hM']
        rfl
      · rw [sway_rough, decide_eq_true rfl]
end
end DL
/-! D6: the pump; what is walked where its length hangs on the pump. -/
namespace DL
open PySem L2
/-! ### by relation -/
theorem ev_cbP {Δ : Dn} {r : List V → Hp → VK → Prop} {te : TE} {P P1 : PyData → Prop} (h : EvP Δ te P1) (hr : ∀ d, P1 d → RC r [d] P) : EvP Δ (tCB r (tCons te tNil)) P := fun pp B σ Hs H E Q q =>
  h pp B σ Hs H E _ fun x d Hs1 H1 g1 r1 p1 => hr d p1 pp Hs1 H1 [x] g1.wf (.one r1) Q (q.go g1)
/-- an item of a known list -/
theorem ev_pick {K : PySem.W.Frag} {Δ : Dn} {ta tb : TE} {ds : List PyData} (ha : Ev Δ ta (.list ds)) (hb : EvP Δ tb fun d => ∃ j : Nat, d = dN j ∧ j < ds.length) : EvP Δ (tOp (rIx K) ta tb) fun d => d ∈ ds := ev_opP ha hb fun d1 d2 e1 ⟨j, e2, hj⟩ => by
  rw [e1, e2]
  have h := rv_ixL (K := K) (k := (j : Int)) (d := ds[j]) (atI_nat (List.getElem?_eq_getElem hj))
  exact fun pp Hs H x y w r1 r2 Q q => h pp Hs H x y w r1 r2 Q fun v d A B g r e => q v d A B g r (by rw [e]; exact List.getElem_mem hj)
theorem ev_callP1 {Δ : Dn} {Pre : List PyData → Prop} {Post : List PyData → PyData → Prop} {E : XK} {i : Nat} {te : TE} {P P1 : PyData → Prop} (hi : Δ[i]? = some (some .pump)) (h : EvP Δ te P1) (hp : ∀ d, P1 d → Pre [d] ∧ ∀ x, Post [d] x → P x) : EvP Δ (tCall (spP Pre Post) [] E (tCons (tVar i) (tCons te tNil))) P := fun pp B σ Hs H En Q q => by
  obtain ⟨v, h1, p, e1, e2⟩ := En.at_ i _ hi
  subst e1 e2
  refine ⟨_, h1, h (some p) B σ Hs H En _ fun y d Hs1 H1 g1 r1 p1 => ?_⟩
  show spP Pre Post ((V.ref p :: [y]) ++ []) H1 Q E
  rw [List.append_nil]
  exact ⟨p, [y], Hs1, [d], rfl, g1.wf, .one r1, (hp d p1).1, fun v x A B g r z => q v x A B (g1.trans g) r ((hp d p1).2 x z)⟩
theorem ev_true1 {Δ : Dn} {E : XK} {te : TE} {Pre : List PyData → Prop} {P1 : PyData → Prop} (h : EvP Δ te P1) (hp : ∀ d, P1 d → Pre [d]) : Ev Δ (tCall (spTrue Pre) [] E (tCons te tNil)) (.bool true) := fun pp B σ Hs H En Q q =>
  h pp B σ Hs H En _ fun y d Hs1 H1 g1 r1 p1 => by
    show spTrue Pre ([y] ++ []) H1 Q E
    rw [List.append_nil]
    exact ⟨Hs1, [d], g1.wf.bare, .one r1, hp d p1, fun v x A C g r e => q v x A C (g1.trans (g.lift g1.wf)) r e⟩
theorem ev_true2 {Δ : Dn} {E : XK} {ta te : TE} {Pre : List PyData → Prop} {d1 : PyData} {P1 : PyData → Prop} (h0 : Ev Δ ta d1) (h : EvP Δ te P1) (hp : ∀ d, P1 d → Pre [d1, d]) : Ev Δ (tCall (spTrue Pre) [] E (tCons ta (tCons te tNil))) (.bool true) := fun pp B σ Hs H En Q q =>
  h0 pp B σ Hs H En _ fun x e Hs0 H0 g0 r0 p0 => h pp B σ Hs0 H0 (En.grow g0) _ fun y d Hs1 H1 g1 r1 p1 => by
    subst p0
    show spTrue Pre ([x, y] ++ []) H1 Q E
    rw [List.append_nil]
    exact ⟨Hs1, [e, d], g1.wf.bare, ⟨x, [y], rfl, Rp.mono g1.s _ _ r0, .one r1⟩, hp d p1, fun v x A C g r e => q v x A C ((g0.trans g1).trans (g.lift g1.wf)) r e⟩
/-! ### the pump -/
theorem ev_ixPump {K : PySem.W.Frag} {Δ : Dn} {i : Nat} (hi : Δ[i]? = some (some .pump)) : EvP Δ (tOp (rIx K) (tVar i) (tC (.int 0))) fun d => ∃ n : Int, d = .int n := fun pp B σ Hs H E Q q => by
  obtain ⟨v, h1, p, e1, e2⟩ := E.at_ i _ hi
  subst e1 e2
  obtain ⟨hs, n, hp⟩ := E.wf.pump p rfl
  exact ⟨_, h1, .inl ⟨p, [.int n], 0, .int n, rfl, rfl, .of hp, rfl, q.here E.wf (d := .int n) rfl ⟨n, rfl⟩⟩⟩
theorem run_setPump {Δ : Dn} {i : Nat} {te : TE} {N : Dn → Prop} {R : Ret} (hi : Δ[i]? = some (some .pump)) (h : EvP Δ te fun d => ∃ n : Int, d = .int n) (k : N Δ) : Run Δ (tAsg te (gSub (tVar i) (tC (.int 0)) rSetL)) N R := fun pp B σ Hs H E D n r => by
  obtain ⟨v, h1, p, e1, e2⟩ := E.at_ i _ hi
  subst e1 e2
  refine h (some p) B σ Hs H E _ fun y d Hs1 H1 g ry ⟨m, em⟩ => ⟨_, h1, ?_⟩
  subst em
  obtain ⟨hs, n0, hp⟩ := g.wf.pump p rfl
  cases (show y = .int m from ry)
  refine ⟨p, [.int n0], 0, 0, rfl, rfl, hp, rfl, n Δ σ Hs1 _ g.s ((E.grow g).grow ⟨.refl _, fun a o z e => ?_, ⟨fun a o e => ?_, fun a e => ?_⟩, fun a o _ e => e⟩) k⟩
  · rw [upd_ne (fun w => z (by rw [w]))]
    exact e
  · rw [upd_ne (ne_of_none e hs)]
    exact g.wf.le a o e
  · cases e
    exact ⟨hs, m, upd_same⟩
theorem q_setPump {Δ : Dn} {i : Nat} {te : TE} {u : TS} {N : Dn → Prop} {R : Ret} (hi : Δ[i]? = some (some .pump)) (h : EvP Δ te fun d => ∃ n : Int, d = .int n) (k : Run Δ u N R) : Run Δ (tSeq (tAsg te (gSub (tVar i) (tC (.int 0)) rSetL)) u) N R := run_seq (run_setPump (N := fun x => x = Δ) hi h rfl) fun Δ2 e => by
  rw [e]
  exact k
/-! ### walks whose length is found on the way -/
abbrev iNat (n : Nat) : TI := fun _ H R => R (Itr 0 n) H
theorem ei_nat {Δ : Dn} {n : Nat} : EvI Δ (iNat n) (rngD 0 n) := fun pp B σ Hs H E R q => q _ Hs H (.refl E.wf) src_range
theorem run_forR {Δ : Dn} {te : TE} {g : TG} {tb : TS} {M : Nat → Prop} {N : Dn → Prop} {R : Ret} (h : EvP Δ te fun d => ∃ n : Nat, d = dN n ∧ M n) (hM : ∀ n, M n → n ≤ 100000) (k : ∀ n : Nat, M n → Run Δ (tFor (iNat n) g tb) N R) : Run Δ (tFor (iRng1 (tCons te tNil)) g tb) N R := fun pp B σ Hs H E D n r =>
  h pp B σ Hs H E _ fun x d Hs1 H1 g1 r1 ⟨m, e, hm⟩ => by
    subst e
    cases (show x = .int (m : Int) from r1)
    have hm2 := hM m hm
    exact ⟨(m : Int), rfl, by omega, by omega, k m hm pp B σ Hs1 H1 (E.grow g1) D (fun Δ' σ' Hs' H' le E' p => n Δ' σ' Hs' H' (g1.s.trans le) E' p) r⟩
theorem q_forR {Δ : Dn} {te : TE} {g : TG} {tb u : TS} {N : Dn → Prop} {R : Ret} (M : Nat → Prop) (M' : Dn → Prop) (h : EvP Δ te fun d => ∃ n : Nat, d = dN n ∧ M n) (hM : ∀ n, M n → n ≤ 100000) (k : ∀ n : Nat, M n → Run Δ (tFor (iNat n) g tb) M' R) (hd : ∀ Δ', M' Δ' → Run Δ' u N R) : Run Δ (tSeq (tFor (iRng1 (tCons te tNil)) g tb) u) N R := run_seq (run_forR h hM k) hd
theorem en_lcR {Δ : Dn} {t te : TE} {g : TG} {tt : TT} {vs : List Nat} {P : List PyData → Prop} (M : Nat → Prop) (h : EvP Δ t fun d => ∃ n : Nat, d = dN n ∧ M n) (hM : ∀ n, M n → n ≤ 100000) (k : ∀ n : Nat, M n → EvNP Δ (tLc (iNat n) g tt te vs) P) : EvNP Δ (tLc (iRng1 (tCons t tNil)) g tt te vs) P := fun pp B σ Hs H E Q q =>
  h pp B σ Hs H E _ fun x d Hs1 H1 g1 r1 ⟨m, e, hm⟩ => by
    subst e
    cases (show x = .int (m : Int) from r1)
    have hm2 := hM m hm
    exact ⟨(m : Int), rfl, by omega, by omega, k m hm pp B σ Hs1 H1 (E.grow g1) Q fun p xs ds Hs' H' g2 e1 e2 e3 r z => q p xs ds Hs' H' (g1.trans g2) (g1.none_of e1) e2 e3 r z⟩
/-- for over a list that is found on the way; the same for each turn -/
theorem run_forL {K : PySem.W.Frag} {Δ : Dn} {te : TE} {g : TG} {tb : TS} {ts : List Nat} {S : PyData → Prop} {N : Dn → Prop} {R : Ret} (I : Dn → Prop) (h : EvP Δ te fun d => ∃ xs, d = .list xs ∧ ∀ x ∈ xs, S x) (h0 : I Δ)
    (hs : ∀ d Δi, S d → I Δi → ∃ Δ', TgA Δi g ts d Δ' ∧ Run Δ' tb I R) (hd : ∀ Δ', I Δ' → N Δ') : Run Δ (tFor (iList K te) g tb) N R := fun pp B σ Hs H E D n r =>
  h pp B σ Hs H E _ fun v d Hs1 H1 g1 rv ⟨xs, e, hx⟩ => by
    subst e
    obtain ⟨a, vs, rfl, ha, ra⟩ := rv
    have one : ∀ {Hs' H' : Hp}, Le Hs1 Hs' → Wf pp Hs' H' → SqL K H' a vs := fun le w => .of (w.le _ _ (le _ _ ha))
    refine ⟨a, rfl, ⟨vs, one (.refl _) g1.wf⟩, fun i m σ' H' => m = xs.length - i ∧ i ≤ xs.length ∧ ∃ Δ' Hs', Le Hs1 Hs' ∧ Env pp B Δ' σ' Hs' H' ∧ I Δ', ⟨xs.length, by simp, Nat.zero_le _, Δ, Hs1, .refl _, E.grow g1, h0⟩, ?_⟩
    rintro i m σ' H' ⟨rfl, hile, Δ', Hs', le, E', hI⟩
    have hsq := one le E'.wf
    by_cases hlt : i < xs.length
    · obtain ⟨x, x1, x2⟩ := ra.get (List.getElem?_eq_getElem hlt)
      refine .inr ⟨⟨vs, x, hsq, x1⟩, fun σ3 H3 => ∃ Δ3 Hs3, Le Hs1 Hs3 ∧ Env pp B Δ3 σ3 Hs3 H3 ∧ I Δ3, fun σ3 H3 ⟨Δ3, Hs3, l3, E3, I3⟩ => ⟨_, by omega, rfl, hlt, Δ3, Hs3, l3, E3, I3⟩, fun v H2 hy => ?_⟩
      obtain ⟨rfl, y⟩ := hy
      have e := y vs hsq
      rw [x1] at e
      cases e
      obtain ⟨Δ2, t1, t2⟩ := hs xs[i] Δ' (hx _ (List.getElem_mem hlt)) hI
      refine t1 pp B _ Hs' H2 _ E' (Rp.mono le _ _ x2) _ fun σ2 E2 hw => ?_
      exact t2 pp B σ2 Hs' H2 E2 _ (fun Δ3 σ3 Hs3 H3 l3 E3 I3 => ⟨Δ3, Hs3, le.trans l3, E3, I3⟩) r
    · have e : i = xs.length := by omega
      subst e
      exact .inl ⟨⟨vs, hsq, by rw [ra.length]; exact Nat.le_refl _⟩, n Δ' σ' Hs' H' (g1.s.trans le) E' (hd Δ' hI)⟩
theorem q_forL {K : PySem.W.Frag} {Δ : Dn} {te : TE} {g : TG} {tb u : TS} {ts : List Nat} {S : PyData → Prop} {N : Dn → Prop} {R : Ret} (I : Dn → Prop) (h : EvP Δ te fun d => ∃ xs, d = .list xs ∧ ∀ x ∈ xs, S x) (h0 : I Δ)
    (hs : ∀ d Δi, S d → I Δi → ∃ Δ', TgA Δi g ts d Δ' ∧ Run Δ' tb I R) (hd : ∀ Δ', I Δ' → Run Δ' u N R) : Run Δ (tSeq (tFor (iList K te) g tb) u) N R := run_seq (run_forL I h h0 hs fun _ h => h) hd
/-- a list of two -/
theorem ev_lst2 {Δ : Dn} {ta tb : TE} {S : PyData → Prop} (ha : EvP Δ ta S) (hb : EvP Δ tb S) : EvP Δ (tLst (tCons ta (tCons tb tNil))) fun d => ∃ xs, d = .list xs ∧ ∀ x ∈ xs, S x := fun pp B σ Hs H E Q q =>
  ha pp B σ Hs H E _ fun x d1 Hs1 H1 g1 r1 p1 => hb pp B σ Hs1 H1 (E.grow g1) _ fun y d2 Hs2 H2 g2 r2 p2 => by
    refine ⟨Nat.le_trans (show 2 ≤ 100000 by decide) (by decide), (q.go (g1.trans g2)).newL g2.wf (ds := [d1, d2]) ⟨x, [y], rfl, Rp.mono g2.s _ _ r1, .one r2⟩ ⟨_, rfl, fun z hz => ?_⟩⟩
    rcases List.mem_cons.mp hz with e | e
    · rw [e]; exact p1
    · rw [List.mem_singleton.mp e]; exact p2
theorem rv_mulW {i j : Int} (h : CMulW i j) : RV (rI CMulW fun i j => .int (i * j)) (.int i) (.int j) fun x => x = .int (i * j) := rv_I (f := fun i j => .int (i * j)) h fun _ => rfl
theorem RV.to {r : R2} {d1 d2 : PyData} {P P' : PyData → Prop} (h : RV r d1 d2 P) (k : ∀ d, P d → P' d) : RV r d1 d2 P' := fun pp Hs H x y w r1 r2 Q q => h pp Hs H x y w r1 r2 Q fun v d A B g r e => q v d A B g r (k d e)
theorem RC.to {r : List V → Hp → VK → Prop} {ds : List PyData} {P P' : PyData → Prop} (h : RC r ds P) (k : ∀ d, P d → P' d) : RC r ds P' := fun pp Hs H xs w r1 Q q => h pp Hs H xs w r1 Q fun v d A B g r e => q v d A B g r (k d e)
end DL
/-! F7: the look at the widths. -/
namespace DL
open PySem L2
open PyProof.Rows (envOfC)
open MM
theorem kit_ll {K : PySem.W.Frag} : PySem.W.kitOne K (.type "list") (.type "list") = some true := by first | rfl | decide +kernel | kernel_rfl
abbrev s__law_widths_right : Stmt := topS 39
abbrev nm__law_widths_right : List Str := ["_law_text_here", "_law_lines", "_law_most", "_law_counts", "_law_due", "_law_told", "_law_height_here", "_law_first", "_law_k", "_law_line_here", "_law_width_here"]
theorem sc__law_widths_right : FnScope nm__law_widths_right ["_law_text_here"] (defScope s__law_widths_right) := ⟨rfl, rfl, rfl, by decide +kernel, rfl, by decide +kernel, by decide +kernel⟩
section
variable {P : Program} {w : World} {K : PySem.W.Frag} {mg : Str → Option Value} {base : Heap} {f : Addr} {fd : FuncData}
def preWidthsR (ds : List PyData) : Prop := ∃ (s : Str) (ls : List (List Nat)), ds = [.str s] ∧ TextOk s ls
theorem ok_widths_right (F : Fun K "_law_widths_right" "_law_widths_right" s__law_widths_right f fd) (T : Bt mg) (c__law_screen : C8.Cal P w K mg base 3 "_law_screen" spScreen []) (c_widths : C8.Cal P w K mg base 4 "widths" spWidths [])
    (c_least_width : C8.Cal P w K mg base 4 "least_width" spLeastW []) : FnOk P w K mg base CX0 5 f fd ["_law_text_here"] (spTrue preWidthsR) :=
  okD F sc__law_widths_right (fun ds ⟨s, ls, e, _⟩ => by rw [e]; rfl) fun cdv A outer s H E hr => by
    refine ⟨_, (pss_cons (ps_set (i := 1) sc__law_widths_right.nd rfl (.inl rfl) (pe_split (pv 0) pe_str)) (pss_cons (ps_set (i := 2) sc__law_widths_right.nd rfl (.inl rfl) (pe_callB (k_max (K := K) rfl rfl) (by rfl) T.max (by decide +kernel) (pa_cons (pe_op op_addA (pe_lst (pa_cons pe_int pa_nil)) (pe_lc (own := [("_law_line_here", 9)]) rfl sc__law_widths_right.nd (k_list (K := K) rfl (pv 1)) (blkOk_by (own := [("_law_line_here", 9)]) (N := nm__law_widths_right) (sc := (defScope s__law_widths_right)) (by decide +kernel)) (fun _ _ _ _ _ => (pg_name (i := 9) sc__law_widths_right.nd rfl (.inl rfl))) (fun _ _ _ _ _ => pts_nil) (fun _ _ _ _ _ => (pe_callB (k_len (K := K) rfl) (by rfl) T.len (by decide +kernel) (pa_cons (pv 9) pa_nil))))) pa_nil))) (pss_cons (ps_set (i := 3) sc__law_widths_right.nd rfl (.inr rfl) (pe_lc (own := [("_law_width_here", 10)]) rfl sc__law_widths_right.nd (pi_range2 (by rfl) T.range (pa_cons pe_int (pa_cons (pe_op op_addA (pv 2) pe_int) pa_nil))) (blkOk_by (own := [("_law_width_here", 10)]) (N := nm__law_widths_right) (sc := (defScope s__law_widths_right)) (by decide +kernel)) (fun _ _ _ _ _ => (pg_name (i := 10) sc__law_widths_right.nd rfl (.inl rfl))) (fun _ _ _ _ _ => pts_nil) (fun _ _ _ _ _ => (pe_callB (k_len (K := K) rfl) (by rfl) T.len (by decide +kernel) (pa_cons (C8.pe_c c__law_screen hr (by decide) (by rfl) (pa_cons (pv 0) (pa_cons (pv 10) pa_nil))) pa_nil))))) (pss_cons (ps_if (PW.pt (pw_or (pt_cmpR (k_ne (K := K) hr.units rfl) (pe_lc (own := [("_law_k", 8)]) rfl sc__law_widths_right.nd (pi_range2 (by rfl) T.range (pa_cons pe_int (pa_cons (pe_callB (k_len (K := K) rfl) (by rfl) T.len (by decide +kernel) (pa_cons (pv 3) pa_nil)) pa_nil))) (blkOk_by (own := [("_law_k", 8)]) (N := nm__law_widths_right) (sc := (defScope s__law_widths_right)) (by decide +kernel)) (fun _ _ _ _ _ => (pg_name (i := 8) sc__law_widths_right.nd rfl (.inl rfl))) (fun _ _ _ _ _ => (pts_one (pt_cmpR op_gt (pe_ix (k_ix (K := K) rfl) (pv 3) (pv 8) (fun _ _ => rfl)) (pe_ix (k_ix (K := K) rfl) (pv 3) (pe_op op_sub (pv 8) pe_int) (fun _ _ => rfl)) (nomark _)))) (fun _ _ _ _ _ => (pv 8))) (pe_lst pa_nil) (nomark _)) (pw_or1 (pt_cmpR (k_ne (K := K) hr.units rfl) (pe_ix (k_ix (K := K) rfl) (pv 3) (pe_un un_neg pe_int) (fun _ _ => rfl)) (pe_callB (k_len (K := K) rfl) (by rfl) T.len (by decide +kernel) (pa_cons (pv 1) pa_nil)) (nomark _))))) (pss_one (ps_ret pe_bl)) pss_nil) (pss_cons (ps_setLc (i := 4) rfl sc__law_widths_right.nd rfl rfl (sw_true rfl rfl rfl (by decide +kernel)) (pi_range2 (by rfl) T.range (pa_cons pe_int (pa_cons (pe_callB (k_len (K := K) rfl) (by rfl) T.len (by decide +kernel) (pa_cons (pv 3) pa_nil)) pa_nil))) (blkOk_by (own := [("_law_k", 8)]) (N := nm__law_widths_right) (sc := (defScope s__law_widths_right)) (by decide +kernel)) (fun _ _ _ _ _ => (pg_name (i := 8) sc__law_widths_right.nd rfl (.inl rfl))) (fun _ _ _ _ _ => (pts_one (pt_cmpR op_lt (pe_ix (k_ix (K := K) rfl) (pv 3) (pv 8) (fun _ _ => rfl)) (pe_ix (k_ix (K := K) rfl) (pv 3) (pe_op op_sub (pv 8) pe_int) (fun _ _ => rfl)) (nomark _)))) (fun _ _ _ _ _ => (pe_op op_addA (pv 8) pe_int))) (pss_cons (ps_set (i := 5) sc__law_widths_right.nd rfl (.inl rfl) (C8.pe_c c_widths hr (by decide) (by rfl) (pa_cons (pv 0) pa_nil))) (pss_cons (ps_if (PW.pt (pw_or (pt_not (pt_val (pe_callB (k_isi (K := K) rfl) (by rfl) T.isinstance (by decide +kernel) (pa_cons (pv 5) (pa_cons (pe_bltn (v := .ty "list") (u := .type "list") (by rfl) T.list (by decide +kernel) rfl) pa_nil))))) (pw_or1 (pt_cmpR (k_ne (K := K) hr.units rfl) (pv 5) (pv 4) (nomark _))))) (pss_one (ps_ret pe_bl)) pss_nil) (pss_cons (ps_expr (pe_bm PySem.F.plainAttrs_list PySem.F.slot_list_append PySem.F.type_list_append mt_append (pv 5) (pa_cons pe_int pa_nil))) (pss_cons (ps_for PassesOwn.never rfl (k_list (K := K) rfl (pe_lst (pa_cons pe_int (pa_cons (pe_op op_sub (pe_callB (k_len (K := K) rfl) (by rfl) T.len (by decide +kernel) (pa_cons (pv 1) pa_nil)) pe_int) (pa_cons (pe_callB (k_len (K := K) rfl) (by rfl) T.len (by decide +kernel) (pa_cons (pv 1) pa_nil)) (pa_cons (pe_op op_fdivN (pe_op op_addA (pe_ix (k_ix (K := K) rfl) (pv 3) pe_int (fun _ _ => rfl)) (pe_callB (k_len (K := K) rfl) (by rfl) T.len (by decide +kernel) (pa_cons (pv 1) pa_nil))) pe_int) (pa_cons (pe_op op_sub (pe_ix (k_ix (K := K) rfl) (pv 3) pe_int (fun _ _ => rfl)) pe_int) (pa_cons (pe_ix (k_ix (K := K) rfl) (pv 3) pe_int (fun _ _ => rfl)) (pa_cons (pe_op op_pow pe_int pe_int) pa_nil))))))))) (pg_name (i := 6) sc__law_widths_right.nd rfl (.inr rfl)) (pss_cons (ps_set (i := 7) sc__law_widths_right.nd rfl (.inl rfl) (pe_slice (k_sl (K := K) rfl) (pe_lc (own := [("_law_k", 8)]) rfl sc__law_widths_right.nd (pi_range1 (by rfl) T.range (pa_cons (pe_callB (k_len (K := K) rfl) (by rfl) T.len (by decide +kernel) (pa_cons (pv 3) pa_nil)) pa_nil)) (blkOk_by (own := [("_law_k", 8)]) (N := nm__law_widths_right) (sc := (defScope s__law_widths_right)) (by decide +kernel)) (fun _ _ _ _ _ => (pg_name (i := 8) sc__law_widths_right.nd rfl (.inl rfl))) (fun _ _ _ _ _ => (pts_one (pt_cmpR op_le (pe_ix (k_ix (K := K) rfl) (pv 3) (pv 8) (fun _ _ => rfl)) (pv 6) (nomark _)))) (fun _ _ _ _ _ => (pe_op op_addA (pv 8) pe_int))) po_none (po_some pe_int))) (pss_one (ps_if (PW.pt (pw_and (pt_cmpR op_gt (pv 6) pe_int (nomark _)) (pw_and1 (pt_cmpR (k_ne (K := K) hr.units rfl) (pe_lst (pa_cons (C8.pe_c c_least_width hr (by decide) (by rfl) (pa_cons (pv 0) (pa_cons (pv 6) pa_nil))) pa_nil)) (pe_ifExp (pt_cmpR (k_ne (K := K) hr.units rfl) (pv 7) (pe_lst pa_nil) (nomark _)) (pv 7) (pe_lst (pa_cons pe_non pa_nil))) (nomark _))))) (pss_one (ps_ret pe_bl)) pss_nil)))) (pss_one (ps_ret (pe_cmpR (k_eq (K := K) hr.units rfl) (C8.pe_c c_widths hr (by decide) (by rfl) (pa_cons (pv 0) pa_nil)) (pv 4) (nomark _))))))))))))), ?_⟩
    rintro ds ⟨s, ls, rfl, hs⟩
    show Run [some (.val (.str s)), none, none, none, none, none, none, none, none, none, none] _ _ _
    have hm := hs.many
    have hwp := widest_pos ls
    have hwl := widest_le hs.each
    generalize hW : widest ls = W
    rw [hW] at hwp hwl
    refine q_asg (ev_split hs (ev_var rfl)) ?_
    refine q_asg (d := dN W) (ev_cb (ea_cons (ev_op (ev_lst (ea_cons ev_int ea_nil) (by decide)) (EvN.ev (en_lc1 (ts := [9]) ls dS (fun l => dN l.length) (ei_list (ev_var rfl)) (by omega) (by simp) fun l hl => ⟨_, tg_name, ?_⟩)) (rv_addL ?_)) ea_nil) (by rw [← hW]; exact rc_widest)) ?_
    · have := hs.each l hl
      exact ev_cb (ea_cons (ev_var rfl) ea_nil) (rc_lenN (by omega))
    · rw [List.length_map]
      show 1 + ls.length ≤ _
      omega
    let h := fun k : Nat => hN ls (k + 1)
    have hh : ∀ k, hN ls (k + 1) = h k := fun _ => rfl
    refine q_own (en_lc1 (ts := [10]) (List.range (W + 1)) (fun k : Nat => .int (1 + (k : Int))) (fun k : Nat => dN (h k)) ((ei_range2 (i := 1) (j := (W : Int) + 2) (ea_cons ev_int (ea_cons (ev_op (ev_var rfl) ev_int rv_addI) ea_nil))).is ?_) (by rw [List.length_range]; omega) (by simp) fun k hk => ⟨_, tg_name, ?_⟩) ?_
    · rw [show ((W : Int) + 2 - 1).toNat = W + 1 by omega]
      rfl
    · refine ev_lenP (ev_screen (w := k + 1) hs (ea_cons (ev_var rfl) (ea_cons ((ev_var rfl).is ?_) ea_nil)))
      show PyData.int _ = PyData.int _
      congr 1
      omega
    refine run_freeze (i := 3) rfl ?_
    have len3 : ∀ {Δ : Dn}, Δ[3]? = some (some (.val (.list ((List.range (W + 1)).map fun k : Nat => dN (h k))))) → Ev Δ (tCB (rLenA K) (tCons (tVar 3) tNil)) (dN (W + 1)) := fun hd => (ev_cb (ea_cons (ev_var hd) ea_nil) rc_lenM).is (by rw [List.length_range])
    have ix : ∀ (j : Nat) (z : Int), z = (j : Int) → j < W + 1 → atI ((List.range (W + 1)).map fun k : Nat => dN (h k)) z = some (dN (h j)) := fun j z e hj => atN e (getR (fun k : Nat => dN (h k)) hj)
    have src : ∀ {Δ : Dn}, Δ[3]? = some (some (.val (.list ((List.range (W + 1)).map fun k : Nat => dN (h k))))) → EvI Δ (iRng2 (tCons (tC (.int 1)) (tCons (tCB (rLenA K) (tCons (tVar 3) tNil)) tNil))) ((List.range W).map fun k : Nat => .int (1 + (k : Int))) := fun hd => (ei_range2 (i := 1) (j := ((W + 1 : Nat) : Int)) (ea_cons ev_int (ea_cons (len3 hd) ea_nil))).is (by rw [show (((W + 1 : Nat) : Int) - 1).toNat = W by omega]; rfl)
    have hend : h W = ls.length := by
      show hN ls (W + 1) = _
      rw [← hW]
      exact hN_beyond ls
    -- never more
    refine q_guard (b := false) ((et_or (a := false) ((et_test (ev_op (EvN.ev (en_lc (ts := [8]) (List.range W) (fun k : Nat => .int (1 + (k : Int))) (fun _ => false) (fun k : Nat => .int (1 + (k : Int))) (src rfl) (by rw [List.length_range]; omega) (by simp) fun k hk => ⟨_, tg_name, ?_, nofun⟩)) (ev_lst ea_nil (by decide)) (rv_neNil ?_))).is ?_) fun _ => (et_test (ev_op (ev_op (ev_var rfl) (ev_neg ev_int) (rv_ixL (d := dN (h W)) ?_)) (ev_cb (ea_cons (ev_var rfl) ea_nil) rc_lenM) rv_neI)).is ?_)) nofun fun _ => ?_
    · have hk' := List.mem_range.mp hk
      refine (et_test (ev_op (ev_op (ev_var rfl) (ev_var rfl) (rv_ixL (ix (k + 1) _ (by omega) (by omega)))) (ev_op (ev_var rfl) (ev_op (ev_var rfl) ev_int rv_sub) (rv_ixL (ix k _ (by omega) (by omega)))) rv_gt)).is ?_
      have := hN_anti (w := k + 1) (w' := k + 1 + 1) (by omega) ls
      refine decide_eq_false ?_
      show ¬ ((hN ls (k + 1) : Int) < (hN ls (k + 1 + 1) : Int))
      omega
    · rw [List.filter_eq_nil_iff.mpr (by simp)]
      rfl
    · rw [List.filter_eq_nil_iff.mpr (by simp)]
      rfl
    · rw [List.range_succ, List.map_append]
      exact atI_last _ _
    · rw [hend, decide_eq_true rfl]
      rfl
    -- where it falls
    refine q_own ((en_lc (ts := [8]) (List.range W) (fun k : Nat => .int (1 + (k : Int))) (fun i => decide (hN ls (i + 2) < hN ls (i + 1))) (fun k : Nat => .int (1 + (k : Int) + 1)) (src rfl) (by rw [List.length_range]; omega) (by simp) fun k hk => ⟨_, tg_name, ?_, fun _ => ev_op (ev_var rfl) ev_int rv_addI⟩).is (d' := (falls ls W).map dN) ?_) ?_
    · have hk' := List.mem_range.mp hk
      refine (et_test (ev_op (ev_op (ev_var rfl) (ev_var rfl) (rv_ixL (ix (k + 1) _ (by omega) (by omega)))) (ev_op (ev_var rfl) (ev_op (ev_var rfl) ev_int rv_sub) (rv_ixL (ix k _ (by omega) (by omega)))) rv_lt)).is ?_
      rw [decide_eq_decide]
      show ((hN ls (k + 2) : Nat) : Int) < ((hN ls (k + 1) : Nat) : Int) ↔ _
      omega
    · unfold falls
      rw [List.map_map]
      refine List.map_congr_left fun k _ => ?_
      show PyData.int _ = PyData.int _
      congr 1
      show (1 : Int) + k + 1 = ((k + 2 : Nat) : Int)
      omega
    refine run_freeze (i := 4) rfl ?_
    refine q_own ((en_widths hs (ea_cons (ev_var rfl) ea_nil)).is (by rw [hW])) ?_
    refine q_guard (b := false) ((et_or (a := false) (et_not (b := true) (et_B (ev_isiOwn rfl rfl kit_ll))) fun _ => (et_test (ev_opOwnB rfl (ev_var rfl) rv_neN)).is ?_)) nofun fun _ => ?_
    · rw [decide_eq_true rfl]
      rfl
    refine q_app rfl ev_int ?_ ?_
    · rw [List.length_map]
      unfold falls
      rw [List.length_map]
      have := List.length_filter_le (fun i => decide (hN ls (i + 2) < hN ls (i + 1))) (List.range W)
      rw [List.length_range] at this
      omega
    -- the least widths
    have wdef : ∀ H : Int, (((List.range (W + 1)).filter fun i => decide ((hN ls (i + 1) : Int) ≤ H)).map fun k : Nat => PyData.int (0 + (k : Int) + 1)) = (fitting ls (W + 1) H).map dN := fun H => by
      unfold fitting
      rw [List.map_map]
      refine List.map_congr_left fun k _ => ?_
      show PyData.int _ = PyData.int _
      congr 1
      show (0 : Int) + k + 1 = ((k + 1 : Nat) : Int)
      omega
    refine q_for (ts := [6]) (xs := [1, (ls.length : Int) - 1, (ls.length : Int), ((h 0 : Int) + (ls.length : Int)).fdiv 2, (h 0 : Int) - 1, (h 0 : Int), (10 : Int) ^ (39 : Int).toNat].map PyData.int) (fun _ Δ => ∃ z6 z7 z8 z9 z10 own, Δ = [some (.val (.str s)), some (.val (.list (ls.map dS))), some (.val (dN W)), some (.val (.list ((List.range (W + 1)).map fun k : Nat => dN (h k)))), some (.val (.list ((falls ls W).map dN))), some (.own own), z6, z7, z8, z9, z10])
      (ei_list (ev_lst (ea_cons ev_int (ea_cons (ev_op (ev_cb (ea_cons (ev_var rfl) ea_nil) rc_lenM) ev_int rv_sub) (ea_cons (ev_cb (ea_cons (ev_var rfl) ea_nil) rc_lenM) (ea_cons (ev_op (ev_op (ev_op (ev_var rfl) ev_int (rv_ixL (ix 0 _ rfl (by omega)))) (ev_cb (ea_cons (ev_var rfl) ea_nil) rc_lenM) rv_addI) ev_int (rv_div ⟨by decide, by decide⟩)) (ea_cons (ev_op (ev_op (ev_var rfl) ev_int (rv_ixL (ix 0 _ rfl (by omega)))) ev_int rv_sub) (ea_cons (ev_op (ev_var rfl) ev_int (rv_ixL (ix 0 _ rfl (by omega)))) (ea_cons (ev_op ev_int ev_int (rv_pow ⟨by decide, by decide, by decide⟩)) ea_nil))))))) (by simp))) ⟨_, _, _, _, _, _, rfl⟩ (fun i d Δi hd hI => ?_) fun Δ' hI => ?_
    · obtain ⟨z6, z7, z8, z9, z10, own, rfl⟩ := hI
      obtain ⟨H, rfl⟩ : ∃ H : Int, d = .int H := by
        rw [List.getElem?_map] at hd
        cases e : ([1, (ls.length : Int) - 1, (ls.length : Int), ((h 0 : Int) + (ls.length : Int)).fdiv 2, (h 0 : Int) - 1, (h 0 : Int), (10 : Int) ^ (39 : Int).toNat] : List Int)[i]? with
        | none =>
          rw [e] at hd
          cases hd
        | some H =>
          rw [e] at hd
          cases hd
          exact ⟨H, rfl⟩
      refine ⟨_, tg_name, ?_⟩
      show Run [some (.val (.str s)), some (.val (.list (ls.map dS))), some (.val (dN W)), some (.val (.list ((List.range (W + 1)).map fun k : Nat => dN (h k)))), some (.val (.list ((falls ls W).map dN))), some (.own own), some (.val (.int H)), z7, z8, z9, z10] _ _ _
      refine q_asg (d := .list (if fitting ls (W + 1) H = [] then [] else [optD (fitting ls W H).head?])) ((ev_slL (EvN.ev (en_lc (ts := [8]) (List.range (W + 1)) (fun k : Nat => .int (0 + (k : Int))) (fun i => decide ((hN ls (i + 1) : Int) ≤ H)) (fun k : Nat => .int (0 + (k : Int) + 1)) ((ei_range1 (j := ((W + 1 : Nat) : Int)) (ea_cons (len3 rfl) ea_nil)).is (by rw [Int.toNat_natCast]; rfl)) (by rw [List.length_range]; omega) (by simp) fun k hk => ⟨_, tg_name, ?_, fun _ => ev_op (ev_var rfl) ev_int rv_addI⟩)) eo_none (eo_some ev_int)).is ?_) ?_
      · have hk' := List.mem_range.mp hk
        exact et_test (ev_op (ev_op (ev_var rfl) (ev_var rfl) (rv_ixL (ix k _ (by omega) (by omega)))) (ev_var rfl) rv_le)
      · rw [wdef, cut_01, ← List.map_take, one_of, ← hW, fitting_head]
      have hwid : ∀ {Δ : Dn}, Δ[0]? = some (some (.val (.str s))) → Δ[6]? = some (some (.val (.int H))) → 0 < H → Ev Δ (tLst (tCons (tCall spLeastW [] E0 (tCons (tVar 0) (tCons (tVar 6) tNil))) tNil)) (.list [optD (fitting ls W H).head?]) := fun h0 h6 hp => ev_lst (ea_cons ((ev_least_width hs (by omega) (ea_cons (ev_var h0) (ea_cons (ev_var h6) ea_nil))).is (by rw [hW])) ea_nil) (by simp)
      have hsh : SeqAt.shaped (.list [optD (fitting ls W H).head?]) = true := (cmp_list (m := 0) fun d hd => by
        rw [List.mem_singleton.mp hd]
        exact cmp_opt _).shaped (by decide)
      have heq : PyData.eqv (.list [optD (fitting ls W H).head?]) (.list [optD (fitting ls W H).head?]) = true := SeqAt.eqv_refl _ (SeqAt.canLay_of_shaped hsh)
      refine run_if (b := false) ((et_and (a := decide (0 < H)) (b := false) (et_test (ev_op (ev_var rfl) ev_int rv_gt)) fun hp => (et_test (ev_op (hwid rfl rfl (of_decide_eq_true hp)) (d2 := .list [optD (fitting ls W H).head?]) ?_ (rv_neD hsh hsh))).is ?_).is (Bool.and_false _)) nofun fun _ => run_nil ⟨_, _, _, _, _, _, rfl⟩
      · by_cases e : fitting ls (W + 1) H = []
        · rw [if_pos e]
          refine ev_if (b := false) (et_test (ev_op (ev_var rfl) (ev_lst ea_nil (by decide)) (rv_neNil rfl))) nofun fun _ => ?_
          have : (fitting ls W H).head? = none := by
            have := fitting_head ls H
            rw [hW, e] at this
            exact this.symm
          rw [this]
          exact ev_lst (ea_cons ev_non ea_nil) (by simp)
        · rw [if_neg e]
          exact ev_if (b := true) (et_test (ev_op (ev_var rfl) (ev_lst ea_nil (by decide)) (rv_neNil hsh))) (fun _ => ev_var rfl) nofun
      · rw [heq]
        rfl
    · obtain ⟨z6, z7, z8, z9, z10, own, rfl⟩ := hI
      refine run_retD (ev_op ((EvN.ev (en_widths hs (ea_cons (ev_var rfl) ea_nil))).is (by rw [hW])) (ev_var rfl) rv_eqN) ?_
      rw [decide_eq_true rfl]
end
end DL
/-! F8: the look at a long line. -/
namespace DL
open PySem L2
open PyProof.Rows (envOfC)
open MM
theorem line_code {c : Nat} (h : c ∈ lineS.cps.toList) : c < 0x110000 := by
  have h2 : ∀ c ∈ lineS.cps.toList, c < 0x110000 := by decide +kernel
  exact h2 c h
theorem cmp_S {l : List Nat} (h : ∀ c ∈ l, c ∈ lineS.cps.toList) (m : Nat) : Cmp m (dS l) := ⟨by
  show (l.toArray.all _) = true
  rw [Array.all_eq_true']
  intro c hc
  have := line_code (h c (by simpa using hc))
  simpa using this, Nat.zero_le _⟩
theorem sh_pieces {l : List Nat} (h : ∀ c ∈ l, c ∈ lineS.cps.toList) (w : Nat) : SeqAt.shaped (.list ((cutN l w).map dS)) = true := (cmp_list (m := 0) fun d hd => by
  obtain ⟨p, hp, rfl⟩ := List.mem_map.mp hd
  refine cmp_S (fun c hc => h c ?_) 0
  rw [← cut_flat l w]
  exact List.mem_flatten.mpr ⟨p, hp, hc⟩).shaped (by decide)
theorem cut_1 {α : Type} (xs : List α) : cutG xs (some 1) none = xs.tail := by
  unfold cutG
  rw [HT.sIx_none, show (some (1 : Int)) = some ((1 : Nat) : Int) from rfl, HT.sIx_nat]
  cases xs with
  | nil => rfl
  | cons x r =>
    rw [Nat.min_eq_left (by rw [List.length_cons]; omega)]
    show (r.take _) = r
    rw [List.length_cons, Nat.add_sub_cancel, List.take_length]
theorem getN {L : List Nat} {k : Nat} {c : Nat} (h : L[k]? = some c) : (L.map dN)[k]? = some (dN c) := by
  rw [List.getElem?_map, h]
  rfl
abbrev s__law_long_right : Stmt := topS 38
abbrev nm__law_long_right : List Str := ["_law_line_here", "_law_width_here", "_law_borders_here", "_law_roughness", "_law_starts_here", "_law_ends", "_law_way", "_law_start", "_law_end", "_law_k", "_law_one"]
theorem sc__law_long_right : FnScope nm__law_long_right ["_law_line_here", "_law_width_here"] (defScope s__law_long_right) := ⟨rfl, rfl, rfl, by decide +kernel, rfl, by decide +kernel, by decide +kernel⟩
section
variable {P : Program} {w : World} {K : PySem.W.Frag} {mg : Str → Option Value} {base : Heap} {f : Addr} {fd : FuncData}
def preLong (ds : List PyData) : Prop := ∃ (l : List Nat) (w : Nat), ds = [dS l, dN w] ∧ LineOk l ∧ 1 ≤ w ∧ w ≤ 1000
theorem ok_long_right (F : Fun K "_law_long_right" "_law_long_right" s__law_long_right f fd) (T : Bt mg) (c__law_borders : C8.Cal P w K mg base 1 "_law_borders" spBorders []) (c__law_pieces : C8.Cal P w K mg base 2 "_law_pieces" spLPieces [])
    (c_pieces : C8.Cal P w K mg base 3 "pieces" spPieces []) (c_smooth : C8.Cal P w K mg base 3 "smooth" spSmooth []) (c__law_rough : C8.Cal P w K mg base 1 "_law_rough" spRough []) (c__law_least_rough : C8.Cal P w K mg base 1 "_law_least_rough" spLR []) : FnOk P w K mg base CX0 4 f fd ["_law_line_here", "_law_width_here"] (spTrue preLong) :=
  okD F sc__law_long_right (fun ds ⟨l, w, e, _⟩ => by rw [e]; rfl) fun cdv A outer s H E hr => by
    refine ⟨_, (pss_cons (ps_set (i := 2) sc__law_long_right.nd rfl (.inr rfl) (pe_op op_addA (pe_lst (pa_cons pe_int pa_nil)) (C8.pe_c c__law_borders hr (by decide) (by rfl) (pa_cons (pv 0) pa_nil)))) (pss_cons (ps_asg (C8.pe_c c_smooth hr (by decide) (by rfl) (pa_cons (pv 0) (pa_cons (pv 1) pa_nil))) (k_tup (K := K) rfl (pg_tup (n := 2) rfl (pgs_cons (pg_name (i := 3) sc__law_long_right.nd rfl (.inl rfl)) (pgs_cons (pg_name (i := 4) sc__law_long_right.nd rfl (.inr rfl)) pgs_nil))))) (pss_cons (ps_if (PW.pt (pw_or (pt_cmpR (k_ne (K := K) hr.units rfl) (pe_ix (k_ix (K := K) rfl) (pv 4) pe_int (fun _ _ => rfl)) pe_int (nomark _)) (pw_or (pt_cmpR (k_ne (K := K) hr.units rfl) (pv 4) (pe_callB (call_ordSet rfl) (by rfl) T.sorted (by decide +kernel) (pa_cons (pe_callTy (call_setI rfl) (by rfl) T.set (by decide +kernel) (pa_cons (pv 4) pa_nil)) pa_nil)) (nomark _)) (pw_or1 (pt_cmpR (k_ne (K := K) hr.units rfl) (pe_lc (own := [("_law_start", 7)]) rfl sc__law_long_right.nd (k_list (K := K) rfl (pv 4)) (blkOk_by (own := [("_law_start", 7)]) (N := nm__law_long_right) (sc := (defScope s__law_long_right)) (by decide +kernel)) (fun _ _ _ _ _ => (pg_name (i := 7) sc__law_long_right.nd rfl (.inl rfl))) (fun _ _ _ _ _ => (pts_one (pt_cmpR (k_ni (K := K) rfl) (pv 7) (pv 2) (by rfl)))) (fun _ _ _ _ _ => (pv 7))) (pe_lst pa_nil) (nomark _)))))) (pss_one (ps_ret pe_bl)) pss_nil) (pss_cons (ps_set (i := 5) sc__law_long_right.nd rfl (.inr rfl) (pe_op op_addA (pe_slice (k_sl (K := K) rfl) (pv 4) (po_some pe_int) po_none) (pe_lst (pa_cons (pe_callB (k_len (K := K) rfl) (by rfl) T.len (by decide +kernel) (pa_cons (pv 0) pa_nil)) pa_nil)))) (pss_cons (ps_setLc (i := 6) rfl sc__law_long_right.nd rfl rfl (sw_true rfl rfl rfl (by decide +kernel)) (pi_range1 (by rfl) T.range (pa_cons (pe_callB (k_len (K := K) rfl) (by rfl) T.len (by decide +kernel) (pa_cons (pv 4) pa_nil)) pa_nil)) (blkOk_by (own := [("_law_k", 9)]) (N := nm__law_long_right) (sc := (defScope s__law_long_right)) (by decide +kernel)) (fun _ _ _ _ _ => (pg_name (i := 9) sc__law_long_right.nd rfl (.inl rfl))) (fun _ _ _ _ _ => pts_nil) (fun _ _ _ _ _ => (pe_tup (pa_cons (pe_ix (k_ix (K := K) rfl) (pv 4) (pv 9) (fun _ _ => rfl)) (pa_cons (pe_ix (k_ix (K := K) rfl) (pv 5) (pv 9) (fun _ _ => rfl)) pa_nil))))) (pss_cons (ps_for PassesOwn.never rfl (k_list (K := K) rfl (pv 6)) (k_tup (K := K) rfl (pg_tup (n := 2) rfl (pgs_cons (pg_name (i := 7) sc__law_long_right.nd rfl (.inr rfl)) (pgs_cons (pg_name (i := 8) sc__law_long_right.nd rfl (.inr rfl)) pgs_nil)))) (pss_one (ps_if (PW.pt (pw_and (pt_cmpR op_gt (pe_op op_sub (pv 8) (pv 7)) (pv 1) (nomark _)) (pw_and1 (pt_cmpR op_gt (pe_callB (k_len (K := K) rfl) (by rfl) T.len (by decide +kernel) (pa_cons (pe_lc (own := [("_law_one", 10)]) rfl sc__law_long_right.nd (k_list (K := K) rfl (pv 2)) (blkOk_by (own := [("_law_one", 10)]) (N := nm__law_long_right) (sc := (defScope s__law_long_right)) (by decide +kernel)) (fun _ _ _ _ _ => (pg_name (i := 10) sc__law_long_right.nd rfl (.inl rfl))) (fun _ _ _ _ _ => (pts_one (pt_chain op_lt op_le (pv 7) (pv 10) (pv 8)))) (fun _ _ _ _ _ => (pv 10))) pa_nil)) pe_int (nomark _))))) (pss_one (ps_ret pe_bl)) pss_nil))) (pss_cons (ps_if (PW.pt (pw_or (pt_cmpR (k_ne (K := K) hr.units rfl) (pv 3) (C8.pe_c c__law_rough hr (by decide) (by rfl) (pa_cons (pv 6) (pa_cons (pv 1) pa_nil))) (nomark _)) (pw_or1 (pt_cmpR (k_ne (K := K) hr.units rfl) (pv 3) (C8.pe_c c__law_least_rough hr (by decide) (by rfl) (pa_cons (pv 2) (pa_cons (pv 1) pa_nil))) (nomark _))))) (pss_one (ps_ret pe_bl)) pss_nil) (pss_one (ps_ret (pe_cmpR (k_eq (K := K) hr.units rfl) (C8.pe_c c_pieces hr (by decide) (by rfl) (pa_cons (pv 0) (pa_cons (pv 1) pa_nil))) (C8.pe_c c__law_pieces hr (by decide) (by rfl) (pa_cons (pv 0) (pa_cons (pv 1) pa_nil))) (nomark _))))))))))), ?_⟩
    rintro ds ⟨l, w, rfl, hl, hw, hw2⟩
    show Run [some (.val (dS l)), some (.val (dN w)), none, none, none, none, none, none, none, none, none] _ _ _
    have h1 := hl.len
    have hsz := sizes_len l
    obtain ⟨k1, k2, k3, k4, k5, k6⟩ := wayE_ok l w
    generalize hW : wayE l w = W at k1 k2 k4 k5 k6
    generalize hst : (smoothN l w).2 = st at k1 k2 k3
    generalize hrg : (smoothN l w).1 = rg at k6
    have hlen : st.length = W.length := by rw [← k1, List.length_map]
    have hst0 : st[0]? = some 0 := by rw [← hst]; rfl
    have hdat : st.map dN = (st.map fun n : Nat => (n : Int)).map PyData.int := by rw [List.map_map]; rfl
    refine q_asg (d := .list ((0 :: bord 0 (sizesN l)).map dN)) ((ev_op (ev_lst (ea_cons ev_int ea_nil) (by decide)) (ev_borders (ea_cons (ev_var rfl) ea_nil) h1) (rv_addL ?_)).is ?_) ?_
    · have := borders_len l
      rw [List.length_map]
      show 1 + _ ≤ _
      omega
    · rw [borders_eq]
      rfl
    generalize hB : (0 :: bord 0 (sizesN l)) = B at k5
    have hBl : B.length ≤ 1001 := by
      rw [← hB, List.length_cons, bord_length]
      omega
    refine q_asgT ((ev_smooth (ea_cons (ev_var rfl) (ea_cons (ev_var rfl) ea_nil)) hl hw hw2).is (by unfold smoothD; rw [hst, hrg])) tg_pair ?_
    show Run [some (.val (dS l)), some (.val (dN w)), some (.val (.list (B.map dN))), some (.val (dN rg)), some (.val (.list (st.map dN))), none, none, none, none, none, none] _ _ _
    refine q_guard (b := false) (et_or (a := false) ((et_test (ev_op (ev_op (ev_var rfl) ev_int (rv_ixL (d := dN 0) (atI_nat (j := 0) (getN hst0)))) ev_int rv_neI)).is rfl) fun _ => et_or (a := false) ((et_test (ev_op (ev_var rfl) ((ev_ordSet ((ev_var rfl).is (by rw [hdat])) ?_ ?_).is (by rw [← hdat])) rv_neN)).is (by rw [decide_eq_true rfl]; rfl)) fun _ => (et_test (ev_op (EvN.ev (en_lc (ts := [7]) st dN (fun _ => false) dN (ei_list (ev_var rfl)) (by omega) (by simp) fun k hk => ⟨_, tg_name, ?_, nofun⟩)) (ev_lst ea_nil (by decide)) (rv_neNil ?_))).is ?_) nofun fun _ => ?_
    · rw [List.pairwise_map]
      exact k3.imp fun h => by omega
    · rw [List.length_map]
      omega
    · refine (et_test (ev_op (ev_var rfl) ((ev_var rfl).is (show PyData.list (B.map dN) = .list ((B.map fun n : Nat => (n : Int)).map PyData.int) by rw [List.map_map]; rfl)) rv_niI)).is ?_
      rw [decide_eq_true]
      · rfl
      · rw [← k1] at hk
        obtain ⟨x, hx, rfl⟩ := List.mem_map.mp hk
        exact List.mem_map_of_mem (k5 x hx).2.1
    · rw [List.filter_eq_nil_iff.mpr (by simp)]
      rfl
    · rw [List.filter_eq_nil_iff.mpr (by simp)]
      rfl
    refine q_asg (d := .list ((st.tail ++ [l.length]).map dN)) ((ev_op (ev_slL (ev_var rfl) (eo_some ev_int) eo_none) (ev_lst (ea_cons (ev_cb (ea_cons (ev_var rfl) ea_nil) (rc_lenN (by omega))) ea_nil) (by simp)) (rv_addL ?_)).is ?_) ?_
    · rw [cut_1, List.length_tail, List.length_map]
      show _ + 1 ≤ _
      omega
    · rw [cut_1, List.map_append, List.map_tail]
      rfl
    generalize hen : st.tail ++ [l.length] = en at k2
    refine q_own (ds := W.map fun p => .tuple [dN p.1, dN p.2]) ((en_lc1 (ts := [9]) (List.range W.length) (fun k : Nat => .int (0 + (k : Int))) (fun k => .tuple [dN (st.getD k 0), dN (en.getD k 0)]) ((ei_range1 (j := (W.length : Int)) (ea_cons ((ev_cb (ea_cons (ev_var rfl) ea_nil) rc_lenM).is (by rw [hlen]; rfl)) ea_nil)).is (by rw [Int.toNat_natCast]; rfl)) (by rw [List.length_range]; omega) (by simp) fun k hk => ⟨_, tg_name, ?_⟩).is ?_) ?_
    · obtain ⟨x, x1, x2, x3⟩ := pairs_get k1 k2 (List.mem_range.mp hk)
      rw [List.getD_eq_getElem?_getD, List.getD_eq_getElem?_getD, x2, x3]
      refine ev_tup (ea_cons (ev_op (ev_var rfl) (ev_var rfl) (rv_ixL (atN (j := k) (by omega) (getN x2)))) (ea_cons (ev_op (ev_var rfl) (ev_var rfl) (rv_ixL (atN (j := k) (by omega) (getN x3)))) ea_nil)) (by simp)
    · refine List.ext_getElem? fun k => ?_
      rw [List.getElem?_map, List.getElem?_map]
      by_cases hk : k < W.length
      · obtain ⟨x, x1, x2, x3⟩ := pairs_get k1 k2 hk
        rw [List.getElem?_range hk, x1]
        show some (PyData.tuple [dN (st.getD k 0), dN (en.getD k 0)]) = some (PyData.tuple [dN x.1, dN x.2])
        rw [List.getD_eq_getElem?_getD, List.getD_eq_getElem?_getD, x2, x3]
        rfl
      · rw [List.getElem?_eq_none (by rw [List.length_range]; omega), List.getElem?_eq_none (by omega)]
        rfl
    refine run_freeze (i := 6) rfl ?_
    show Run [some (.val (dS l)), some (.val (dN w)), some (.val (.list (B.map dN))), some (.val (dN rg)), some (.val (.list (st.map dN))), some (.val (.list (en.map dN))), some (.val (wayD W)), none, none, none, none] _ _ _
    refine q_for (ts := [7, 8]) (fun _ Δ => ∃ z7 z8, Δ = [some (.val (dS l)), some (.val (dN w)), some (.val (.list (B.map dN))), some (.val (dN rg)), some (.val (.list (st.map dN))), some (.val (.list (en.map dN))), some (.val (wayD W)), z7, z8, none, none]) (ei_list (ev_var rfl)) ⟨_, _, rfl⟩ (fun i d Δi hd hI => ?_) fun Δ' hI => ?_
    · obtain ⟨z7, z8, rfl⟩ := hI
      rw [List.getElem?_map] at hd
      cases hx : W[i]? with
      | none =>
        rw [hx] at hd
        cases hd
      | some x =>
        rw [hx] at hd
        cases hd
        obtain ⟨y1, y2, y3⟩ := k5 x (List.mem_of_getElem? hx)
        refine ⟨_, tg_pair, ?_⟩
        refine run_if (b := false) ((et_and (a := decide ((w : Int) < (x.2 : Int) - (x.1 : Int))) (b := false) (et_test (ev_op (ev_op (ev_var rfl) (ev_var rfl) rv_sub) (ev_var rfl) rv_gt)) fun hp => (et_test (ev_op (ev_cb (ea_cons (EvN.ev (en_lc (ts := [10]) B dN (fun n => decide (x.1 < n) && decide (n ≤ x.2)) dN (ei_list (ev_var rfl)) (by omega) (by simp) fun n hn => ⟨_, tg_name, (et_test (ev_chain (ev_var rfl) (ev_var rfl) (ev_var rfl) rv_lt rv_le)).is ?_, fun _ => ev_var rfl⟩)) ea_nil) rc_lenM) ev_int rv_gt)).is ?_).is (Bool.and_false _)) nofun fun _ => run_nil ⟨_, _, rfl⟩
        · congr 1
          · exact decide_eq_decide.mpr (by omega)
          · exact decide_eq_decide.mpr (by omega)
        · have hp' := of_decide_eq_true hp
          refine decide_eq_false ?_
          have : (inside x B).length ≤ 1 := y3.resolve_left (by omega)
          unfold inside at this
          omega
    obtain ⟨z7, z8, rfl⟩ := hI
    refine q_guard (b := false) (et_or (a := false) ((et_test (ev_op (ev_var rfl) (ev_rough (ea_cons (ev_var rfl) (ea_cons (ev_var rfl) ea_nil)) (by omega) hw2 fun x hx => (k5 x hx).1) rv_neI)).is ?_) fun _ => (et_test (ev_op (ev_var rfl) (ev_least_rough (s := sizesN l) (ea_cons ((ev_var rfl).is (by rw [hB])) (ea_cons (ev_var rfl) ea_nil)) (by omega) hw2) rv_neI)).is ?_) nofun fun _ => ?_
    · rw [k6, decide_eq_true rfl]
      rfl
    · rw [← hrg]
      show (!decide (((cost w (sizesN l) : Nat) : Int) = ((cost w (sizesN l) : Nat) : Int))) = false
      rw [decide_eq_true rfl]
      rfl
    · refine run_retD ((ev_op (ev_pieces (ea_cons (ev_var rfl) (ea_cons (ev_var rfl) ea_nil)) hl hw hw2) (ev_lpieces (ea_cons (ev_var rfl) (ea_cons (ev_var rfl) ea_nil)) h1) (rv_eqD (sh_pieces hl.signs w) (sh_pieces hl.signs w))).is ?_) rfl
      rw [SeqAt.eqv_refl _ (SeqAt.canLay_of_shaped (sh_pieces hl.signs w))]
end
end DL
/-! F9: what the pump gives: a digit, a line, a text. -/
namespace DL
open PySem L2
open PyProof.Rows (envOfC)
open MM
/-- signs of lines, at most n of them -/
def Ln (n : Nat) (l : List Nat) : Prop := l.length ≤ n ∧ ∀ c ∈ l, c ∈ lineS.cps.toList
theorem Ln.app {m n : Nat} {a b : List Nat} (h1 : Ln m a) (h2 : Ln n b) : Ln (m + n) (a ++ b) := ⟨by
  rw [List.length_append]
  exact Nat.add_le_add h1.1 h2.1, fun c hc => (List.mem_append.mp hc).elim (h1.2 c) (h2.2 c)⟩
theorem Ln.take {m n : Nat} {a : List Nat} (h : Ln m a) : Ln n (a.take n) := ⟨List.length_take_le _ _, fun c hc => h.2 c (List.mem_of_mem_take hc)⟩
theorem Ln.to {m n : Nat} {a : List Nat} (h : Ln m a) (e : m ≤ n) : Ln n a := ⟨Nat.le_trans h.1 e, h.2⟩
theorem strs_ln {M : Nat} {L : List Str} (h : (L.all fun s => decide (s.length ≤ M) && s.cps.toList.all fun c => lineS.cps.toList.contains c) = true) {d : PyData} (hd : d ∈ L.map PyData.str) : ∃ l, d = dS l ∧ Ln M l := by
  obtain ⟨s, hs, rfl⟩ := List.mem_map.mp hd
  have := List.all_eq_true.mp h s hs
  rw [Bool.and_eq_true, decide_eq_true_eq, List.all_eq_true] at this
  exact ⟨s.cps.toList, rfl, this.1, fun c hc => by simpa using this.2 c hc⟩
theorem cutS_0 {l : List Nat} {m : Nat} : cutS (S l) none (some (m : Int)) = S (l.take m) := by
  unfold cutS
  rw [HT.sIx_none, HT.sIx_nat, S_cps, S_len]
  show S ((l.drop 0).take _) = _
  rw [List.drop_zero, Nat.sub_zero]
  congr 1
  rcases Nat.le_total m l.length with h | h
  · rw [Nat.min_eq_left h]
  · rw [Nat.min_eq_right h, List.take_length, List.take_of_length_le h]
/-! ### texts of lines -/
theorem no_nl {c : Nat} (h : c ∈ lineS.cps.toList) : c ≠ 10 ∧ c ∈ signsS.cps.toList := by
  have h2 : ∀ c ∈ lineS.cps.toList, c ≠ 10 ∧ c ∈ signsS.cps.toList := by decide +kernel
  exact h2 c h
theorem join_bound {M : Nat} : ∀ {ls : List (List Nat)}, (∀ l ∈ ls, Ln M l) → (TL.joinL [10] ls).length ≤ (M + 1) * ls.length ∧ ∀ c ∈ TL.joinL [10] ls, c ∈ signsS.cps.toList
  | [], _ => ⟨Nat.zero_le _, fun c hc => nomatch hc⟩
  | [l], h => by
    have h1 := h l List.mem_cons_self
    refine ⟨?_, fun c hc => (no_nl (h1.2 c hc)).2⟩
    show l.length ≤ (M + 1) * 1
    have := h1.1
    omega
  | l :: m :: r, h => by
    have h1 := h l List.mem_cons_self
    have ih := join_bound (ls := m :: r) fun x hx => h x (List.mem_cons_of_mem _ hx)
    have e : TL.joinL [10] (l :: m :: r) = l ++ ([10] ++ TL.joinL [10] (m :: r)) := rfl
    rw [e]
    refine ⟨?_, fun c hc => ?_⟩
    · have := h1.1
      have h2 := ih.1
      rw [List.length_append, List.length_append, List.length_cons (as := m :: r), Nat.mul_add, Nat.mul_one]
      show l.length + (1 + _) ≤ _
      omega
    · rcases List.mem_append.mp hc with z | z
      · exact (no_nl (h1.2 c z)).2
      · rcases List.mem_append.mp z with z | z
        · rw [List.mem_singleton.mp z]
          decide +kernel
        · exact ih.2 c z
theorem text_ok {ls : List (List Nat)} {M : Nat} (h0 : ls ≠ []) (hl : ∀ l ∈ ls, Ln M l) (hM : M ≤ 1000) (hn : ls.length ≤ 5) : TextOk (S (TL.joinL [10] ls)) ls := by
  obtain ⟨b1, b2⟩ := join_bound hl
  refine ⟨?_, ?_, b2, by omega, fun l h => Nat.le_trans (hl l h).1 hM⟩
  · have e := SX.split_S (a := TL.joinL [10] ls) (b := [10]) (by decide) (by decide)
    rw [SX.spl_join (c := 10) (sep := []) h0 fun p hp h10 => (no_nl ((hl p hp).2 10 h10)).1 rfl] at e
    have e2 : nlS = S [10] := nl_S
    rw [e2]
    exact e
  · rw [S_len]
    have : (M + 1) * ls.length ≤ 1001 * 5 := Nat.mul_le_mul (by omega) hn
    omega
abbrev s__law_cup : Stmt := topS 26
abbrev nm__law_cup : List Str := ["_law_pump_here", "_law_many", "_law_digit"]
theorem sc__law_cup : FnScope nm__law_cup ["_law_pump_here", "_law_many"] (defScope s__law_cup) := ⟨rfl, rfl, rfl, by decide +kernel, rfl, by decide +kernel, by decide +kernel⟩
abbrev s__law_line : Stmt := topS 28
abbrev nm__law_line : List Str := ["_law_pump_here", "_law_most", "_law_found", "_law_turn", "_law_word"]
theorem sc__law_line : FnScope nm__law_line ["_law_pump_here", "_law_most"] (defScope s__law_line) := ⟨rfl, rfl, rfl, by decide +kernel, rfl, by decide +kernel, by decide +kernel⟩
abbrev s__law_text : Stmt := topS 29
abbrev nm__law_text : List Str := ["_law_pump_here", "_law_lines", "_law_most", "_law_found", "_law_turn"]
theorem sc__law_text : FnScope nm__law_text ["_law_pump_here", "_law_lines", "_law_most"] (defScope s__law_text) := ⟨rfl, rfl, rfl, by decide +kernel, rfl, by decide +kernel, by decide +kernel⟩
section
variable {P : Program} {w : World} {K : PySem.W.Frag} {mg : Str → Option Value} {base : Heap} {f : Addr} {fd : FuncData}
def preCup (ds : List PyData) : Prop := ∃ m : Nat, ds = [dN m] ∧ 1 ≤ m ∧ m ≤ 1000
def postCup (ds : List PyData) (d : PyData) : Prop := ∀ m : Nat, ds = [dN m] → ∃ j : Nat, d = dN j ∧ j < m
def spCup : Sp := spP preCup postCup
theorem dN_inj {a b : Nat} (h : dN a = dN b) : a = b := by
  have : (a : Int) = b := PyData.int.inj h
  omega
theorem ev_cup {Δ : Dn} {E : XK} {i m : Nat} {te : TE} (hi : Δ[i]? = some (some .pump)) (h : Ev Δ te (.int (m : Int))) (h1 : 1 ≤ m) (h2 : m ≤ 1000) : EvP Δ (tCall spCup [] E (tCons (tVar i) (tCons te tNil))) fun d => ∃ j : Nat, d = dN j ∧ j < m :=
  (ev_callP (E := E) hi (ea_cons h ea_nil) (Pre := preCup) (Post := postCup) ⟨m, rfl, h1, h2⟩).weak fun d hd => hd m rfl
theorem ok_cup (F : Fun K "_law_cup" "_law_cup" s__law_cup f fd) (T : Bt mg) : FnOk P w K mg base CX0 1 f fd ["_law_pump_here", "_law_many"] spCup :=
  okP F sc__law_cup (fun ds ⟨m, e, _⟩ => by rw [e]; rfl) fun cdv A outer s H E hr => by
    refine ⟨_, (pss_cons (ps_set (i := 2) sc__law_cup.nd rfl (.inl rfl) (pe_op op_modN (pe_callTy call_int1 (by rfl) T.int (by decide +kernel) (pa_cons (pe_ix (k_ix (K := K) rfl) (pv 0) pe_int (fun _ _ => rfl)) pa_nil)) (pv 1))) (pss_cons (ps_asg (pe_op op_fdivN (pe_ix (k_ix (K := K) rfl) (pv 0) pe_int (fun _ _ => rfl)) (pv 1)) (pg_sub (pv 0) pe_int set_list)) (pss_one (ps_ret (pv 2))))), ?_⟩
    rintro ds ⟨m, rfl, h1, h2⟩
    show Run [some .pump, some (.val (dN m)), none] _ _ _
    refine q_asgP (P := fun d => ∃ j : Nat, d = dN j ∧ j < m) (ev_opP (ev_cbP (P := fun d => ∃ n : Int, d = .int n) (ev_ixPump rfl) fun d ⟨n, e⟩ => e ▸ rc_int1.to fun x e => ⟨n, e⟩) (ev_var rfl) fun d1 d2 ⟨n, e1⟩ e2 => e1 ▸ e2 ▸ (rv_mod (i := n) (j := (m : Int)) (by omega)).to fun x e => ⟨(n.fmod m).toNat, ?_, ?_⟩) ?_
    · have := Int.fmod_nonneg_of_pos n (show (0 : Int) < m by omega)
      rw [e]
      show PyData.int _ = PyData.int _
      rw [Int.toNat_of_nonneg this]
    · have a1 := Int.fmod_nonneg_of_pos n (show (0 : Int) < m by omega)
      have a2 := Int.fmod_lt_of_pos n (show (0 : Int) < m by omega)
      omega
    · rintro d ⟨j, rfl, hj⟩
      refine q_setPump rfl (ev_opP (ev_ixPump rfl) (ev_var rfl) fun d1 d2 ⟨n, e1⟩ e2 => e1 ▸ e2 ▸ (rv_div (i := n) (j := (m : Int)) ⟨by omega, by omega⟩).to fun x e => ⟨_, e⟩) ?_
      refine run_ret (ev_var rfl) fun d e m' em => ⟨j, e, ?_⟩
      rw [← dN_inj (List.cons.inj em).1]
      exact hj
def preLine (ds : List PyData) : Prop := ∃ m : Nat, ds = [dN m] ∧ m ≤ 1000
def postLine (ds : List PyData) (d : PyData) : Prop := ∀ m : Nat, ds = [dN m] → ∃ l, d = dS l ∧ Ln m l
def spLine : Sp := spP preLine postLine
theorem ev_line {Δ : Dn} {E : XK} {i M : Nat} {te : TE} (hi : Δ[i]? = some (some .pump)) (h : EvP Δ te fun d => ∃ m : Nat, d = dN m ∧ m ≤ M) (hM : M ≤ 1000) : EvP Δ (tCall spLine [] E (tCons (tVar i) (tCons te tNil))) fun d => ∃ l, d = dS l ∧ Ln M l :=
  ev_callP1 (E := E) hi h fun d ⟨m, e, hm⟩ => ⟨⟨m, by rw [e], by omega⟩, fun x hx => by
    obtain ⟨l, e1, e2⟩ := hx m (by rw [e])
    exact ⟨l, e1, e2.to hm⟩⟩
theorem ok_line (F : Fun K "_law_line" "_law_line" s__law_line f fd) (T : Bt mg) (c__law_cup : C8.Cal P w K mg base 1 "_law_cup" spCup []) : FnOk P w K mg base CX0 2 f fd ["_law_pump_here", "_law_most"] spLine :=
  okP F sc__law_line (fun ds ⟨m, e, _⟩ => by rw [e]; rfl) fun cdv A outer s H E hr => by
    refine ⟨_, (pss_cons (ps_set (i := 2) sc__law_line.nd rfl (.inl rfl) pe_str) (pss_cons (ps_for PassesOwn.never rfl (pi_range1 (by rfl) T.range (pa_cons (C8.pe_c c__law_cup hr (by decide) (by rfl) (pa_cons (pv 0) (pa_cons pe_int pa_nil))) pa_nil)) (pg_name (i := 3) sc__law_line.nd rfl (.inl rfl)) (pss_cons (ps_set (i := 4) sc__law_line.nd rfl (.inl rfl) (pe_ix (k_ix (K := K) rfl) (pe_lst (pa_cons pe_str (pa_cons pe_str (pa_cons pe_str (pa_cons pe_str (pa_cons pe_str pa_nil)))))) (C8.pe_c c__law_cup hr (by decide) (by rfl) (pa_cons (pv 0) (pa_cons pe_int pa_nil))) (fun _ _ => rfl))) (pss_one (ps_set (i := 2) sc__law_line.nd rfl (.inl rfl) (pe_op op_addA (pe_op op_addA (pv 2) (pv 4)) (pe_ix (k_ix (K := K) rfl) (pe_lst (pa_cons pe_str (pa_cons pe_str (pa_cons pe_str (pa_cons pe_str (pa_cons pe_str pa_nil)))))) (C8.pe_c c__law_cup hr (by decide) (by rfl) (pa_cons (pv 0) (pa_cons pe_int pa_nil))) (fun _ _ => rfl))))))) (pss_one (ps_ret (pe_slice (k_sl (K := K) rfl) (pe_op op_addA (pe_ix (k_ix (K := K) rfl) (pe_lst (pa_cons pe_str (pa_cons pe_str (pa_cons pe_str (pa_cons pe_str (pa_cons pe_str (pa_cons pe_str pa_nil))))))) (C8.pe_c c__law_cup hr (by decide) (by rfl) (pa_cons (pv 0) (pa_cons pe_int pa_nil))) (fun _ _ => rfl)) (pv 2)) po_none (po_some (pv 1))))))), ?_⟩
    rintro ds ⟨m, rfl, hm⟩
    show Run [some .pump, some (.val (dN m)), none, none, none] _ _ _
    refine q_asg (d := dS []) (ev_str.is (by rw [empty_S]; rfl)) ?_
    refine q_forR (fun n => n < 9) (fun Δ => ∃ l z3 z4, Ln 200 l ∧ Δ = [some .pump, some (.val (dN m)), some (.val (dS l)), z3, z4]) (ev_cup (m := 9) rfl ev_int (by decide) (by decide)) (fun n h => by omega) (fun n hn => ?_) ?_
    · refine run_for (ts := [3]) (fun i Δ => ∃ l z3 z4, Ln (11 * i) l ∧ Δ = [some .pump, some (.val (dN m)), some (.val (dS l)), z3, z4]) ei_nat ⟨[], _, _, ⟨Nat.le_refl _, nofun⟩, rfl⟩ (fun i d Δi hd hI => ?_) fun Δ' hI => ?_
      · obtain ⟨l, z3, z4, hl, rfl⟩ := hI
        obtain ⟨hi, rfl⟩ := rngD_get hd
        refine ⟨_, tg_name, ?_⟩
        refine q_asgP (P := fun d => ∃ a, d = dS a ∧ Ln 8 a) ((ev_pick (ds := (["a", "bc", "def", "ghijk", "lmnopqrs"] : List Str).map PyData.str) (ev_lst (ea_cons ev_str (ea_cons ev_str (ea_cons ev_str (ea_cons ev_str (ea_cons ev_str ea_nil))))) (by decide)) (ev_cup (m := 5) rfl ev_int (by decide) (by decide))).weak fun d hd => strs_ln (by decide +kernel) hd) ?_
        rintro d ⟨a, rfl, ha⟩
        have hl1 := hl.1
        have ha1 := ha.1
        refine run_asgP (P := fun d => ∃ b, d = dS b ∧ Ln (11 * (i + 1)) b) (ev_opP (ev_op (ev_var rfl) (ev_var rfl) (rv_addS' (by omega))) ((ev_pick (ds := (["", " ", " ", "  ", "   "] : List Str).map PyData.str) (ev_lst (ea_cons ev_str (ea_cons ev_str (ea_cons ev_str (ea_cons ev_str (ea_cons ev_str ea_nil))))) (by decide)) (ev_cup (m := 5) rfl ev_int (by decide) (by decide))).weak fun d hd => strs_ln (M := 3) (by decide +kernel) hd) fun d1 d2 e1 ⟨b, e2, hb⟩ => ?_) ?_
        · rw [e1, e2]
          have hb1 := hb.1
          exact (rv_addS' (by rw [List.length_append]; omega)).to fun x e => ⟨_, e, ((hl.app ha).app hb).to (by omega)⟩
        · rintro d ⟨b, rfl, hb⟩
          exact ⟨b, _, _, hb, rfl⟩
      · obtain ⟨l, z3, z4, hl, rfl⟩ := hI
        rw [rngD_length] at hl
        exact ⟨l, _, _, hl.to (by omega), rfl⟩
    · rintro Δ' ⟨l, z3, z4, hl, rfl⟩
      have hl1 := hl.1
      refine run_ret (P := fun d => ∃ l, d = dS l ∧ Ln m l) (ev_slSP (ev_opP (P := fun d => ∃ z, d = .str z ∧ z.length ≤ 100000 ∧ ∃ l, PyData.str (cutS z none (some (m : Int))) = dS l ∧ Ln m l) ((ev_pick (ds := ([" ", "  ", "", "", "", ""] : List Str).map PyData.str) (ev_lst (ea_cons ev_str (ea_cons ev_str (ea_cons ev_str (ea_cons ev_str (ea_cons ev_str (ea_cons ev_str ea_nil)))))) (by decide)) (ev_cup (m := 6) rfl ev_int (by decide) (by decide))).weak fun d hd => strs_ln (M := 2) (by decide +kernel) hd) (ev_var rfl) fun d1 d2 ⟨b, e1, hb⟩ e2 => ?_) eo_none (eo_some (ev_var rfl))) fun d ⟨l, e, h⟩ m' em => ⟨l, e, ?_⟩
      · rw [e1, e2]
        have hb1 := hb.1
        refine (rv_addS' (by omega)).to fun x e => ⟨S (b ++ l), e, ?_, (b ++ l).take m, ?_, (hb.app hl).take⟩
        · rw [S_len, List.length_append]
          omega
        · rw [cutS_0]
          rfl
      · rw [← dN_inj (List.cons.inj em).1]
        exact h
def spText : Sp := spP (fun ds => ds = [dN 4, dN 14]) fun _ d => ∃ s ls, d = .str s ∧ TextOk s ls
theorem lens_sum {M : Nat} : ∀ {ls : List (List Nat)}, (∀ l ∈ ls, Ln M l) → ((ls.map S).map (·.length)).sum ≤ M * ls.length
  | [], _ => Nat.zero_le _
  | l :: ls, h => by
    have h1 := (h l List.mem_cons_self).1
    have ih := lens_sum (ls := ls) fun x hx => h x (List.mem_cons_of_mem _ hx)
    rw [List.map_cons, List.map_cons, List.sum_cons, List.length_cons, Nat.mul_add, Nat.mul_one, S_len]
    omega
theorem ok_text (F : Fun K "_law_text" "_law_text" s__law_text f fd) (T : Bt mg) (c__law_cup : C8.Cal P w K mg base 1 "_law_cup" spCup []) (c__law_line : C8.Cal P w K mg base 2 "_law_line" spLine []) : FnOk P w K mg base CX0 3 f fd ["_law_pump_here", "_law_lines", "_law_most"] spText :=
  okP F sc__law_text (fun ds e => by rw [e]; rfl) fun cdv A outer s H E hr => by
    refine ⟨_, (pss_cons (ps_set (i := 3) sc__law_text.nd rfl (.inl rfl) (pe_lst pa_nil)) (pss_cons (ps_for PassesOwn.never rfl (pi_range1 (by rfl) T.range (pa_cons (pe_op op_addA pe_int (C8.pe_c c__law_cup hr (by decide) (by rfl) (pa_cons (pv 0) (pa_cons (pv 1) pa_nil)))) pa_nil)) (pg_name (i := 4) sc__law_text.nd rfl (.inl rfl)) (pss_one (ps_expr (pe_bm PySem.F.plainAttrs_list PySem.F.slot_list_append PySem.F.type_list_append mt_append (pv 3) (pa_cons (C8.pe_c c__law_line hr (by decide) (by rfl) (pa_cons (pv 0) (pa_cons (pe_ix (k_ix (K := K) rfl) (pe_lst (pa_cons pe_int (pa_cons pe_int (pa_cons (pv 2) (pa_cons (pv 2) pa_nil))))) (C8.pe_c c__law_cup hr (by decide) (by rfl) (pa_cons (pv 0) (pa_cons pe_int pa_nil))) (fun _ _ => rfl)) pa_nil))) pa_nil))))) (pss_one (ps_ret (k_join (K := K) rfl pe_str (pv 3)))))), ?_⟩
    rintro ds rfl
    show Run [some .pump, some (.val (dN 4)), some (.val (dN 14)), none, none] _ _ _
    refine q_own (en_lst ea_nil (by decide)) ?_
    refine q_forR (fun n => 1 ≤ n ∧ n ≤ 4) (fun Δ => ∃ ls z4, ls ≠ [] ∧ ls.length ≤ 4 ∧ (∀ l ∈ ls, Ln 14 l) ∧ Δ = [some .pump, some (.val (dN 4)), some (.val (dN 14)), some (.own (ls.map dS)), z4])
      (ev_opP ev_int (ev_cup (m := 4) rfl (ev_var rfl) (by decide) (by decide)) fun d1 d2 e1 ⟨j, e2, hj⟩ => e1 ▸ e2 ▸ rv_addI.to fun x e => ⟨1 + j, ?_, by omega, by omega⟩) (fun n h => by omega) (fun n hn => ?_) ?_
    · rw [e]
      show PyData.int _ = PyData.int _
      congr 1
    · refine run_for (ts := [4]) (fun i Δ => ∃ ls z4, ls.length = i ∧ (∀ l ∈ ls, Ln 14 l) ∧ Δ = [some .pump, some (.val (dN 4)), some (.val (dN 14)), some (.own (ls.map dS)), z4]) ei_nat ⟨[], _, rfl, nofun, rfl⟩ (fun i d Δi hd hI => ?_) fun Δ' hI => ?_
      · obtain ⟨ls, z4, hl, hls, rfl⟩ := hI
        obtain ⟨hi, rfl⟩ := rngD_get hd
        refine ⟨_, tg_name, ?_⟩
        refine run_app (P := fun d => ∃ l, d = dS l ∧ Ln 14 l) rfl (ev_line rfl ((ev_pick (ds := [.int 0, .int 6, dN 14, dN 14]) (ev_lst (ea_cons ev_int (ea_cons ev_int (ea_cons (ev_var rfl) (ea_cons (ev_var rfl) ea_nil)))) (by decide)) (ev_cup (m := 4) rfl ev_int (by decide) (by decide))).weak fun d hd => ?_) (by decide)) (by rw [List.length_map]; omega) ?_
        · simp only [List.mem_cons, List.not_mem_nil, or_false] at hd
          rcases hd with e | e | e | e
          · exact ⟨0, e, by decide⟩
          · exact ⟨6, e, by decide⟩
          · exact ⟨14, e, by decide⟩
          · exact ⟨14, e, by decide⟩
        · rintro d ⟨l, rfl, h⟩
          refine ⟨ls ++ [l], _, by rw [List.length_append, hl]; rfl, fun x hx => ?_, by rw [List.map_append]; rfl⟩
          rcases List.mem_append.mp hx with z | z
          · exact hls x z
          · rw [List.mem_singleton.mp z]
            exact h
      · obtain ⟨ls, z4, hl, hls, rfl⟩ := hI
        rw [rngD_length] at hl
        refine ⟨ls, _, fun e => ?_, by omega, hls, rfl⟩
        rw [e] at hl
        have : (0 : Nat) = n := hl
        omega
    · rintro Δ' ⟨ls, z4, h0, h4, hls, rfl⟩
      refine run_freeze (i := 3) rfl ?_
      refine run_ret (P := fun d => ∃ s ls, d = .str s ∧ TextOk s ls) (ev_join (ev_str (x := "\n")) (ev_var rfl) fun d e => ⟨ls.map S, ?_, ?_, S (TL.joinL [10] ls), ls, ?_, text_ok h0 hls (by decide) (by omega)⟩) fun d h => h
      · rw [e, List.map_map]
        rfl
      · have := lens_sum hls
        have e1 : ("\n" : Str).length = 1 := by decide +kernel
        rw [e1, List.length_map]
        omega
      · have e1 : Txt.join (S [10]) (ls.map S) = S (TL.joinL [10] ls) := SX.join_S [10] ls
        rw [← e1, nl_S]
end
end DL
/-! FA: the pump is made of the script. -/
namespace DL
open PySem L2
open PyProof.Rows (envOfC)
open MM
theorem cmw {i j : Int} (h1 : i.natAbs < 2 ^ 32) (h2 : j.natAbs < 2 ^ 32) : CMulW i j := wide_mul h1 h2 (by decide) (by decide) (by decide)
theorem fm_lo (i : Int) {m : Int} (h : 0 < m) : 0 ≤ i.fmod m := Int.fmod_nonneg_of_pos i h
theorem fm_hi (i : Int) {m : Int} (h : 0 < m) : i.fmod m < m := Int.fmod_lt_of_pos i h
theorem env_some {pp : Option Addr} {H : Hp} {n : Nat} {v0 : V} {cs : List PyData} {vs : List V} (w : Wf pp (fun _ => none) H) (r : RpL (fun _ => none) cs vs) : Env pp (fun _ => none, H) (none :: d0 cs n) (some v0 :: (vs.map some ++ List.replicate n none)) (fun _ => none) H := by
  have E0 := env0 (n := n) w.bare r
  refine ⟨.refl w, by show _ + 1 = _ + 1; rw [E0.len], fun i c h => ?_, fun i j di dj a hn h1 h2 h3 h4 => ?_⟩
  · cases i with
    | zero => cases h
    | succ i =>
      obtain ⟨v, a1, a2⟩ := E0.at_ i c h
      refine ⟨v, a1, ?_⟩
      cases c with
      | val d => exact a2
      | own es => exact (d0_own h).elim
      | pump =>
        obtain ⟨_, z, _⟩ := a2
        cases z
  · cases i with
    | zero => cases h1
    | succ i => exact d0_own (i := i) h1
abbrev s__law_pump : Stmt := topS 25
abbrev nm__law_pump : List Str := ["_law_script", "_law_at", "_law_cell", "_law_deep", "_law_near", "_law_far", "_law_full", "_law_turn"]
theorem sc__law_pump : FnScope nm__law_pump ["_law_script", "_law_at"] (defScope s__law_pump) := ⟨rfl, rfl, rfl, by decide +kernel, rfl, by decide +kernel, by decide +kernel⟩
section
variable {P : Program} {w : World} {K : PySem.W.Frag} {mg : Str → Option Value} {base : Heap} {f : Addr} {fd : FuncData}
def spPump (K : PySem.W.Frag) : Sp := fun vs H Q _ => ∃ (a : Addr) (ns : List Int), vs = [.ref a, .int 0] ∧ SqL K H a (ns.map V.int) ∧ ns.length ≤ 63 ∧
  ∀ H' p n, H p = none → H' p = some (.lst [.int n]) → Q (.ref p) H'
theorem rv_p10 {n : Nat} (h : n ≤ 1000) : RV (rI CPow fun i j => .int (i ^ j.toNat)) (.int 10) (.int (n : Int)) fun x => x = .int (10 ^ n) := (rv_pow (i := 10) (j := (n : Int)) ⟨by omega, by omega, by decide⟩).to fun x e => by rw [e, Int.toNat_natCast]
/-- behind the cell: whatever it is -/
theorem pump_if {u : TS} {a : Addr} {ns : List Int} {c0 : Int} {D : Ends} {H : Hp} {Q : VK} (hs : SqL K H a (ns.map V.int)) (hq : ∀ H' p n, H p = none → H' p = some (.lst [.int n]) → Q (.ref p) H') (hD : D.rt = Q)
    (h : ∀ c : Int, Run [none, some (.val (dN 0)), some (.val (.int c)), none, none, none, none, none] u (fun _ => False) (RN fun ds => ∃ n : Int, ds = [.int n])) :
    if decide ((0 : Int) < ((ns.map V.int).length : Int)) = true then tAsg (tOp (rIx K) (tVar 0) (tVar 1)) (gName 2) { D with nx := u D } [some (.ref a), some (.int 0), some (.int c0), none, none, none, none, none] H
    else tNext { D with nx := u D } [some (.ref a), some (.int 0), some (.int c0), none, none, none, none, none] H := by
  have key : ∀ c : Int, u D [some (.ref a), some (.int 0), some (.int c), none, none, none, none, none] H := fun c => by
    have w0 : Wf none (fun _ => none) H := ⟨fun a o e => (nomatch e), fun p e => (nomatch e)⟩
    have E := env_some (n := 5) (v0 := .ref a) (cs := [dN 0, .int c]) (vs := [.int 0, .int c]) w0 ⟨.int 0, [.int c], rfl, rfl, .int c, [], rfl, rfl, rfl⟩
    refine h c none _ _ _ H E D (fun _ _ _ _ _ _ e => e.elim) fun v Hs' H' g ⟨p, xs, ds, e1, e2, e3, e4, e5, n, e6⟩ => ?_
    subst e1 e6
    rw [hD]
    obtain ⟨x, r', rfl, rx, r2⟩ := e5
    cases (show r' = [] from r2)
    cases (show x = .int n from rx)
    exact hq H' p n e2 e4
  by_cases z : 0 < ns.length
  · rw [if_pos (decide_eq_true (by rw [List.length_map]; omega))]
    obtain ⟨n0, r, rfl⟩ : ∃ n0 r, ns = n0 :: r := by
      cases ns with
      | nil => exact absurd z (Nat.lt_irrefl _)
      | cons n0 r => exact ⟨n0, r, rfl⟩
    exact ⟨.ref a, rfl, .int 0, rfl, .inl ⟨a, _, 0, .int n0, rfl, rfl, hs, atI_nat (j := 0) rfl, key n0⟩⟩
  · rw [if_neg (by rw [List.length_map, decide_eq_true_eq]; omega)]
    exact key c0
theorem ok_pump (F : Fun K "_law_pump" "_law_pump" s__law_pump f fd) (T : Bt mg) : FnOk P w K mg base CX0 1 f fd ["_law_script", "_law_at"] (spPump K) := by
  refine F.ok sc__law_pump (fun vs H Q E h => ?_) (fun cdv A outer s H vs Q E hr h => ?_)
  · obtain ⟨a, ns, rfl, _⟩ := h
    rfl
  · obtain ⟨a, ns, rfl, hs, hl, q⟩ := h
    refine ⟨_, (pss_cons (ps_set (i := 2) sc__law_pump.nd rfl (.inl rfl) (pe_op op_addA (pe_op op_mulW pe_int (pv 1)) pe_int)) (pss_cons (ps_if (pt_cmpR op_lt (pv 1) (pe_callB (k_len (K := K) rfl) (by rfl) T.len (by decide +kernel) (pa_cons (pv 0) pa_nil)) (nomark _)) (pss_one (ps_set (i := 2) sc__law_pump.nd rfl (.inl rfl) (pe_ix (k_ix (K := K) rfl) (pv 0) (pv 1) (fun _ _ => rfl)))) pss_nil) (pss_cons (ps_if (pt_cmpR op_ge (pv 2) (pe_op op_pow pe_int pe_int) (nomark _)) (pss_cons (ps_set (i := 3) sc__law_pump.nd rfl (.inl rfl) (pe_op op_mulW (pe_op op_mulW (pe_op op_mulW (pe_op op_pow pe_int pe_int) (pe_op op_pow pe_int pe_int)) (pe_op op_pow pe_int pe_int)) (pe_op op_pow pe_int pe_int))) (pss_one (ps_ret (pe_lst (pa_cons (pe_op op_modN (pe_callTy call_int1 (by rfl) T.int (by decide +kernel) (pa_cons (pe_op op_sub (pv 2) (pe_op op_pow pe_int pe_int)) pa_nil)) (pe_op op_mulW (pe_op op_mulW (pv 3) (pv 3)) (pv 3))) pa_nil))))) pss_nil) (pss_cons (ps_par (i := 4) (j := 5) rfl sc__law_pump.nd rfl rfl (by decide) rfl rfl (pa_cons (pe_op op_modN (pe_callTy call_int1 (by rfl) T.int (by decide +kernel) (pa_cons (pe_op op_addA (pv 2) (pe_op op_mulW pe_int (pv 1))) pa_nil)) pe_int) (pa_cons (pe_op op_modN (pe_callTy call_int1 (by rfl) T.int (by decide +kernel) (pa_cons (pv 2) pa_nil)) pe_int) pa_nil)) (by rfl)) (pss_cons (ps_set (i := 6) sc__law_pump.nd rfl (.inl rfl) pe_int) (pss_cons (ps_for PassesOwn.never rfl (pi_range1 (by rfl) T.range (pa_cons pe_int pa_nil)) (pg_name (i := 7) sc__law_pump.nd rfl (.inl rfl)) (pss_cons (ps_set (i := 4) sc__law_pump.nd rfl (.inl rfl) (pe_op op_modN (pe_callTy call_int1 (by rfl) T.int (by decide +kernel) (pa_cons (pe_op op_addA (pe_op op_addA (pe_op op_addA (pe_op op_mulW (pv 4) pe_int) (pe_op op_mulW (pv 7) pe_int)) (pe_op op_mulW pe_int (pv 1))) pe_int) pa_nil)) pe_int)) (pss_cons (ps_set (i := 5) sc__law_pump.nd rfl (.inl rfl) (pe_op op_modN (pe_callTy call_int1 (by rfl) T.int (by decide +kernel) (pa_cons (pe_op op_addA (pe_op op_addA (pe_op op_mulW (pv 5) (pv 5)) (pe_op op_mulW pe_int (pv 7))) pe_int) pa_nil)) pe_int)) (pss_one (ps_set (i := 6) sc__law_pump.nd rfl (.inl rfl) (pe_op op_addA (pe_op op_mulW (pv 6) pe_int) (pe_op op_modN (pe_callTy call_int1 (by rfl) T.int (by decide +kernel) (pa_cons (pe_op op_addA (pe_op op_mulW (pv 4) (pv 5)) (pe_op op_mulW pe_int (pv 7))) pa_nil)) pe_int))))))) (pss_one (ps_ret (pe_lst (pa_cons (pv 6) pa_nil)))))))))), ?_⟩
    -- the cell, by hand
    refine ⟨.int 0, rfl, 23, 0, rfl, rfl, cmw (by decide) (by decide), .inl ⟨23 * 0, 11, rfl, rfl, ?_⟩⟩
    refine ⟨.int 0, rfl, .ref a, rfl, .inl ⟨a, ns.map V.int, rfl, .inl hs, 0, _, rfl, rfl, _, rfl, ?_⟩⟩
    refine pump_if hs q rfl fun c => ?_
    have p18 : ∀ {Δ : Dn}, Ev Δ (tOp (rI CPow fun i j => .int (i ^ j.toNat)) (tC (.int 10)) (tC (.int 18))) (.int (10 ^ 18)) := ev_op ev_int ev_int (rv_p10 (n := 18) (by decide))
    have p60 : ∀ {Δ : Dn}, Ev Δ (tOp (rI CPow fun i j => .int (i ^ j.toNat)) (tC (.int 10)) (tC (.int 60))) (.int (10 ^ 60)) := ev_op ev_int ev_int (rv_p10 (n := 60) (by decide))
    refine q_guard (b := decide ((10 : Int) ^ 18 ≤ c)) (et_test (ev_op (ev_var rfl) p18 rv_ge)) (fun _ => ?_) fun _ => ?_
    · obtain ⟨D, hD, d1, d2⟩ : ∃ D : Int, D = (10 : Int) ^ 60 * 10 ^ 60 * 10 ^ 60 * 10 ^ 60 ∧ 0 < D ∧ D.natAbs < 2 ^ 900 := ⟨_, rfl, by decide +kernel, by decide +kernel⟩
      have m1 : CMulW ((10 : Int) ^ 60) (10 ^ 60) := by unfold CMulW; decide +kernel
      have m2 : CMulW ((10 : Int) ^ 60 * 10 ^ 60) (10 ^ 60) := by unfold CMulW; decide +kernel
      have m3 : CMulW ((10 : Int) ^ 60 * 10 ^ 60 * 10 ^ 60) (10 ^ 60) := by unfold CMulW; decide +kernel
      refine q_asg (d := .int D) ((ev_op (ev_op (ev_op p60 p60 (rv_mulW m1)) p60 (rv_mulW m2)) p60 (rv_mulW m3)).is (by rw [hD])) ?_
      have m4 : CMulW D D := wide_mul d2 d2 (by decide) (by decide) (by decide)
      have m5 : CMulW (D * D) D := wide_mul (wide_lt d2 d2) d2 (by decide) (by decide) (by decide)
      have m6 : D * D * D ≠ 0 := Int.mul_ne_zero (Int.mul_ne_zero (by omega) (by omega)) (by omega)
      exact run_retN (en_lst (ea_cons (ev_op (ev_cb (ea_cons (ev_op (ev_var rfl) p18 rv_sub) ea_nil) rc_int1) (ev_op (ev_op (ev_var rfl) (ev_var rfl) (rv_mulW m4)) (ev_var rfl) (rv_mulW m5)) (rv_mod m6)) ea_nil) (by simp)) fun ds e => ⟨_, e⟩
    · refine q_par (ea_cons (ev_op (ev_cb (ea_cons (ev_op (ev_var rfl) (ev_op ev_int (ev_var rfl) (rv_mulW (cmw (by decide) (by decide)))) rv_addI) ea_nil) rc_int1) ev_int (rv_mod (by decide))) (ea_cons (ev_op (ev_cb (ea_cons (ev_var rfl) ea_nil) rc_int1) ev_int (rv_mod (by decide))) ea_nil)) ?_
      refine q_asg (d := dN 0) ev_int ?_
      refine q_for (ts := [7]) (fun i Δ => ∃ (z7 : Option Cell) (u v : Int) (r : Nat), 0 ≤ u ∧ u < 2147483053 ∧ 0 ≤ v ∧ v < 2147483033 ∧ r < 2 ^ (31 * i + 1) ∧ Δ = [none, some (.val (dN 0)), some (.val (.int c)), none, some (.val (.int u)), some (.val (.int v)), some (.val (dN r)), z7])
        (ei_range1 (j := 120) (ea_cons ev_int ea_nil)) ⟨_, _, _, 0, fm_lo _ (by decide), fm_hi _ (by decide), fm_lo _ (by decide), fm_hi _ (by decide), by decide, rfl⟩ (fun i d Δi hd hI => ?_) fun Δ' hI => ?_
      · obtain ⟨z7, u, v, r, u1, u2, v1, v2, hr, rfl⟩ := hI
        obtain ⟨hi, rfl⟩ := rngD_get hd
        have hi' : i < 120 := hi
        refine ⟨_, tg_name, ?_⟩
        refine q_asg (ev_op (ev_cb (ea_cons (ev_op (ev_op (ev_op (ev_op (ev_var rfl) ev_int (rv_mulW (cmw (by omega) (by decide)))) (ev_op (ev_var rfl) ev_int (rv_mulW (cmw (by omega) (by decide)))) rv_addI) (ev_op ev_int (ev_var rfl) (rv_mulW (cmw (by decide) (by decide)))) rv_addI) ev_int rv_addI) ea_nil) rc_int1) ev_int (rv_mod (by decide))) ?_
        generalize (u * 44771 + (0 + (i : Int)) * 887 + 1301 * ((0 : Nat) : Int) + 43) = U
        have U1 := fm_lo U (m := 2147483053) (by decide)
        have U2 := fm_hi U (m := 2147483053) (by decide)
        generalize U.fmod 2147483053 = u' at U1 U2
        refine q_asg (ev_op (ev_cb (ea_cons (ev_op (ev_op (ev_op (ev_var rfl) (ev_var rfl) (rv_mulW (cmw (by omega) (by omega)))) (ev_op ev_int (ev_var rfl) (rv_mulW (cmw (by decide) (by omega)))) rv_addI) ev_int rv_addI) ea_nil) rc_int1) ev_int (rv_mod (by decide))) ?_
        generalize (v * v + 42073 * (0 + (i : Int)) + 8009) = W
        have W1 := fm_lo W (m := 2147483033) (by decide)
        have W2 := fm_hi W (m := 2147483033) (by decide)
        generalize W.fmod 2147483033 = v' at W1 W2
        have hra : (r : Int).natAbs < 2 ^ (31 * i + 1) := by rw [Int.natAbs_natCast]; exact hr
        refine run_asgP (P := fun d => ∃ r' : Nat, d = dN r' ∧ r' < 2 ^ (31 * (i + 1) + 1)) ((ev_op (ev_op (ev_var rfl) ev_int (rv_mulW (wide_mul (b := 32) hra (by decide) (by omega) (by decide) (by omega)))) (ev_op (ev_cb (ea_cons (ev_op (ev_op (ev_var rfl) (ev_var rfl) (rv_mulW (cmw (by omega) (by omega)))) (ev_op ev_int (ev_var rfl) (rv_mulW (cmw (by decide) (by omega)))) rv_addI) ea_nil) rc_int1) ev_int (rv_mod (by decide))) rv_addI).weak fun d e => ?_) ?_
        · generalize (u' * v' + 37 * (0 + (i : Int))) = Z at e
          have Z1 := fm_lo Z (m := 2147483032) (by decide)
          have Z2 := fm_hi Z (m := 2147483032) (by decide)
          generalize Z.fmod 2147483032 = z at e Z1 Z2
          refine ⟨r * 2147483032 + z.toNat, ?_, ?_⟩
          · rw [e]
            show PyData.int _ = PyData.int _
            congr 1
            omega
          · have e1 : 2 ^ (31 * (i + 1) + 1) = 2 ^ (31 * i + 1) * 2147483648 := by
              rw [show 31 * (i + 1) + 1 = (31 * i + 1) + 31 by omega, Nat.pow_add]
            rw [e1]
            generalize 2 ^ (31 * i + 1) = B at hr
            omega
        · rintro d ⟨r', rfl, h'⟩
          exact ⟨_, u', v', r', U1, U2, W1, W2, h', rfl⟩
      · obtain ⟨z7, u, v, r, _, _, _, _, _, rfl⟩ := hI
        exact run_retN (en_lst (ea_cons (ev_var rfl) ea_nil) (by simp)) fun ds e => ⟨_, e⟩
end
end DL
/-! FB: the law. -/
namespace DL
open PySem L2
open PyProof.Rows (envOfC)
open MM
theorem cut_0 {α : Type} (xs : List α) (n : Nat) : cutG xs none (some (n : Int)) = xs.take n := by
  unfold cutG
  rw [HT.sIx_none, HT.sIx_nat, List.drop_zero, Nat.sub_zero]
  rcases Nat.le_total n xs.length with h | h
  · rw [Nat.min_eq_left h]
  · rw [Nat.min_eq_right h, List.take_length, List.take_of_length_le h]
theorem at_last {xs : List PyData} {m : Nat} {d : PyData} (hl : xs.length = m + 1) (h : xs[m]? = some d) : atI xs (-1) = some d := by
  unfold L2.atI
  rw [hl, ixN_last]
  exact h
theorem take_min {s : List Nat} (n : Nat) : s.take (min n s.length) = s.take n := by
  rcases Nat.le_total n s.length with h | h
  · rw [Nat.min_eq_left h]
  · rw [Nat.min_eq_right h, List.take_length, List.take_of_length_le h]
theorem last8 (s : List Nat) : atI (((0 :: bord 0 s).map dN).take 8) (-1) = some (dN (s.take 7).sum) := by
  have hl : (((0 :: bord 0 s).map dN).take 8).length = min 7 s.length + 1 := by
    rw [List.length_take, List.length_map, List.length_cons, bord_length]
    omega
  refine at_last hl ?_
  rw [List.getElem?_take, if_pos (by omega), bordD_get (Nat.min_le_right _ _), take_min]
theorem join0_ln {M : Nat} : ∀ {ls : List (List Nat)}, (∀ l ∈ ls, Ln M l) → Ln (M * ls.length) (TL.joinL [] ls)
  | [], _ => ⟨Nat.zero_le _, fun c hc => (nomatch hc)⟩
  | [l], h => (h l List.mem_cons_self).to (by simp)
  | l :: m :: r, h => by
    have ih := join0_ln (ls := m :: r) fun x hx => h x (List.mem_cons_of_mem _ hx)
    exact ((h l List.mem_cons_self).app ih).to (by
      rw [List.length_cons (as := m :: r), Nat.mul_add, Nat.mul_one]
      omega)
theorem cmp_smooth (r : Nat × List Nat) : SeqAt.shaped (smoothD r) = true := (cmp_tup (m := 1) fun d hd => by
  rcases List.mem_cons.mp hd with e | e
  · rw [e]; exact cmp_int _ _
  · rw [List.mem_singleton.mp e]
    exact cmp_list fun x hx => by
      obtain ⟨n, _, rfl⟩ := List.mem_map.mp hx
      exact cmp_int _ _).shaped (by decide)
theorem eqv_smooth (r : Nat × List Nat) : PyData.eqv (smoothD r) (smoothD r) = true := SeqAt.eqv_refl _ (SeqAt.canLay_of_shaped (cmp_smooth r))
theorem rv_eqSm {K : PySem.W.Frag} {r : Nat × List Nat} : RV (rEqA K) (smoothD r) (smoothD r) fun x => x = .bool true := (rv_eqD (cmp_smooth r) (cmp_smooth r)).to fun x e => by rw [e, eqv_smooth]
theorem rv_neSm {K : PySem.W.Frag} {r : Nat × List Nat} : RV (rNeA K) (smoothD r) (smoothD r) fun x => x = .bool false := (rv_neD (cmp_smooth r) (cmp_smooth r)).to fun x e => by rw [e, eqv_smooth]; rfl
theorem text1 {l : List Nat} {M : Nat} (h : Ln M l) (hM : M ≤ 1000) : TextOk (S l) [l] := text_ok (ls := [l]) (by simp) (fun x hx => by rw [List.mem_singleton.mp hx]; exact h) hM (by simp)
theorem t_none : TextOk "" [[]] := by
  rw [empty_S]
  exact text1 (M := 0) ⟨Nat.le_refl _, nofun⟩ (by decide)
theorem t_abcd : TextOk "ab cd" [[97, 98, 32, 99, 100]] := by
  have e : ("ab cd" : Str) = S [97, 98, 32, 99, 100] := by decide +kernel
  rw [e]
  exact text1 (M := 5) ⟨by decide, by decide +kernel⟩ (by decide)
theorem t_anb : TextOk "a\nb" [[97], [98]] := by
  have e : ("a\nb" : Str) = S (TL.joinL [10] [[97], [98]]) := by decide +kernel
  rw [e]
  exact text_ok (M := 1) (by simp) (fun l hl => by
    rcases List.mem_cons.mp hl with z | z
    · rw [z]; exact ⟨by decide, by decide +kernel⟩
    · rw [List.mem_singleton.mp z]; exact ⟨by decide, by decide +kernel⟩) (by decide) (by decide)
def l60 : List Nat := (List.replicate 30 [97, 32]).flatten
theorem s60 : Txt.mul "a " 30 = S l60 := by decide +kernel
theorem m60 : MulOk "a " 30 := ⟨by decide +kernel, fun _ _ => by decide +kernel, fun _ _ => by decide +kernel⟩
theorem ok60 : LineOk l60 := ⟨by decide +kernel, by decide +kernel⟩
theorem sm60 : smoothN l60 4 = (0, (List.range 15).map (· * 4)) := by decide +kernel
theorem rg60 : RgC 0 60 4 15 := ⟨by decide, by decide, by decide +kernel, by decide +kernel⟩
abbrev s_law : Stmt := topS 40
abbrev nm_law : List Str := ["_law_script", "_law_pump_here", "_law_line_here", "_law_width_here", "_law_long", "_law_turn"]
theorem sc_law : FnScope nm_law ["_law_script"] (defScope s_law) := ⟨rfl, rfl, rfl, by decide +kernel, rfl, by decide +kernel, by decide +kernel⟩
section
variable {P : Program} {w : World} {K : PySem.W.Frag} {mg : Str → Option Value} {base : Heap} {f : Addr} {fd : FuncData}
def spLaw (K : PySem.W.Frag) : Sp := fun vs H Q _ => ∃ (a : Addr) (ns : List Int), vs = [.ref a] ∧ SqL K H a (ns.map V.int) ∧ ns.length ≤ 63 ∧ ∀ H', Q (.bl true) H'
theorem law_go {t1 u : TS} {D : Ends} {Q : VK} {a p : Addr} {n : Int} {H : Hp} (hD : D.rt = Q) (hq : ∀ H', Q (.bl true) H') (hp : H p = some (.lst [.int n]))
    (h : Run [none, some .pump, none, none, none, none] (tSeq t1 u) (fun _ => False) (RD fun d => d = .bool true)) : gName 1 (.ref p) [some (.ref a), none, none, none, none, none] H (tSeq t1 u D) := by
  show tSeq t1 u D [some (.ref a), some (.ref p), none, none, none, none] H
  have w0 : Wf (some p) (fun _ => none) H := ⟨fun a o e => (nomatch e), fun q e => by cases e; exact ⟨rfl, n, hp⟩⟩
  have E : Env (some p) (fun _ => none, H) [none, some .pump, none, none, none, none] [some (.ref a), some (.ref p), none, none, none, none] (fun _ => none) H := by
    refine ⟨.refl w0, rfl, fun i c h => ?_, fun i j di dj b hn h1 h2 h3 h4 => ?_⟩
    · match i, h with
      | 1, h =>
        have : Cell.pump = c := Option.some.inj (Option.some.inj h)
        subst this
        exact ⟨_, rfl, p, rfl, rfl⟩
      | i + 2, h =>
        have h' : (List.replicate 4 (none : Option Cell))[i]? = some (some c) := h
        rw [List.getElem?_replicate] at h'
        split at h' <;> cases h'
    · match i, h1 with
      | 1, h1 => cases h1
      | i + 2, h1 =>
        have h' : (List.replicate 4 (none : Option Cell))[i]? = some (some (.own di)) := h1
        rw [List.getElem?_replicate] at h'
        split at h' <;> cases h'
  refine h (some p) _ _ _ H E D (fun _ _ _ _ _ _ e => e.elim) fun v Hs' H' g ⟨d, rv, e⟩ => ?_
  subst e
  rw [hD]
  cases (show v = .bl true from rv)
  exact hq H'
theorem ok_law (F : Fun K "law" "law" s_law f fd) (T : Bt mg) (c__law_pump : C8.Cal P w K mg base 1 "_law_pump" (spPump K) []) (c__law_cup : C8.Cal P w K mg base 1 "_law_cup" spCup []) (c__law_line : C8.Cal P w K mg base 2 "_law_line" spLine [])
    (c__law_text : C8.Cal P w K mg base 3 "_law_text" spText []) (c__law_borders : C8.Cal P w K mg base 1 "_law_borders" spBorders []) (c__law_cut_right : C8.Cal P w K mg base 9 "_law_cut_right" (spTrue preCutR) [])
    (c__law_widths_right : C8.Cal P w K mg base 5 "_law_widths_right" (spTrue preWidthsR) []) (c__law_long_right : C8.Cal P w K mg base 4 "_law_long_right" (spTrue preLong) []) (c_least_width : C8.Cal P w K mg base 4 "least_width" spLeastW [])
    (c_widths : C8.Cal P w K mg base 4 "widths" spWidths []) (c_smooth : C8.Cal P w K mg base 3 "smooth" spSmooth []) (ck_least_width : KCal P w K mg base 4 "least_width" spLeastW ["height", "text"]) (ck_smooth : KCal P w K mg base 3 "smooth" spSmooth ["width", "line"]) (ck_widths : KCal P w K mg base 4 "widths" spWidths ["text"]) :
    FnOk P w K mg base CX0 10 f fd ["_law_script"] (spLaw K) := by
  refine F.ok sc_law (fun vs H Q E h => ?_) (fun cdv A outer s H vs Q E hr h => ?_)
  · obtain ⟨a, ns, rfl, _⟩ := h
    rfl
  · obtain ⟨a, ns, rfl, hs, hl, q⟩ := h
    refine ⟨_, (pss_cons (ps_set (i := 1) sc_law.nd rfl (.inr rfl) (C8.pe_c c__law_pump hr (by decide) (by rfl) (pa_cons (pv 0) (pa_cons pe_int pa_nil)))) (pss_cons (ps_set (i := 2) sc_law.nd rfl (.inl rfl) (C8.pe_c c__law_line hr (by decide) (by rfl) (pa_cons (pv 1) (pa_cons (pe_ix (k_ix (K := K) rfl) (pe_lst (pa_cons pe_int (pa_cons pe_int pa_nil))) (C8.pe_c c__law_cup hr (by decide) (by rfl) (pa_cons (pv 1) (pa_cons pe_int pa_nil))) (fun _ _ => rfl)) pa_nil)))) (pss_cons (ps_set (i := 2) sc_law.nd rfl (.inl rfl) (pe_slice (k_sl (K := K) rfl) (pv 2) po_none (po_some (pe_ix (k_ix (K := K) rfl) (pe_slice (k_sl (K := K) rfl) (pe_op op_addA (pe_lst (pa_cons pe_int pa_nil)) (C8.pe_c c__law_borders hr (by decide) (by rfl) (pa_cons (pv 2) pa_nil))) po_none (po_some pe_int)) (pe_un un_neg pe_int) (fun _ _ => rfl))))) (pss_cons (ps_for PassesOwn.never rfl (k_list (K := K) rfl (pe_lst (pa_cons (pe_op op_addA pe_int (C8.pe_c c__law_cup hr (by decide) (by rfl) (pa_cons (pv 1) (pa_cons pe_int pa_nil)))) (pa_cons (pe_op op_addA pe_int (C8.pe_c c__law_cup hr (by decide) (by rfl) (pa_cons (pv 1) (pa_cons pe_int pa_nil)))) pa_nil)))) (pg_name (i := 3) sc_law.nd rfl (.inl rfl)) (pss_one (ps_if (pt_not (pt_val (C8.pe_c c__law_cut_right hr (by decide) (by rfl) (pa_cons (pv 2) (pa_cons (pv 3) pa_nil))))) (pss_one (ps_ret pe_bl)) pss_nil))) (pss_cons (ps_if (PW.pt (pw_or (pt_not (pt_val (C8.pe_c c__law_widths_right hr (by decide) (by rfl) (pa_cons (C8.pe_c c__law_text hr (by decide) (by rfl) (pa_cons (pv 1) (pa_cons pe_int (pa_cons pe_int pa_nil)))) pa_nil)))) (pw_or1 (pt_not (pt_val (C8.pe_c c__law_widths_right hr (by decide) (by rfl) (pa_cons (pv 2) pa_nil))))))) (pss_one (ps_ret pe_bl)) pss_nil) (pss_cons (ps_set (i := 4) sc_law.nd rfl (.inl rfl) (k_join (K := K) rfl pe_str (pe_lc (own := [("_law_turn", 5)]) rfl sc_law.nd (pi_range1 (by rfl) T.range (pa_cons (pe_op op_addA pe_int (C8.pe_c c__law_cup hr (by decide) (by rfl) (pa_cons (pv 1) (pa_cons pe_int pa_nil)))) pa_nil)) (blkOk_by (own := [("_law_turn", 5)]) (N := nm_law) (sc := (defScope s_law)) (by decide +kernel)) (fun _ _ _ _ _ => (pg_name (i := 5) sc_law.nd rfl (.inl rfl))) (fun _ _ _ _ _ => pts_nil) (fun _ _ _ _ _ => (C8.pe_c c__law_line hr (by decide) (by rfl) (pa_cons (pv 1) (pa_cons pe_int pa_nil))))))) (pss_cons (ps_if (pt_not (pt_val (C8.pe_c c__law_long_right hr (by decide) (by rfl) (pa_cons (pv 4) (pa_cons (pe_op op_addA pe_int (C8.pe_c c__law_cup hr (by decide) (by rfl) (pa_cons (pv 1) (pa_cons pe_int pa_nil)))) pa_nil))))) (pss_one (ps_ret pe_bl)) pss_nil) (pss_cons (ps_if (PW.pt (pw_or (pt_cmpR op_notN (C8.pe_c c_least_width hr (by decide) (by rfl) (pa_cons pe_str (pa_cons pe_int pa_nil))) pe_non (nomark _)) (pw_or (pt_cmpR (k_ne (K := K) hr.units rfl) (C8.pe_c c_widths hr (by decide) (by rfl) (pa_cons pe_str pa_nil)) (pe_lst pa_nil) (nomark _)) (pw_or (pt_cmpR (k_ne (K := K) hr.units rfl) (C8.pe_c c_widths hr (by decide) (by rfl) (pa_cons pe_str pa_nil)) (pe_lst (pa_cons pe_int pa_nil)) (nomark _)) (pw_or1 (pt_cmpR (k_ne (K := K) hr.units rfl) (pe_k0 ck_least_width hr (by decide) (by rfl) (pk_cons pe_int (pk_cons pe_str pk_nil))) pe_int (nomark _))))))) (pss_one (ps_ret pe_bl)) pss_nil) (pss_cons (ps_if (pt_cmpR (k_ne (K := K) hr.units rfl) (C8.pe_c c_smooth hr (by decide) (by rfl) (pa_cons (pe_op op_mulS pe_str pe_int) (pa_cons pe_int pa_nil))) (pe_tup (pa_cons pe_int (pa_cons (pe_listRgC rfl (by rfl) T.list (by rfl) T.range (pa_cons pe_int (pa_cons pe_int (pa_cons pe_int pa_nil)))) pa_nil))) (nomark _)) (pss_one (ps_ret pe_bl)) pss_nil) (pss_one (ps_ret (pe_and (pe_cmpR (k_eq (K := K) hr.units rfl) (C8.pe_c c_smooth hr (by decide) (by rfl) (pa_cons pe_str (pa_cons pe_int pa_nil))) (pe_tup (pa_cons pe_int (pa_cons (pe_lst (pa_cons pe_int (pa_cons pe_int pa_nil))) pa_nil))) (nomark _)) (pe_and (pe_cmpR (k_eq (K := K) hr.units rfl) (pe_k0 ck_smooth hr (by decide) (by rfl) (pk_cons pe_int (pk_cons pe_str pk_nil))) (pe_tup (pa_cons pe_int (pa_cons (pe_lst (pa_cons pe_int pa_nil)) pa_nil))) (nomark _)) (pe_one (pe_cmpR (k_eq (K := K) hr.units rfl) (pe_k0 ck_widths hr (by decide) (by rfl) (pk_cons pe_str pk_nil)) (pe_lst (pa_cons pe_int pa_nil)) (nomark _)))))))))))))))), ?_⟩
    refine ⟨.ref a, rfl, a, ns, rfl, hs, hl, fun H' p n hp hp' => ?_⟩
    refine law_go rfl q hp' ?_
    -- the line
    refine q_asgP (P := fun d => ∃ l, d = dS l ∧ Ln 30 l) (ev_line (M := 30) rfl (EvP.weak (ev_pick (ds := [.int 12, .int 30]) (ev_lst (ea_cons ev_int (ea_cons ev_int ea_nil)) (by decide)) (ev_cup (m := 2) rfl ev_int (by decide) (by decide))) fun d hd => ?_) (by decide)) ?_
    · simp only [List.mem_cons, List.not_mem_nil, or_false] at hd
      rcases hd with e | e
      · exact ⟨12, e, by decide⟩
      · exact ⟨30, e, by decide⟩
    rintro d ⟨l0, rfl, hl0⟩
    have h30 := hl0.1
    refine q_asg (d := dS (l0.take ((sizesN l0).take 7).sum)) ((ev_slS (z := S l0) (ev_var rfl) (by rw [S_len]; omega) eo_none (eo_some (i := (((sizesN l0).take 7).sum : Nat)) (ev_op (ev_slL (ev_op (ev_lst (ea_cons ev_int ea_nil) (by decide)) (ev_borders (ea_cons (ev_var rfl) ea_nil) (by omega)) (rv_addL ?_)) eo_none (eo_some (i := ((8 : Nat) : Int)) ev_int)) (ev_neg ev_int) (rv_ixL ?_)))).is (by rw [cutS_0]; rfl)) ?_
    · have := borders_len l0
      rw [List.length_map]
      show 1 + _ ≤ _
      omega
    · rw [cut_0, borders_eq]
      exact last8 (sizesN l0)
    have h7 := sizes_cut l0 6
    have hln : Ln 30 (l0.take ((sizesN l0).take 7).sum) := ⟨Nat.le_trans (List.length_take_le' _ _) h30, fun c hc => hl0.2 c (List.mem_of_mem_take hc)⟩
    generalize l0.take ((sizesN l0).take 7).sum = l at h7 hln
    have hlo : LineOk l := ⟨by have := hln.1; omega, hln.2⟩
    -- both widths
    refine q_forL (ts := [3]) (S := fun d => ∃ n : Nat, d = dN n ∧ 1 ≤ n ∧ n ≤ 1000) (fun Δ => ∃ z3, Δ = [none, some .pump, some (.val (dS l)), z3, none, none])
      (ev_lst2 (ev_opP ev_int (ev_cup (m := 8) rfl ev_int (by decide) (by decide)) fun d1 d2 e1 ⟨j, e2, hj⟩ => e1 ▸ e2 ▸ rv_addI.to fun x e => ⟨1 + j, ?_, by omega, by omega⟩) (ev_opP ev_int (ev_cup (m := 16) rfl ev_int (by decide) (by decide)) fun d1 d2 e1 ⟨j, e2, hj⟩ => e1 ▸ e2 ▸ rv_addI.to fun x e => ⟨4 + j, ?_, by omega, by omega⟩)) ⟨_, rfl⟩ (fun d Δi hd hI => ?_) fun Δ' hI => ?_
    · rw [e]
      show PyData.int _ = PyData.int _
      congr 1
    · rw [e]
      show PyData.int _ = PyData.int _
      congr 1
    · obtain ⟨z3, rfl⟩ := hI
      obtain ⟨n, rfl, n1, n2⟩ := hd
      exact ⟨_, tg_name, run_if (b := false) (et_not (et_B (ev_true (ea_cons (ev_var rfl) (ea_cons (ev_var rfl) ea_nil)) ⟨l, n, rfl, hlo, h7, n1, n2⟩))) nofun fun _ => run_nil ⟨_, rfl⟩⟩
    obtain ⟨z3, rfl⟩ := hI
    -- the widths of a text, of the line
    refine q_guard (b := false) (et_or (a := false) (et_not (et_B (ev_true1 (P1 := fun d => ∃ s ls, d = .str s ∧ TextOk s ls) (ev_callP (Pre := fun ds => ds = [dN 4, dN 14]) (Post := fun _ d => ∃ s ls, d = .str s ∧ TextOk s ls) rfl (ea_cons ev_int (ea_cons ev_int ea_nil)) rfl) fun d ⟨s, ls, e, ht⟩ => ⟨s, ls, by rw [e], ht⟩))) fun _ => et_not (et_B (ev_true (ea_cons (ev_var rfl) ea_nil) ⟨S l, [l], rfl, text1 hln (by decide)⟩))) nofun fun _ => ?_
    -- the long line
    refine q_asgP (P := fun d => ∃ l, d = dS l ∧ Ln 160 l) (ev_join (ev_str (x := "")) (EvNP.ev (en_lcR (fun n => n ≤ 4) (P := fun ds => ∃ ls : List (List Nat), ds = ls.map dS ∧ ls.length ≤ 4 ∧ ∀ l ∈ ls, Ln 40 l) (ev_opP ev_int (ev_cup (m := 4) rfl ev_int (by decide) (by decide)) fun d1 d2 e1 ⟨j, e2, hj⟩ => e1 ▸ e2 ▸ rv_addI.to fun x e => ⟨1 + j, ?_, by omega⟩) (fun n h => by omega) fun n hn => ?_)) fun d ⟨ds, e, ls, e2, h4, hls⟩ => ⟨ls.map S, ?_, ?_, TL.joinL [] ls, ?_, (join0_ln hls).to (by omega)⟩) ?_
    · rw [e]
      show PyData.int _ = PyData.int _
      congr 1
    · intro pp B σ Hs H1 E1 Q1 q1
      refine en_lc_gen (ts := [5]) (fun i acc => ∃ ls : List (List Nat), acc = ls.map dS ∧ ls.length = i ∧ ∀ l ∈ ls, Ln 40 l) (ei_nat (n := n)) (by rw [rngD_length]; omega) (by simp) ⟨[], rfl, rfl, nofun⟩ (fun i d acc hd hI => ?_) pp B σ Hs H1 E1 Q1 fun p xs ds A C g e1 e2 e3 r ⟨ls, k1, k2, k3⟩ => q1 p xs ds A C g e1 e2 e3 r ⟨ls, k1, by rw [rngD_length] at k2; omega, k3⟩
      obtain ⟨ls, rfl, hi, hls⟩ := hI
      refine ⟨_, true, tg_name, et_yes, fun _ => (ev_line (M := 40) rfl (EvP.weak (ev_int (i := 40)) fun d e => ⟨40, e, Nat.le_refl _⟩) (by decide)).weak fun y ⟨a, e, ha⟩ => ⟨ls ++ [a], by rw [List.map_append, e]; rfl, by rw [List.length_append, hi]; rfl, fun x hx => ?_⟩, nofun⟩
      rcases List.mem_append.mp hx with z | z
      · exact hls x z
      · rw [List.mem_singleton.mp z]
        exact ha
    · rw [e, e2, List.map_map]
      rfl
    · have := lens_sum hls
      have e1 : ("" : Str).length = 0 := by decide +kernel
      rw [e1, List.length_map]
      omega
    · have e1 : Txt.join (S []) (ls.map S) = S (TL.joinL [] ls) := SX.join_S [] ls
      rw [empty_S, e1]
      rfl
    rintro d ⟨g, rfl, hg⟩
    have hgo : LineOk g := ⟨by have := hg.1; omega, hg.2⟩
    refine q_guard (b := false) (et_not (et_B (ev_true2 (P1 := fun d => ∃ n : Nat, d = dN n ∧ 1 ≤ n ∧ n ≤ 1000) (ev_var rfl) (ev_opP ev_int (ev_cup (m := 30) rfl ev_int (by decide) (by decide)) fun d1 d2 e1 ⟨j, e2, hj⟩ => e1 ▸ e2 ▸ rv_addI.to fun x e => ⟨3 + j, ?_, by omega, by omega⟩) fun d ⟨n, e, n1, n2⟩ => ⟨g, n, by rw [e], hgo, n1, n2⟩))) nofun fun _ => ?_
    · rw [e]
      show PyData.int _ = PyData.int _
      congr 1
    -- the fixed ones
    have f1 : (fitting [[97], [98]] (widest [[97], [98]]) 1).head? = none := by decide +kernel
    have f2 : falls [[]] (widest [[]]) = [] := by decide +kernel
    have f3 : falls [[97, 98, 32, 99, 100]] (widest [[97, 98, 32, 99, 100]]) = [5] := by decide +kernel
    have f4 : (fitting [[]] (widest [[]]) 1).head? = some 1 := by decide +kernel
    have f5 : smoothN [97, 98, 32, 99, 100, 101, 32, 102] 5 = (4, [0, 3]) := by decide +kernel
    have f6 : smoothN [] 3 = (0, [0]) := by decide +kernel
    have s5 : ("ab cde f" : Str) = S [97, 98, 32, 99, 100, 101, 32, 102] := by decide +kernel
    refine q_guard (b := false) (et_or (a := false) (et_test (ev_op (d1 := .none) ((ev_least_width t_anb (by decide) (ea_cons ev_str (ea_cons ev_int ea_nil))).is (by rw [f1]; rfl)) ev_non rv_notN)) fun _ =>
      et_or (a := false) ((et_test (ev_op ((en_widths t_none (ea_cons ev_str ea_nil)).ev.is (by rw [f2])) (ev_lst ea_nil (by decide)) (rv_neN (a := []) (b := [])))).is (by rw [decide_eq_true rfl]; rfl)) fun _ =>
      et_or (a := false) ((et_test (ev_op ((en_widths t_abcd (ea_cons ev_str ea_nil)).ev.is (by rw [f3])) (ev_lst (ea_cons ev_int ea_nil) (by decide)) (rv_neN (a := [5]) (b := [5])))).is (by rw [decide_eq_true rfl]; rfl)) fun _ =>
      (et_test (ev_op ((ev_callK (f := fLeastW) (ea_cons ev_int (ea_cons ev_str ea_nil)) ⟨"", [[]], 1, rfl, t_none, by decide⟩).is (d' := .int 1) ?_) ev_int rv_neI)).is rfl) nofun fun _ => ?_
    · show (match (fitting (linesOf "") (widest (linesOf "")) 1).head? with
        | some n => dN n
        | none => .none) = _
      rw [t_none.of, f4]
      rfl
    refine q_guard (b := false) (et_test (ev_op ((ev_smooth (ea_cons ((ev_op ev_str ev_int (rv_mulS m60)).is (by rw [s60]; rfl)) (ea_cons ev_int ea_nil)) ok60 (w := 4) (by decide) (by decide)).is (by rw [sm60])) ((ev_tup (ea_cons ev_int (ea_cons (ev_listRgC (ea_cons ev_int (ea_cons ev_int (ea_cons ev_int ea_nil))) rg60 (by decide)) ea_nil)) (by simp)).is ?_) rv_neSm)) nofun fun _ => ?_
    · show _ = PyData.tuple [dN 0, .list (((List.range 15).map (· * 4)).map dN)]
      rw [List.map_map]
      congr 3
    refine run_retD (ev_and (a := true) (b := true) (ev_op ((ev_smooth (l := [97, 98, 32, 99, 100, 101, 32, 102]) (w := 5) (ea_cons (ev_str.is (by rw [s5]; rfl)) (ea_cons ev_int ea_nil)) ⟨by decide, by decide +kernel⟩ (by decide) (by decide)).is (by rw [f5])) (ev_tup (ea_cons ev_int (ea_cons (ev_lst (ea_cons ev_int (ea_cons ev_int ea_nil)) (by decide)) ea_nil)) (by simp)) rv_eqSm) fun _ =>
      ev_and (a := true) (b := true) (ev_op ((ev_callK (f := fSmooth) (ea_cons ev_int (ea_cons ev_str ea_nil)) ⟨[], 3, by rw [empty_S]; rfl, ⟨by decide, nofun⟩, by decide, by decide⟩).is (d' := smoothD (0, [0])) ?_) (ev_tup (ea_cons ev_int (ea_cons (ev_lst (ea_cons ev_int ea_nil) (by decide)) ea_nil)) (by simp)) rv_eqSm) fun _ =>
      (ev_op ((ev_callKN (f := fWidths) (ea_cons ev_str ea_nil) ⟨"ab cd", [[97, 98, 32, 99, 100]], rfl, t_abcd⟩).is ?_) (ev_lst (ea_cons ev_int ea_nil) (by decide)) (rv_eqN (a := [5]) (b := [5]))).is (by rw [decide_eq_true rfl])) rfl
    · show smoothD (smoothN ("" : Str).cps.toList 3) = _
      rw [← f6]
      congr 1
    · show PyData.list ((falls (linesOf "ab cd") (widest (linesOf "ab cd") - 1)).map dN) = _
      rw [t_abcd.of, ← falls_eq, f3]
end
end DL
/-! FC: what the top has written; the end. -/
namespace DL
open PySem L2
open PyProof.Rows (envOfC)
/-- a def of the top: where it stands, what stands there -/
structure Stands (K : PySem.W.Frag) (x : Str) (st : Stmt) (f : Addr) (oc : Value) (od : Option Addr) (kV doc pm : Value) (an : Option Addr) (cdv ct : Value) (osl : Array (Option Value)) : Prop where
  ns : PySem.W.nsIn K mainGlobals x = some (some (.ref f))
  lk : K.lookup f = some ⟨oc, od, .func (PySem.W.fnOf x x (defArgs st) (defBody st) (defScope st) .none kV doc pm an cdv ct), osl⟩
  cd : PySem.W.codeIn K cdv x = true
  kp : PySem.W.keepIn K (.ref f) = true
def One (K : PySem.W.Frag) (x : Str) (st : Stmt) : Prop := ∃ f oc od kV doc pm an cdv ct osl, Stands K x st f oc od kV doc pm an cdv ct osl
theorem one_mk {K : PySem.W.Frag} {x : Str} {st : Stmt} {f : Addr} {oc : Value} {od an : Option Addr} {kV doc pm cdv ct : Value} {osl : Array (Option Value)} (a : PySem.W.nsIn K mainGlobals x = some (some (.ref f))) (l : K.lookup f = some ⟨oc, od, .func (PySem.W.fnOf x x (defArgs st) (defBody st) (defScope st) .none kV doc pm an cdv ct), osl⟩)
    (c : PySem.W.codeIn K cdv x = true) (k : PySem.W.keepIn K (.ref f) = true) : One K x st := ⟨f, oc, od, kV, doc, pm, an, cdv, ct, osl, a, l, c, k⟩
theorem One.get {K : PySem.W.Frag} {x : Str} {st : Stmt} (h : One K x st) {hp : Heap} {mg : Str → Option Value} (X : K.In hp) (G : hp.Ns mainGlobals mg) : ∃ f fd, Fun K x x st f fd ∧ mg x = some (.ref f) := by
  obtain ⟨f, oc, od, kV, doc, pm, an, cdv, ct, osl, a, l, c, k⟩ := h
  exact ⟨f, _, fun_mk l c k, PySem.W.mg_of X G a⟩
section
variable {P : Program} {w : World} {K : PySem.W.Frag} {mg : Str → Option Value} {base : Heap}
theorem cal_mk {x : Str} {st : Stmt} {f : Addr} {fd : FuncData} {ps : List Str} {k : Nat} {sp : Sp} (F : Fun K x x st f fd) (g : mg x = some (.ref f)) (h : FnOk P w K mg base CX0 k f fd ps sp)
    (b : ∀ (kV doc pm : Value) (an : Option Addr) (cdv ct : Value) (us : List Value), us.length = ps.length → bindArgs (PySem.W.fnOf x x (defArgs st) (defBody st) (defScope st) .none kV doc pm an cdv ct) ⟨us, []⟩ = pure (ps.zip us)) : C8.Cal P w K mg base k x sp [] :=
  ⟨f, fd, ps, [], h, g, F.kp, F.binds b, .nil⟩
theorem kcal_mk {x : Str} {st : Stmt} {f : Addr} {fd : FuncData} {ps ks : List Str} {k : Nat} {sp : Sp} (F : Fun K x x st f fd) (g : mg x = some (.ref f)) (h : FnOk P w K mg base CX0 k f fd ps sp) (hp : ps ≠ [])
    (b : ∀ (kV doc pm : Value) (an : Option Addr) (cdv ct : Value) (ws : List Value), ws.length = ps.length → bindArgs (PySem.W.fnOf x x (defArgs st) (defBody st) (defScope st) .none kV doc pm an cdv ct) ⟨[], ks.zip ws⟩ = pure (ps.zip ws.reverse)) : KCal P w K mg base k x sp ks :=
  ⟨f, fd, ps, h, g, F.kp, fun_kb F hp b⟩
theorem ways_no {vs : List V} {H : Hp} {Q : VK} {E : XK} (h : spWays 0 vs H Q E) : False := by
  obtain ⟨Hs, ds, _, _, ⟨b, k, w, _, _, _, h⟩, _⟩ := h
  exact absurd h (Nat.not_lt_zero _)
theorem ways_cal {f : Addr} {fd : FuncData} (F : Fun K "_law_ways" "_law_ways" s__law_ways f fd) (T : Bt mg) (g : mg "_law_ways" = some (.ref f)) : ∀ n : Nat, C8.Cal P w K mg base n "_law_ways" (spWays n) []
  | 0 => cal_mk F g (ps := ["_law_borders_here", "_law_begin", "_law_width_here"]) ⟨fun vs H Q E h => (ways_no h).elim, fun A outer s H args us vs Q E _ _ _ _ h => (ways_no h).elim⟩ fun _ _ _ _ _ _ us hl => match us, hl with | [_, _, _], _ => rfl
  | n + 1 => cal_mk F g (ok_ways0 F T (ways_cal F T g n)) fun _ _ _ _ _ _ us hl => match us, hl with | [_, _, _], _ => rfl
end
theorem con_mk {K : PySem.W.Frag} {x z : Str} {u : Value} (a : PySem.W.nsIn K mainGlobals x = some (some u)) (r : RelV (.str z) u) : ∃ u : Value, PySem.W.nsIn K mainGlobals x = some (some u) ∧ RelV (.str z) u := ⟨u, a, r⟩
/-- all that the head tells -/
structure All (K : PySem.W.Frag) : Prop where
  d_is_whole : One K "is_whole" s_is_whole
  d_is_text : One K "is_text" s_is_text
  d_is_line : One K "is_line" s_is_line
  d_check_line : One K "check_line" s_check_line
  d_check_text : One K "check_text" s_check_text
  d_check_least : One K "check_least" s_check_least
  d_chunks : One K "chunks" s_chunks
  d_cut : One K "cut" s_cut
  d_pieces : One K "pieces" s_pieces
  d_height_at : One K "height_at" s_height_at
  d_widest : One K "widest" s_widest
  d_least_width : One K "least_width" s_least_width
  d_widths : One K "widths" s_widths
  d_smooth : One K "smooth" s_smooth
  d__law_pump : One K "_law_pump" s__law_pump
  d__law_cup : One K "_law_cup" s__law_cup
  d__law_line : One K "_law_line" s__law_line
  d__law_text : One K "_law_text" s__law_text
  d__law_borders : One K "_law_borders" s__law_borders
  d__law_pieces : One K "_law_pieces" s__law_pieces
  d__law_screen : One K "_law_screen" s__law_screen
  d__law_ways : One K "_law_ways" s__law_ways
  d__law_rough : One K "_law_rough" s__law_rough
  d__law_cut_right : One K "_law_cut_right" s__law_cut_right
  d__law_least_rough : One K "_law_least_rough" s__law_least_rough
  d__law_long_right : One K "_law_long_right" s__law_long_right
  d__law_widths_right : One K "_law_widths_right" s__law_widths_right
  d_law : One K "law" s_law
  z_len : PySem.W.nsIn K mainGlobals "len" = some none
  z_sum : PySem.W.nsIn K mainGlobals "sum" = some none
  z_max : PySem.W.nsIn K mainGlobals "max" = some none
  z_min : PySem.W.nsIn K mainGlobals "min" = some none
  z_range : PySem.W.nsIn K mainGlobals "range" = some none
  z_list : PySem.W.nsIn K mainGlobals "list" = some none
  z_int : PySem.W.nsIn K mainGlobals "int" = some none
  z_str : PySem.W.nsIn K mainGlobals "str" = some none
  z_bool : PySem.W.nsIn K mainGlobals "bool" = some none
  z_isinstance : PySem.W.nsIn K mainGlobals "isinstance" = some none
  z_enumerate : PySem.W.nsIn K mainGlobals "enumerate" = some none
  z_sorted : PySem.W.nsIn K mainGlobals "sorted" = some none
  z_set : PySem.W.nsIn K mainGlobals "set" = some none
  g_SIGNS : ∃ u : Value, PySem.W.nsIn K mainGlobals "SIGNS" = some (some u) ∧ RelV (.str signsS) u
  g_LINE_SIGNS : ∃ u : Value, PySem.W.nsIn K mainGlobals "LINE_SIGNS" = some (some u) ∧ RelV (.str lineS) u
theorem All.bt {K : PySem.W.Frag} (a : All K) {h : Heap} {mg : Str → Option Value} (X : K.In h) (G : h.Ns mainGlobals mg) : Bt mg := by
  refine ⟨PySem.W.mg_none_of X G a.z_len, PySem.W.mg_none_of X G a.z_sum, PySem.W.mg_none_of X G a.z_max, PySem.W.mg_none_of X G a.z_min, PySem.W.mg_none_of X G a.z_range, PySem.W.mg_none_of X G a.z_list, PySem.W.mg_none_of X G a.z_int, PySem.W.mg_none_of X G a.z_str, PySem.W.mg_none_of X G a.z_bool, PySem.W.mg_none_of X G a.z_isinstance, PySem.W.mg_none_of X G a.z_enumerate, PySem.W.mg_none_of X G a.z_sorted, PySem.W.mg_none_of X G a.z_set, ?_, ?_⟩
  · obtain ⟨u, e, r⟩ := a.g_SIGNS
    exact ⟨u, PySem.W.mg_of X G e, r⟩
  · obtain ⟨u, e, r⟩ := a.g_LINE_SIGNS
    exact ⟨u, PySem.W.mg_of X G e, r⟩
theorem all_ok {P : Program} {w : World} {K : PySem.W.Frag} {h : Heap} {mg : Str → Option Value} {fa : Addr} (X : K.In h) (G : h.Ns mainGlobals mg) (hfa : mg "law" = some (.ref fa)) (a : All K) :
    ∃ fd : FuncData, (∀ (s : Shared) (v : Value), BindsTo s fd ⟨[v], []⟩ [("_law_script", v)]) ∧ ∀ base : Heap, K.In base → base.Ns mainGlobals mg → FnOk P w K mg base CX0 10 fa fd ["_law_script"] (spLaw K) := by
  have T := a.bt X G
  obtain ⟨f_is_whole, fd_is_whole, F_is_whole, g_is_whole⟩ := a.d_is_whole.get X G
  obtain ⟨f_is_text, fd_is_text, F_is_text, g_is_text⟩ := a.d_is_text.get X G
  obtain ⟨f_is_line, fd_is_line, F_is_line, g_is_line⟩ := a.d_is_line.get X G
  obtain ⟨f_check_line, fd_check_line, F_check_line, g_check_line⟩ := a.d_check_line.get X G
  obtain ⟨f_check_text, fd_check_text, F_check_text, g_check_text⟩ := a.d_check_text.get X G
  obtain ⟨f_check_least, fd_check_least, F_check_least, g_check_least⟩ := a.d_check_least.get X G
  obtain ⟨f_chunks, fd_chunks, F_chunks, g_chunks⟩ := a.d_chunks.get X G
  obtain ⟨f_cut, fd_cut, F_cut, g_cut⟩ := a.d_cut.get X G
  obtain ⟨f_pieces, fd_pieces, F_pieces, g_pieces⟩ := a.d_pieces.get X G
  obtain ⟨f_height_at, fd_height_at, F_height_at, g_height_at⟩ := a.d_height_at.get X G
  obtain ⟨f_widest, fd_widest, F_widest, g_widest⟩ := a.d_widest.get X G
  obtain ⟨f_least_width, fd_least_width, F_least_width, g_least_width⟩ := a.d_least_width.get X G
  obtain ⟨f_widths, fd_widths, F_widths, g_widths⟩ := a.d_widths.get X G
  obtain ⟨f_smooth, fd_smooth, F_smooth, g_smooth⟩ := a.d_smooth.get X G
  obtain ⟨f__law_pump, fd__law_pump, F__law_pump, g__law_pump⟩ := a.d__law_pump.get X G
  obtain ⟨f__law_cup, fd__law_cup, F__law_cup, g__law_cup⟩ := a.d__law_cup.get X G
  obtain ⟨f__law_line, fd__law_line, F__law_line, g__law_line⟩ := a.d__law_line.get X G
  obtain ⟨f__law_text, fd__law_text, F__law_text, g__law_text⟩ := a.d__law_text.get X G
  obtain ⟨f__law_borders, fd__law_borders, F__law_borders, g__law_borders⟩ := a.d__law_borders.get X G
  obtain ⟨f__law_pieces, fd__law_pieces, F__law_pieces, g__law_pieces⟩ := a.d__law_pieces.get X G
  obtain ⟨f__law_screen, fd__law_screen, F__law_screen, g__law_screen⟩ := a.d__law_screen.get X G
  obtain ⟨f__law_ways, fd__law_ways, F__law_ways, g__law_ways⟩ := a.d__law_ways.get X G
  obtain ⟨f__law_rough, fd__law_rough, F__law_rough, g__law_rough⟩ := a.d__law_rough.get X G
  obtain ⟨f__law_cut_right, fd__law_cut_right, F__law_cut_right, g__law_cut_right⟩ := a.d__law_cut_right.get X G
  obtain ⟨f__law_least_rough, fd__law_least_rough, F__law_least_rough, g__law_least_rough⟩ := a.d__law_least_rough.get X G
  obtain ⟨f__law_long_right, fd__law_long_right, F__law_long_right, g__law_long_right⟩ := a.d__law_long_right.get X G
  obtain ⟨f__law_widths_right, fd__law_widths_right, F__law_widths_right, g__law_widths_right⟩ := a.d__law_widths_right.get X G
  obtain ⟨f_law, fd_law, F_law, g_law⟩ := a.d_law.get X G
  have e := hfa.symm.trans g_law
  cases e
  have b := F_law.binds (ps := ["_law_script"]) fun _ _ _ _ _ _ us hl => match us, hl with | [_], _ => rfl
  refine ⟨fd_law, fun s v => ?_, fun base XB GB => ?_⟩
  · obtain ⟨oc, od, kV, doc, pm, an, cdv, ct, osl, rfl, _, _⟩ := F_law.ex
    exact .of_eq rfl
  have o_is_whole := ok_is_whole (P := P) (w := w) (base := base) F_is_whole T
  have c_is_whole := cal_mk F_is_whole g_is_whole o_is_whole fun _ _ _ _ _ _ us hl => match us, hl with | [_], _ => rfl
  have o_is_text := ok_is_text (P := P) (w := w) (base := base) F_is_text T
  have c_is_text := cal_mk F_is_text g_is_text o_is_text fun _ _ _ _ _ _ us hl => match us, hl with | [_], _ => rfl
  have o_is_line := ok_is_line (P := P) (w := w) (base := base) F_is_line T
  have c_is_line := cal_mk F_is_line g_is_line o_is_line fun _ _ _ _ _ _ us hl => match us, hl with | [_], _ => rfl
  have o_check_line := ok_check_line (P := P) (w := w) (base := base) F_check_line T c_is_line
  have c_check_line := cal_mk F_check_line g_check_line o_check_line fun _ _ _ _ _ _ us hl => match us, hl with | [_], _ => rfl
  have o_check_text := ok_check_text (P := P) (w := w) (base := base) F_check_text T c_is_text
  have c_check_text := cal_mk F_check_text g_check_text o_check_text fun _ _ _ _ _ _ us hl => match us, hl with | [_], _ => rfl
  have o_check_least := ok_check_least (P := P) (w := w) (base := base) F_check_least T c_is_whole
  have c_check_least := cal_mk F_check_least g_check_least o_check_least fun _ _ _ _ _ _ us hl => match us, hl with | [_, _], _ => rfl
  have o_chunks := ok_chunks (P := P) (w := w) (base := base) F_chunks T
  have c_chunks := cal_mk F_chunks g_chunks o_chunks fun _ _ _ _ _ _ us hl => match us, hl with | [_], _ => rfl
  have o_cut := ok_cut (P := P) (w := w) (base := base) F_cut T c_chunks
  have c_cut := cal_mk F_cut g_cut o_cut fun _ _ _ _ _ _ us hl => match us, hl with | [_, _], _ => rfl
  have o_pieces := ok_pieces (P := P) (w := w) (base := base) F_pieces T c_check_line c_check_least c_cut
  have c_pieces := cal_mk F_pieces g_pieces o_pieces fun _ _ _ _ _ _ us hl => match us, hl with | [_, _], _ => rfl
  have o_height_at := ok_height_at (P := P) (w := w) (base := base) F_height_at T c_cut
  have c_height_at := cal_mk F_height_at g_height_at o_height_at fun _ _ _ _ _ _ us hl => match us, hl with | [_, _], _ => rfl
  have o_widest := ok_widest (P := P) (w := w) (base := base) F_widest T
  have c_widest := cal_mk F_widest g_widest o_widest fun _ _ _ _ _ _ us hl => match us, hl with | [_], _ => rfl
  have o_least_width := ok_least_width (P := P) (w := w) (base := base) F_least_width T c_check_text c_check_least c_widest c_height_at
  have c_least_width := cal_mk F_least_width g_least_width o_least_width fun _ _ _ _ _ _ us hl => match us, hl with | [_, _], _ => rfl
  have o_widths := ok_widths (P := P) (w := w) (base := base) F_widths T c_check_text c_widest c_height_at
  have c_widths := cal_mk F_widths g_widths o_widths fun _ _ _ _ _ _ us hl => match us, hl with | [_], _ => rfl
  have o_smooth := ok_smooth (P := P) (w := w) (base := base) F_smooth T c_check_line c_check_least c_chunks
  have c_smooth := cal_mk F_smooth g_smooth o_smooth fun _ _ _ _ _ _ us hl => match us, hl with | [_, _], _ => rfl
  have o__law_pump := ok_pump (P := P) (w := w) (base := base) F__law_pump T
  have c__law_pump := cal_mk F__law_pump g__law_pump o__law_pump fun _ _ _ _ _ _ us hl => match us, hl with | [_, _], _ => rfl
  have o__law_cup := ok_cup (P := P) (w := w) (base := base) F__law_cup T
  have c__law_cup := cal_mk F__law_cup g__law_cup o__law_cup fun _ _ _ _ _ _ us hl => match us, hl with | [_, _], _ => rfl
  have o__law_line := ok_line (P := P) (w := w) (base := base) F__law_line T c__law_cup
  have c__law_line := cal_mk F__law_line g__law_line o__law_line fun _ _ _ _ _ _ us hl => match us, hl with | [_, _], _ => rfl
  have o__law_text := ok_text (P := P) (w := w) (base := base) F__law_text T c__law_cup c__law_line
  have c__law_text := cal_mk F__law_text g__law_text o__law_text fun _ _ _ _ _ _ us hl => match us, hl with | [_, _, _], _ => rfl
  have o__law_borders := ok_borders (P := P) (w := w) (base := base) F__law_borders T
  have c__law_borders := cal_mk F__law_borders g__law_borders o__law_borders fun _ _ _ _ _ _ us hl => match us, hl with | [_], _ => rfl
  have o__law_pieces := ok_lpieces (P := P) (w := w) (base := base) F__law_pieces T c__law_borders
  have c__law_pieces := cal_mk F__law_pieces g__law_pieces o__law_pieces fun _ _ _ _ _ _ us hl => match us, hl with | [_, _], _ => rfl
  have o__law_screen := ok_screen (P := P) (w := w) (base := base) F__law_screen T c__law_pieces
  have c__law_screen := cal_mk F__law_screen g__law_screen o__law_screen fun _ _ _ _ _ _ us hl => match us, hl with | [_, _], _ => rfl
  have c__law_ways := ways_cal (P := P) (w := w) (base := base) F__law_ways T g__law_ways 8
  have o__law_rough := ok_rough (P := P) (w := w) (base := base) F__law_rough T
  have c__law_rough := cal_mk F__law_rough g__law_rough o__law_rough fun _ _ _ _ _ _ us hl => match us, hl with | [_, _], _ => rfl
  have o__law_cut_right := ok_cut_right (P := P) (w := w) (base := base) F__law_cut_right T c__law_ways c__law_borders c_pieces c_smooth c__law_rough
  have c__law_cut_right := cal_mk F__law_cut_right g__law_cut_right o__law_cut_right fun _ _ _ _ _ _ us hl => match us, hl with | [_, _], _ => rfl
  have o__law_least_rough := ok_least_rough (P := P) (w := w) (base := base) F__law_least_rough T
  have c__law_least_rough := cal_mk F__law_least_rough g__law_least_rough o__law_least_rough fun _ _ _ _ _ _ us hl => match us, hl with | [_, _], _ => rfl
  have o__law_long_right := ok_long_right (P := P) (w := w) (base := base) F__law_long_right T c__law_borders c__law_pieces c_pieces c_smooth c__law_rough c__law_least_rough
  have c__law_long_right := cal_mk F__law_long_right g__law_long_right o__law_long_right fun _ _ _ _ _ _ us hl => match us, hl with | [_, _], _ => rfl
  have o__law_widths_right := ok_widths_right (P := P) (w := w) (base := base) F__law_widths_right T c__law_screen c_widths c_least_width
  have c__law_widths_right := cal_mk F__law_widths_right g__law_widths_right o__law_widths_right fun _ _ _ _ _ _ us hl => match us, hl with | [_], _ => rfl
  have k_least_width := kcal_mk (ks := ["height", "text"]) F_least_width g_least_width o_least_width (by simp) fun _ _ _ _ _ _ us hl => match us, hl with | [_, _], _ => rfl
  have k_smooth := kcal_mk (ks := ["width", "line"]) F_smooth g_smooth o_smooth (by simp) fun _ _ _ _ _ _ us hl => match us, hl with | [_, _], _ => rfl
  have k_widths := kcal_mk (ks := ["text"]) F_widths g_widths o_widths (by simp) fun _ _ _ _ _ _ us hl => match us, hl with | [_], _ => rfl
  exact ok_law F_law T c__law_pump c__law_cup c__law_line c__law_text c__law_borders c__law_cut_right c__law_widths_right c__law_long_right c_least_width c_widths c_smooth k_least_width k_smooth k_widths
end DL
open PySem PySem.W PyProof.Rows
set_option maxHeartbeats 0 in
theorem PySem.Challenge.cw_everrow_k47_whole_widths_and_cuttings_holds : PySem.Challenge.rw_everrow_k47_whole_widths_and_cuttings.Holds := by
  w_on; o_law; k_head; (case hw => w_witness2)
  k_fill
  refine L2.walk_of (l := PySem.Challenge.rw_everrow_k47_whole_widths_and_cuttings) (n := 63) (k := 10) (x := "_law_script") (CX := fun _ => L2.CX0) (sp := fun w => DL.spLaw _) rfl (by decide) rfl ⟨rfl, by decide, by decide⟩ (fun w h Y => PySem.W.kIn_of Y) ?F (fun _ _ a ns hl _ hS => ⟨a, ns, rfl, hS, hl, fun _ => rfl⟩) (fun _ _ _ _ _ h => h)
  case F =>
    intro w mg fa h KX G hmg
    refine' DL.all_ok KX G hmg (DL.All.mk (DL.one_mk ?a0 ?l0 ?c0 ?k0) (DL.one_mk ?a1 ?l1 ?c1 ?k1) (DL.one_mk ?a2 ?l2 ?c2 ?k2) (DL.one_mk ?a3 ?l3 ?c3 ?k3) (DL.one_mk ?a4 ?l4 ?c4 ?k4) (DL.one_mk ?a5 ?l5 ?c5 ?k5) (DL.one_mk ?a6 ?l6 ?c6 ?k6) (DL.one_mk ?a7 ?l7 ?c7 ?k7) (DL.one_mk ?a8 ?l8 ?c8 ?k8) (DL.one_mk ?a9 ?l9 ?c9 ?k9) (DL.one_mk ?a10 ?l10 ?c10 ?k10) (DL.one_mk ?a11 ?l11 ?c11 ?k11) (DL.one_mk ?a12 ?l12 ?c12 ?k12) (DL.one_mk ?a13 ?l13 ?c13 ?k13) (DL.one_mk ?a14 ?l14 ?c14 ?k14) (DL.one_mk ?a15 ?l15 ?c15 ?k15) (DL.one_mk ?a16 ?l16 ?c16 ?k16) (DL.one_mk ?a17 ?l17 ?c17 ?k17) (DL.one_mk ?a18 ?l18 ?c18 ?k18) (DL.one_mk ?a19 ?l19 ?c19 ?k19) (DL.one_mk ?a20 ?l20 ?c20 ?k20) (DL.one_mk ?a21 ?l21 ?c21 ?k21) (DL.one_mk ?a22 ?l22 ?c22 ?k22) (DL.one_mk ?a23 ?l23 ?c23 ?k23) (DL.one_mk ?a24 ?l24 ?c24 ?k24) (DL.one_mk ?a25 ?l25 ?c25 ?k25) (DL.one_mk ?a26 ?l26 ?c26 ?k26) (DL.one_mk ?a27 ?l27 ?c27 ?k27) ?z0 ?z1 ?z2 ?z3 ?z4 ?z5 ?z6 ?z7 ?z8 ?z9 ?z10 ?z11 ?z12 (DL.con_mk ?s1 ?r1) (DL.con_mk ?s2 ?r2))
    (case a0 => k_is); (case l0 => k_is); (case c0 => k_is); (case k0 => k_is); (case a1 => k_is); (case l1 => k_is); (case c1 => k_is); (case k1 => k_is); (case a2 => k_is); (case l2 => k_is); (case c2 => k_is); (case k2 => k_is)
    (case a3 => k_is); (case l3 => k_is); (case c3 => k_is); (case k3 => k_is); (case a4 => k_is); (case l4 => k_is); (case c4 => k_is); (case k4 => k_is); (case a5 => k_is); (case l5 => k_is); (case c5 => k_is); (case k5 => k_is)
    (case a6 => k_is); (case l6 => k_is); (case c6 => k_is); (case k6 => k_is); (case a7 => k_is); (case l7 => k_is); (case c7 => k_is); (case k7 => k_is); (case a8 => k_is); (case l8 => k_is); (case c8 => k_is); (case k8 => k_is)
    (case a9 => k_is); (case l9 => k_is); (case c9 => k_is); (case k9 => k_is); (case a10 => k_is); (case l10 => k_is); (case c10 => k_is); (case k10 => k_is); (case a11 => k_is); (case l11 => k_is); (case c11 => k_is); (case k11 => k_is)
    (case a12 => k_is); (case l12 => k_is); (case c12 => k_is); (case k12 => k_is); (case a13 => k_is); (case l13 => k_is); (case c13 => k_is); (case k13 => k_is); (case a14 => k_is); (case l14 => k_is); (case c14 => k_is); (case k14 => k_is)
    (case a15 => k_is); (case l15 => k_is); (case c15 => k_is); (case k15 => k_is); (case a16 => k_is); (case l16 => k_is); (case c16 => k_is); (case k16 => k_is); (case a17 => k_is); (case l17 => k_is); (case c17 => k_is); (case k17 => k_is)
    (case a18 => k_is); (case l18 => k_is); (case c18 => k_is); (case k18 => k_is); (case a19 => k_is); (case l19 => k_is); (case c19 => k_is); (case k19 => k_is); (case a20 => k_is); (case l20 => k_is); (case c20 => k_is); (case k20 => k_is)
    (case a21 => k_is); (case l21 => k_is); (case c21 => k_is); (case k21 => k_is); (case a22 => k_is); (case l22 => k_is); (case c22 => k_is); (case k22 => k_is); (case a23 => k_is); (case l23 => k_is); (case c23 => k_is); (case k23 => k_is)
    (case a24 => k_is); (case l24 => k_is); (case c24 => k_is); (case k24 => k_is); (case a25 => k_is); (case l25 => k_is); (case c25 => k_is); (case k25 => k_is); (case a26 => k_is); (case l26 => k_is); (case c26 => k_is); (case k26 => k_is)
    (case a27 => k_is); (case l27 => k_is); (case c27 => k_is); (case k27 => k_is); (case z0 => k_is); (case z1 => k_is); (case z2 => k_is); (case z3 => k_is); (case z4 => k_is); (case z5 => k_is); (case z6 => k_is); (case z7 => k_is)
    (case z8 => k_is); (case z9 => k_is); (case z10 => k_is); (case z11 => k_is); (case z12 => k_is); (case s1 => k_is); (case s2 => k_is)
    (case r1 => first | exact ⟨_, rfl⟩ | exact ⟨_, by kernel_rfl⟩ | trace_state)
    (case r2 => first | exact ⟨_, rfl⟩ | exact ⟨_, by kernel_rfl⟩ | trace_state)
