import PyProof.Rows.All
import HandS.ForMost
import HandS.ForExc
import HandS.TupAny
import HandS.IsInst
import HandS.RaiseMore
import HandS.Style
import PyProof.ReprReads
import HandS.Walk
import KE.KExcSuper
import HandS.ExcSuper
import HandS.ExcInit
import HandS.Nested
import PySem.Challenge.RW_togethersafe_k52_texts_of_journals
import PyProof.ReprLen
import KE.KExcLine
set_option Elab.async false
set_option linter.all false
set_option maxRecDepth 100000
section
set_option maxHeartbeats 1000000
/-! Mirror layer, part A: values as trees, a small store of cells, how they stand in the abstract heap. -/
namespace MR
open PySem PySem.Spec PyProof.Rows L2

inductive D where
  | non | bl (b : Bool) | int (i : Int) | str (s : Str) | tup (l : List D) | lst (l : List D) | ref (n : Nat)
inductive Cell where
  | gone | L (l : List D) | M (kvs : List (Key × D))
abbrev Sto := List Cell
abbrev Env := List (Option D)

mutual
def D.blw (n : Nat) : D → Bool
  | .ref m => decide (m < n)
  | .tup l => D.blws n l
  | .lst l => D.blws n l
  | _ => true
def D.blws (n : Nat) : List D → Bool
  | [] => true
  | d :: ds => D.blw n d && D.blws n ds
end
def Cell.blw (n : Nat) : Cell → Bool
  | .gone => true
  | .L l => D.blws n l
  | .M kvs => D.blws n (kvs.map (·.2))

/-! ### how values stand -/
section
variable (K : PySem.W.Frag) (L : Addr → Prop) (ρ : List Addr) (H : Hp)
def Tp (a : Addr) (vs : List V) : Prop := (Rd H a (.tup vs) ∧ ¬ L a) ∨
  ∃ (o : Obj) (its : Array Value) (n : Nat), K.lookup a = some o ∧ o.cls = .type "tuple" ∧ o.data = .seq its n ∧ its.size ≤ sizeLine ∧ Vals vs its.toList
def Lp (a : Addr) (vs : List V) : Prop := (Rd H a (.lst vs) ∧ ¬ L a) ∨
  ∃ (its : Array Value) (n : Nat), K.lookup a = some { cls := .type "list", data := .seq its n } ∧ its.size ≤ sizeLine ∧ Vals vs its.toList
mutual
def DR : D → V → Prop
  | .non, v => v = .non
  | .bl b, v => v = .bl b
  | .int i, v => v = .int i
  | .str s, v => v = .str s
  | .tup l, v => ∃ a vs, v = .ref a ∧ Tp K L H a vs ∧ DRs l vs
  | .lst l, v => ∃ a vs, v = .ref a ∧ Lp K L H a vs ∧ DRs l vs
  | .ref n, v => ∃ a, ρ[n]? = some a ∧ v = .ref a
def DRs : List D → List V → Prop
  | [], vs => vs = []
  | d :: ds, vs => ∃ v r, vs = v :: r ∧ DR d v ∧ DRs ds r
end
end
def Live (ρ : List Addr) (h : Sto) (a : Addr) : Prop := ∃ (i : Nat) (c : Cell), ρ[i]? = some a ∧ h[i]? = some c ∧ c ≠ Cell.gone
def CellR (K : PySem.W.Frag) (L : Addr → Prop) (ρ : List Addr) (H : Hp) : Cell → Addr → Prop
  | .gone, _ => True
  | .L l, a => ∃ vs, H a = some (.lst vs) ∧ DRs K L ρ H l vs
  | .M kvs, a => ∃ kvs', H a = some (.dK kvs') ∧ kvs'.map (·.1) = kvs.map (·.1) ∧ DRs K L ρ H (kvs.map (·.2)) (kvs'.map (·.2))
/-- the store stands in the heap -/
structure SR (K : PySem.W.Frag) (ρ : List Addr) (h : Sto) (H : Hp) : Prop where
  len : ρ.length = h.length
  inj : ∀ (i j : Nat) (a : Addr) (ci cj : Cell), ρ[i]? = some a → ρ[j]? = some a → h[i]? = some ci → h[j]? = some cj → ci ≠ Cell.gone → cj ≠ Cell.gone → i = j
  cells : ∀ (i : Nat) (c : Cell) (a : Addr), h[i]? = some c → ρ[i]? = some a → CellR K (Live ρ h) ρ H c a
/-- a later state -/
structure Ext (ρ : List Addr) (h : Sto) (H : Hp) (ρ' : List Addr) (h' : Sto) (H' : Hp) : Prop where
  pre : ∀ (i : Nat) (a : Addr), ρ[i]? = some a → ρ'[i]? = some a
  keep : ∀ a o, H a = some o → ¬ Live ρ h a → H' a = some o
  live : ∀ a, H a ≠ none → ¬ Live ρ h a → ¬ Live ρ' h' a
  stay : ∀ a, H a ≠ none → H' a ≠ none
theorem Ext.refl {ρ : List Addr} {h : Sto} {H : Hp} : Ext ρ h H ρ h H := ⟨fun _ _ e => e, fun _ _ e _ => e, fun _ _ n => n, fun _ n => n⟩
theorem upd_some {H : Hp} {p a : Addr} {o : HO} (n : H a ≠ none) : upd H p o a ≠ none := by
  by_cases e : a = p
  · rw [e, upd_same]
    simp
  · rw [upd_ne e]
    exact n
theorem Ext.trans {ρ ρ1 ρ2 : List Addr} {h h1 h2 : Sto} {H H1 H2 : Hp} (a : Ext ρ h H ρ1 h1 H1) (b : Ext ρ1 h1 H1 ρ2 h2 H2) : Ext ρ h H ρ2 h2 H2 := by
  refine ⟨fun i x e => b.pre _ _ (a.pre _ _ e), fun x o e n => b.keep _ _ (a.keep _ _ e n) (a.live _ (by rw [e]; simp) n), fun x e n => ?_, fun x n => b.stay x (a.stay x n)⟩
  have n1 := a.live x e n
  cases q : H x with
  | none => exact absurd q e
  | some o => exact b.live x (by rw [a.keep _ _ q n]; simp) n1

section
variable {K : PySem.W.Frag} {L : Addr → Prop} {ρ ρ' : List Addr} {h h' : Sto} {H H' : Hp}
theorem Tp.sq {a : Addr} {vs : List V} (t : Tp K L H a vs) : SqT K H a vs := by
  rcases t with ⟨t, _⟩ | t
  · exact .inl t
  · exact .inr t
theorem Lp.sq {a : Addr} {vs : List V} (t : Lp K L H a vs) : SqL K H a vs := by
  rcases t with ⟨t, _⟩ | ⟨its, n, t, z, r⟩
  · exact .inl t
  · exact .inr ⟨_, its, n, t, rfl, rfl, rfl, z, r⟩
theorem rd_ext {a : Addr} {u : HO} (r : Rd H a u) (n : ¬ Live ρ h a) (x : Ext ρ h H ρ' h' H') : Rd H' a u ∧ ¬ Live ρ' h' a := by
  rcases r with r | ⟨o, r⟩
  · exact ⟨.inl (x.keep _ _ r n), x.live _ (by rw [r]; simp) n⟩
  · exact ⟨.inr ⟨o, x.keep _ _ r n⟩, x.live _ (by rw [r]; simp) n⟩
theorem Tp.ext {a : Addr} {vs : List V} (t : Tp K (Live ρ h) H a vs) (x : Ext ρ h H ρ' h' H') : Tp K (Live ρ' h') H' a vs := by
  rcases t with ⟨t, n⟩ | t
  · exact .inl (rd_ext t n x)
  · exact .inr t
theorem Lp.ext {a : Addr} {vs : List V} (t : Lp K (Live ρ h) H a vs) (x : Ext ρ h H ρ' h' H') : Lp K (Live ρ' h') H' a vs := by
  rcases t with ⟨t, n⟩ | t
  · exact .inl (rd_ext t n x)
  · exact .inr t
mutual
theorem DR.ext (x : Ext ρ h H ρ' h' H') : ∀ (d : D) (v : V), DR K (Live ρ h) ρ H d v → DR K (Live ρ' h') ρ' H' d v
  | .non, _, e => by simpa only [DR] using e
  | .bl _, _, e => by simpa only [DR] using e
  | .int _, _, e => by simpa only [DR] using e
  | .str _, _, e => by simpa only [DR] using e
  | .tup l, v, e => by
    simp only [DR] at e ⊢
    obtain ⟨a, vs, e1, t, r⟩ := e
    exact ⟨a, vs, e1, t.ext x, DRs.ext x l vs r⟩
  | .lst l, v, e => by
    simp only [DR] at e ⊢
    obtain ⟨a, vs, e1, t, r⟩ := e
    exact ⟨a, vs, e1, t.ext x, DRs.ext x l vs r⟩
  | .ref n, v, e => by
    simp only [DR] at e ⊢
    obtain ⟨a, e1, e2⟩ := e
    exact ⟨a, x.pre _ _ e1, e2⟩
theorem DRs.ext (x : Ext ρ h H ρ' h' H') : ∀ (l : List D) (vs : List V), DRs K (Live ρ h) ρ H l vs → DRs K (Live ρ' h') ρ' H' l vs
  | [], _, e => by simpa only [DRs] using e
  | d :: ds, vs, e => by
    simp only [DRs] at e ⊢
    obtain ⟨v, r, e1, e2, e3⟩ := e
    exact ⟨v, r, e1, DR.ext x d v e2, DRs.ext x ds r e3⟩
end
theorem DRs.length : ∀ {l : List D} {vs : List V}, DRs K L ρ H l vs → vs.length = l.length
  | [], vs, e => by
    simp only [DRs] at e
    rw [e]
    rfl
  | d :: ds, vs, e => by
    simp only [DRs] at e
    obtain ⟨v, r, rfl, _, e3⟩ := e
    rw [List.length_cons, List.length_cons, DRs.length e3]
theorem DRs.get : ∀ {l : List D} {vs : List V} {i : Nat} {d : D}, DRs K L ρ H l vs → l[i]? = some d → ∃ v, vs[i]? = some v ∧ DR K L ρ H d v
  | [], _, _, _, _, q => by simp at q
  | x :: ds, vs, 0, d, e, q => by
    simp only [DRs] at e
    obtain ⟨v, r, rfl, e2, e3⟩ := e
    simp at q
    subst q
    exact ⟨v, rfl, e2⟩
  | x :: ds, vs, i + 1, d, e, q => by
    simp only [DRs] at e
    obtain ⟨v, r, rfl, e2, e3⟩ := e
    obtain ⟨w, h1, h2⟩ := DRs.get (i := i) (d := d) e3 (by simpa using q)
    exact ⟨w, by simpa using h1, h2⟩
theorem DRs.getV : ∀ {l : List D} {vs : List V} {i : Nat} {v : V}, DRs K L ρ H l vs → vs[i]? = some v → ∃ d, l[i]? = some d ∧ DR K L ρ H d v := fun {l vs i v} e q => by
  have hl := e.length
  have hi : i < l.length := by rw [← hl]; exact (List.getElem?_eq_some_iff.mp q).1
  obtain ⟨w, h1, h2⟩ := e.get (List.getElem?_eq_getElem hi)
  rw [q] at h1
  cases h1
  exact ⟨_, List.getElem?_eq_getElem hi, h2⟩
theorem DRs.append : ∀ {l m : List D} {vs ws : List V}, DRs K L ρ H l vs → DRs K L ρ H m ws → DRs K L ρ H (l ++ m) (vs ++ ws)
  | [], m, vs, ws, e, f => by
    simp only [DRs] at e
    subst e
    exact f
  | d :: ds, m, vs, ws, e, f => by
    simp only [DRs] at e
    obtain ⟨v, r, rfl, e2, e3⟩ := e
    show DRs K L ρ H (d :: (ds ++ m)) (v :: (r ++ ws))
    simp only [DRs]
    exact ⟨v, r ++ ws, rfl, e2, DRs.append e3 f⟩
theorem DRs.one {d : D} {v : V} (e : DR K L ρ H d v) : DRs K L ρ H [d] [v] := by
  simp only [DRs]
  exact ⟨v, [], rfl, e, rfl⟩
theorem DRs.take : ∀ {l : List D} {vs : List V} (n : Nat), DRs K L ρ H l vs → DRs K L ρ H (l.take n) (vs.take n)
  | [], vs, n, e => by
    simp only [DRs] at e
    subst e
    simp [DRs]
  | d :: ds, vs, 0, e => by simp [DRs]
  | d :: ds, vs, n + 1, e => by
    simp only [DRs] at e
    obtain ⟨v, r, rfl, e2, e3⟩ := e
    simp only [List.take_succ_cons, DRs]
    exact ⟨v, r.take n, rfl, e2, DRs.take n e3⟩
theorem DRs.drop : ∀ {l : List D} {vs : List V} (n : Nat), DRs K L ρ H l vs → DRs K L ρ H (l.drop n) (vs.drop n)
  | [], vs, n, e => by
    simp only [DRs] at e
    subst e
    simp [DRs]
  | d :: ds, vs, 0, e => e
  | d :: ds, vs, n + 1, e => by
    simp only [DRs] at e
    obtain ⟨v, r, rfl, e2, e3⟩ := e
    simp only [List.drop_succ_cons]
    exact DRs.drop n e3
theorem DRs.reverse : ∀ {l : List D} {vs : List V}, DRs K L ρ H l vs → DRs K L ρ H l.reverse vs.reverse
  | [], vs, e => by
    simp only [DRs] at e
    subst e
    simp [DRs]
  | d :: ds, vs, e => by
    simp only [DRs] at e
    obtain ⟨v, r, rfl, e2, e3⟩ := e
    rw [List.reverse_cons, List.reverse_cons]
    exact (DRs.reverse e3).append (.one e2)
theorem DRs.set : ∀ {l : List D} {vs : List V} (n : Nat) {d : D} {v : V}, DRs K L ρ H l vs → DR K L ρ H d v → DRs K L ρ H (l.set n d) (vs.set n v)
  | [], vs, n, d, v, e, f => by
    simp only [DRs] at e
    subst e
    simp [DRs]
  | x :: ds, vs, 0, d, v, e, f => by
    simp only [DRs] at e
    obtain ⟨w, r, rfl, e2, e3⟩ := e
    simp only [List.set_cons_zero, DRs]
    exact ⟨v, r, rfl, f, e3⟩
  | x :: ds, vs, n + 1, d, v, e, f => by
    simp only [DRs] at e
    obtain ⟨w, r, rfl, e2, e3⟩ := e
    simp only [List.set_cons_succ, DRs]
    exact ⟨w, r.set n v, rfl, e2, DRs.set n e3 f⟩
theorem DRs.ints : ∀ {ns : List Int}, DRs K L ρ H (ns.map D.int) (ns.map V.int)
  | [] => by simp [DRs]
  | n :: ns => by
    simp only [List.map_cons, DRs]
    exact ⟨_, _, rfl, by simp [DR], DRs.ints⟩
theorem DRs.strs : ∀ {ns : List Str}, DRs K L ρ H (ns.map D.str) (ns.map V.str)
  | [] => by simp [DRs]
  | n :: ns => by
    simp only [List.map_cons, DRs]
    exact ⟨_, _, rfl, by simp [DR], DRs.strs⟩

/-! ### the store's changes -/
theorem SR.tracked (s : SR K ρ h H) {a : Addr} (l : Live ρ h a) : H a ≠ none := by
  obtain ⟨i, c, e1, e2, e3⟩ := l
  have q := s.cells i c a e2 e1
  cases c with
  | gone => exact absurd rfl e3
  | L l =>
    obtain ⟨vs, e, _⟩ := q
    rw [e]
    simp
  | M kvs =>
    obtain ⟨vs, e, _⟩ := q
    rw [e]
    simp
theorem CellR.ext (x : Ext ρ h H ρ' h' H') {c : Cell} {a : Addr} (r : CellR K (Live ρ h) ρ H c a) (k : ∀ o, H a = some o → H' a = some o) : CellR K (Live ρ' h') ρ' H' c a := by
  cases c with
  | gone => trivial
  | L l =>
    obtain ⟨vs, e, q⟩ := r
    exact ⟨vs, k _ e, q.ext x⟩
  | M kvs =>
    obtain ⟨vs, e, e2, q⟩ := r
    exact ⟨vs, k _ e, e2, q.ext x⟩
/-- a new object that is no cell -/
theorem Ext.new {p : Addr} {o : HO} (n : H p = none) : Ext ρ h H ρ h (upd H p o) := by
  refine ⟨fun _ _ e => e, fun a u e _ => ?_, fun _ _ z => z, fun _ n => upd_some n⟩
  rw [upd_ne (ne_of_none e n)]
  exact e
theorem SR.new {p : Addr} {o : HO} (s : SR K ρ h H) (n : H p = none) : SR K ρ h (upd H p o) := by
  refine ⟨s.len, s.inj, fun i c a e1 e2 => ?_⟩
  refine (s.cells i c a e1 e2).ext (.new n) fun u e => ?_
  rw [upd_ne (ne_of_none e n)]
  exact e
theorem SR.notLive {p : Addr} (s : SR K ρ h H) (n : H p = none) : ¬ Live ρ h p := fun l => s.tracked l n
theorem DR.newTup {p : Addr} {vs : List V} {ds : List D} (s : SR K ρ h H) (n : H p = none) (r : DRs K (Live ρ h) ρ H ds vs) : DR K (Live ρ h) ρ (upd H p (.tup vs)) (.tup ds) (.ref p) := by
  simp only [DR]
  exact ⟨p, vs, rfl, .inl ⟨.inl upd_same, s.notLive n⟩, r.ext (.new n)⟩
theorem DR.newLst {p : Addr} {vs : List V} {ds : List D} (s : SR K ρ h H) (n : H p = none) (r : DRs K (Live ρ h) ρ H ds vs) : DR K (Live ρ h) ρ (upd H p (.lst vs)) (.lst ds) (.ref p) := by
  simp only [DR]
  exact ⟨p, vs, rfl, .inl ⟨.inl upd_same, s.notLive n⟩, r.ext (.new n)⟩
theorem get_snoc {α : Type} {l : List α} {x y : α} {i : Nat} (e : (l ++ [x])[i]? = some y) : l[i]? = some y ∨ (i = l.length ∧ y = x) := by
  by_cases hi : i < l.length
  · rw [List.getElem?_append_left hi] at e
    exact .inl e
  · rw [List.getElem?_append_right (by omega)] at e
    have hj : i - l.length = 0 := by
      cases q : i - l.length with
      | zero => rfl
      | succ n =>
        rw [q] at e
        simp at e
    rw [hj] at e
    simp at e
    exact .inr ⟨by omega, e.symm⟩
theorem live_snoc {p : Addr} {c : Cell} {a : Addr} (hl : ρ.length = h.length) (l : Live (ρ ++ [p]) (h ++ [c]) a) : Live ρ h a ∨ a = p := by
  obtain ⟨i, ci, e1, e2, e3⟩ := l
  rcases get_snoc e1 with q | ⟨q, e⟩
  · rcases get_snoc e2 with q2 | ⟨q2, _⟩
    · exact .inl ⟨i, ci, q, q2, e3⟩
    · have := (List.getElem?_eq_some_iff.mp q).1
      omega
  · exact .inr e
/-- a new cell -/
theorem Ext.cell {p : Addr} {o : HO} {c : Cell} (s : SR K ρ h H) (n : H p = none) : Ext ρ h H (ρ ++ [p]) (h ++ [c]) (upd H p o) := by
  refine ⟨fun i a e => ?_, fun a u e _ => ?_, fun a e z l => ?_, fun _ n => upd_some n⟩
  · rw [List.getElem?_append_left (List.getElem?_eq_some_iff.mp e).1]
    exact e
  · rw [upd_ne (ne_of_none e n)]
    exact e
  · rcases live_snoc s.len l with l | rfl
    · exact z l
    · exact e n
theorem SR.cell {p : Addr} {o : HO} {c : Cell} (s : SR K ρ h H) (n : H p = none) (r : CellR K (Live (ρ ++ [p]) (h ++ [c])) (ρ ++ [p]) (upd H p o) c p) : SR K (ρ ++ [p]) (h ++ [c]) (upd H p o) := by
  have hl := s.len
  refine ⟨by simp [hl], fun i j a ci cj e1 e2 f1 f2 n1 n2 => ?_, fun i ci a e1 e2 => ?_⟩
  · rcases get_snoc e1 with q1 | ⟨q1, r1⟩
    · rcases get_snoc f1 with z1 | ⟨z1, _⟩
      · rcases get_snoc e2 with q2 | ⟨q2, r2⟩
        · rcases get_snoc f2 with z2 | ⟨z2, _⟩
          · exact s.inj i j a ci cj q1 q2 z1 z2 n1 n2
          · have := (List.getElem?_eq_some_iff.mp q2).1
            omega
        · exact absurd n (by rw [← r2]; exact s.tracked ⟨i, ci, q1, z1, n1⟩)
      · have := (List.getElem?_eq_some_iff.mp q1).1
        omega
    · rcases get_snoc e2 with q2 | ⟨q2, r2⟩
      · rcases get_snoc f2 with z2 | ⟨z2, _⟩
        · exact absurd n (by rw [← r1]; exact s.tracked ⟨j, cj, q2, z2, n2⟩)
        · have := (List.getElem?_eq_some_iff.mp q2).1
          omega
      · omega
  · rcases get_snoc e1 with q1 | ⟨q1, r1⟩
    · rcases get_snoc e2 with q2 | ⟨q2, r2⟩
      · refine (s.cells i ci a q1 q2).ext (.cell s n) fun u e => ?_
        rw [upd_ne (ne_of_none e n)]
        exact e
      · have := (List.getElem?_eq_some_iff.mp q1).1
        omega
    · rcases get_snoc e2 with q2 | ⟨q2, r2⟩
      · have := (List.getElem?_eq_some_iff.mp q2).1
        omega
      · subst r1 r2
        exact r
/-- a cell written -/
theorem live_set {n : Nat} {c c' : Cell} {a : Addr} (hc : h[n]? = some c) (ng : c ≠ Cell.gone) (l : Live ρ (h.set n c') a) : Live ρ h a := by
  obtain ⟨i, ci, e1, e2, e3⟩ := l
  by_cases hi : n = i
  · subst hi
    exact ⟨n, c, e1, hc, ng⟩
  · rw [List.getElem?_set_ne hi] at e2
    exact ⟨i, ci, e1, e2, e3⟩
theorem Ext.write {n : Nat} {c c' : Cell} {a : Addr} {o : HO} (hr : ρ[n]? = some a) (hc : h[n]? = some c) (ng : c ≠ Cell.gone) : Ext ρ h H ρ (h.set n c') (upd H a o) := by
  refine ⟨fun _ _ e => e, fun b u e z => ?_, fun b _ z l => z (live_set hc ng l), fun _ n => upd_some n⟩
  rw [upd_ne]
  · exact e
  · rintro rfl
    exact z ⟨n, c, hr, hc, ng⟩
theorem SR.write {n : Nat} {c c' : Cell} {a : Addr} {o : HO} (s : SR K ρ h H) (hr : ρ[n]? = some a) (hc : h[n]? = some c) (ng : c ≠ Cell.gone)
    (r : CellR K (Live ρ (h.set n c')) ρ (upd H a o) c' a) : SR K ρ (h.set n c') (upd H a o) := by
  have hn : n < h.length := (List.getElem?_eq_some_iff.mp hc).1
  refine ⟨by simp [s.len], fun i j b ci cj e1 e2 f1 f2 n1 n2 => ?_, fun i ci b e1 e2 => ?_⟩
  · have back : ∀ (k : Nat) (ck : Cell), (h.set n c')[k]? = some ck → ck ≠ Cell.gone → ∃ c2, h[k]? = some c2 ∧ c2 ≠ Cell.gone := fun k ck e z => by
      by_cases hk : n = k
      · subst hk
        exact ⟨c, hc, ng⟩
      · rw [List.getElem?_set_ne hk] at e
        exact ⟨ck, e, z⟩
    obtain ⟨x1, y1, z1⟩ := back i ci f1 n1
    obtain ⟨x2, y2, z2⟩ := back j cj f2 n2
    exact s.inj i j b x1 x2 e1 e2 y1 y2 z1 z2
  · by_cases hi : n = i
    · subst hi
      rw [List.getElem?_set_self hn] at e1
      cases e1
      rw [hr] at e2
      cases e2
      exact r
    · rw [List.getElem?_set_ne hi] at e1
      by_cases hg : ci = Cell.gone
      · subst hg
        trivial
      · refine (s.cells i ci b e1 e2).ext (.write hr hc ng) fun u e => ?_
        rw [upd_ne]
        · exact e
        · rintro rfl
          exact hi (s.inj n i b c ci hr e2 hc e1 ng hg)
/-- the cells behind the k-th are forgotten -/
theorem live_take {k : Nat} {a : Addr} (l : Live (ρ.take k) (h.take k) a) : Live ρ h a := by
  obtain ⟨i, c, e1, e2, e3⟩ := l
  refine ⟨i, c, ?_, ?_, e3⟩
  · rw [List.getElem?_take] at e1
    split at e1
    · exact e1
    · cases e1
  · rw [List.getElem?_take] at e2
    split at e2
    · exact e2
    · cases e2
mutual
theorem DR.cut {k : Nat} : ∀ (d : D) (v : V), D.blw k d = true → DR K (Live ρ h) ρ H d v → DR K (Live (ρ.take k) (h.take k)) (ρ.take k) H d v
  | .non, _, _, e => by simpa only [DR] using e
  | .bl _, _, _, e => by simpa only [DR] using e
  | .int _, _, _, e => by simpa only [DR] using e
  | .str _, _, _, e => by simpa only [DR] using e
  | .tup l, v, b, e => by
    simp only [DR] at e ⊢
    obtain ⟨a, vs, e1, t, r⟩ := e
    refine ⟨a, vs, e1, ?_, DRs.cut l vs (by simpa only [D.blw] using b) r⟩
    rcases t with ⟨t, z⟩ | t
    · exact .inl ⟨t, fun q => z (live_take q)⟩
    · exact .inr t
  | .lst l, v, b, e => by
    simp only [DR] at e ⊢
    obtain ⟨a, vs, e1, t, r⟩ := e
    refine ⟨a, vs, e1, ?_, DRs.cut l vs (by simpa only [D.blw] using b) r⟩
    rcases t with ⟨t, z⟩ | t
    · exact .inl ⟨t, fun q => z (live_take q)⟩
    · exact .inr t
  | .ref n, v, b, e => by
    simp only [DR] at e ⊢
    obtain ⟨a, e1, e2⟩ := e
    have hb : n < k := by simpa only [D.blw, decide_eq_true_eq] using b
    exact ⟨a, by rw [List.getElem?_take_of_lt hb]; exact e1, e2⟩
theorem DRs.cut {k : Nat} : ∀ (l : List D) (vs : List V), D.blws k l = true → DRs K (Live ρ h) ρ H l vs → DRs K (Live (ρ.take k) (h.take k)) (ρ.take k) H l vs
  | [], _, _, e => by simpa only [DRs] using e
  | d :: ds, vs, b, e => by
    simp only [DRs] at e ⊢
    simp only [D.blws, Bool.and_eq_true] at b
    obtain ⟨v, r, e1, e2, e3⟩ := e
    exact ⟨v, r, e1, DR.cut d v b.1 e2, DRs.cut ds r b.2 e3⟩
end
theorem SR.cut {k : Nat} (s : SR K ρ h H) (b : (h.take k).all (Cell.blw k) = true) : SR K (ρ.take k) (h.take k) H := by
  have lift : ∀ {α : Type} {l : List α} {i : Nat} {x : α}, (l.take k)[i]? = some x → l[i]? = some x ∧ i < k := fun {α l i x} e => by
    rw [List.getElem?_take] at e
    split at e
    · exact ⟨e, by assumption⟩
    · cases e
  refine ⟨by simp [s.len], fun i j a ci cj e1 e2 f1 f2 n1 n2 => s.inj i j a ci cj (lift e1).1 (lift e2).1 (lift f1).1 (lift f2).1 n1 n2, fun i c a e1 e2 => ?_⟩
  have q := s.cells i c a (lift e1).1 (lift e2).1
  have hb : Cell.blw k c = true := List.all_eq_true.mp b c (List.mem_of_getElem? e1)
  cases c with
  | gone => trivial
  | L l =>
    obtain ⟨vs, e, r⟩ := q
    exact ⟨vs, e, r.cut _ _ hb⟩
  | M kvs =>
    obtain ⟨vs, e, e2, r⟩ := q
    exact ⟨vs, e, e2, r.cut _ _ hb⟩
theorem Ext.cut {ρ1 : List Addr} {h1 : Sto} {H1 : Hp} (s : SR K ρ h H) (x : Ext ρ h H ρ1 h1 H1) : Ext ρ h H (ρ1.take h.length) (h1.take h.length) H1 := by
  refine ⟨fun i a e => ?_, x.keep, fun a e n l => x.live a e n (live_take l), x.stay⟩
  have hi : i < h.length := by rw [← s.len]; exact (List.getElem?_eq_some_iff.mp e).1
  rw [List.getElem?_take_of_lt hi]
  exact x.pre _ _ e

/-! ### the slots -/
structure ER (K : PySem.W.Frag) (ρ : List Addr) (h : Sto) (H : Hp) (e : Env) (σ : L2.St) : Prop where
  len : σ.length = e.length
  at_ : ∀ (i : Nat) (d : D), e[i]? = some (some d) → ∃ v, σ[i]? = some (some v) ∧ DR K (Live ρ h) ρ H d v
variable {e : Env} {σ : L2.St}
theorem ER.ext (r : ER K ρ h H e σ) (x : Ext ρ h H ρ' h' H') : ER K ρ' h' H' e σ := ⟨r.len, fun i d q => by
  obtain ⟨v, h1, h2⟩ := r.at_ i d q
  exact ⟨v, h1, h2.ext x⟩⟩
theorem ER.set (r : ER K ρ h H e σ) (i : Nat) {d : D} {v : V} (q : DR K (Live ρ h) ρ H d v) : ER K ρ h H (e.set i (some d)) (σ.set i (some v)) := by
  refine ⟨by simp [r.len], fun j d' z => ?_⟩
  by_cases hj : i = j
  · subst hj
    by_cases hl : i < e.length
    · rw [List.getElem?_set_self hl] at z
      cases z
      exact ⟨v, by rw [List.getElem?_set_self (by rw [r.len]; exact hl)], q⟩
    · rw [List.getElem?_eq_none (by simpa using hl)] at z
      cases z
  · rw [List.getElem?_set_ne hj] at z ⊢
    exact r.at_ j d' z
theorem ER.unset (r : ER K ρ h H e σ) (i : Nat) : ER K ρ h H (e.set i none) (σ.set i none) := by
  refine ⟨by simp [r.len], fun j d' z => ?_⟩
  by_cases hj : i = j
  · subst hj
    by_cases hl : i < e.length
    · rw [List.getElem?_set_self hl] at z
      cases z
    · rw [List.getElem?_eq_none (by simpa using hl)] at z
      cases z
  · rw [List.getElem?_set_ne hj] at z ⊢
    exact r.at_ j d' z
def wipeE (e : Env) : List Nat → Env
  | [] => e
  | v :: vs => (wipeE e vs).set v none
theorem ER.wipe (r : ER K ρ h H e σ) : ∀ vs : List Nat, ER K ρ h H (wipeE e vs) (L2.wipe σ vs)
  | [] => r
  | v :: vs => (ER.wipe r vs).unset v
end
end MR
end
section
set_option maxHeartbeats 1000000
/-! Mirror layer, part B: results, judgements, expressions, tests, statements. -/
namespace MR
open PySem PySem.Spec PyProof.Rows L2

inductive Exn where
  | own (c f : Str) (d : D) | bi (n : String)
inductive R (α : Type) where
  | ok (a : α) (h : Sto) | err (x : Exn) (e : Env) (h : Sto) | bad
def R.bind {α β : Type} (r : R α) (f : α → Sto → R β) : R β :=
  match r with
  | .ok a h => f a h
  | .err x e h => .err x e h
  | .bad => .bad
def R.of {α : Type} (o : Option α) (h : Sto) : R α :=
  match o with
  | some a => .ok a h
  | none => .bad
abbrev SE := Env → Sto → R D
abbrev SB := Env → Sto → R Bool
abbrev SA := Env → Sto → R (List D)
inductive Fl where
  | nx (e : Env) | rt (d : D) | bk (e : Env) | ct (e : Env)
abbrev SS := Env → Sto → R Fl

/-- what the rules lean on -/
structure Gd where
  K : PySem.W.Frag
  mg : Str → Option Value
abbrev gd (X : Cx) : Gd := ⟨X.K, X.mg⟩

def XR (G : Gd) (ρ : List Addr) (h : Sto) (H : Hp) : Exn → Value → Option Addr → Prop
  | .own c f d, cls, dd => ∃ (C a : Addr) (v : V), G.mg c = some (.ref C) ∧ cls = .ref C ∧ dd = some a ∧ H a = some (.xd [(f, v)]) ∧ ¬ Live ρ h a ∧ DR G.K (Live ρ h) ρ H d v
  | .bi n, cls, _ => cls = .type n
theorem XR.ext {G : Gd} {ρ ρ' : List Addr} {h h' : Sto} {H H' : Hp} (x : Ext ρ h H ρ' h' H') : ∀ {z : Exn} {cls : Value} {dd : Option Addr}, XR G ρ h H z cls dd → XR G ρ' h' H' z cls dd
  | .own c f d, cls, dd, r => by
    obtain ⟨C, a, v, h1, h2, h3, h4, h5, h6⟩ := r
    exact ⟨C, a, v, h1, h2, h3, x.keep _ _ h4 h5, x.live _ (by rw [h4]; simp) h5, h6.ext x⟩
  | .bi n, cls, dd, r => r

/-- what is wanted of a result -/
def Post {α : Type} (G : Gd) (ρ : List Addr) (h : Sto) (H : Hp) (ok : List Addr → Sto → Hp → α → Prop) (W : WX) : R α → Prop
  | .ok a h' => ∀ ρ' H', Ext ρ h H ρ' h' H' → SR G.K ρ' h' H' → ok ρ' h' H' a
  | .err x e' h' => ∀ ρ' H' cls dd σ', Ext ρ h H ρ' h' H' → SR G.K ρ' h' H' → XR G ρ' h' H' x cls dd → ER G.K ρ' h' H' e' σ' → W cls dd σ' H'
  | .bad => False
section
variable {α β : Type} {G : Gd} {ρ ρ1 : List Addr} {h h1 : Sto} {H H1 : Hp} {ok : List Addr → Sto → Hp → α → Prop} {W : WX}
theorem Post.later (x : Ext ρ h H ρ1 h1 H1) {r : R α} (p : Post G ρ h H ok W r) : Post G ρ1 h1 H1 ok W r := by
  cases r with
  | ok a h' => exact fun ρ' H' y s => p ρ' H' (x.trans y) s
  | err z e' h' => exact fun ρ' H' cls dd σ' y s q er => p ρ' H' cls dd σ' (x.trans y) s q er
  | bad => exact p
theorem Post.imp {ok' : List Addr → Sto → Hp → α → Prop} {r : R α} (p : Post G ρ h H ok W r) (f : ∀ ρ' h' H' a, Ext ρ h H ρ' h' H' → SR G.K ρ' h' H' → ok ρ' h' H' a → ok' ρ' h' H' a) : Post G ρ h H ok' W r := by
  cases r with
  | ok a h' => exact fun ρ' H' y s => f ρ' h' H' a y s (p ρ' H' y s)
  | err z e' h' => exact p
  | bad => exact p
theorem Post.bind {okb : List Addr → Sto → Hp → β → Prop} {r : R α} {f : α → Sto → R β} (p : Post G ρ h H okb W (r.bind f)) : Post G ρ h H (fun ρ' h' H' a => Post G ρ' h' H' okb W (f a h')) W r := by
  cases r with
  | ok a h' =>
    intro ρ' H' y s
    exact Post.later (r := f a h') y p
  | err z e' h' => exact p
  | bad => exact p
theorem Post.here {a : α} (s : SR G.K ρ h H) (p : Post G ρ h H ok W (.ok a h)) : ok ρ h H a := p ρ H .refl s
end
def okD (G : Gd) (Q : VK) : List Addr → Sto → Hp → D → Prop := fun ρ h H d => ∀ v, DR G.K (Live ρ h) ρ H d v → Q v H
def okB (Q : Bool → Hp → Prop) : List Addr → Sto → Hp → Bool → Prop := fun _ _ H b => Q b H
def okA (G : Gd) (Q : List V → Hp → Prop) : List Addr → Sto → Hp → List D → Prop := fun ρ h H ds => ∀ vs, DRs G.K (Live ρ h) ρ H ds vs → Q vs H
def okS (G : Gd) (N : Ends) : List Addr → Sto → Hp → Fl → Prop := fun ρ h H f =>
  match f with
  | .nx e => ∀ σ, ER G.K ρ h H e σ → N.nx σ H
  | .rt d => ∀ v, DR G.K (Live ρ h) ρ H d v → N.rt v H
  | .bk e => ∀ σ, ER G.K ρ h H e σ → N.bk σ H
  | .ct e => ∀ σ, ER G.K ρ h H e σ → N.ct σ H

def tE (G : Gd) (W : WX) (m : SE) : TE := fun σ H Q => ∃ ρ h e, SR G.K ρ h H ∧ ER G.K ρ h H e σ ∧ Post G ρ h H (okD G Q) (fun c d _ => W c d σ) (m e h)
def tB' (G : Gd) (W : WX) (m : SB) : TT := fun σ H Q => ∃ ρ h e, SR G.K ρ h H ∧ ER G.K ρ h H e σ ∧ Post G ρ h H (okB Q) (fun c d _ => W c d σ) (m e h)
def tA (G : Gd) (W : WX) (m : SA) : TA := fun σ H Q => ∃ ρ h e, SR G.K ρ h H ∧ ER G.K ρ h H e σ ∧ Post G ρ h H (okA G Q) (fun c d _ => W c d σ) (m e h)
def tS (G : Gd) (W : WX) (m : SS) : TS := fun N σ H => ∃ ρ h e, SR G.K ρ h H ∧ ER G.K ρ h H e σ ∧ Post G ρ h H (okS G N) W (m e h)

def ME (X : Cx) (W : WX) (e : Expr) (m : SE) : Prop := PE X e (tE (gd X) W m)
def MB (X : Cx) (W : WX) (e : Expr) (m : SB) : Prop := PT X e (tB' (gd X) W m)
def MBw (X : Cx) (W : WX) (e : Expr) (m : SB) : Prop := PW X e (tB' (gd X) W m)
def MA (X : Cx) (W : WX) (es : List Expr) (m : SA) : Prop := PA X es (tA (gd X) W m)
def MS (X : Cx) (W : WX) (s : Stmt) (m : SS) : Prop := PS X s (tS (gd X) W m)
def MSs (X : Cx) (W : WX) (s : List Stmt) (m : SS) : Prop := PSs X s (tS (gd X) W m)

section
variable {X : Cx} {W : WX}
theorem PE.wk {e : Expr} {t t' : TE} (p : PE X e t) (f : ∀ σ H Q, t' σ H Q → t σ H Q) : PE X e t' := ⟨fun pins s σ H Q I q => p.run pins s σ H Q I (f _ _ _ q)⟩
theorem PT.wk {e : Expr} {t t' : TT} (p : PT X e t) (f : ∀ σ H Q, t' σ H Q → t σ H Q) : PT X e t' := ⟨fun pins s σ H Q I q => p.run pins s σ H Q I (f _ _ _ q)⟩
theorem PW.wk {e : Expr} {t t' : TT} (p : PW X e t) (f : ∀ σ H Q, t' σ H Q → t σ H Q) : PW X e t' := ⟨fun w pins s σ H Q I q => p.run w pins s σ H Q I (f _ _ _ q)⟩
theorem PA.wk {e : List Expr} {t t' : TA} (p : PA X e t) (f : ∀ σ H Q, t' σ H Q → t σ H Q) : PA X e t' := ⟨fun w pins s σ H Q I q => p.run w pins s σ H Q I (f _ _ _ q)⟩
theorem PS.wk {e : Stmt} {t t' : TS} (p : PS X e t) (f : ∀ N σ H, t' N σ H → t N σ H) : PS X e t' := ⟨fun pins s σ H N I q => p.run pins s σ H N I (f _ _ _ q)⟩
theorem PSs.wk {e : List Stmt} {t t' : TS} (p : PSs X e t) (f : ∀ N σ H, t' N σ H → t N σ H) : PSs X e t' := ⟨fun pins s σ H N I q => p.run pins s σ H N I (f _ _ _ q)⟩

/-! ### names, constants -/
def sVar (i : Nat) : SE := fun e h => match e[i]? with | some (some d) => .ok d h | _ => .bad
def sC (d : D) : SE := fun _ h => .ok d h
theorem me_var (i : Nat) {x : Str} {pos : Pos} (hN : X.N[i]? = some x := by rfl) (hv : Vis X.env.scope x := by first | exact Or.inl rfl | exact Or.inr (Or.inl rfl) | exact Or.inr (Or.inr rfl)) (hd : (x == ("__debug__" : Str)) = false := by decide)
    (hcd : (x == ("__classdict__" : Str)) = false := by decide) : ME X W (.Name x pos) (sVar i) := by
  refine PE.wk (pe_var (i := i) hN hv hd hcd) fun σ H Q q => ?_
  obtain ⟨ρ, h, e, s, r, p⟩ := q
  unfold sVar at p
  split at p
  · rename_i d hd
    obtain ⟨v, h1, h2⟩ := r.at_ i d hd
    exact ⟨v, h1, p.here s v h2⟩
  · exact p.elim
/-- a constant of the text, or of the module, whose value is plain -/
theorem me_c {ex : Expr} {v : V} {d : D} (p : PE X ex (tC v)) (hv : ∀ L ρ H, DR X.K L ρ H d v) : ME X W ex (sC d) := by
  refine PE.wk p fun σ H Q q => ?_
  obtain ⟨ρ, h, e, s, r, p⟩ := q
  exact p.here s v (hv _ _ _)
theorem me_int {i : Int} {j pos} : ME X W (.Constant (.int i) j pos) (sC (.int i)) := me_c pe_int fun _ _ _ => by simp [DR]
theorem me_bl {b : Bool} {j pos} : ME X W (.Constant (.bool b) j pos) (sC (.bl b)) := me_c pe_bl fun _ _ _ => by simp [DR]
theorem me_non {j pos} : ME X W (.Constant .none j pos) (sC .non) := me_c pe_non fun _ _ _ => by simp [DR]
theorem me_str {x : Str} {j pos} : ME X W (.Constant (.str x) j pos) (sC (.str x)) := me_c pe_str fun _ _ _ => by simp [DR]
/-- an int or a text of the module's top -/
theorem me_gint {x : Str} {pos : Pos} {i : Int} (hm : ∃ t, X.mg x = some (.int i t)) (hg : Gl X x := by rfl) (hd : (x == ("__debug__" : Str)) = false := by decide) : ME X W (.Name x pos) (sC (.int i)) := by
  obtain ⟨t, hm⟩ := hm
  exact me_c (pe_glob hg hm (v := .int i) ⟨t, rfl⟩ hd) fun _ _ _ => by simp [DR]
theorem me_gstr {x : Str} {pos : Pos} {i : Str} (hm : ∃ t, X.mg x = some (.str i t)) (hg : Gl X x := by rfl) (hd : (x == ("__debug__" : Str)) = false := by decide) : ME X W (.Name x pos) (sC (.str i)) := by
  obtain ⟨t, hm⟩ := hm
  exact me_c (pe_glob hg hm (v := .str i) ⟨t, rfl⟩ hd) fun _ _ _ => by simp [DR]

/-! ### operators by values -/
/-- f says what the operator gives; it makes at most new objects that are no cells -/
def OpM (X : Cx) (F : Value → Value → Sem Value) (f : Sto → D → D → Option D) : Prop := ∃ r, OpR X F r ∧
  ∀ ρ h H d1 v1 d2 v2 d Q, SR X.K ρ h H → DR X.K (Live ρ h) ρ H d1 v1 → DR X.K (Live ρ h) ρ H d2 v2 → f h d1 d2 = some d →
    (∀ ρ' H', Ext ρ h H ρ' h H' → SR X.K ρ' h H' → ∀ v, DR X.K (Live ρ' h) ρ' H' d v → Q v H') → r v1 v2 H Q
def sOp (f : Sto → D → D → Option D) (a b : SE) : SE := fun e h => (a e h).bind fun x h1 => (b e h1).bind fun y h2 => R.of (f h2 x y) h2
theorem op_wk {F : Value → Value → Sem Value} {f : Sto → D → D → Option D} {a b : SE} {r : R2}
    (hr : ∀ ρ h H d1 v1 d2 v2 d Q, SR X.K ρ h H → DR X.K (Live ρ h) ρ H d1 v1 → DR X.K (Live ρ h) ρ H d2 v2 → f h d1 d2 = some d →
      (∀ ρ' H', Ext ρ h H ρ' h H' → SR X.K ρ' h H' → ∀ v, DR X.K (Live ρ' h) ρ' H' d v → Q v H') → r v1 v2 H Q)
    (σ : L2.St) (H : Hp) (Q : VK) (q : tE (gd X) W (sOp f a b) σ H Q) : tOp r (tE (gd X) W a) (tE (gd X) W b) σ H Q := by
  obtain ⟨ρ, h, e, s, er, p⟩ := q
  refine ⟨ρ, h, e, s, er, (Post.bind p).imp fun ρ1 h1 H1 d1 x1 s1 p1 v1 r1 => ?_⟩
  refine ⟨ρ1, h1, e, s1, er.ext x1, (Post.bind p1).imp fun ρ2 h2 H2 d2 x2 s2 p2 v2 r2 => ?_⟩
  cases hf : f h2 d1 d2 with
  | none =>
    rw [hf] at p2
    exact p2.elim
  | some d =>
    rw [hf] at p2
    exact hr ρ2 h2 H2 d1 v1 d2 v2 d Q s2 (r1.ext x2) r2 hf fun ρ' H' x s => p2 ρ' H' x s
theorem me_op {a b : Expr} {op : Operator} {pos : Pos} {f : Sto → D → D → Option D} {ma mb : SE} (o : OpM X (binaryOp op) f) (ha : ME X W a ma) (hb : ME X W b mb) : ME X W (.BinOp a op b pos) (sOp f ma mb) := by
  obtain ⟨r, h1, h2⟩ := o
  exact PE.wk (pe_op h1 ha hb) (op_wk (F := binaryOp op) h2)
theorem me_cmp {a b : Expr} {op : CmpOp} {pos : Pos} {f : Sto → D → D → Option D} {ma mb : SE} (o : OpM X (compareOp op) f) (ha : ME X W a ma) (hb : ME X W b mb) (hm : behindInMarks op b = false := by first | exact nomark _ | rfl | assumption) : ME X W (.Compare a [op] [b] pos) (sOp f ma mb) := by
  obtain ⟨r, h1, h2⟩ := o
  exact PE.wk (pe_cmpR h1 ha hb hm) (op_wk (F := compareOp op) h2)
def asB (d : D) (h : Sto) : R Bool := match d with | .bl b => .ok b h | _ => .bad
def sTest (m : SE) : SB := fun e h => (m e h).bind asB
/-- a True or False as a test -/
theorem mb_wk {m : SE} (σ : L2.St) (H : Hp) (Q : Bool → Hp → Prop) (q : tB' (gd X) W (sTest m) σ H Q) : tE (gd X) W m σ H fun x H1 => ∃ c, x = .bl c ∧ Q c H1 := by
  obtain ⟨ρ, h, e, s, er, p⟩ := q
  refine ⟨ρ, h, e, s, er, (Post.bind p).imp fun ρ1 h1 H1 d1 x1 s1 p1 v1 r1 => ?_⟩
  cases d1 with
  | bl b =>
    simp only [DR] at r1
    exact ⟨b, r1, p1.here s1⟩
  | _ => exact p1.elim
theorem mb_cmp {a b : Expr} {op : CmpOp} {pos : Pos} {f : Sto → D → D → Option D} {ma mb : SE} (o : OpM X (compareOp op) f) (ha : ME X W a ma) (hb : ME X W b mb) (hm : behindInMarks op b = false := by first | exact nomark _ | rfl | assumption) : MB X W (.Compare a [op] [b] pos) (sTest (sOp f ma mb)) := by
  obtain ⟨r, h1, h2⟩ := o
  refine PT.wk (pt_cmpR h1 ha hb hm) fun σ H Q q => ?_
  have q2 := mb_wk (m := sOp f ma mb) σ H Q q
  exact op_wk (X := X) (W := W) (F := compareOp op) (f := f) (a := ma) (b := mb) (r := r) h2 σ H _ q2
theorem mb_val {e : Expr} {m : SE} (p : ME X W e m) (he : ∀ whole, isTrue e X.env whole = (do let v ← whole; standAt e.pos; holding [v] (truthy v)) := by intro _; rfl) : MB X W e (sTest m) :=
  PT.wk (pt_val p he) fun σ H Q q => mb_wk σ H Q q
def sAnd (a b : SB) : SB := fun e h => (a e h).bind fun x h1 => if x = true then b e h1 else .ok false h1
def sOr (a b : SB) : SB := fun e h => (a e h).bind fun x h1 => if x = true then .ok true h1 else b e h1
def sNot (a : SB) : SB := fun e h => (a e h).bind fun x h1 => .ok (!x) h1
theorem mbw_and1 {a : Expr} {pos : Pos} {m : SB} (ha : MB X W a m) : MBw X W (.BoolOp .And [a] pos) m := pw_and1 ha
theorem mbw_or1 {a : Expr} {pos : Pos} {m : SB} (ha : MB X W a m) : MBw X W (.BoolOp .Or [a] pos) m := pw_or1 ha
theorem mbw_and {a b : Expr} {rest : List Expr} {pos : Pos} {m n : SB} (ha : MB X W a m) (hb : MBw X W (.BoolOp .And (b :: rest) pos) n) : MBw X W (.BoolOp .And (a :: b :: rest) pos) (sAnd m n) := by
  refine PW.wk (pw_and ha hb) fun σ H Q q => ?_
  obtain ⟨ρ, h, e, s, er, p⟩ := q
  refine ⟨ρ, h, e, s, er, (Post.bind p).imp fun ρ1 h1 H1 c x1 s1 p1 => ?_⟩
  cases c with
  | true => exact ⟨ρ1, h1, e, s1, er.ext x1, p1⟩
  | false => exact (p1.here s1 :)
theorem mbw_or {a b : Expr} {rest : List Expr} {pos : Pos} {m n : SB} (ha : MB X W a m) (hb : MBw X W (.BoolOp .Or (b :: rest) pos) n) : MBw X W (.BoolOp .Or (a :: b :: rest) pos) (sOr m n) := by
  refine PW.wk (pw_or ha hb) fun σ H Q q => ?_
  obtain ⟨ρ, h, e, s, er, p⟩ := q
  refine ⟨ρ, h, e, s, er, (Post.bind p).imp fun ρ1 h1 H1 c x1 s1 p1 => ?_⟩
  cases c with
  | true => exact (p1.here s1 :)
  | false => exact ⟨ρ1, h1, e, s1, er.ext x1, p1⟩
theorem MBw.b {e : Expr} {m : SB} (p : MBw X W e m) : MB X W e m := PW.pt p
theorem mb_not {a : Expr} {pos : Pos} {m : SB} (ha : MB X W a m) : MB X W (.UnaryOp .Not a pos) (sNot m) := by
  refine PT.wk (pt_not ha) fun σ H Q q => ?_
  obtain ⟨ρ, h, e, s, er, p⟩ := q
  refine ⟨ρ, h, e, s, er, (Post.bind p).imp fun ρ1 h1 H1 c x1 s1 p1 => ?_⟩
  exact (p1.here s1 :)
/-- and, or, not as values: all but the last True or False -/
def sAndV (a b : SE) : SE := fun e h => (a e h).bind fun x h1 => match x with | .bl true => b e h1 | .bl false => .ok (.bl false) h1 | _ => .bad
def sOrV (a b : SE) : SE := fun e h => (a e h).bind fun x h1 => match x with | .bl true => .ok (.bl true) h1 | .bl false => b e h1 | _ => .bad
def sNotV (a : SE) : SE := fun e h => (a e h).bind fun x h1 => match x with | .bl c => .ok (.bl (!c)) h1 | _ => .bad
theorem me_one {op : BoolOp} {a : Expr} {pos : Pos} {m : SE} (ha : ME X W a m) : ME X W (.BoolOp op [a] pos) m := pe_one ha
theorem me_and {a b : Expr} {rest : List Expr} {pos : Pos} {m n : SE} (ha : ME X W a m) (hb : ME X W (.BoolOp .And (b :: rest) pos) n) : ME X W (.BoolOp .And (a :: b :: rest) pos) (sAndV m n) := by
  refine PE.wk (pe_and ha hb) fun σ H Q q => ?_
  obtain ⟨ρ, h, e, s, er, p⟩ := q
  refine ⟨ρ, h, e, s, er, (Post.bind p).imp fun ρ1 h1 H1 c x1 s1 p1 v r => ?_⟩
  cases c with
  | bl b =>
    simp only [DR] at r
    cases b with
    | true => exact ⟨true, r, iteT ⟨ρ1, h1, e, s1, er.ext x1, p1⟩⟩
    | false => exact ⟨false, r, iteF (p1.here s1 _ (by simp [DR]))⟩
  | _ => exact p1.elim
theorem me_or {a b : Expr} {rest : List Expr} {pos : Pos} {m n : SE} (ha : ME X W a m) (hb : ME X W (.BoolOp .Or (b :: rest) pos) n) : ME X W (.BoolOp .Or (a :: b :: rest) pos) (sOrV m n) := by
  refine PE.wk (pe_or ha hb) fun σ H Q q => ?_
  obtain ⟨ρ, h, e, s, er, p⟩ := q
  refine ⟨ρ, h, e, s, er, (Post.bind p).imp fun ρ1 h1 H1 c x1 s1 p1 v r => ?_⟩
  cases c with
  | bl b =>
    simp only [DR] at r
    cases b with
    | true => exact ⟨true, r, iteT (p1.here s1 _ (by simp [DR]))⟩
    | false => exact ⟨false, r, iteF ⟨ρ1, h1, e, s1, er.ext x1, p1⟩⟩
  | _ => exact p1.elim
theorem me_not {a : Expr} {pos : Pos} {m : SE} (ha : ME X W a m) : ME X W (.UnaryOp .Not a pos) (sNotV m) := by
  refine PE.wk (pe_not ha) fun σ H Q q => ?_
  obtain ⟨ρ, h, e, s, er, p⟩ := q
  refine ⟨ρ, h, e, s, er, (Post.bind p).imp fun ρ1 h1 H1 c x1 s1 p1 v r => ?_⟩
  cases c with
  | bl b =>
    simp only [DR] at r
    exact ⟨b, r, p1.here s1 _ (by simp [DR])⟩
  | _ => exact p1.elim
def sIfE (c : SB) (a b : SE) : SE := fun e h => (c e h).bind fun x h1 => if x = true then a e h1 else b e h1
theorem me_if {c a b : Expr} {pos : Pos} {mc : SB} {ma mb : SE} (hc : MB X W c mc) (ha : ME X W a ma) (hb : ME X W b mb) : ME X W (.IfExp c a b pos) (sIfE mc ma mb) := by
  refine PE.wk (pe_ifExp hc ha hb) fun σ H Q q => ?_
  obtain ⟨ρ, h, e, s, er, p⟩ := q
  refine ⟨ρ, h, e, s, er, (Post.bind p).imp fun ρ1 h1 H1 c x1 s1 p1 => ?_⟩
  cases c with
  | true => exact ⟨ρ1, h1, e, s1, er.ext x1, p1⟩
  | false => exact ⟨ρ1, h1, e, s1, er.ext x1, p1⟩
/-- a OP b OP c -/
def sChain (f g : Sto → D → D → Option D) (a b c : SE) : SE := fun e h => (a e h).bind fun x h1 => (b e h1).bind fun y h2 => (R.of (f h2 x y) h2).bind fun z h3 =>
  match z with
  | .bl true => (c e h3).bind fun w h4 => R.of (g h4 y w) h4
  | .bl false => .ok (.bl false) h3
  | _ => .bad
theorem chain_read {op op' : CmpOp} {f g : Sto → D → D → Option D} {ma mb mc : SE} {r r' : R2}
    (h2 : ∀ ρ h H d1 v1 d2 v2 d Q, SR X.K ρ h H → DR X.K (Live ρ h) ρ H d1 v1 → DR X.K (Live ρ h) ρ H d2 v2 → f h d1 d2 = some d → (∀ ρ' H', Ext ρ h H ρ' h H' → SR X.K ρ' h H' → ∀ v, DR X.K (Live ρ' h) ρ' H' d v → Q v H') → r v1 v2 H Q)
    (h4 : ∀ ρ h H d1 v1 d2 v2 d Q, SR X.K ρ h H → DR X.K (Live ρ h) ρ H d1 v1 → DR X.K (Live ρ h) ρ H d2 v2 → g h d1 d2 = some d → (∀ ρ' H', Ext ρ h H ρ' h H' → SR X.K ρ' h H' → ∀ v, DR X.K (Live ρ' h) ρ' H' d v → Q v H') → r' v1 v2 H Q)
    (σ : L2.St) (H : Hp) (Q : VK) (q : tE (gd X) W (sChain f g ma mb mc) σ H Q) : tChain r r' (tE (gd X) W ma) (tE (gd X) W mb) (tE (gd X) W mc) σ H Q := by
  obtain ⟨ρ, h, e, s, er, p⟩ := q
  refine ⟨ρ, h, e, s, er, (Post.bind p).imp fun ρ1 h1 H1 d1 x1 s1 p1 v1 r1 => ?_⟩
  refine ⟨ρ1, h1, e, s1, er.ext x1, (Post.bind p1).imp fun ρ2 hh2 H2 d2 x2 s2 p2 v2 r2 => ?_⟩
  cases hf : f hh2 d1 d2 with
  | none =>
    rw [hf] at p2
    exact p2.elim
  | some d =>
    rw [hf] at p2
    refine h2 ρ2 hh2 H2 d1 v1 d2 v2 d _ s2 (r1.ext x2) r2 hf fun ρ3 H3 x3 s3 v3 r3 => ?_
    have p3 := Post.later (r := _) x3 p2
    cases d with
    | bl k =>
      simp only [DR] at r3
      cases k with
      | true =>
        have p4 : Post (gd X) ρ3 hh2 H3 (okD (gd X) Q) (fun c d _ => W c d σ) ((mc e hh2).bind fun w h4 => R.of (g h4 d2 w) h4) := p3
        refine ⟨true, r3, ⟨ρ3, hh2, e, s3, (er.ext x1).ext (x2.trans x3), (Post.bind p4).imp fun ρ4 h4' H4 d4 x4 s4 p4 v4 r4 => ?_⟩⟩
        cases hg : g h4' d2 d4 with
        | none =>
          rw [hg] at p4
          exact p4.elim
        | some d5 =>
          rw [hg] at p4
          exact h4 ρ4 h4' H4 d2 v2 d4 v4 d5 _ s4 (r2.ext (x3.trans x4)) r4 hg fun ρ' H' x s => p4 ρ' H' x s
      | false => exact ⟨false, r3, iteF (p3.here s3 _ (by simp [DR]))⟩
    | _ => exact p3.elim

theorem me_chain {a b c : Expr} {op op' : CmpOp} {pos : Pos} {f g : Sto → D → D → Option D} {ma mb mc : SE} (o : OpM X (compareOp op) f) (o' : OpM X (compareOp op') g) (ha : ME X W a ma) (hb : ME X W b mb) (hc : ME X W c mc) (hm : lastMarks [op, op'] [b, c] = false := by rfl) :
    ME X W (.Compare a [op, op'] [b, c] pos) (sChain f g ma mb mc) := by
  obtain ⟨r, h1, h2⟩ := o
  obtain ⟨r', h3, h4⟩ := o'
  exact PE.wk (pe_chain h1 h3 ha hb hc (by first | exact hm | assumption)) (chain_read (op := op) (op' := op') h2 h4)
theorem mb_chain {a b c : Expr} {op op' : CmpOp} {pos : Pos} {f g : Sto → D → D → Option D} {ma mb mc : SE} (o : OpM X (compareOp op) f) (o' : OpM X (compareOp op') g) (ha : ME X W a ma) (hb : ME X W b mb) (hc : ME X W c mc) (hm : lastMarks [op, op'] [b, c] = false := by rfl) :
    MB X W (.Compare a [op, op'] [b, c] pos) (sTest (sChain f g ma mb mc)) := by
  obtain ⟨r, h1, h2⟩ := o
  obtain ⟨r', h3, h4⟩ := o'
  exact PT.wk (pt_chain h1 h3 ha hb hc (by first | exact hm | assumption)) fun σ H Q q => chain_read (op := op) (op' := op') h2 h4 σ H _ (mb_wk (m := sChain f g ma mb mc) σ H Q q)

/-! ### arguments, displays -/
def sNil : SA := fun _ h => .ok [] h
def sCons (a : SE) (r : SA) : SA := fun e h => (a e h).bind fun x h1 => (r e h1).bind fun xs h2 => .ok (x :: xs) h2
theorem ma_nil : MA X W [] sNil := by
  refine PA.wk pa_nil fun σ H Q q => ?_
  obtain ⟨ρ, h, e, s, er, p⟩ := q
  exact p.here s _ (by simp [DRs])
theorem ma_cons {a : Expr} {es : List Expr} {ma : SE} {mr : SA} (ha : ME X W a ma) (hr : MA X W es mr) (hs : starEach (a :: es) X.env = (false, eval a X.env) :: starEach es X.env := by rfl) : MA X W (a :: es) (sCons ma mr) := by
  refine PA.wk (pa_cons ha hr hs) fun σ H Q q => ?_
  obtain ⟨ρ, h, e, s, er, p⟩ := q
  refine ⟨ρ, h, e, s, er, (Post.bind p).imp fun ρ1 h1 H1 d1 x1 s1 p1 v1 r1 => ?_⟩
  refine ⟨ρ1, h1, e, s1, er.ext x1, (Post.bind p1).imp fun ρ2 h2 H2 ds x2 s2 p2 vs r2 => ?_⟩
  exact p2.here s2 _ (by simp only [DRs]; exact ⟨_, _, rfl, r1.ext x2, r2⟩)
def sTup (m : SA) : SE := fun e h => (m e h).bind fun ds h1 => if ds.length ≤ 4096 then .ok (.tup ds) h1 else .bad
def sLst (m : SA) : SE := fun e h => (m e h).bind fun ds h1 => if ds.length ≤ 4096 then .ok (.lst ds) h1 else .bad
/-- a list that will be changed -/
def sLstC (m : SA) : SE := fun e h => (m e h).bind fun ds h1 => if ds.length ≤ 4096 then .ok (.ref h1.length) (h1 ++ [.L ds]) else .bad
theorem line4096 {n : Nat} (h : n ≤ 4096) : n ≤ sizeLine := Nat.le_trans h (by decide)
theorem me_tup {es : List Expr} {x1} {pos : Pos} {m : SA} (hm : MA X W es m) : ME X W (.Tuple es x1 pos) (sTup m) := by
  refine PE.wk (pe_tup hm) fun σ H Q q => ?_
  obtain ⟨ρ, h, e, s, er, p⟩ := q
  refine ⟨ρ, h, e, s, er, (Post.bind p).imp fun ρ1 h1 H1 ds x1 s1 p1 vs r1 => ?_⟩
  by_cases hl : ds.length ≤ 4096
  · rw [if_pos hl] at p1
    exact ⟨by rw [r1.length]; exact line4096 hl, fun a n => p1 ρ1 _ (.new n) (s1.new n) _ (DR.newTup s1 n r1)⟩
  · rw [if_neg hl] at p1
    exact p1.elim
theorem me_lst {es : List Expr} {pos : Pos} {m : SA} (hm : MA X W es m) : ME X W (.List es pos) (sLst m) := by
  refine PE.wk (pe_lst hm) fun σ H Q q => ?_
  obtain ⟨ρ, h, e, s, er, p⟩ := q
  refine ⟨ρ, h, e, s, er, (Post.bind p).imp fun ρ1 h1 H1 ds x1 s1 p1 vs r1 => ?_⟩
  by_cases hl : ds.length ≤ 4096
  · rw [if_pos hl] at p1
    exact ⟨by rw [r1.length]; exact line4096 hl, fun a n => p1 ρ1 _ (.new n) (s1.new n) _ (.newLst s1 n r1)⟩
  · rw [if_neg hl] at p1
    exact p1.elim
theorem ref_new {ρ : List Addr} {h : Sto} {H H' : Hp} {p : Addr} {K : PySem.W.Frag} {L : Addr → Prop} (s : SR K ρ h H) : DR K L (ρ ++ [p]) H' (.ref h.length) (.ref p) := by
  simp only [DR]
  refine ⟨p, ?_, rfl⟩
  rw [← s.len, List.getElem?_append_right (Nat.le_refl _)]
  simp
theorem me_lstC {es : List Expr} {pos : Pos} {m : SA} (hm : MA X W es m) : ME X W (.List es pos) (sLstC m) := by
  refine PE.wk (pe_lst hm) fun σ H Q q => ?_
  obtain ⟨ρ, h, e, s, er, p⟩ := q
  refine ⟨ρ, h, e, s, er, (Post.bind p).imp fun ρ1 h1 H1 ds x1 s1 p1 vs r1 => ?_⟩
  by_cases hl : ds.length ≤ 4096
  · rw [if_pos hl] at p1
    refine ⟨by rw [r1.length]; exact line4096 hl, fun a n => p1 (ρ1 ++ [a]) _ (.cell s1 n) (s1.cell n ⟨vs, upd_same, r1.ext (.cell s1 n)⟩) _ ?_⟩
    have z : DR X.K (Live (ρ1 ++ [a]) (h1 ++ [Cell.L ds])) (ρ1 ++ [a]) (upd H1 a (.lst vs)) (.ref h1.length) (.ref a) := ref_new s1
    exact z
  · rw [if_neg hl] at p1
    exact p1.elim

/-! ### statements -/
def sNext : SS := fun e h => .ok (.nx e) h
def sSeq (a b : SS) : SS := fun e h => (a e h).bind fun f h1 => match f with | .nx e1 => b e1 h1 | f => .ok f h1
theorem mss_nil : MSs X W [] sNext := by
  refine PSs.wk pss_nil fun N σ H q => ?_
  obtain ⟨ρ, h, e, s, er, p⟩ := q
  exact p.here s σ er
theorem mss_one {st : Stmt} {m : SS} (h : MS X W st m) : MSs X W [st] m := pss_one h
theorem mss_cons {st : Stmt} {rest : List Stmt} {m n : SS} (ha : MS X W st m) (hb : MSs X W rest n) : MSs X W (st :: rest) (sSeq m n) := by
  refine PSs.wk (pss_cons ha hb) fun N σ H q => ?_
  obtain ⟨ρ, h, e, s, er, p⟩ := q
  refine ⟨ρ, h, e, s, er, (Post.bind p).imp fun ρ1 h1 H1 f x1 s1 p1 => ?_⟩
  cases f with
  | nx e1 => exact fun σ1 er1 => ⟨ρ1, h1, e1, s1, er1, p1⟩
  | rt d => exact (p1.here s1 :)
  | bk e1 => exact (p1.here s1 :)
  | ct e1 => exact (p1.here s1 :)
theorem ms_pass {pos : Pos} : MS X W (.Pass pos) sNext := by
  refine PS.wk ps_pass fun N σ H q => ?_
  obtain ⟨ρ, h, e, s, er, p⟩ := q
  exact p.here s σ er
def sBreak : SS := fun e h => .ok (.bk e) h
def sCont : SS := fun e h => .ok (.ct e) h
theorem ms_break {pos : Pos} : MS X W (.Break pos) sBreak := by
  refine PS.wk ps_break fun N σ H q => ?_
  obtain ⟨ρ, h, e, s, er, p⟩ := q
  exact p.here s σ er
theorem ms_continue {pos : Pos} : MS X W (.Continue pos) sCont := by
  refine PS.wk ps_continue fun N σ H q => ?_
  obtain ⟨ρ, h, e, s, er, p⟩ := q
  exact p.here s σ er
def sBadS : SS := fun _ _ => .bad
theorem ms_never {st : Stmt} : MS X W st sBadS := PS.wk ps_never fun N σ H q => by
  obtain ⟨ρ, h, e, s, er, p⟩ := q
  exact p.elim
theorem mss_never {st : List Stmt} : MSs X W st sBadS := PSs.wk pss_never fun N σ H q => by
  obtain ⟨ρ, h, e, s, er, p⟩ := q
  exact p.elim
/-- of a statement: what an expression wants of errors, with the slots as they stand -/
theorem Post.slots {α : Type} {G : Gd} {ρ : List Addr} {h : Sto} {H : Hp} {ok : List Addr → Sto → Hp → α → Prop} {e : Env} {σ : L2.St} (er : ER G.K ρ h H e σ) {r : R α} (k : ∀ x e' h', r = .err x e' h' → e' = e)
    (p : Post G ρ h H ok W r) : Post G ρ h H ok (fun c d _ => W c d σ) r := by
  cases r with
  | ok a h' => exact p
  | bad => exact p
  | err x e' h' =>
    have z := k x e' h' rfl
    subst z
    intro ρ' H' cls dd σ' x' s q _
    exact p ρ' H' cls dd σ x' s q (er.ext x')
/-- an expression at a place of a statement -/
def inE {α : Type} (e : Env) : R α → R α
  | .err x _ h => .err x e h
  | r => r
theorem Post.inE {α : Type} {G : Gd} {ρ : List Addr} {h : Sto} {H : Hp} {ok : List Addr → Sto → Hp → α → Prop} {e : Env} {σ : L2.St} (er : ER G.K ρ h H e σ) {r : R α} (p : Post G ρ h H ok W (inE e r)) : Post G ρ h H ok (fun c d _ => W c d σ) r := by
  cases r with
  | ok a h' => exact p
  | bad => exact p
  | err x e' h' =>
    intro ρ' H' cls dd σ' x' s q _
    exact p ρ' H' cls dd σ x' s q (er.ext x')
def sRet (m : SE) : SS := fun e h => (inE e (m e h)).bind fun d h1 => .ok (.rt d) h1
theorem ms_ret {ex : Expr} {pos : Pos} {m : SE} (hm : ME X W ex m) : MS X W (.Return (some ex) pos) (sRet m) := by
  refine PS.wk (ps_ret hm) fun N σ H q => ?_
  obtain ⟨ρ, h, e, s, er, p⟩ := q
  refine ⟨ρ, h, e, s, er, ((Post.bind p).inE er).imp fun ρ1 h1 H1 d x1 s1 p1 => ?_⟩
  exact (p1.here s1 :)
def sRetN : SS := fun _ h => .ok (.rt .non) h
theorem ms_retN {pos : Pos} : MS X W (.Return none pos) sRetN := by
  refine PS.wk ps_retN fun N σ H q => ?_
  obtain ⟨ρ, h, e, s, er, p⟩ := q
  exact p.here s _ (by simp [DR])
def sExpr (m : SE) : SS := fun e h => (inE e (m e h)).bind fun _ h1 => .ok (.nx e) h1
theorem ms_expr {ex : Expr} {pos : Pos} {m : SE} (hm : ME X W ex m) (hs : swapsWith ex none pos.line X.env = pure false := by rfl) : MS X W (.Expr ex pos) (sExpr m) := by
  refine PS.wk (ps_expr hm hs) fun N σ H q => ?_
  obtain ⟨ρ, h, e, s, er, p⟩ := q
  refine ⟨ρ, h, e, s, er, ((Post.bind p).inE er).imp fun ρ1 h1 H1 d x1 s1 p1 v r => ?_⟩
  exact p1.here s1 σ (er.ext x1)
def sIf (c : SB) (a b : SS) : SS := fun e h => (inE e (c e h)).bind fun x h1 => if x = true then a e h1 else b e h1
theorem ms_if {c : Expr} {a b : List Stmt} {pos : Pos} {mc : SB} {ma mb : SS} (hc : MB X W c mc) (ha : MSs X W a ma) (hb : MSs X W b mb) : MS X W (.If c a b pos) (sIf mc ma mb) := by
  refine PS.wk (ps_if hc ha hb) fun N σ H q => ?_
  obtain ⟨ρ, h, e, s, er, p⟩ := q
  refine ⟨ρ, h, e, s, er, ((Post.bind p).inE er).imp fun ρ1 h1 H1 c x1 s1 p1 => ?_⟩
  cases c with
  | true => exact ⟨ρ1, h1, e, s1, er.ext x1, p1⟩
  | false => exact ⟨ρ1, h1, e, s1, er.ext x1, p1⟩
def sSet (i : Nat) (m : SE) : SS := fun e h => (inE e (m e h)).bind fun d h1 => .ok (.nx (e.set i (some d))) h1
theorem ms_set {i : Nat} {x : Str} {ex : Expr} {pos pos' : Pos} {m : SE} (hm : ME X W ex m) (hN : X.N.Nodup) (hi : X.N[i]? = some x := by rfl) (hx : Loc X.env.scope x := by first | exact Or.inl rfl | exact Or.inr rfl)
    (hs : swapsWith ex (some (.Name x pos')) pos.line X.env = pure false := by rfl) (hf : X.fn x = true ∨ X.env.scope.names.lookup x = some .local := by first | exact .inl rfl | exact .inr rfl | assumption) :
    MS X W (.Assign [.Name x pos'] ex pos) (sSet i m) := by
  refine PS.wk (ps_set (i := i) hN hi hx hm hs hf) fun N σ H q => ?_
  obtain ⟨ρ, h, e, s, er, p⟩ := q
  refine ⟨ρ, h, e, s, er, ((Post.bind p).inE er).imp fun ρ1 h1 H1 d x1 s1 p1 v r => ?_⟩
  exact p1.here s1 _ ((er.ext x1).set i r)
/-- a, b, .. = a tuple -/
def setAll : List Nat → List D → Env → Option Env
  | [], [], e => some e
  | i :: is, d :: ds, e => setAll is ds (e.set i (some d))
  | _, _, _ => none
def MGs (X : Cx) (ts : List Expr) (is : List Nat) : Prop := ∃ t, PGs X ts t ∧ ∀ ds vs e e' σ Q ρ h H, DRs X.K (Live ρ h) ρ H ds vs → ER X.K ρ h H e σ → setAll is ds e = some e' → (∀ σ', ER X.K ρ h H e' σ' → Q σ' H) → t vs σ H Q
theorem mgs_nil : MGs X [] [] := ⟨_, pgs_nil, fun ds vs e e' σ Q ρ h H r er hs q => by
  cases ds with
  | nil =>
    simp only [DRs] at r
    cases hs
    exact ⟨r, q σ er⟩
  | cons d ds => cases hs⟩
theorem mgs_cons {x : Str} {pos : Pos} {ts : List Expr} {is : List Nat} (i : Nat) (hN : X.N.Nodup) (hr : MGs X ts is) (hi : X.N[i]? = some x := by rfl) (hx : Loc X.env.scope x := by first | exact Or.inl rfl | exact Or.inr rfl)
    (hf : X.fn x = true ∨ X.env.scope.names.lookup x = some .local := by first | exact .inl rfl | exact .inr rfl | assumption)
    (hs : (assignEach (.Name x pos :: ts) X.env).map (·.2) = assign (.Name x pos) X.env :: (assignEach ts X.env).map (·.2) := by rfl) : MGs X (.Name x pos :: ts) (i :: is) := by
  obtain ⟨t, h1, h2⟩ := hr
  refine ⟨_, pgs_cons (pg_name (i := i) hN hi hx hf) h1 hs, fun ds vs e e' σ Q ρ h H r er hs q => ?_⟩
  cases ds with
  | nil => cases hs
  | cons d ds =>
    simp only [DRs] at r
    obtain ⟨v, rs, rfl, r1, r2⟩ := r
    exact ⟨v, rs, rfl, h2 ds rs _ e' _ Q ρ h H r2 (er.set i r1) hs q⟩
def sUnp (is : List Nat) (m : SE) : SS := fun e h => (inE e (m e h)).bind fun d h1 => match d with | .tup ds => (match setAll is ds e with | some e' => .ok (.nx e') h1 | none => .bad) | _ => .bad
theorem setAll_len : ∀ {is : List Nat} {ds : List D} {e e' : Env}, setAll is ds e = some e' → ds.length = is.length
  | [], [], _, _, _ => rfl
  | i :: is, d :: ds, e, e', h => by
    have := setAll_len (is := is) (ds := ds) h
    simp [this]
  | [], _ :: _, _, _, h => by cases h
  | _ :: _, [], _, _, h => by cases h
theorem ms_unp {ts : List Expr} {k : Nat} {is : List Nat} {ex : Expr} {pos pos' : Pos} {m : SE} (hc : X.calm = true) (hm : ME X W ex m) (hg : MGs X ts is) (hn : (assignEach ts X.env).length = is.length := by rfl) (hst : (assignEach ts X.env).findIdx? (·.1) = none := by rfl)
    (hs : swapsWithSole [.Tuple ts k pos'] ex pos.line X.env = pure false := by rfl) (hw : swappedStores [.Tuple ts k pos'] ex X.env = pure none := by rfl) (h1 : (assignEach [.Tuple ts k pos'] X.env).map (·.2) = [assign (.Tuple ts k pos') X.env] := by rfl) :
    MS X W (.Assign [.Tuple ts k pos'] ex pos) (sUnp is m) := by
  obtain ⟨t, g1, g2⟩ := hg
  refine PS.wk (ps_asg hm (pg_tup (n := is.length) hc g1 hn hst) hs hw h1) fun N σ H q => ?_
  obtain ⟨ρ, h, e, s, er, p⟩ := q
  refine ⟨ρ, h, e, s, er, ((Post.bind p).inE er).imp fun ρ1 h1 H1 d x1 s1 p1 v r => ?_⟩
  cases d with
  | tup ds =>
    simp only [DR] at r
    obtain ⟨a, vs, rfl, tp, rs⟩ := r
    cases hse : setAll is ds e with
    | none =>
      simp only [hse] at p1
      exact p1.elim
    | some e' =>
      simp only [hse] at p1
      exact ⟨a, vs, rfl, tp.sq, by rw [rs.length, setAll_len hse], g2 ds vs e e' σ _ ρ1 h1 H1 rs (er.ext x1) hse fun σ' er' => p1.here s1 σ' er'⟩
  | _ => exact p1.elim
/-- a, b = x, y -/
def sPar (i j : Nat) (m : SA) : SS := fun e h => (inE e (m e h)).bind fun ds h1 => match ds with | [a, b] => .ok (.nx ((e.set i (some a)).set j (some b))) h1 | _ => .bad
theorem ms_par {i j : Nat} {x y : Str} {a b : Expr} {m : SA} {px py pt pt2 pos : Pos} {kt k2} (hc : X.calm = true) (hN : X.N.Nodup) (hm : MA X W [a, b] m) (hij : i ≠ j := by decide) (hi : X.N[i]? = some x := by rfl) (hj : X.N[j]? = some y := by rfl)
    (hx : X.env.scope.names.lookup x = some .local := by rfl) (hy : X.env.scope.names.lookup y = some .local := by rfl)
    (hw : swappedStores [.Tuple [.Name x px, .Name y py] kt pt] (.Tuple [a, b] k2 pt2) X.env = pure (some [x, y]) := by rfl)
    (hs : swapsWithSole [.Tuple [.Name x px, .Name y py] kt pt] (.Tuple [a, b] k2 pt2) pos.line X.env = pure false := by rfl) :
    MS X W (.Assign [.Tuple [.Name x px, .Name y py] kt pt] (.Tuple [a, b] k2 pt2) pos) (sPar i j m) := by
  refine PS.wk (ps_par hc hN hi hj hij hx hy hm hw hs) fun N σ H q => ?_
  obtain ⟨ρ, h, e, s, er, p⟩ := q
  refine ⟨ρ, h, e, s, er, ((Post.bind p).inE er).imp fun ρ1 h1 H1 ds x1 s1 p1 vs r => ?_⟩
  match ds, r, p1 with
  | [], _, p1 => exact p1.elim
  | [_], _, p1 => exact p1.elim
  | _ :: _ :: _ :: _, _, p1 => exact p1.elim
  | [a, b], r, p1 =>
    simp only [DRs] at r
    obtain ⟨v, r1, rfl, q1, w, r2, rfl, q2, rfl⟩ := r
    exact ⟨v, w, rfl, p1.here s1 _ (((er.ext x1).set i q1).set j q2)⟩
/-- name op= e -/
def sAug (i : Nat) (f : Sto → D → D → Option D) (m : SE) : SS := fun e h => match e[i]? with
  | some (some x) => (inE e (m e h)).bind fun y h1 => (R.of (f h1 x y) h1).bind fun z h2 => .ok (.nx (e.set i (some z))) h2
  | _ => .bad
theorem ms_aug {i : Nat} {x : Str} {ex : Expr} {op : Operator} {f : Sto → D → D → Option D} {pos pos' : Pos} {m : SE} (o : OpM X (inplaceOp op) f) (hm : ME X W ex m) (hN : X.N.Nodup) (hi : X.N[i]? = some x := by rfl) (hx : Loc X.env.scope x := by first | exact Or.inl rfl | exact Or.inr rfl)
    (hf : X.fn x = true ∨ X.env.scope.names.lookup x = some .local := by first | exact .inl rfl | exact .inr rfl | assumption) : MS X W (.AugAssign (.Name x pos') op ex pos) (sAug i f m) := by
  obtain ⟨r, h1, h2⟩ := o
  refine PS.wk (ps_aug (i := i) hN hi hx hm (ti := r) (fun pins s σ H x y v u Q I r1 r2 q => h1 pins s σ H x y v u Q I r1 r2 q) hf) fun N σ H q => ?_
  obtain ⟨ρ, h, e, s, er, p⟩ := q
  unfold sAug at p
  split at p
  · rename_i d hd
    obtain ⟨v, q1, q2⟩ := er.at_ i d hd
    refine ⟨v, q1, ρ, h, e, s, er, ((Post.bind p).inE er).imp fun ρ1 hh1 H1 d1 x1 s1 p1 w rw => ?_⟩
    cases hfd : f hh1 d d1 with
    | none =>
      rw [hfd] at p1
      exact p1.elim
    | some d2 =>
      rw [hfd] at p1
      refine h2 ρ1 hh1 H1 d v d1 w d2 _ s1 (q2.ext x1) rw hfd fun ρ' H' x' s' z rz => ?_
      exact (Post.later (r := _) x' p1).here s' _ (((er.ext x1).ext x').set i rz)
  · exact p.elim
/-- while -/
def sWhile (c : SB) (b : SS) : Nat → SS
  | 0 => fun _ _ => .bad
  | n + 1 => fun e h => (inE e (c e h)).bind fun x h1 => if x = true then (b e h1).bind fun f h2 => (match f with
      | .nx e2 => sWhile c b n e2 h2
      | .ct e2 => sWhile c b n e2 h2
      | .bk e2 => .ok (.nx e2) h2
      | .rt d => .ok (.rt d) h2) else .ok (.nx e) h1
theorem ms_while {c : Expr} {body : List Stmt} {pos : Pos} {mc : SB} {mb : SS} (n : Nat) (hp : PassesOwn (model X.prog X.w) X.A X.env X.xe) (hc : MB X W c mc) (hb : MSs X W body mb) : MS X W (.While c body [] pos) (sWhile mc mb n) := by
  refine PS.wk (ps_while hp hc hb) fun N σ H q => ?_
  refine ⟨fun m σ H => tS (gd X) W (sWhile mc mb m) N σ H, ⟨n, q⟩, fun m σ H q => ?_⟩
  obtain ⟨ρ, h, e, s, er, p⟩ := q
  cases m with
  | zero => exact p.elim
  | succ m =>
    refine ⟨ρ, h, e, s, er, ((Post.bind p).inE er).imp fun ρ1 h1 H1 c x1 s1 p1 => ?_⟩
    cases c with
    | false => exact p1.here s1 σ (er.ext x1)
    | true =>
      refine ⟨fun σ' H' => tS (gd X) W (sWhile mc mb m) N σ' H', fun σ' H' z => ⟨m, Nat.lt_succ_self m, z⟩, ρ1, h1, e, s1, er.ext x1, ?_⟩
      have p2 : Post (gd X) ρ1 h1 H1 (okS (gd X) N) W ((mb e h1).bind fun f h2 => (match f with
        | .nx e2 => sWhile mc mb m e2 h2
        | .ct e2 => sWhile mc mb m e2 h2
        | .bk e2 => .ok (.nx e2) h2
        | .rt d => .ok (.rt d) h2)) := p1
      refine (Post.bind p2).imp fun ρ2 h2 H2 f x2 s2 p3 => ?_
      cases f with
      | nx e2 => exact fun σ2 er2 => ⟨ρ2, h2, e2, s2, er2, p3⟩
      | ct e2 => exact fun σ2 er2 => ⟨ρ2, h2, e2, s2, er2, p3⟩
      | bk e2 => exact (p3.here s2 :)
      | rt d => exact (p3.here s2 :)
end
end MR
end
section
set_option maxHeartbeats 1000000
/-! Mirror layer, part C: defs and their calls. -/
namespace MR
open PySem PySem.Spec PyProof.Rows L2

/-- nothing is let out -/
abbrev W0 : WX := fun _ _ _ _ => False
structure Cxg (X : Cx) (W : WX) (k : Nat) : Prop where
  calm : X.calm = true
  room : Room k X.A
  gu : X.A.guards = some []
  tk : Takes X W
  pass : PassesOwn (model X.prog X.w) X.A X.env X.xe
theorem Cxg.blk {X : Cx} {W : WX} {k : Nat} (c : Cxg X W k) (s : Shared) (H : Hp) (scope : Scope) (cenv : PySem.Env) (fp : List Addr) : Cxg (X.blk s H scope cenv fp) W0 k :=
  ⟨c.calm, c.room, c.gu, takes0, PassesOwn.never⟩

/-- an error's value, cut to the cells that are kept; a result likewise -/
def fin (k : Nat) : R D → R D
  | .ok v h => if (D.blw k v && (h.take k).all (Cell.blw k)) = true then .ok v (h.take k) else .ok v h
  | .err (.own c f d) _ h => if (D.blw k d && (h.take k).all (Cell.blw k)) = true then .err (.own c f d) [] (h.take k) else .err (.own c f d) [] h
  | .err x _ h => .err x [] h
  | .bad => .bad
def runB (N : Nat) (m : SS) : List D → Sto → R D := fun ds h => fin h.length (match m (ds.map some ++ List.replicate (N - ds.length) none) h with
  | .ok (.rt d) h' => .ok d h'
  | .ok (.nx _) h' => .ok .non h'
  | .ok _ _ => .bad
  | .err x e h' => .err x e h'
  | .bad => .bad)
/-- a def's promise: F -/
def spM (G : Gd) (n : Nat) (F : List D → Sto → R D) : Sp := fun vs H Q E => ∃ ρ ds h, SR G.K ρ h H ∧ DRs G.K (Live ρ h) ρ H ds vs ∧ ds.length = n ∧
  Post G ρ h H (okD G Q) (fun c d _ H' => E c d H') (F ds h)
structure FnG (P : Program) (w : World) (K : PySem.W.Frag) (mg : Str → Option Value) (base : Heap) (k : Nat) (f : Addr) (fd : FuncData) (ps : List Str) (F : List D → Sto → R D) : Prop where
  run : ∀ (A : Around) (outer : List PySem.Env) (s : Shared) (H : Hp) (args : Args) (us : List Value) (vs : List V) (Q : VK) (E : XK), Room k A → A.guards = some [] → Env0 P w K mg base A outer s H → BindsTo s fd args (ps.zip us) → Vals vs us →
    spM ⟨K, mg⟩ ps.length F vs H Q E → codeAny (model P w) A (.call (.ref f) args) (CR (L2.CX P w) outer P w H s Q E) s
theorem FnG.mono {P : Program} {w : World} {K : PySem.W.Frag} {mg : Str → Option Value} {base : Heap} {j k : Nat} {f : Addr} {fd : FuncData} {ps : List Str} {F : List D → Sto → R D} (g : FnG P w K mg base j f fd ps F) (h : j ≤ k) : FnG P w K mg base k f fd ps F :=
  ⟨fun A outer s H args us vs Q E hr => g.run A outer s H args us vs Q E (hr.mono h)⟩
/-- another function that gives the same wherever it gives anything -/
theorem FnG.congr {P : Program} {w : World} {K : PySem.W.Frag} {mg : Str → Option Value} {base : Heap} {k : Nat} {f : Addr} {fd : FuncData} {ps : List Str} {F F' : List D → Sto → R D} (g : FnG P w K mg base k f fd ps F)
    (e : ∀ ds h, F' ds h ≠ .bad → F ds h = F' ds h) : FnG P w K mg base k f fd ps F' := ⟨fun A outer s H args us vs Q E hr hg e0 hb r hsp => g.run A outer s H args us vs Q E hr hg e0 hb r (by
  obtain ⟨ρ, ds, h, s1, r1, l, p⟩ := hsp
  refine ⟨ρ, ds, h, s1, r1, l, ?_⟩
  have nb : F' ds h ≠ .bad := fun z => by
    rw [z] at p
    exact p.elim
  rw [e ds h nb]
  exact p)⟩

section
variable {X : Cx} {W : WX}
/-- f(..) -/
def sCall (n : Nat) (F : List D → Sto → R D) (m : SA) : SE := fun e h => (m e h).bind fun ds h1 => if ds.length = n then inE e (F ds h1) else .bad
theorem run_g {k j : Nat} {f : Addr} {fd : FuncData} {ps : List Str} {F : List D → Sto → R D} {pins : List (Addr × Obj)} {σ : L2.St} {H : Hp} {s : Shared} {Q : VK} {us : List Value} {vs : List V} (g : FnG X.prog X.w X.K X.mg X.base k f fd ps F) (c : Cxg X W j) (hk : k ≤ j)
    (hb : Binds X.K fd ps []) (I : Inv X pins σ H s) (r : Vals vs us) (h : spM (gd X) ps.length F vs H Q (WE W σ)) : wpAny (model X.prog X.w) X.A (call (.ref f) us) (EP X pins σ Q) X.xe s := by
  have hl : us.length = ps.length := by
    obtain ⟨ρ, ds, h, s1, r1, l, p⟩ := h
    rw [← r.length, r1.length, l]
  have b := hb s us I.kIn (by rw [List.append_nil]; exact hl)
  rw [List.append_nil] at b
  refine wpAny_call (codeAny_mono (g.run X.A X.stack s H ⟨us, []⟩ us vs Q (WE W σ) (c.room.mono hk) c.gu I.env0 b r h) fun r s' hq => ?_)
  match r, hq with
  | .error e, hq => exact passAt c.tk σ pins H s e s' I hq
  | .ok (.ret u), hq => exact I.after hq
theorem me_call {k j : Nat} {f : Addr} {fd : FuncData} {ps : List Str} {F : List D → Sto → R D} {x : Str} {p pos : Pos} {e : Expr} {es : List Expr} {m : SA} (g : FnG X.prog X.w X.K X.mg X.base k f fd ps F) (c : Cxg X W j) (hk : k ≤ j) (hm : X.mg x = some (.ref f)) (kp : PySem.W.keepIn X.K (.ref f) = true)
    (hb : Binds X.K fd ps []) (ha : MA X W (e :: es) m) (hg : Gl X x := by rfl) (hdb : (x == ("__debug__" : Str)) = false := by decide) (he : starEach (e :: es) X.env = (false, eval e X.env) :: starEach es X.env := by rfl)
    (hpl : (backTo pos (starEach es X.env)).any (·.1) = false := by rfl) : ME X W (.Call (.Name x p) (e :: es) [] pos) (sCall ps.length F m) := by
  refine ⟨fun pins s σ H Q I q => ?_⟩
  obtain ⟨ρ, h, en, s0, er, po⟩ := q
  have ta : tA (gd X) W m σ H fun vs H1 => spM (gd X) ps.length F vs H1 Q (WE W σ) := by
    refine ⟨ρ, h, en, s0, er, (Post.bind po).imp fun ρ1 h1 H1 ds x1 s1 p1 vs r1 => ?_⟩
    by_cases hl : ds.length = ps.length
    · rw [if_pos hl] at p1
      refine ⟨ρ1, ds, h1, s1, r1, hl, ?_⟩
      exact p1.inE (W := fun c d _ => W c d σ) (σ := σ) (er.ext x1)
    · rw [if_neg hl] at p1
      exact p1.elim
  refine wpAny_Call_Name_kw (ld_glob I hg hm ?_ hdb)
  exact PySem.W.callWith_K (h₀ := X.base) I.ok.mod.kin kp (thn (ha.run pos pins s σ H _ I ta) fun us s1 ⟨vs, H1, I1, r, q⟩ => ⟨I1.kIn, run_g g c hk hb I1 r q⟩) he hpl
theorem me_call0 {k j : Nat} {f : Addr} {fd : FuncData} {F : List D → Sto → R D} {x : Str} {p pos : Pos} (g : FnG X.prog X.w X.K X.mg X.base k f fd [] F) (c : Cxg X W j) (hk : k ≤ j) (hm : X.mg x = some (.ref f)) (kp : PySem.W.keepIn X.K (.ref f) = true)
    (hb : Binds X.K fd [] []) (hg : Gl X x := by rfl) (hdb : (x == ("__debug__" : Str)) = false := by decide) : ME X W (.Call (.Name x p) [] [] pos) (sCall 0 F sNil) := by
  refine ⟨fun pins s σ H Q I q => ?_⟩
  obtain ⟨ρ, h, en, s0, er, po⟩ := q
  have po1 : Post (gd X) ρ h H (okD (gd X) Q) (fun c d _ => W c d σ) (inE en (F [] h)) := po
  refine wpAny_Call_Name_kw (ld_glob I hg hm ?_ hdb)
  refine PySem.W.callWith_K0 I.kIn kp (run_g (us := []) (vs := []) g c hk hb I .nil ⟨ρ, [], h, s0, by simp [DRs], rfl, ?_⟩)
  exact po1.inE (W := fun c d _ => W c d σ) (σ := σ) er
end

/-! ### from a body -/
abbrev bx (P : Program) (w : World) (K : PySem.W.Frag) (mg : Str → Option Value) (base : Heap) (N : List Str) (qual : Str) (st : Stmt) (f : Addr) (cdv : Value) (A : Around) (outer : List PySem.Env) (s : Shared) (H : Hp) (E : XK) : Cx :=
  cxOf (L2.CX P w) P w K mg base N qual (defScope st) f cdv A outer s H E
theorem fin_post {G : Gd} {ρ : List Addr} {h : Sto} {H : Hp} {Q : VK} {E : XK} (s : SR G.K ρ h H) {r : R D} (p : Post G ρ h H (okD G Q) (fun c d _ H' => E c d H') (fin h.length r)) :
    Post G ρ h H (okD G Q) (fun c d _ H' => E c d H') r := by
  cases r with
  | bad => exact p
  | ok v h' =>
    intro ρ' H' x s' u ru
    simp only [fin] at p
    split at p
    · rename_i hb
      simp only [Bool.and_eq_true] at hb
      exact p (ρ'.take h.length) H' (x.cut s) (s'.cut hb.2) u (ru.cut _ _ hb.1)
    · exact p ρ' H' x s' u ru
  | err z e h' =>
    intro ρ' H' cls dd σ' x s' q er
    have nil : ∀ (ρ2 : List Addr) (h2 : Sto), ER G.K ρ2 h2 H' [] [] := fun ρ2 h2 => ⟨rfl, fun i d z => by simp at z⟩
    cases z with
    | bi n =>
      exact p ρ' H' cls dd [] x s' q (nil _ _)
    | own c f d =>
      simp only [fin] at p
      split at p
      · rename_i hb
        simp only [Bool.and_eq_true] at hb
        obtain ⟨C, a, v, h1, h2, h3, h4, h5, h6⟩ := q
        exact p (ρ'.take h.length) H' cls dd [] (x.cut s) (s'.cut hb.2) ⟨C, a, v, h1, h2, h3, h4, fun l => h5 (live_take l), h6.cut _ _ hb.1⟩ (nil _ _)
      · exact p ρ' H' cls dd [] x s' q (nil _ _)
theorem start_er {K : PySem.W.Frag} {ρ : List Addr} {h : Sto} {H : Hp} {ds : List D} {vs : List V} {N : List Str} (r : DRs K (Live ρ h) ρ H ds vs) : ER K ρ h H (ds.map some ++ List.replicate (N.length - ds.length) none) (L2.start N vs) := by
  unfold L2.start
  rw [r.length]
  refine ⟨by simp [r.length], fun i d z => ?_⟩
  by_cases hi : i < ds.length
  · rw [List.getElem?_append_left (by simpa using hi), List.getElem?_map] at z
    cases q : ds[i]? with
    | none =>
      rw [q] at z
      cases z
    | some d' =>
      rw [q] at z
      cases z
      obtain ⟨v, h1, h2⟩ := r.get q
      refine ⟨v, ?_, h2⟩
      rw [List.getElem?_append_left (by simpa [r.length] using hi), List.getElem?_map, h1]
      rfl
  · rw [List.getElem?_append_right (by simpa using hi), List.getElem?_replicate] at z
    split at z <;> cases z

theorem gu_deeper {A : Around} (env : PySem.Env) (h : A.guards = some []) : (A.deeper env).guards = some [] := by
  first
    | exact h
    | (simp [Around.deeper, h])
section
variable {P : Program} {w : World} {K : PySem.W.Frag} {mg : Str → Option Value} {base : Heap}
/-- THE RULE for a def: from its body's term -/
theorem fnG_of {x qual : Str} {st : Stmt} {f : Addr} {fd : FuncData} {N ps : List Str} {k : Nat} {m : SS} (F : Fun K x qual st f fd) (S : FnScope N ps (defScope st))
    (hbody : ∀ (cdv : Value) (A : Around) (outer : List PySem.Env) (s : Shared) (H : Hp) (E : XK), Cxg (bx P w K mg base N qual st f cdv A outer s H E) (fun c d _ H' => E c d H') k →
      MSs (bx P w K mg base N qual st f cdv A outer s H E) (fun c d _ H' => E c d H') (defBody st) m) : FnG P w K mg base (k + 1) f fd ps (runB N.length m) := by
  obtain ⟨oc, od, kV, doc, pm, an, cdv, ct, osl, rfl, lk, hcd⟩ := F.ex
  refine ⟨fun A outer s H args us vs Q E hr hg e0 hb r hsp => ?_⟩
  obtain ⟨ρ, ds, h, s0, rd, hl, po⟩ := hsp
  have KX : K.In s.heap := e0.mod.kin.keeps fun b o e => (e0.bs b o e).1
  have hl2 : vs.length = ps.length := by rw [rd.length, hl]
  have room : Room k (A.deeper (envOfC qual (defScope st) s.heap.objs.size f cdv)) := hr.deeper _
  have body := hbody cdv A outer s H E ⟨rfl, room, gu_deeper _ hg, takes_of rfl rfl rfl rfl, passes_of rfl⟩
  have places : ∀ y ∈ ps.zip us, (defScope st).names.lookup y.1 = some .local ∨ ((defScope st).names.lookup y.1 = some .cell ∧ ((cellsFrom (s.heap.objs.size + 1) (defScope st).names []).lookup y.1).isSome = true) := fun y hy =>
    (S.par y.1 (List.of_mem_zip (a := y.1) (b := y.2) hy).1).imp id fun q => ⟨q, PySem.W.cellsFrom_some _ _ _ (.inl q)⟩
  refine codeAny_call_function hr.depth (KX _ _ lk) rfl S.co S.gen rfl (PySem.W.codeRec_of KX hcd) (hb _ _ _ _ ?_)
  refine wpAny_newFunctionEnv_cells S.kind places fun env he s1 inC => ?_
  subst he
  refine ⟨(e0.mod.nolimit.keeps fun b o e => (e0.bs b o e).1).keeps inC.toInCall.keep, codeAny_func ?_⟩
  have I := inv_start (CX := L2.CX P w) (E := E) (f := f) (cd := cdv) (qual := qual) S hr.hd e0 hl2 r inC
  have wish : tS ⟨K, mg⟩ (fun c d _ H' => E c d H') m { nx := fun _ H' => Q .non H', rt := Q } (L2.start N vs) H := by
    refine ⟨ρ, h, _, s0, start_er rd, ?_⟩
    have po2 := fin_post s0 po
    revert po2
    generalize m (ds.map some ++ List.replicate (N.length - ds.length) none) h = res
    intro po2
    match res, po2 with
    | .ok (.rt d) h', po2 => exact po2
    | .ok (.nx e) h', po2 => exact fun ρ' H' x' s' σ er => po2 ρ' H' x' s' .non (by simp [DR])
    | .ok (.bk e) h', po2 => exact po2.elim
    | .ok (.ct e) h', po2 => exact po2.elim
    | .err z e h', po2 => exact po2
    | .bad, po2 => exact po2
  refine wpAny_mono (body.run [] s1 (L2.start N vs) H _ I wish) (fun fl s' hs => ?_) fun e s' hs => hs
  cases fl with
  | ret u =>
    obtain ⟨v, σ', H', J, rv, q⟩ := hs
    exact ⟨v, H', J.os, J.bare, J.base, J.hok, rv, q⟩
  | next =>
    obtain ⟨σ', H', J, q⟩ := hs
    exact ⟨.non, H', J.os, J.bare, J.base, J.hok, rfl, q⟩
  | brk =>
    obtain ⟨_, _, _, q⟩ := hs
    exact q.elim
  | cont =>
    obtain ⟨_, _, _, q⟩ := hs
    exact q.elim
end

/-! ### the law's end -/
section
variable {P : Program} {w : World} {K : PySem.W.Frag} {mg mb : Str → Option Value}
theorem law_callG {k : Nat} {fa a : Addr} {fd : FuncData} {x : Str} {F : List D → Sto → R D} {s₁ : Shared} {vs : List Value} {ns : List Int}
    (KX : K.In s₁.heap) (hns : s₁.heap.Ns mainGlobals mg) (hb : s₁.heap.Ns builtinsNs mb) (hbb : ∀ x : Str, x ≠ "__name__" → mb x = bootBuiltins x) (hlim : s₁.heap.NoLimit) (hg : s₁.gens = #[])
    (ha : s₁.heap.get? a = some { cls := .type "list", data := .seq vs.toArray }) (hi : IntsAre vs ns) (hl : ns.length ≤ sizeLine) (hr : Room k callerA)
    (G : ∀ base : Heap, K.In base → base.Ns mainGlobals mg → FnG P w K mg base k fa fd [x] F) (hbind : ∀ (s : Shared) (u : Value), BindsTo s fd ⟨[u], []⟩ [(x, u)])
    (hF : ∃ h, F [.lst (ns.map D.int)] [] = .ok (.bl true) h) :
    codeAny (model P w) callerA (.call (.ref fa) ⟨[.ref a], []⟩) (fun r s' => r = .ok (.ret (.bool true)) ∧ OldK s₁.heap s'.heap ∧ s'.os = s₁.os ∧ AllBare s'.gens) s₁ := by
  have rv := vals_ints hi
  have core : ∀ H : Hp, (∀ b, b ≠ a → H b = none) → Lp K (Live [] []) H a (ns.map V.int) → HOk P w H s₁.heap → (H a = none ∨ (K.lookup a = none ∧ ∃ o u, H a = some (.frz o u))) →
      codeAny (model P w) callerA (.call (.ref fa) ⟨[.ref a], []⟩) (fun r s' => r = .ok (.ret (.bool true)) ∧ OldK s₁.heap s'.heap ∧ s'.os = s₁.os ∧ AllBare s'.gens) s₁ := by
    intro H Hn hS hok hA
    have other : ∀ {b : Addr} {o : Obj}, s₁.heap.get? b = some o → b ≠ a → (hidT s₁.heap H).get? b = some o := fun e n => hidT_get e (Hn _ n)
    have nsD : ∀ {b : Addr} {m : Str → Option Value}, s₁.heap.Ns b m → (hidT s₁.heap H).Ns b m := fun {b m} ⟨o, es, ep, e, d, r⟩ => ⟨o, es, ep, other e (fun z => by
      rw [z, ha] at e
      cases e
      cases d), d, r⟩
    have kin : K.In (hidT s₁.heap H) := fun b o e => by
      by_cases hba : b = a
      · subst hba
        rcases hA with q | ⟨q, _⟩
        · exact hidT_get (KX b o e) q
        · rw [q] at e
          cases e
      · exact other (KX b o e) hba
    have md : Mod K mg (hidT s₁.heap H) := ⟨kin, nsD hns, ⟨mb, nsD hb, hbb⟩, let ⟨mc, h1, h2⟩ := hlim; ⟨mc, nsD h1, h2⟩⟩
    have e0 : Env0 P w K mg (hidT s₁.heap H) callerA [] s₁ H := ⟨rfl, md, fun b o e => of_hidT e, Nat.le_of_eq (hidT_size _ _), trivial, fun b hb => absurd (show b ∈ ([] : List Addr) from hb) (by simp), hok, .of_eq hg⟩
    obtain ⟨hE, eF⟩ := hF
    have pr : spM ⟨K, mg⟩ ([x] : List Str).length F [.ref a] H (fun v _ => v = .bl true) (fun _ _ _ => False) := by
      refine ⟨[], [.lst (ns.map D.int)], [], ⟨rfl, fun i j b ci cj e => by simp at e, fun i c b e => by simp at e⟩, ?_, rfl, ?_⟩
      · refine DRs.one ?_
        simp only [DR]
        exact ⟨a, ns.map V.int, rfl, hS, DRs.ints⟩
      · rw [eF]
        intro ρ' H' _ _ v r
        simpa only [DR] using r
    refine codeAny_mono ((G _ kin (nsD hns)).run callerA [] s₁ H ⟨[.ref a], []⟩ [.ref a] [.ref a] _ _ hr rfl e0 (hbind s₁ (.ref a)) (.cons rfl .nil) pr) fun r s' h => ?_
    match r, h with
    | .error e, h =>
      obtain ⟨_, _, _, _, _, _, _, _, _, _, _, _, z⟩ := h
      exact z.elim
    | .ok (.ret u), ⟨v, H', os, bare, un, hok', r', q⟩ =>
      have q' : v = .bl true := q
      subst q'
      obtain rfl : u = Value.bool true := r'
      refine ⟨rfl, OldK.of_keep fun b o e => ?_, os, bare⟩
      have plain : H b = none → s'.heap.get? b = some o := fun n => un.keep b o e n (by intro z; exact absurd (show b ∈ ([] : List Addr) from z) (by simp)) (by simp)
      by_cases hba : b = a
      · subst hba
        rcases hA with q | ⟨_, ob, u, q⟩
        · exact plain q
        · obtain ⟨e1, _⟩ := hok b _ q
          obtain ⟨e2, _⟩ := hok' b _ (un.frzs b _ _ q)
          rw [e] at e1
          cases e1
          exact e2
      · exact plain (Hn b hba)
  cases hk : K.lookup a with
  | some o =>
    have e := KX a o hk
    rw [ha] at e
    cases e
    exact core (fun _ => none) (fun _ _ => rfl) (.inr ⟨vs.toArray, _, hk, by rw [List.size_toArray, hi.length]; exact hl, by simpa using rv⟩) (fun b u z => by cases z) (.inl rfl)
  | none =>
    have Ha : (fun b => if b = a then some (HO.frz { cls := .type "list", data := .seq vs.toArray } (.lst (ns.map V.int))) else none : Hp) a = some (HO.frz { cls := .type "list", data := .seq vs.toArray } (.lst (ns.map V.int))) := if_pos rfl
    refine core _ (fun b n => if_neg n) (.inl ⟨.inr ⟨_, Ha⟩, fun ⟨i, c, e, _⟩ => by simp at e⟩) (fun b o e => ?_) (.inr ⟨hk, _, _, Ha⟩)
    by_cases hba : b = a
    · subst hba
      have e' := Ha.symm.trans e
      cases e'
      exact ⟨ha, by rw [List.length_map]; exact hl, vs, _, rv, ha⟩
    · have e' : (none : Option HO) = some o := (if_neg hba).symm.trans e
      cases e'
/-- the goal that k_head leaves, from the law's function -/
theorem walk_ofG {l : PySem.W.OpenLaw} {n k : Nat} {q : Program} {loose : List Str} {XP : (Str → Option Value) → Heap → Prop} {YP : World → Heap → Prop} {d : DefRec} {K : Params → PySem.W.Frag} {F : List D → Sto → R D} {x : Str}
    (hn : l.most = some n) (hn2 : n ≤ sizeLine) (hdf : d.params.defaults = []) (hr : Room k callerA) (hY : ∀ (w : World) (h : Heap), YP w h → (K w.params).In h)
    (G : ∀ (w : World) (mg : Str → Option Value) (fa : Addr) (h : Heap), (K w.params).In h → h.Ns mainGlobals mg → mg d.name = some (.ref fa) →
      ∃ fd : FuncData, (∀ (s : Shared) (u : Value), BindsTo s fd ⟨[u], []⟩ [(x, u)]) ∧ ∀ base : Heap, (K w.params).In base → base.Ns mainGlobals mg → FnG l.prog w (K w.params) mg base k fa fd [x] F)
    (hF : ∀ ns : List Int, ns.length ≤ n → ∃ h, F [.lst (ns.map D.int)] [] = .ok (.bl true) h) : PySem.W.WalkO q loose XP YP l.row.toRowW d [] (fun f vs => PySem.call f vs) := by
  refine Att.attach_call hn hdf fun w s₀ s₁ mg mb fa o pm cd doc a vs ns T Y ho hd hcd hmg hobj hints hlen hg => ?_
  have KX := hY w _ Y
  obtain ⟨fd, hb, hG⟩ := G w mg fa _ KX T.T.g hmg
  exact law_callG KX T.T.g T.T.b T.T.builtins T.T.nolimit hg hobj hints (Nat.le_trans hlen hn2) hr hG hb (hF ns hlen)
end
end MR
end
section
set_option maxHeartbeats 1000000
/-! Mirror layer, part D: operators, built-ins, methods, subscripts. -/
namespace MR
open PySem PySem.Spec PyProof.Rows L2

/-! ### lists by value or by cell -/
def res (h : Sto) : D → D
  | .ref n => match h[n]? with | some (.L l) => .lst l | _ => .ref n
  | d => d
section
variable {K : PySem.W.Frag} {ρ : List Addr} {h : Sto} {H : Hp} {d : D} {v : V}
/-- a list's address and items -/
def LsV (K : PySem.W.Frag) (H : Hp) (a : Addr) (vs : List V) : Prop := Rd H a (.lst vs) ∨ ∃ (its : Array Value) (n : Nat), K.lookup a = some { cls := .type "list", data := .seq its n } ∧ its.size ≤ sizeLine ∧ Vals vs its.toList
theorem LsV.sq {a : Addr} {vs : List V} (t : LsV K H a vs) : SqL K H a vs := by
  rcases t with t | ⟨its, n, t, z, r⟩
  · exact .inl t
  · exact .inr ⟨_, its, n, t, rfl, rfl, rfl, z, r⟩
theorem LsV.ext {ρ' : List Addr} {h' : Sto} {H' : Hp} {a : Addr} {vs : List V} (t : Lp K (Live ρ h) H a vs) (x : Ext ρ h H ρ' h' H') : LsV K H' a vs := (t.ext x).imp And.left id
theorem LsV.obj {X : Cx} {pins : List (Addr × Obj)} {σ : L2.St} {s : Shared} {a : Addr} {vs : List V} (I : Inv X pins σ H s) (t : LsV X.K H a vs) :
    vs.length ≤ sizeLine ∧ ∃ (its : List Value) (n : Nat), Vals vs its ∧ s.heap.get? a = some { cls := .type "list", data := .seq its.toArray n } := by
  rcases t with t | ⟨its, n, t, z, r⟩
  · obtain ⟨z, its, n, r, e⟩ := t.ok I.hok
    exact ⟨z, its, n, r, e⟩
  · refine ⟨by rw [r.length]; simpa using z, its.toList, n, r, ?_⟩
    rw [I.kIn a _ t]
theorem res_lst (s : SR K ρ h H) {l : List D} (r : DR K (Live ρ h) ρ H d v) (e : res h d = .lst l) : ∃ a vs, v = .ref a ∧ LsV K H a vs ∧ DRs K (Live ρ h) ρ H l vs := by
  cases d with
  | lst m =>
    cases e
    simp only [DR] at r
    obtain ⟨a, vs, e1, t, q⟩ := r
    exact ⟨a, vs, e1, t.imp And.left id, q⟩
  | ref n =>
    simp only [DR] at r
    obtain ⟨a, e1, e2⟩ := r
    simp only [res] at e
    split at e
    · rename_i m hm
      cases e
      obtain ⟨vs, f1, f2⟩ := s.cells n _ a hm e1
      exact ⟨a, vs, e2, .inl (.inl f1), f2⟩
    · cases e
  | _ => cases e
theorem dr_int {L : Addr → Prop} {i : Int} (r : DR K L ρ H (.int i) v) : v = .int i := by simpa only [DR] using r
theorem dr_bl {L : Addr → Prop} {i : Bool} (r : DR K L ρ H (.bl i) v) : v = .bl i := by simpa only [DR] using r
theorem dr_str {L : Addr → Prop} {i : Str} (r : DR K L ρ H (.str i) v) : v = .str i := by simpa only [DR] using r
theorem dr_non {L : Addr → Prop} (r : DR K L ρ H .non v) : v = .non := by simpa only [DR] using r
theorem dr_tup {L : Addr → Prop} {l : List D} (r : DR K L ρ H (.tup l) v) : ∃ a vs, v = .ref a ∧ Tp K L H a vs ∧ DRs K L ρ H l vs := by simpa only [DR] using r
theorem dr_mkInt {L : Addr → Prop} {i : Int} : DR K L ρ H (.int i) (.int i) := by simp only [DR]
theorem dr_mkBl {L : Addr → Prop} {i : Bool} : DR K L ρ H (.bl i) (.bl i) := by simp only [DR]
theorem dr_mkStr {L : Addr → Prop} {i : Str} : DR K L ρ H (.str i) (.str i) := by simp only [DR]
theorem dr_mkNon {L : Addr → Prop} : DR K L ρ H .non .non := by simp only [DR]
end

/-! ### + - * // % -/
section
variable {X : Cx}
/-- list + list -/
theorem op_catL : OpR X (binaryOp .Add) (fun x y H Q => ∃ l b xs zs, x = .ref l ∧ y = .ref b ∧ LsV X.K H l xs ∧ LsV X.K H b zs ∧ xs.length + zs.length ≤ sizeLine ∧ ∀ p, H p = none → Q (.ref p) (upd H p (.lst (xs ++ zs)))) := by
  intro pins s σ H x y v u Q I rx ry h
  obtain ⟨l, b, xs, zs, rfl, rfl, hH, hB, hz, q⟩ := h
  cases rx
  cases ry
  obtain ⟨z1, its, n, r, e⟩ := hH.obj I
  obtain ⟨z2, its2, n2, r2, e2⟩ := hB.obj I
  have l1 := r.length
  have l2 := r2.length
  refine PySem.P.add_list e e2 ?_ (by rw [List.size_toArray, List.size_toArray]; omega)
  rw [show its.toArray ++ its2.toArray = (its ++ its2).toArray by simp]
  exact ⟨.ref _, _, I.lnew (t' := s.toks) (r.append r2) (by rw [List.length_append]; omega), rfl, q _ I.fresh⟩
def LN : Nat := 16777216
theorem line_of {n : Nat} (h : n ≤ LN) : n ≤ sizeLine := by rw [sizeLine_eq]; exact h
def fAdd (h : Sto) (x y : D) : Option D := match res h x, res h y with
  | .int i, .int j => some (.int (i + j))
  | .str a, .str b => if a.length + b.length ≤ LN then some (.str (a ++ b)) else none
  | .lst a, .lst b => if a.length + b.length ≤ LN then some (.lst (a ++ b)) else none
  | .tup a, .tup b => if a.length + b.length ≤ LN then some (.tup (a ++ b)) else none
  | _, _ => none
theorem res_int {h : Sto} {d : D} {i : Int} (e : res h d = .int i) : d = .int i := by
  cases d <;> simp only [res] at e <;> try exact e
  all_goals (split at e <;> cases e)
theorem res_str {h : Sto} {d : D} {i : Str} (e : res h d = .str i) : d = .str i := by
  cases d <;> simp only [res] at e <;> try exact e
  all_goals (split at e <;> cases e)
theorem res_tup {h : Sto} {d : D} {i : List D} (e : res h d = .tup i) : d = .tup i := by
  cases d <;> simp only [res] at e <;> try exact e
  all_goals (split at e <;> cases e)
theorem om_add : OpM X (binaryOp .Add) fAdd := by
  refine ⟨_, (L2.op_add (X := X)).or (op_add_str.or (op_catL.or op_catA)), fun ρ h H d1 v1 d2 v2 d Q s r1 r2 e q => ?_⟩
  unfold fAdd at e
  split at e
  · rename_i i j e1 e2
    cases res_int e1
    cases res_int e2
    cases e
    exact .inl ⟨i, j, dr_int r1, dr_int r2, q ρ H .refl s _ dr_mkInt⟩
  · rename_i i j e1 e2
    cases res_str e1
    cases res_str e2
    split at e
    · cases e
      exact .inr (.inl ⟨i, j, dr_str r1, dr_str r2, line_of (by assumption), q ρ H .refl s _ dr_mkStr⟩)
    · cases e
  · rename_i l m e1 e2
    obtain ⟨a, vs, rfl, la, ra⟩ := res_lst s r1 e1
    obtain ⟨b, ws, rfl, lb, rb⟩ := res_lst s r2 e2
    split at e
    · rename_i hl
      cases e
      exact .inr (.inr (.inl ⟨a, b, vs, ws, rfl, rfl, la, lb, by rw [ra.length, rb.length]; exact line_of hl, fun p n => q ρ _ (.new n) (s.new n) _ (.newLst s n (ra.append rb))⟩))
    · cases e
  · rename_i l m e1 e2
    cases res_tup e1
    cases res_tup e2
    obtain ⟨a, vs, rfl, ta, ra⟩ := dr_tup r1
    obtain ⟨b, ws, rfl, tb, rb⟩ := dr_tup r2
    split at e
    · rename_i hl
      cases e
      refine .inr (.inr (.inr ⟨a, b, vs, ws, rfl, rfl, ta.sq, tb.sq, by rw [ra.length, rb.length]; exact line_of hl, fun z => ?_, fun _ z => ?_, fun _ _ p n => q ρ _ (.new n) (s.new n) _ (.newTup s n (ra.append rb))⟩))
      · have hm := (ra.append rb)
        rw [z, List.nil_append] at hm
        exact q ρ H .refl s _ (by simp only [DR]; exact ⟨b, ws, rfl, tb, hm⟩)
      · have hm := (ra.append rb)
        rw [z, List.append_nil] at hm
        exact q ρ H .refl s _ (by simp only [DR]; exact ⟨a, vs, rfl, ta, hm⟩)
    · cases e
  · cases e
def fIadd (_ : Sto) (x y : D) : Option D := match x, y with
  | .int i, .int j => some (.int (i + j))
  | .str a, .str b => if a.length + b.length ≤ LN then some (.str (a ++ b)) else none
  | _, _ => none
theorem om_iadd : OpM X (inplaceOp .Add) fIadd := by
  refine ⟨_, (L2.iop_add (X := X)).or iop_add_str, fun ρ h H d1 v1 d2 v2 d Q s r1 r2 e q => ?_⟩
  unfold fIadd at e
  split at e
  · cases e
    exact .inl ⟨_, _, dr_int r1, dr_int r2, q ρ H .refl s _ dr_mkInt⟩
  · split at e
    · cases e
      exact .inr ⟨_, _, dr_str r1, dr_str r2, line_of (by assumption), q ρ H .refl s _ dr_mkStr⟩
    · cases e
  · cases e
def fSub (_ : Sto) (x y : D) : Option D := match x, y with | .int i, .int j => some (.int (i - j)) | _, _ => none
theorem om_sub : OpM X (binaryOp .Sub) fSub := by
  refine ⟨_, L2.op_sub, fun ρ h H d1 v1 d2 v2 d Q s r1 r2 e q => ?_⟩
  unfold fSub at e
  split at e
  · cases e
    exact ⟨_, _, dr_int r1, dr_int r2, q ρ H .refl s _ dr_mkInt⟩
  · cases e
theorem om_isub : OpM X (inplaceOp .Sub) fSub := by
  refine ⟨_, L2.iop_sub, fun ρ h H d1 v1 d2 v2 d Q s r1 r2 e q => ?_⟩
  unfold fSub at e
  split at e
  · cases e
    exact ⟨_, _, dr_int r1, dr_int r2, q ρ H .refl s _ dr_mkInt⟩
  · cases e
theorem op_mul_str : OpR X (binaryOp .Mult) (fun x y H Q => ∃ z k, x = .str z ∧ y = .int k ∧ MulOk z k ∧ Q (.str (Txt.mul z k)) H) := by
  intro pins s σ H x y v u Q I rx ry h
  obtain ⟨z, k, rfl, rfl, hz, q⟩ := h
  obtain ⟨t, rfl⟩ := rx
  obtain ⟨t', rfl⟩ := ry
  exact SB.mul hz fun t1 k1 => ⟨.str _, H, I.tok _, ⟨_, rfl⟩, q⟩
theorem op_repL : OpR X (binaryOp .Mult) rRep := op_rep
def small (i : Int) : Bool := decide (-(2 ^ 64) < i ∧ i < 2 ^ 64)
/-- texts and lists: by a small number -/
def fMul (h : Sto) (x y : D) : Option D := match x, y with
  | .int i, .int j => if (small i || small j) = true then some (.int (i * j)) else none
  | .str z, .int k => if 0 ≤ k ∧ k ≤ 64 ∧ z.length ≤ 64 then some (.str (Txt.mul z k)) else none
  | _, _ => none
theorem mulOk_small {z : Str} {k : Int} (h : 0 ≤ k ∧ k ≤ 64 ∧ z.length ≤ 64) : MulOk z k := by
  obtain ⟨h1, h2, h3⟩ := h
  refine ⟨?_, fun a _ => ?_, fun a _ => ?_⟩
  · have e1 : decide (k < -(2 ^ 63 : Int)) = false := decide_eq_false (by omega)
    have e2 : decide (k ≥ 2 ^ 63) = false := decide_eq_false (by omega)
    rw [e1, e2]
    rfl
  · have p : (0 : Int) < k := by omega
    have q : (z.length : Int) ≤ (2 ^ 63 - 1) / k := by
      refine (Int.le_ediv_iff_mul_le p).mpr ?_
      have a1 : (z.length : Int) * k ≤ 64 * 64 := Int.mul_le_mul (by omega) h2 (by omega) (by omega)
      omega
    omega
  · have hk : k.toNat ≤ 64 := by omega
    have a1 : z.length * k.toNat ≤ 64 * 64 := Nat.mul_le_mul h3 hk
    unfold Builtin.Str.tooLong
    exact decide_eq_false (by rw [sizeLine_eq]; omega)
theorem om_mul : OpM X (binaryOp .Mult) fMul := by
  refine ⟨_, (L2.op_mul (X := X)).or op_mul_str, fun ρ h H d1 v1 d2 v2 d Q s r1 r2 e q => ?_⟩
  unfold fMul at e
  split at e
  · split at e
    · rename_i hs
      cases e
      refine .inl ⟨_, _, dr_int r1, dr_int r2, ?_, q ρ H .refl s _ dr_mkInt⟩
      simp only [small, Bool.or_eq_true, decide_eq_true_eq] at hs
      exact hs
    · cases e
  · split at e
    · cases e
      exact .inr ⟨_, _, dr_str r1, dr_int r2, mulOk_small (by assumption), q ρ H .refl s _ dr_mkStr⟩
    · cases e
  · cases e
def fFdiv (_ : Sto) (x y : D) : Option D := match x, y with | .int i, .int j => if j ≠ 0 ∧ j.natAbs < 1073741824 then some (.int (i.fdiv j)) else none | _, _ => none
theorem om_fdiv : OpM X (binaryOp .FloorDiv) fFdiv := by
  refine ⟨_, L2.op_fdivN, fun ρ h H d1 v1 d2 v2 d Q s r1 r2 e q => ?_⟩
  unfold fFdiv at e
  split at e
  · split at e
    · cases e
      exact ⟨_, _, dr_int r1, dr_int r2, (by assumption), q ρ H .refl s _ dr_mkInt⟩
    · cases e
  · cases e
def fMod (_ : Sto) (x y : D) : Option D := match x, y with | .int i, .int j => if j ≠ 0 then some (.int (i.fmod j)) else none | _, _ => none
theorem om_mod : OpM X (binaryOp .Mod) fMod := by
  refine ⟨_, L2.op_modN, fun ρ h H d1 v1 d2 v2 d Q s r1 r2 e q => ?_⟩
  unfold fMod at e
  split at e
  · split at e
    · cases e
      exact ⟨_, _, dr_int r1, dr_int r2, (by assumption), q ρ H .refl s _ dr_mkInt⟩
    · cases e
  · cases e
def fNeg (_ : Sto) (x : D) : Option D := match x with | .int i => some (.int (-i)) | _ => none
def sUn (f : Sto → D → Option D) (a : SE) : SE := fun e h => (a e h).bind fun x h1 => R.of (f h1 x) h1
theorem me_neg {W : WX} {a : Expr} {pos : Pos} {ma : SE} (ha : ME X W a ma) : ME X W (.UnaryOp .USub a pos) (sUn fNeg ma) := by
  refine PE.wk (pe_un un_neg ha) fun σ H Q q => ?_
  obtain ⟨ρ, h, e, s, er, p⟩ := q
  refine ⟨ρ, h, e, s, er, (Post.bind p).imp fun ρ1 h1 H1 d1 x1 s1 p1 v1 r1 => ?_⟩
  cases d1 with
  | int i => exact ⟨i, dr_int r1, p1.here s1 _ dr_mkInt⟩
  | _ => exact p1.elim

/-! ### comparisons -/
def cmpI (f : Int → Int → Bool) (_ : Sto) (x y : D) : Option D := match x, y with | .int i, .int j => some (.bl (f i j)) | _, _ => none
theorem om_ltI : OpM X (compareOp .Lt) (cmpI fun i j => decide (i < j)) := by
  refine ⟨_, L2.op_lt, fun ρ h H d1 v1 d2 v2 d Q s r1 r2 e q => ?_⟩
  unfold cmpI at e
  split at e
  · cases e
    exact ⟨_, _, dr_int r1, dr_int r2, q ρ H .refl s _ dr_mkBl⟩
  · cases e
theorem om_leI : OpM X (compareOp .LtE) (cmpI fun i j => decide (i ≤ j)) := by
  refine ⟨_, L2.op_le, fun ρ h H d1 v1 d2 v2 d Q s r1 r2 e q => ?_⟩
  unfold cmpI at e
  split at e
  · cases e
    exact ⟨_, _, dr_int r1, dr_int r2, q ρ H .refl s _ dr_mkBl⟩
  · cases e
theorem om_gtI : OpM X (compareOp .Gt) (cmpI fun i j => decide (j < i)) := by
  refine ⟨_, L2.op_gt, fun ρ h H d1 v1 d2 v2 d Q s r1 r2 e q => ?_⟩
  unfold cmpI at e
  split at e
  · cases e
    exact ⟨_, _, dr_int r1, dr_int r2, q ρ H .refl s _ dr_mkBl⟩
  · cases e
theorem om_geI : OpM X (compareOp .GtE) (cmpI fun i j => decide (j ≤ i)) := by
  refine ⟨_, L2.op_ge, fun ρ h H d1 v1 d2 v2 d Q s r1 r2 e q => ?_⟩
  unfold cmpI at e
  split at e
  · cases e
    exact ⟨_, _, dr_int r1, dr_int r2, q ρ H .refl s _ dr_mkBl⟩
  · cases e
mutual
def D.py : D → PyData
  | .non => .none
  | .bl b => .bool b
  | .int i => .int i
  | .str s => .str s
  | .tup l => .tuple (D.pys l)
  | .lst l => .list (D.pys l)
  | .ref _ => .none
def D.pys : List D → List PyData
  | [] => []
  | d :: ds => D.py d :: D.pys ds
end
/-- no cell in it, at most n deep, its texts of right signs -/
def D.flat : Nat → D → Bool
  | 0, d => match d with
    | .str s => PyData.strOk s
    | .tup _ => false
    | .lst _ => false
    | .ref _ => false
    | _ => true
  | n + 1, d => match d with
    | .str s => PyData.strOk s
    | .tup l => l.all (D.flat n)
    | .lst l => l.all (D.flat n)
    | .ref _ => false
    | _ => true
theorem flat_all {K : PySem.W.Frag} {L : Addr → Prop} {ρ : List Addr} {H : Hp} {n : Nat} (ih : ∀ (d : D) (v : V), D.flat n d = true → DR K L ρ H d v → Dp K H v d.py ∧ d.py.canLay0 = true ∧ d.py.depth ≤ n) :
    ∀ (l : List D) (vs : List V), l.all (D.flat n) = true → DRs K L ρ H l vs → DpAll K H vs (D.pys l) ∧ PyData.canLayAll0 (D.pys l) = true ∧ PyData.depthAll (D.pys l) ≤ n
  | [], vs, _, r => by
    simp only [DRs] at r
    subst r
    exact ⟨.nil, by simp [D.pys, PyData.canLayAll0], by simp [D.pys, PyData.depthAll]⟩
  | d :: ds, vs, hb, r => by
    simp only [DRs] at r
    obtain ⟨v, rs, rfl, r1, r2⟩ := r
    simp only [List.all_cons, Bool.and_eq_true] at hb
    obtain ⟨a1, a2, a3⟩ := ih d v hb.1 r1
    obtain ⟨b1, b2, b3⟩ := flat_all ih ds rs hb.2 r2
    exact ⟨.cons a1 b1, by simp [D.pys, PyData.canLayAll0, a2, b2], by simp only [D.pys, PyData.depthAll]; omega⟩
theorem flat_dp {K : PySem.W.Frag} {L : Addr → Prop} {ρ : List Addr} {H : Hp} : ∀ (n : Nat) (d : D) (v : V), D.flat n d = true → DR K L ρ H d v → Dp K H v d.py ∧ d.py.canLay0 = true ∧ d.py.depth ≤ n := by
  intro n
  induction n with
  | zero =>
    intro d v hb r
    cases d with
    | non =>
      cases dr_non r
      exact ⟨.non, rfl, Nat.le_refl _⟩
    | bl b =>
      cases dr_bl r
      exact ⟨.bl b, rfl, Nat.le_refl _⟩
    | int i =>
      cases dr_int r
      exact ⟨.int i, rfl, Nat.le_refl _⟩
    | str s =>
      cases dr_str r
      exact ⟨.str s, hb, Nat.le_refl _⟩
    | tup l => cases hb
    | lst l => cases hb
    | ref n => cases hb
  | succ n ih =>
    intro d v hb r
    cases d with
    | non =>
      cases dr_non r
      exact ⟨.non, rfl, Nat.zero_le _⟩
    | bl b =>
      cases dr_bl r
      exact ⟨.bl b, rfl, Nat.zero_le _⟩
    | int i =>
      cases dr_int r
      exact ⟨.int i, rfl, Nat.zero_le _⟩
    | str s =>
      cases dr_str r
      exact ⟨.str s, hb, Nat.zero_le _⟩
    | tup l =>
      obtain ⟨a, vs, rfl, t, q⟩ := dr_tup r
      obtain ⟨b1, b2, b3⟩ := flat_all ih l vs hb q
      exact ⟨.tup t.sq b1, by simpa [D.py, PyData.canLay0] using b2, by simp only [D.py, PyData.depth]; omega⟩
    | lst l =>
      simp only [DR] at r
      obtain ⟨a, vs, rfl, t, q⟩ := r
      obtain ⟨b1, b2, b3⟩ := flat_all ih l vs hb q
      exact ⟨.lst t.sq b1, by simpa [D.py, PyData.canLay0] using b2, by simp only [D.py, PyData.depth]; omega⟩
    | ref n => cases hb
/-- the same where a list may lie in a cell -/
theorem res_dp {K : PySem.W.Frag} {ρ : List Addr} {h : Sto} {H : Hp} {d : D} {v : V} (s : SR K ρ h H) (hb : D.flat 60 (res h d) = true) (r : DR K (Live ρ h) ρ H d v) : Dp K H v (res h d).py ∧ SeqAt.shaped (res h d).py = true := by
  have main : Dp K H v (res h d).py ∧ (res h d).py.canLay0 = true ∧ (res h d).py.depth ≤ 60 := by
    cases d with
    | ref n =>
      generalize e : res h (.ref n) = d' at hb ⊢
      simp only [res] at e
      split at e
      · rename_i m hm
        subst e
        obtain ⟨a, vs, rfl, t, q⟩ := res_lst s r (show res h (.ref n) = .lst m by simp only [res, hm])
        obtain ⟨b1, b2, b3⟩ := flat_all (flat_dp 59) m vs hb q
        exact ⟨.lst t.sq b1, by simpa [D.py, PyData.canLay0] using b2, by simp only [D.py, PyData.depth]; omega⟩
      · subst e
        cases hb
    | _ => exact flat_dp 60 _ v hb r
  obtain ⟨m1, m2, m3⟩ := main
  exact ⟨m1, by unfold SeqAt.shaped; rw [m2, decide_eq_true (by omega)]; rfl⟩
theorem dec_strV {a b : Str} : decide (V.str a = V.str b) = decide (a = b) := by
  by_cases e : a = b
  · subst e
    rw [decide_eq_true rfl, decide_eq_true rfl]
  · rw [decide_eq_false e, decide_eq_false fun z => e (V.str.inj z)]
/-- == as Python has it -/
def deq (x y : D) : Bool := PyData.eqv x.py y.py
def fEq (h : Sto) (x y : D) : Option D := match x, y with
  | .str a, .str b => some (.bl (decide (a = b)))
  | x, y => if (D.flat 60 (res h x) && D.flat 60 (res h y)) = true then some (.bl (deq (res h x) (res h y))) else none
def fNe (h : Sto) (x y : D) : Option D := match x, y with
  | .str a, .str b => some (.bl (!decide (a = b)))
  | x, y => if (D.flat 60 (res h x) && D.flat 60 (res h y)) = true then some (.bl (!deq (res h x) (res h y))) else none
theorem om_eq (hu : X.A.units + 64 < cLine) : OpM X (compareOp .Eq) fEq := by
  refine ⟨_, (L2.op_eq (X := X)).or (op_eqD hu), fun ρ h H d1 v1 d2 v2 d Q s r1 r2 e q => ?_⟩
  unfold fEq at e
  split at e
  · cases e
    rw [dr_str r1, dr_str r2]
    refine .inl ⟨rfl, ?_⟩
    have z := q ρ H .refl s _ dr_mkBl
    rw [dec_strV]
    exact z
  · split at e
    · rename_i hb
      cases e
      simp only [Bool.and_eq_true] at hb
      obtain ⟨a1, a2⟩ := res_dp s hb.1 r1
      obtain ⟨b1, b2⟩ := res_dp s hb.2 r2
      exact .inr ⟨_, _, a1, b1, a2, b2, q ρ H .refl s _ dr_mkBl⟩
    · cases e
theorem om_ne (hu : X.A.units + 64 < cLine) : OpM X (compareOp .NotEq) fNe := by
  refine ⟨_, (L2.op_ne (X := X)).or (op_neD hu), fun ρ h H d1 v1 d2 v2 d Q s r1 r2 e q => ?_⟩
  unfold fNe at e
  split at e
  · cases e
    rw [dr_str r1, dr_str r2]
    refine .inl ⟨rfl, ?_⟩
    have z := q ρ H .refl s _ dr_mkBl
    rw [dec_strV]
    exact z
  · split at e
    · rename_i hb
      cases e
      simp only [Bool.and_eq_true] at hb
      obtain ⟨a1, a2⟩ := res_dp s hb.1 r1
      obtain ⟨b1, b2⟩ := res_dp s hb.2 r2
      exact .inr ⟨_, _, a1, b1, a2, b2, q ρ H .refl s _ dr_mkBl⟩
    · cases e
end
end MR
end
section
set_option maxHeartbeats 1000000
/-! Mirror layer, part E: in, is, built-ins, methods, subscripts, slices, dicts. -/
namespace MR
open PySem PySem.Spec PyProof.Rows L2

def strsOf : List D → Option (List Str)
  | [] => some []
  | .str s :: r => (strsOf r).map (s :: ·)
  | _ :: _ => none
def intsOf : List D → Option (List Int)
  | [] => some []
  | .int s :: r => (intsOf r).map (s :: ·)
  | _ :: _ => none
def blsOf : List D → Option (List Bool)
  | [] => some []
  | .bl s :: r => (blsOf r).map (s :: ·)
  | _ :: _ => none
theorem strsOf_eq : ∀ {l : List D} {ss : List Str}, strsOf l = some ss → l = ss.map D.str
  | [], ss, e => by
    cases e
    rfl
  | d :: r, ss, e => by
    cases d with
    | str s =>
      simp only [strsOf] at e
      cases q : strsOf r with
      | none =>
        rw [q] at e
        cases e
      | some t =>
        rw [q] at e
        cases e
        rw [strsOf_eq q]
        rfl
    | _ => cases e
theorem intsOf_eq : ∀ {l : List D} {ss : List Int}, intsOf l = some ss → l = ss.map D.int
  | [], ss, e => by
    cases e
    rfl
  | d :: r, ss, e => by
    cases d with
    | int s =>
      simp only [intsOf] at e
      cases q : intsOf r with
      | none =>
        rw [q] at e
        cases e
      | some t =>
        rw [q] at e
        cases e
        rw [intsOf_eq q]
        rfl
    | _ => cases e
theorem blsOf_eq : ∀ {l : List D} {ss : List Bool}, blsOf l = some ss → l = ss.map D.bl
  | [], ss, e => by
    cases e
    rfl
  | d :: r, ss, e => by
    cases d with
    | bl s =>
      simp only [blsOf] at e
      cases q : blsOf r with
      | none =>
        rw [q] at e
        cases e
      | some t =>
        rw [q] at e
        cases e
        rw [blsOf_eq q]
        rfl
    | _ => cases e
@[simp] theorem strsOf_map : ∀ ss : List Str, strsOf (ss.map D.str) = some ss
  | [] => rfl
  | s :: r => by simp [strsOf, strsOf_map r]
@[simp] theorem intsOf_map : ∀ ss : List Int, intsOf (ss.map D.int) = some ss
  | [] => rfl
  | s :: r => by simp [intsOf, intsOf_map r]
@[simp] theorem blsOf_map : ∀ ss : List Bool, blsOf (ss.map D.bl) = some ss
  | [] => rfl
  | s :: r => by simp [blsOf, blsOf_map r]
section
variable {K : PySem.W.Frag} {L : Addr → Prop} {ρ : List Addr} {H : Hp}
theorem drs_strs : ∀ {ss : List Str} {vs : List V}, DRs K L ρ H (ss.map D.str) vs → vs = ss.map V.str
  | [], vs, r => by simpa only [List.map_nil, DRs] using r
  | s :: ss, vs, r => by
    simp only [List.map_cons, DRs] at r
    obtain ⟨v, rs, rfl, r1, r2⟩ := r
    rw [dr_str r1, drs_strs r2]
    rfl
theorem drs_ints : ∀ {ss : List Int} {vs : List V}, DRs K L ρ H (ss.map D.int) vs → vs = ss.map V.int
  | [], vs, r => by simpa only [List.map_nil, DRs] using r
  | s :: ss, vs, r => by
    simp only [List.map_cons, DRs] at r
    obtain ⟨v, rs, rfl, r1, r2⟩ := r
    rw [dr_int r1, drs_ints r2]
    rfl
theorem drs_bls : ∀ {ss : List Bool} {vs : List V}, DRs K L ρ H (ss.map D.bl) vs → vs = ss.map V.bl
  | [], vs, r => by simpa only [List.map_nil, DRs] using r
  | s :: ss, vs, r => by
    simp only [List.map_cons, DRs] at r
    obtain ⟨v, rs, rfl, r1, r2⟩ := r
    rw [dr_bl r1, drs_bls r2]
    rfl
theorem BlsMk : ∀ {ss : List Bool}, DRs K L ρ H (ss.map D.bl) (ss.map V.bl)
  | [] => by simp [DRs]
  | n :: ns => by
    simp only [List.map_cons, DRs]
    exact ⟨_, _, rfl, by simp [DR], BlsMk⟩
end

/-! ### in, is -/
section
variable {X : Cx}
/-- the items of a list or a tuple -/
def seqOf (h : Sto) (d : D) : Option (List D) := match res h d with | .lst l => some l | .tup l => some l | _ => none
theorem seq_of {K : PySem.W.Frag} {ρ : List Addr} {h : Sto} {H : Hp} {d : D} {v : V} {l : List D} (s : SR K ρ h H) (r : DR K (Live ρ h) ρ H d v) (e : seqOf h d = some l) : ∃ a vs, v = .ref a ∧ (SqL K H a vs ∨ SqT K H a vs) ∧ DRs K (Live ρ h) ρ H l vs := by
  unfold seqOf at e
  split at e
  · rename_i m hm
    cases e
    obtain ⟨a, vs, e1, t, q⟩ := res_lst s r hm
    exact ⟨a, vs, e1, .inl t.sq, q⟩
  · rename_i m hm
    cases e
    cases res_tup hm
    obtain ⟨a, vs, e1, t, q⟩ := dr_tup r
    exact ⟨a, vs, e1, .inr t.sq, q⟩
  · cases e
theorem inV_strs {a : Str} : ∀ ss : List Str, inV (.str a) (ss.map V.str) = decide (a ∈ ss)
  | [] => by simp [inV]
  | s :: ss => by
    have ih := inV_strs (a := a) ss
    unfold inV at ih ⊢
    rw [List.map_cons, List.any_cons, ih]
    by_cases e : s = a
    · subst e
      simp [eqV]
    · have e' : ¬ a = s := fun z => e z.symm
      simp [eqV, e, e']
theorem flat_strs : ∀ ss : List Str, (ss.map V.str).all flatV = true
  | [] => rfl
  | s :: ss => by simp [flatV]
def inS (h : Sto) (x y : D) : Option Bool := match x with
  | .str a => (match y with
    | .str z => (match a.cps.toList with | [c] => some (decide (c ∈ z.cps.toList)) | _ => none)
    | y => ((seqOf h y).bind strsOf).map fun ss => decide (a ∈ ss))
  | _ => none
def fIn (h : Sto) (x y : D) : Option D := (inS h x y).map D.bl
def fNotIn (h : Sto) (x y : D) : Option D := (inS h x y).map fun b => D.bl (!b)
theorem one_sign {a : Str} {c : Nat} (e : a.cps.toList = [c]) : a = ⟨#[c]⟩ := by
  obtain ⟨cps⟩ := a
  have z : cps.toList = #[c].toList := e
  have := Array.toList_inj.mp z
  rw [this]
theorem inS_cases {ρ : List Addr} {h : Sto} {H : Hp} {d1 d2 : D} {v1 v2 : V} {b : Bool} (s : SR X.K ρ h H) (r1 : DR X.K (Live ρ h) ρ H d1 v1) (r2 : DR X.K (Live ρ h) ρ H d2 v2) (e : inS h d1 d2 = some b) :
    (∃ (c : Nat) (z : Str), v1 = .str ⟨#[c]⟩ ∧ v2 = .str z ∧ b = decide (c ∈ z.cps.toList)) ∨ (∃ p xs, v2 = .ref p ∧ (SqL X.K H p xs ∨ SqT X.K H p xs) ∧ flatV v1 = true ∧ xs.all flatV = true ∧ b = inV v1 xs) := by
  cases d1 with
  | str a =>
    have rest : ((seqOf h d2).bind strsOf).map (fun ss => decide (a ∈ ss)) = some b → ∃ p xs, v2 = .ref p ∧ (SqL X.K H p xs ∨ SqT X.K H p xs) ∧ flatV v1 = true ∧ xs.all flatV = true ∧ b = inV v1 xs := fun z => by
      cases q : seqOf h d2 with
      | none =>
        rw [q] at z
        cases z
      | some l =>
        rw [q] at z
        simp only [Option.bind_some] at z
        cases q2 : strsOf l with
        | none =>
          rw [q2] at z
          cases z
        | some ss =>
          rw [q2] at z
          cases z
          obtain ⟨p, xs, e1, t, rr⟩ := seq_of s r2 q
          rw [strsOf_eq q2] at rr
          have ex := drs_strs rr
          subst ex
          refine ⟨p, _, e1, t, by rw [dr_str r1]; rfl, flat_strs ss, ?_⟩
          rw [dr_str r1, inV_strs]
    cases d2 with
    | str z =>
      simp only [inS] at e
      split at e
      · rename_i c hc
        cases e
        exact .inl ⟨c, z, by rw [dr_str r1, one_sign hc], dr_str r2, rfl⟩
      · cases e
    | _ => exact .inr (rest e)
  | _ => cases e
theorem om_in : OpM X (compareOp .In) fIn := by
  refine ⟨_, (L2.op_in_sign (X := X)).or op_in_seq, fun ρ h H d1 v1 d2 v2 d Q s r1 r2 e q => ?_⟩
  unfold fIn at e
  cases z : inS h d1 d2 with
  | none =>
    rw [z] at e
    cases e
  | some b =>
    rw [z] at e
    cases e
    have fin := q ρ H .refl s _ dr_mkBl
    rcases inS_cases s r1 r2 z with ⟨c, w, e1, e2, e3⟩ | ⟨p, xs, e1, t, f1, f2, e3⟩
    · exact .inl ⟨c, w, e1, e2, by rw [← e3]; exact fin⟩
    · exact .inr ⟨p, xs, e1, t, f1, f2, by rw [← e3]; exact fin⟩
theorem om_notIn : OpM X (compareOp .NotIn) fNotIn := by
  refine ⟨_, (L2.op_notIn_sign (X := X)).or op_notIn_seq, fun ρ h H d1 v1 d2 v2 d Q s r1 r2 e q => ?_⟩
  unfold fNotIn at e
  cases z : inS h d1 d2 with
  | none =>
    rw [z] at e
    cases e
  | some b =>
    rw [z] at e
    cases e
    have fin := q ρ H .refl s _ dr_mkBl
    rcases inS_cases s r1 r2 z with ⟨c, w, e1, e2, e3⟩ | ⟨p, xs, e1, t, f1, f2, e3⟩
    · exact .inl ⟨c, w, e1, e2, by rw [← e3]; exact fin⟩
    · exact .inr ⟨p, xs, e1, t, f1, f2, by rw [← e3]; exact fin⟩
/-- x is None -/
def isNon : D → Bool
  | .non => true
  | _ => false
theorem isNon_v {K : PySem.W.Frag} {L : Addr → Prop} {ρ : List Addr} {H : Hp} {d : D} {v : V} (r : DR K L ρ H d v) : decide (v = .non) = isNon d := by
  cases d with
  | non =>
    rw [dr_non r]
    rfl
  | bl b =>
    rw [dr_bl r]
    rfl
  | int b =>
    rw [dr_int r]
    rfl
  | str b =>
    rw [dr_str r]
    rfl
  | tup l =>
    obtain ⟨a, vs, e, _⟩ := dr_tup r
    rw [e]
    rfl
  | lst l =>
    simp only [DR] at r
    obtain ⟨a, vs, e, _⟩ := r
    rw [e]
    rfl
  | ref n =>
    simp only [DR] at r
    obtain ⟨a, _, e⟩ := r
    rw [e]
    rfl
def fIs (_ : Sto) (x y : D) : Option D := match y with | .non => some (.bl (isNon x)) | _ => none
def fIsNot (_ : Sto) (x y : D) : Option D := match y with | .non => some (.bl (!isNon x)) | _ => none
theorem om_is : OpM X (compareOp .Is) fIs := by
  refine ⟨_, L2.op_isN, fun ρ h H d1 v1 d2 v2 d Q s r1 r2 e q => ?_⟩
  cases d2 with
  | non =>
    cases e
    refine ⟨dr_non r2, ?_⟩
    rw [isNon_v r1]
    exact q ρ H .refl s _ dr_mkBl
  | _ => cases e
theorem om_isNot : OpM X (compareOp .IsNot) fIsNot := by
  refine ⟨_, L2.op_notN, fun ρ h H d1 v1 d2 v2 d Q s r1 r2 e q => ?_⟩
  cases d2 with
  | non =>
    cases e
    refine ⟨dr_non r2, ?_⟩
    rw [isNon_v r1]
    exact q ρ H .refl s _ dr_mkBl
  | _ => cases e

/-! ### built-ins by their names -/
def CallM (X : Cx) (f : Value) (F : Sto → List D → Option D) : Prop := ∃ r, CallR X f r ∧ ∀ ρ h H ds vs d Q, SR X.K ρ h H → DRs X.K (Live ρ h) ρ H ds vs → F h ds = some d →
  (∀ ρ' H', Ext ρ h H ρ' h H' → SR X.K ρ' h H' → ∀ v, DR X.K (Live ρ' h) ρ' H' d v → Q v H') → r vs H Q
def sFn (F : Sto → List D → Option D) (m : SA) : SE := fun e h => (m e h).bind fun ds h1 => R.of (F h1 ds) h1
variable {W : WX}
theorem fn_wk {f : Value} {F : Sto → List D → Option D} {m : SA} {r : List V → Hp → VK → Prop}
    (h2 : ∀ ρ h H ds vs d Q, SR X.K ρ h H → DRs X.K (Live ρ h) ρ H ds vs → F h ds = some d → (∀ ρ' H', Ext ρ h H ρ' h H' → SR X.K ρ' h H' → ∀ v, DR X.K (Live ρ' h) ρ' H' d v → Q v H') → r vs H Q)
    (σ : L2.St) (H : Hp) (Q : VK) (q : tE (gd X) W (sFn F m) σ H Q) : tCB r (tA (gd X) W m) σ H Q := by
  obtain ⟨ρ, h, e, s, er, p⟩ := q
  refine ⟨ρ, h, e, s, er, (Post.bind p).imp fun ρ1 h1 H1 ds x1 s1 p1 vs r1 => ?_⟩
  cases hf : F h1 ds with
  | none =>
    rw [hf] at p1
    exact p1.elim
  | some d =>
    rw [hf] at p1
    exact h2 ρ1 h1 H1 ds vs d Q s1 r1 hf fun ρ' H' x s => p1 ρ' H' x s
theorem me_fn {id : String} {x : Str} {p pos : Pos} {e : Expr} {es : List Expr} {F : Sto → List D → Option D} {m : SA} (o : CallM X (.builtin id) F) (hm : X.mg x = none) (ha : MA X W (e :: es) m) (hg : Gl X x := by rfl) (hv : bootBuiltins x = some (.builtin id) := by decide +kernel)
    (hn : x ≠ "__name__" := by decide) (hdb : (x == ("__debug__" : Str)) = false := by decide) (he : starEach (e :: es) X.env = (false, eval e X.env) :: starEach es X.env := by rfl) (hpl : (backTo pos (starEach es X.env)).any (·.1) = false := by rfl) :
    ME X W (.Call (.Name x p) (e :: es) [] pos) (sFn F m) := by
  obtain ⟨r, h1, h2⟩ := o
  exact PE.wk (pe_callB h1 hg hm hv ha hn hdb he hpl) (fn_wk (f := .builtin id) h2)
theorem me_ty {id : String} {x : Str} {p pos : Pos} {e : Expr} {es : List Expr} {F : Sto → List D → Option D} {m : SA} (o : CallM X (.type id) F) (hm : X.mg x = none) (ha : MA X W (e :: es) m) (hg : Gl X x := by rfl) (hv : bootBuiltins x = some (.type id) := by decide +kernel)
    (hn : x ≠ "__name__" := by decide) (hdb : (x == ("__debug__" : Str)) = false := by decide) (he : starEach (e :: es) X.env = (false, eval e X.env) :: starEach es X.env := by rfl) (hpl : (backTo pos (starEach es X.env)).any (·.1) = false := by rfl) :
    ME X W (.Call (.Name x p) (e :: es) [] pos) (sFn F m) := by
  obtain ⟨r, h1, h2⟩ := o
  exact PE.wk (pe_callTy h1 hg hm hv ha hn hdb he hpl) (fn_wk (f := .type id) h2)
theorem drs1 {K : PySem.W.Frag} {L : Addr → Prop} {ρ : List Addr} {H : Hp} {d : D} {vs : List V} (r : DRs K L ρ H [d] vs) : ∃ v, vs = [v] ∧ DR K L ρ H d v := by
  simp only [DRs] at r
  obtain ⟨v, rs, rfl, r1, rfl⟩ := r
  exact ⟨v, rfl, r1⟩
theorem drs2 {K : PySem.W.Frag} {L : Addr → Prop} {ρ : List Addr} {H : Hp} {d e : D} {vs : List V} (r : DRs K L ρ H [d, e] vs) : ∃ v w, vs = [v, w] ∧ DR K L ρ H d v ∧ DR K L ρ H e w := by
  simp only [DRs] at r
  obtain ⟨v, rs, rfl, r1, w, r', rfl, r2, rfl⟩ := r
  exact ⟨v, w, rfl, r1, r2⟩
def fLen (h : Sto) : List D → Option D
  | [d] => (match res h d with
    | .str s => if s.length ≤ LN then some (.int s.length) else none
    | .lst l => some (.int l.length)
    | .tup l => some (.int l.length)
    | _ => none)
  | _ => none
theorem cm_len : CallM X (.builtin "len") fLen := by
  refine ⟨_, L2.call_len, fun ρ h H ds vs d Q s r e q => ?_⟩
  match ds, r, e with
  | [x], r, e =>
    obtain ⟨v, rfl, r1⟩ := drs1 r
    simp only [fLen] at e
    split at e
    · rename_i z hz
      split at e
      · rename_i hl
        cases e
        cases res_str hz
        cases dr_str r1
        exact ⟨_, z.length, rfl, ⟨line_of hl, rfl⟩, q ρ H .refl s _ dr_mkInt⟩
      · cases e
    · rename_i l hl
      cases e
      obtain ⟨a, vs, rfl, t, rs⟩ := res_lst s r1 hl
      exact ⟨_, l.length, rfl, .inl ⟨vs, t.sq, rs.length.symm⟩, q ρ H .refl s _ dr_mkInt⟩
    · rename_i l hl
      cases e
      cases res_tup hl
      obtain ⟨a, vs, rfl, t, rs⟩ := dr_tup r1
      exact ⟨_, l.length, rfl, .inr ⟨vs, t.sq, rs.length.symm⟩, q ρ H .refl s _ dr_mkInt⟩
    · cases e
def fMax2 (_ : Sto) : List D → Option D
  | [.int i, .int j] => some (.int (if j > i then j else i))
  | _ => none
def fMin2 (_ : Sto) : List D → Option D
  | [.int i, .int j] => some (.int (if j < i then j else i))
  | _ => none
theorem cm_max2 (hc : X.calm = true) : CallM X (.builtin "max") fMax2 := by
  refine ⟨_, L2.call_max2 hc, fun ρ h H ds vs d Q s r e q => ?_⟩
  unfold fMax2 at e
  split at e
  · cases e
    obtain ⟨v, w, rfl, r1, r2⟩ := drs2 r
    exact ⟨_, _, by rw [dr_int r1, dr_int r2], q ρ H .refl s _ dr_mkInt⟩
  · cases e
theorem cm_min2 (hc : X.calm = true) : CallM X (.builtin "min") fMin2 := by
  refine ⟨_, L2.call_min2 hc, fun ρ h H ds vs d Q s r e q => ?_⟩
  unfold fMin2 at e
  split at e
  · cases e
    obtain ⟨v, w, rfl, r1, r2⟩ := drs2 r
    exact ⟨_, _, by rw [dr_int r1, dr_int r2], q ρ H .refl s _ dr_mkInt⟩
  · cases e
def maxL : List Int → Int
  | [] => 0
  | x :: r => r.foldl (fun a b => if b > a then b else a) x
theorem maxL_fold : ∀ (r : List Int) (x m : Int), (m = x ∨ m ∈ r) → x ≤ m → (∀ y ∈ r, y ≤ m) → r.foldl (fun a b => if b > a then b else a) x = m
  | [], x, m, h, _, _ => by
    rcases h with h | h
    · exact h.symm
    · cases h
  | y :: r, x, m, h, hx, hy => by
    rw [List.foldl_cons]
    have y1 : y ≤ m := hy y List.mem_cons_self
    by_cases c : y > x
    · rw [if_pos c]
      refine maxL_fold r y m ?_ y1 fun z hz => hy z (List.mem_cons_of_mem _ hz)
      rcases h with h | h
      · omega
      · rcases List.mem_cons.mp h with h | h
        · exact .inl h
        · exact .inr h
    · rw [if_neg c]
      refine maxL_fold r x m ?_ hx fun z hz => hy z (List.mem_cons_of_mem _ hz)
      rcases h with h | h
      · exact .inl h
      · rcases List.mem_cons.mp h with h | h
        · exact .inl (by omega)
        · exact .inr h
theorem maxL_eq {l : List Int} {m : Int} (h : m ∈ l) (hy : ∀ y ∈ l, y ≤ m) : maxL l = m := by
  cases l with
  | nil => cases h
  | cons x r =>
    refine maxL_fold r x m ?_ (hy x List.mem_cons_self) fun y h => hy y (List.mem_cons_of_mem _ h)
    rcases List.mem_cons.mp h with h | h
    · exact .inl h
    · exact .inr h
def fMaxL (h : Sto) : List D → Option D
  | [d] => (match res h d with | .lst l => ((intsOf l).bind fun ns => if ns = [] then none else some (.int (maxL ns))) | _ => none)
  | _ => none
theorem cm_maxL (hc : X.calm = true) : CallM X (.builtin "max") fMaxL := by
  refine ⟨_, L2.cr_max hc, fun ρ h H ds vs d Q s r e q => ?_⟩
  match ds, r, e with
  | [x], r, e =>
    obtain ⟨v, rfl, r1⟩ := drs1 r
    simp only [fMaxL] at e
    split at e
    · rename_i l hl
      obtain ⟨a, vs, rfl, t, rs⟩ := res_lst s r1 hl
      cases z : intsOf l with
      | none =>
        rw [z] at e
        cases e
      | some ns =>
        rw [z] at e
        simp only [Option.bind_some] at e
        rw [intsOf_eq z] at rs
        cases drs_ints rs
        split at e
        · cases e
        · rename_i hne
          cases e
          refine ⟨a, ns, rfl, t.sq, List.length_pos_iff.mpr hne, fun m hm hle => ?_⟩
          rw [← maxL_eq hm hle]
          exact q ρ H .refl s _ dr_mkInt
    · cases e
def fAbs (_ : Sto) : List D → Option D
  | [.int i] => some (.int (if i < 0 then -i else i))
  | _ => none
theorem cm_abs : CallM X (.builtin "abs") fAbs := by
  refine ⟨_, L2.call_abs, fun ρ h H ds vs d Q s r e q => ?_⟩
  unfold fAbs at e
  split at e
  · cases e
    obtain ⟨v, rfl, r1⟩ := drs1 r
    exact ⟨_, by rw [dr_int r1], q ρ H .refl s _ dr_mkInt⟩
  · cases e
def fInt (_ : Sto) : List D → Option D
  | [.int i] => some (.int i)
  | [.bl b] => some (.int (if b then 1 else 0))
  | [.str z] => if z.length ≤ 640 then (PySem.intText? z).map D.int else none
  | _ => none
theorem CallR.or2 {f : Value} {r r' : List V → Hp → VK → Prop} (h : CallR X f r) (h' : CallR X f r') : CallR X f (fun xs H Q => r xs H Q ∨ r' xs H Q) := by
  intro pins s σ H xs us Q I rx q
  rcases q with q | q
  · exact h pins s σ H xs us Q I rx q
  · exact h' pins s σ H xs us Q I rx q
theorem cm_int : CallM X (.type "int") fInt := by
  refine ⟨_, CallR.or2 (L2.call_int1 (X := X)) call_int_str, fun ρ h H ds vs d Q s r e q => ?_⟩
  unfold fInt at e
  split at e
  · cases e
    obtain ⟨v, rfl, r1⟩ := drs1 r
    exact .inl (.inl ⟨_, by rw [dr_int r1], q ρ H .refl s _ dr_mkInt⟩)
  · cases e
    obtain ⟨v, rfl, r1⟩ := drs1 r
    exact .inl (.inr ⟨_, by rw [dr_bl r1], q ρ H .refl s _ dr_mkInt⟩)
  · split at e
    · obtain ⟨v, rfl, r1⟩ := drs1 r
      obtain ⟨n, e1, e2⟩ := Option.map_eq_some_iff.mp e
      subst e2
      exact .inr ⟨_, n, by rw [dr_str r1], e1, by assumption, q ρ H .refl s _ dr_mkInt⟩
    · cases e
  · cases e
def fStr (_ : Sto) : List D → Option D
  | [.int i] => if i.natAbs.log2 < 1920 then some (.str (toString i)) else none
  | [.str z] => some (.str z)
  | _ => none
theorem cm_str : CallM X (.type "str") fStr := by
  refine ⟨_, CallR.or2 (L2.call_str_int (X := X)) SkE.call_str_str, fun ρ h H ds vs d Q s r e q => ?_⟩
  unfold fStr at e
  split at e
  · split at e
    · cases e
      obtain ⟨v, rfl, r1⟩ := drs1 r
      exact .inl ⟨_, by rw [dr_int r1], by assumption, q ρ H .refl s _ dr_mkStr⟩
    · cases e
  · cases e
    obtain ⟨v, rfl, r1⟩ := drs1 r
    exact .inr ⟨_, by rw [dr_str r1], q ρ H .refl s _ dr_mkStr⟩
  · cases e
def fAll (h : Sto) : List D → Option D
  | [d] => (match res h d with | .lst l => (blsOf l).map fun bs => .bl (bs.all id) | _ => none)
  | _ => none
def fAny (h : Sto) : List D → Option D
  | [d] => (match res h d with | .lst l => (blsOf l).map fun bs => .bl (bs.any id) | _ => none)
  | _ => none
theorem cm_all (hc : X.calm = true) : CallM X (.builtin "all") fAll := by
  refine ⟨_, L2.cr_all hc, fun ρ h H ds vs d Q s r e q => ?_⟩
  match ds, r, e with
  | [x], r, e =>
    obtain ⟨v, rfl, r1⟩ := drs1 r
    simp only [fAll] at e
    split at e
    · rename_i l hl
      obtain ⟨a, vs, rfl, t, rs⟩ := res_lst s r1 hl
      obtain ⟨bs, e1, e2⟩ := Option.map_eq_some_iff.mp e
      subst e2
      rw [blsOf_eq e1] at rs
      cases drs_bls rs
      exact ⟨a, bs, rfl, t.sq, q ρ H .refl s _ dr_mkBl⟩
    · cases e
theorem cm_any (hc : X.calm = true) : CallM X (.builtin "any") fAny := by
  refine ⟨_, L2.cr_any hc, fun ρ h H ds vs d Q s r e q => ?_⟩
  match ds, r, e with
  | [x], r, e =>
    obtain ⟨v, rfl, r1⟩ := drs1 r
    simp only [fAny] at e
    split at e
    · rename_i l hl
      obtain ⟨a, vs, rfl, t, rs⟩ := res_lst s r1 hl
      obtain ⟨bs, e1, e2⟩ := Option.map_eq_some_iff.mp e
      subst e2
      rw [blsOf_eq e1] at rs
      cases drs_bls rs
      exact ⟨a, bs, rfl, t.sq, q ρ H .refl s _ dr_mkBl⟩
    · cases e
/-- tuple(a list or a tuple) -/
def fTuple (h : Sto) : List D → Option D
  | [d] => (seqOf h d).map D.tup
  | _ => none
theorem cm_tuple : CallM X (.type "tuple") fTuple := by
  refine ⟨_, L2.call_tuple_of, fun ρ h H ds vs d Q s r e q => ?_⟩
  match ds, r, e with
  | [x], r, e =>
    obtain ⟨v, rfl, r1⟩ := drs1 r
    obtain ⟨l, e1, e2⟩ := Option.map_eq_some_iff.mp (show (seqOf h x).map D.tup = some d from e)
    subst e2
    unfold seqOf at e1
    split at e1
    · rename_i m hm
      cases e1
      obtain ⟨a, vs, rfl, t, rs⟩ := res_lst s r1 hm
      exact ⟨a, vs, rfl, .inl ⟨t.sq, fun p n => q ρ _ (.new n) (s.new n) _ (.newTup s n rs)⟩⟩
    · rename_i m hm
      cases e1
      cases res_tup hm
      obtain ⟨a, vs, rfl, t, rs⟩ := dr_tup r1
      exact ⟨a, vs, rfl, .inr ⟨t.sq, q ρ H .refl s _ r1⟩⟩
    · cases e1
/-- list(a list or a tuple), never changed again -/
def fList (h : Sto) : List D → Option D
  | [d] => (seqOf h d).map D.lst
  | _ => none
theorem cm_list : CallM X (.type "list") fList := by
  refine ⟨_, L2.call_list_of, fun ρ h H ds vs d Q s r e q => ?_⟩
  match ds, r, e with
  | [x], r, e =>
    obtain ⟨v, rfl, r1⟩ := drs1 r
    obtain ⟨l, e1, e2⟩ := Option.map_eq_some_iff.mp (show (seqOf h x).map D.lst = some d from e)
    subst e2
    obtain ⟨a, vs, rfl, t, rs⟩ := seq_of s r1 e1
    exact ⟨a, vs, rfl, t, fun p n => q ρ _ (.new n) (s.new n) _ (.newLst s n rs)⟩
/-- repr of plain data -/
def fRepr (h : Sto) : List D → Option D
  | [d] => if (D.flat 60 (res h d) && PyData.showable (res h d).py && decide ((PyData.shown (res h d).py).length ≤ LN)) = true then some (.str (PyData.shown (res h d).py)) else none
  | _ => none
theorem call_repr_data (hu : X.A.units + 100 < cLine) (hg : X.A.guards = some []) : CallR X (.builtin "repr") (fun xs H Q => ∃ v d, xs = [v] ∧ Dp X.K H v d ∧ SeqAt.shaped d = true ∧ PyData.showable d = true ∧ (PyData.shown d).length ≤ sizeLine ∧ Q (.str (PyData.shown d)) H) := by
  intro pins s σ H xs us Q I rx h
  obtain ⟨v, d, rfl, hd, hs, hw, hz, q⟩ := h
  obtain ⟨u, rfl, r1⟩ := vals1 rx
  have hdp := SeqAt.depth_of_shaped hs
  have lay := SeqAt.canLay_of_shaped hs
  have obj : ∀ a, v = .ref a → wpAny (model X.prog X.w) X.A (call (.builtin "repr") [u]) (EP X pins σ Q) X.xe s := fun a e => by
    obtain ⟨as, rd⟩ := Dp.reads I d v u hd r1
    subst e
    obtain rfl : u = Value.ref a := r1
    exact repr_of_reads' rd hw (PyData.noDict_hsm (PyData.hasDict_of_canLay d lay)) hg (by omega) (fun _ _ e => e) (fun h' t tk hk => ⟨.str _, H, I.kept hk, ⟨_, rfl⟩, q⟩) hz
  cases hd with
  | non =>
    obtain rfl : u = Value.none := r1
    exact PySem.P.repr_of_none ⟨.str _, H, I.tok _, ⟨_, rfl⟩, q⟩
  | bl b =>
    obtain rfl : u = Value.bool b := r1
    exact PySem.P.repr_of_bool ⟨.str _, H, I.tok _, ⟨_, rfl⟩, q⟩
  | int i =>
    obtain ⟨t, rfl⟩ := r1
    exact PySem.P.repr_of_int (of_decide_eq_true hw) ⟨.str _, H, I.tok _, ⟨_, rfl⟩, q⟩
  | str z =>
    obtain ⟨t, rfl⟩ := r1
    exact PySem.P.repr_of_str ⟨.str _, H, I.tok _, ⟨_, rfl⟩, q⟩ hz
  | lst hq hr => exact obj _ rfl
  | tup hq hr => exact obj _ rfl
theorem cm_repr (hu : X.A.units + 100 < cLine) (hg : X.A.guards = some []) : CallM X (.builtin "repr") fRepr := by
  refine ⟨_, call_repr_data hu hg, fun ρ h H ds vs d Q s r e q => ?_⟩
  match ds, r, e with
  | [x], r, e =>
    obtain ⟨v, rfl, r1⟩ := drs1 r
    simp only [fRepr] at e
    split at e
    · rename_i hb
      cases e
      simp only [Bool.and_eq_true, decide_eq_true_eq] at hb
      obtain ⟨a1, a2⟩ := res_dp s hb.1.1 r1
      exact ⟨v, _, rfl, a1, a2, hb.1.2, line_of hb.2, q ρ H .refl s _ dr_mkStr⟩
    · cases e
/-- isinstance(x, T), T a built-in class -/
def tyName (h : Sto) (d : D) : Option String := match d with
  | .non => some "NoneType"
  | .bl _ => some "bool"
  | .int _ => some "int"
  | .str _ => some "str"
  | .tup _ => some "tuple"
  | .lst _ => some "list"
  | .ref n => (match h[n]? with | some (.L _) => some "list" | some (.M _) => some "dict" | _ => none)
def sIsi (T : String) (m : SE) : SE := fun e h => (m e h).bind fun d h1 => R.of (((tyName h1 d).bind fun n => L2.kitB n T).map D.bl) h1
theorem ty_of {ρ : List Addr} {h : Sto} {H : Hp} {d : D} {v : V} {n : String} (s : SR X.K ρ h H) (r : DR X.K (Live ρ h) ρ H d v) (e : tyName h d = some n) : TyX X.K H v (.type n) := by
  cases d with
  | non =>
    cases e
    rw [dr_non r]
    exact .base .non
  | bl b =>
    cases e
    rw [dr_bl r]
    exact .base (.bl b)
  | int b =>
    cases e
    rw [dr_int r]
    exact .base (.int b)
  | str b =>
    cases e
    rw [dr_str r]
    exact .base (.str b)
  | tup l =>
    cases e
    obtain ⟨a, vs, rfl, t, _⟩ := dr_tup r
    rcases t with ⟨t | ⟨o, t⟩, _⟩ | ⟨o, its, n, t, c, _⟩
    · exact .base (.tup t)
    · exact .fTuple t
    · exact .kTuple t c
  | lst l =>
    cases e
    simp only [DR] at r
    obtain ⟨a, vs, rfl, t, _⟩ := r
    rcases t with ⟨t | ⟨o, t⟩, _⟩ | ⟨its, n, t, _⟩
    · exact .base (.lst t)
    · exact .base (.frz t)
    · exact .kList t rfl
  | ref k =>
    simp only [DR] at r
    obtain ⟨a, e1, rfl⟩ := r
    simp only [tyName] at e
    split at e
    · rename_i l hl
      cases e
      obtain ⟨vs, f, _⟩ := s.cells k _ a hl e1
      exact .base (.lst f)
    · rename_i l hl
      cases e
      obtain ⟨vs, f, _⟩ := s.cells k _ a hl e1
      exact .base (.dK f)
    · cases e
theorem me_isi {T : String} {y : Str} {p p2 pos : Pos} {a : Expr} {m : SE} (hm : X.mg "isinstance" = none) (hmT : X.mg y = none) (hy : bootBuiltins y = some (.type T)) (ha : ME X W a m) (hg : Gl X "isinstance" := by rfl) (hgT : Gl X y := by rfl)
    (hn : y ≠ "__name__" := by decide) (hd : (y == ("__debug__" : Str)) = false := by decide) (hs : starEach [a, .Name y p2] X.env = (false, eval a X.env) :: starEach [.Name y p2] X.env := by rfl) (hs2 : starEach [.Name y p2] X.env = (false, eval (.Name y p2) X.env) :: starEach [] X.env := by rfl)
    (hpl : (backTo pos (starEach [.Name y p2] X.env)).any (·.1) = false := by rfl) : ME X W (.Call (.Name "isinstance" p) [a, .Name y p2] [] pos) (sIsi T m) := by
  refine PE.wk (pe_callB call_isi hg hm (by decide +kernel) (pa_cons ha (pa_cons (pe_bltn hgT hmT hy (v := .ty T) rfl hn hd) pa_nil hs2) hs) (by decide) (by decide) hs hpl) fun σ H Q q => ?_
  obtain ⟨ρ, h, e, s, er, p⟩ := q
  refine ⟨ρ, h, e, s, er, (Post.bind p).imp fun ρ1 h1 H1 d1 x1 s1 p1 v1 r1 => ?_⟩
  cases z : tyName h1 d1 with
  | none =>
    rw [z] at p1
    exact p1.elim
  | some n =>
    rw [z] at p1
    simp only [Option.bind_some] at p1
    cases z2 : L2.kitB n T with
    | none =>
      rw [z2] at p1
      exact p1.elim
    | some b =>
      rw [z2] at p1
      exact ⟨v1, .ty T, .type n, .type T, b, rfl, .ty T, ty_of s1 r1 z, kit_ty z2, p1.here s1 _ dr_mkBl⟩

/-! ### methods of texts -/
def MtF (X : Cx) (id : String) (F : Sto → Str → List D → Option D) : Prop := ∃ r, MtR X id r ∧ ∀ ρ h H z ds vs d Q, SR X.K ρ h H → DRs X.K (Live ρ h) ρ H ds vs → F h z ds = some d →
  (∀ ρ' H', Ext ρ h H ρ' h H' → SR X.K ρ' h H' → ∀ v, DR X.K (Live ρ' h) ρ' H' d v → Q v H') → r (.str z) vs H Q
def sM0 (F : Sto → Str → List D → Option D) (o : SE) : SE := fun e h => (o e h).bind fun x h1 => match x with | .str z => R.of (F h1 z []) h1 | _ => .bad
def sM1 (F : Sto → Str → List D → Option D) (o a : SE) : SE := fun e h => (o e h).bind fun x h1 => match x with | .str z => (a e h1).bind fun y h2 => R.of (F h2 z [y]) h2 | _ => .bad
theorem me_m0 {id : String} {name : Str} {apos pos : Pos} {o : Expr} {mo : SE} {F : Sto → Str → List D → Option D} (slot : Slot "str" name id) (ty : typeOf (.builtin id) = pure (.type "method_descriptor")) (f : MtF X id F) (ho : ME X W o mo)
    (hbase : attributeBase o name X.env (eval o X.env) = eval o X.env := by rfl) (hline : (apos.endLine == pos.line) = true := by rfl) : ME X W (.Call (.Attribute o name apos) [] [] pos) (sM0 F mo) := by
  obtain ⟨r, h1, h2⟩ := f
  refine PE.wk (pe_m0 slot ty h1 ho hbase hline) fun σ H Q q => ?_
  obtain ⟨ρ, h, e, s, er, p⟩ := q
  refine ⟨ρ, h, e, s, er, (Post.bind p).imp fun ρ1 h1 H1 d1 x1 s1 p1 v1 r1 => ?_⟩
  cases d1 with
  | str z =>
    cases dr_str r1
    refine ⟨⟨z, rfl⟩, ?_⟩
    cases hf : F h1 z [] with
    | none =>
      simp only [hf] at p1
      exact p1.elim
    | some d =>
      simp only [hf] at p1
      exact h2 ρ1 h1 H1 z [] [] d Q s1 (by simp [DRs]) hf fun ρ' H' x s => p1 ρ' H' x s
  | _ => exact p1.elim
theorem me_m1 {id : String} {name : Str} {apos pos : Pos} {o a : Expr} {mo ma : SE} {F : Sto → Str → List D → Option D} (slot : Slot "str" name id) (ty : typeOf (.builtin id) = pure (.type "method_descriptor")) (f : MtF X id F) (ho : ME X W o mo) (ha : ME X W a ma)
    (hs : starEach [a] X.env = [(false, eval a X.env)] := by rfl) (hbase : attributeBase o name X.env (eval o X.env) = eval o X.env := by rfl) (hline : (apos.endLine == pos.line) = true := by rfl) : ME X W (.Call (.Attribute o name apos) [a] [] pos) (sM1 F mo ma) := by
  obtain ⟨r, h1, h2⟩ := f
  refine PE.wk (pe_m1 slot ty h1 ho ha hs hbase hline) fun σ H Q q => ?_
  obtain ⟨ρ, h, e, s, er, p⟩ := q
  refine ⟨ρ, h, e, s, er, (Post.bind p).imp fun ρ1 h1 H1 d1 x1 s1 p1 v1 r1 => ?_⟩
  cases d1 with
  | str z =>
    cases dr_str r1
    refine ⟨⟨z, rfl⟩, ρ1, h1, e, s1, er.ext x1, ?_⟩
    have p2 : Post (gd X) ρ1 h1 H1 (okD (gd X) Q) (fun c d _ => W c d σ) ((ma e h1).bind fun y h2 => R.of (F h2 z [y]) h2) := p1
    refine (Post.bind p2).imp fun ρ2 hh2 H2 d2 x2 s2 p3 v2 r2 => ?_
    cases hf : F hh2 z [d2] with
    | none =>
      simp only [hf] at p3
      exact p3.elim
    | some d =>
      simp only [hf] at p3
      exact h2 ρ2 hh2 H2 z [d2] [v2] d Q s2 (.one r2) hf fun ρ' H' x s => p3 ρ' H' x s
  | _ => exact p1.elim
def fSplit (_ : Sto) (z : Str) : List D → Option D
  | [.str b] => if (b.length == 0) = false ∧ z.length + 2 ≤ LN then some (.lst ((Txt.split z b).map D.str)) else none
  | _ => none
theorem mf_split : MtF X "str.split" fSplit := by
  refine ⟨_, L2.mt_split, fun ρ h H z ds vs d Q s r e q => ?_⟩
  unfold fSplit at e
  split at e
  · split at e
    · rename_i hb
      cases e
      obtain ⟨v, rfl, r1⟩ := drs1 r
      exact ⟨z, _, rfl, by rw [dr_str r1], hb.1, line_of hb.2, fun p n => q ρ _ (.new n) (s.new n) _ (.newLst s n .strs)⟩
    · cases e
  · cases e
def fJoin (h : Sto) (z : Str) : List D → Option D
  | [d] => ((seqOf h d).bind strsOf).bind fun ys => if (ys.map (·.length)).sum + ys.length * z.length ≤ 16777216 then some (.str (Txt.join z ys)) else none
  | _ => none
theorem mf_join : MtF X "str.join" fJoin := by
  refine ⟨_, L2.mt_join, fun ρ h H z ds vs d Q s r e q => ?_⟩
  match ds, r, e with
  | [x], r, e =>
    obtain ⟨v, rfl, r1⟩ := drs1 r
    simp only [fJoin] at e
    cases e1 : seqOf h x with
    | none =>
      rw [e1] at e
      cases e
    | some l =>
      rw [e1] at e
      simp only [Option.bind_some] at e
      cases e2 : strsOf l with
      | none =>
        rw [e2] at e
        cases e
      | some ys =>
        rw [e2] at e
        simp only [Option.bind_some] at e
        split at e
        · rename_i hz
          cases e
          obtain ⟨a, ws, rfl, t, rs⟩ := seq_of s r1 e1
          rw [strsOf_eq e2] at rs
          cases drs_strs rs
          exact ⟨z, a, ys, rfl, rfl, t, hz, q ρ H .refl s _ dr_mkStr⟩
        · cases e
def fIsdigit (_ : Sto) (z : Str) : List D → Option D
  | [] => some (.bl (Txt.isdigit z))
  | _ => none
theorem mf_isdigit : MtF X "str.isdigit" fIsdigit := by
  refine ⟨_, L2.mt_isdigit, fun ρ h H z ds vs d Q s r e q => ?_⟩
  match ds, r, e with
  | [], r, e =>
    cases e
    simp only [DRs] at r
    subst r
    exact ⟨z, rfl, rfl, trivial, q ρ H .refl s _ dr_mkBl⟩
def fStarts (_ : Sto) (z : Str) : List D → Option D
  | [.str b] => some (.bl (Txt.startswith z b))
  | _ => none
theorem mf_startswith : MtF X "str.startswith" fStarts := by
  refine ⟨_, L2.mt_startswith, fun ρ h H z ds vs d Q s r e q => ?_⟩
  unfold fStarts at e
  split at e
  · cases e
    obtain ⟨v, rfl, r1⟩ := drs1 r
    exact ⟨z, _, rfl, by rw [dr_str r1], q ρ H .refl s _ dr_mkBl⟩
  · cases e

/-! ### subscripts, slices -/
def fIx (h : Sto) (x y : D) : Option D := match y with
  | .int i => (match res h x with
    | .lst l => atI l i
    | .tup l => atI l i
    | .str z => if z.length ≤ LN then (atI z.cps.toList i).map fun c => .str ⟨#[c]⟩ else none
    | _ => none)
  | _ => none
theorem atI_rel {K : PySem.W.Frag} {L : Addr → Prop} {ρ : List Addr} {H : Hp} {l : List D} {vs : List V} {i : Int} {d : D} (r : DRs K L ρ H l vs) (e : atI l i = some d) : ∃ v, atI vs i = some v ∧ DR K L ρ H d v := by
  unfold atI at e ⊢
  rw [r.length]
  cases q : ixN l.length i with
  | none =>
    rw [q] at e
    cases e
  | some j =>
    rw [q] at e
    exact r.get e
theorem me_ix {a b : Expr} {pos : Pos} {ma mb : SE} (ha : ME X W a ma) (hb : ME X W b mb) (hs : PlainIx b := by intro _ _; rfl) : ME X W (.Subscript a b pos) (sOp fIx ma mb) := by
  refine PE.wk (pe_ix ix_seq ha hb hs) (op_wk (F := fun _ _ => pure .none) fun ρ h H d1 v1 d2 v2 d Q s r1 r2 e q => ?_)
  unfold fIx at e
  split at e
  · cases dr_int r2
    split at e
    · rename_i l hl
      obtain ⟨p, vs, rfl, t, rs⟩ := res_lst s r1 hl
      obtain ⟨v, e1, rv⟩ := atI_rel rs e
      exact .inl ⟨p, vs, _, v, rfl, rfl, t.sq, e1, q ρ H .refl s _ rv⟩
    · rename_i l hl
      cases res_tup hl
      obtain ⟨p, vs, rfl, t, rs⟩ := dr_tup r1
      obtain ⟨v, e1, rv⟩ := atI_rel rs e
      exact .inr (.inl ⟨p, vs, _, v, rfl, rfl, t.sq, e1, q ρ H .refl s _ rv⟩)
    · rename_i z hz
      cases res_str hz
      cases dr_str r1
      split at e
      · rename_i hl
        obtain ⟨c, e1, e2⟩ := Option.map_eq_some_iff.mp e
        subst e2
        exact .inr (.inr ⟨z, _, c, rfl, rfl, line_of hl, e1, q ρ H .refl s _ dr_mkStr⟩)
      · cases e
    · cases e
  · cases e
def cutD (xs : List D) (lo hi : Option Int) : List D := (xs.drop (HT.sIx xs.length 0 lo)).take (HT.sIx xs.length xs.length hi - HT.sIx xs.length 0 lo)
theorem cut_rel {K : PySem.W.Frag} {L : Addr → Prop} {ρ : List Addr} {H : Hp} {l : List D} {vs : List V} (lo hi : Option Int) (r : DRs K L ρ H l vs) : DRs K L ρ H (cutD l lo hi) (cutV vs lo hi) := by
  unfold cutD cutV
  rw [r.length]
  exact (r.drop _).take _
def fSl (h : Sto) (x : D) (lo hi : Option Int) : Option D := match res h x with
  | .lst l => some (.lst (cutD l lo hi))
  | .tup l => some (.tup (cutD l lo hi))
  | .str z => if z.length ≤ LN then some (.str (cutS z lo hi)) else none
  | _ => none
def sPart : Option SE → Env → Sto → R (Option Int)
  | none => fun _ h => .ok none h
  | some m => fun e h => (m e h).bind fun d h1 => match d with | .int i => .ok (some i) h1 | _ => .bad
def sSl (m : SE) (lo hi : Option SE) : SE := fun e h => (m e h).bind fun x h1 => (sPart lo e h1).bind fun l h2 => (sPart hi e h2).bind fun u h3 => R.of (fSl h3 x l u) h3
def okP (Q : Option Int → Hp → Prop) : List Addr → Sto → Hp → Option Int → Prop := fun _ _ H o => Q o H
def tP (G : Gd) (W : WX) (m : Env → Sto → R (Option Int)) : TO := fun σ H Q => ∃ ρ h e, SR G.K ρ h H ∧ ER G.K ρ h H e σ ∧ Post G ρ h H (okP Q) (fun c d _ => W c d σ) (m e h)
def MP (X : Cx) (W : WX) (e : Option Expr) (m : Option SE) : Prop := PO X e (tP (gd X) W (sPart m))
theorem mp_none : MP X W none none := by
  have p := po_none (X := X)
  refine ⟨fun pins s σ H Q I q => p.run pins s σ H Q I ?_⟩
  obtain ⟨ρ, h, e, s, er, p⟩ := q
  exact (p.here s :)
theorem mp_some {a : Expr} {m : SE} (ha : ME X W a m) : MP X W (some a) (some m) := by
  have p := po_some (X := X) ha
  refine ⟨fun pins s σ H Q I q => p.run pins s σ H Q I ?_⟩
  obtain ⟨ρ, h, e, s, er, p⟩ := q
  refine ⟨ρ, h, e, s, er, (Post.bind p).imp fun ρ1 h1 H1 d1 x1 s1 p1 v1 r1 => ?_⟩
  cases d1 with
  | int i => exact ⟨i, dr_int r1, (p1.here s1 :)⟩
  | _ => exact p1.elim
theorem me_sl {a : Expr} {lo hi : Option Expr} {ml mh : Option SE} {p2 pos : Pos} {m : SE} (ha : ME X W a m) (hl : MP X W lo ml) (hh : MP X W hi mh) : ME X W (.Subscript a (.Slice lo hi none p2) pos) (sSl m ml mh) := by
  refine PE.wk (pe_slice ((sl_list (X := X)).or ((sl_tupA (X := X)).or sl_str)) ha hl hh) fun σ H Q q => ?_
  obtain ⟨ρ, h, e, s, er, p⟩ := q
  refine ⟨ρ, h, e, s, er, (Post.bind p).imp fun ρ1 h1 H1 d1 x1 s1 p1 v1 r1 => ?_⟩
  refine ⟨ρ1, h1, e, s1, er.ext x1, (Post.bind p1).imp fun ρ2 h2 H2 l x2 s2 p2 => ?_⟩
  refine ⟨ρ2, h2, e, s2, (er.ext x1).ext x2, (Post.bind p2).imp fun ρ3 h3 H3 u x3 s3 p3 => ?_⟩
  have r3 := (r1.ext x2).ext x3
  cases hf : fSl h3 d1 l u with
  | none =>
    rw [hf] at p3
    exact p3.elim
  | some d =>
    rw [hf] at p3
    have q : ∀ ρ' H', Ext ρ3 h3 H3 ρ' h3 H' → SR X.K ρ' h3 H' → ∀ v, DR X.K (Live ρ' h3) ρ' H' d v → Q v H' := fun ρ' H' x s => p3 ρ' H' x s
    unfold fSl at hf
    split at hf
    · rename_i m hm
      cases hf
      obtain ⟨b, vs, rfl, t, rs⟩ := res_lst s3 r3 hm
      exact .inl ⟨b, vs, rfl, t.sq, fun p n => q ρ3 _ (.new n) (s3.new n) _ (.newLst s3 n (cut_rel l u rs))⟩
    · rename_i m hm
      cases hf
      cases res_tup hm
      obtain ⟨b, vs, rfl, t, rs⟩ := dr_tup r3
      refine .inr (.inl ⟨b, vs, rfl, t.sq, fun z => ?_, fun _ p n => q ρ3 _ (.new n) (s3.new n) _ (.newTup s3 n (cut_rel l u rs))⟩)
      refine q ρ3 H3 .refl s3 _ ?_
      have e : cutD m l u = m := by
        unfold cutD
        rw [← rs.length, z.1, z.2]
        simp [rs.length]
      rw [e]
      exact r3
    · rename_i z hz
      cases res_str hz
      cases dr_str r3
      split at hf
      · rename_i hl
        cases hf
        exact .inr (.inr ⟨z, rfl, line_of hl, q ρ3 H3 .refl s3 _ dr_mkStr⟩)
      · cases hf
    · cases hf
/-- xs[::-1], also as a list that will be changed -/
def sRev (m : SE) : SE := fun e h => (m e h).bind fun x h1 => match res h1 x with | .lst l => .ok (.lst l.reverse) h1 | _ => .bad
def sRevC (m : SE) : SE := fun e h => (m e h).bind fun x h1 => match res h1 x with | .lst l => .ok (.ref h1.length) (h1 ++ [.L l.reverse]) | _ => .bad
theorem me_rev {a : Expr} {m : SE} {k : Nat} {p1 p2 p3 pos : Pos} (ha : ME X W a m) : ME X W (.Subscript a (.Slice none none (some (.UnaryOp .USub (.Constant (.int 1) k p1) p2)) p3) pos) (sRev m) := by
  refine PE.wk (pe_revL ha) fun σ H Q q => ?_
  obtain ⟨ρ, h, e, s, er, p⟩ := q
  refine ⟨ρ, h, e, s, er, (Post.bind p).imp fun ρ1 h1 H1 d1 x1 s1 p1 v1 r1 => ?_⟩
  cases hr : res h1 d1 with
  | lst l =>
    simp only [hr] at p1
    obtain ⟨b, vs, rfl, t, rs⟩ := res_lst s1 r1 hr
    exact ⟨b, vs, rfl, t.sq, fun p n => p1 ρ1 _ (.new n) (s1.new n) _ (DR.newLst s1 n rs.reverse)⟩
  | _ =>
    simp only [hr] at p1
    exact p1.elim
theorem me_revC {a : Expr} {m : SE} {k : Nat} {p1 p2 p3 pos : Pos} (ha : ME X W a m) : ME X W (.Subscript a (.Slice none none (some (.UnaryOp .USub (.Constant (.int 1) k p1) p2)) p3) pos) (sRevC m) := by
  refine PE.wk (pe_revL ha) fun σ H Q q => ?_
  obtain ⟨ρ, h, e, s, er, p⟩ := q
  refine ⟨ρ, h, e, s, er, (Post.bind p).imp fun ρ1 h1 H1 d1 x1 s1 p1 v1 r1 => ?_⟩
  cases hr : res h1 d1 with
  | lst l =>
    simp only [hr] at p1
    obtain ⟨b, vs, rfl, t, rs⟩ := res_lst s1 r1 hr
    refine ⟨b, vs, rfl, t.sq, fun p n => p1 (ρ1 ++ [p]) _ (.cell s1 n) (s1.cell n ⟨_, upd_same, rs.reverse.ext (.cell s1 n)⟩) _ ?_⟩
    have z : DR X.K (Live (ρ1 ++ [p]) (h1 ++ [Cell.L l.reverse])) (ρ1 ++ [p]) (upd H1 p (.lst vs.reverse)) (.ref h1.length) (.ref p) := ref_new s1
    exact z
  | _ =>
    simp only [hr] at p1
    exact p1.elim

/-! ### lists that change -/
def sApp (o a : SE) : SE := fun e h => (o e h).bind fun x h1 => (a e h1).bind fun y h2 => match x with
  | .ref n => (match h2[n]? with | some (.L l) => if l.length < LN then .ok .non (h2.set n (.L (l ++ [y]))) else .bad | _ => .bad)
  | _ => .bad
/-- the receiver is known to be a list ahead of its arguments -/
def isCellL (h : Sto) : D → Bool
  | .ref n => match h[n]? with | some (.L _) => true | _ => false
  | _ => false
def sApp' (o a : SE) : SE := fun e h => (o e h).bind fun x h1 => if isCellL h1 x = true then (a e h1).bind fun y h2 => (match x with
  | .ref n => (match h2[n]? with | some (.L l) => if l.length < LN then .ok .non (h2.set n (.L (l ++ [y]))) else .bad | _ => .bad)
  | _ => .bad) else .bad
theorem cellL_at {ρ : List Addr} {h : Sto} {H : Hp} {d : D} {v : V} (s : SR X.K ρ h H) (r : DR X.K (Live ρ h) ρ H d v) (e : isCellL h d = true) : tyV X.K "list" v H := by
  cases d with
  | ref n =>
    simp only [DR] at r
    obtain ⟨a, e1, rfl⟩ := r
    simp only [isCellL] at e
    split at e
    · rename_i l hl
      obtain ⟨vs, f, _⟩ := s.cells n _ a hl e1
      exact .inl ⟨rfl, vs, SqL.of f⟩
    · cases e
  | _ => cases e
theorem me_app {o a : Expr} {mo ma : SE} {apos pos : Pos} (ho : ME X W o mo) (ha : ME X W a ma) (hbase : attributeBase o "append" X.env (eval o X.env) = eval o X.env := by rfl) (hs : starEach [a] X.env = (false, eval a X.env) :: starEach [] X.env := by rfl)
    (hfew : ((backTo pos (starEach [a] X.env)).all (fun x => !x.1) && (backToKw pos (keywordEach [] X.env)).all (fun x => x.1.isSome) && decide ([a].length + ([] : List Keyword).length + (if ([] : List Keyword).isEmpty then 0 else 1) < 30)) = true := by rfl)
    (hline : (apos.endLine == pos.line) = true := by rfl) : ME X W (.Call (.Attribute o "append" apos) [a] [] pos) (sApp' mo ma) := by
  refine PE.wk (pe_bm PySem.F.plainAttrs_list PySem.F.slot_list_append PySem.F.type_list_append mt_append ho (pa_cons ha pa_nil hs) hbase hfew hline hs) fun σ H Q q => ?_
  obtain ⟨ρ, h, e, s, er, p⟩ := q
  refine ⟨ρ, h, e, s, er, (Post.bind p).imp fun ρ1 h1 H1 d1 x1 s1 p1 v1 r1 => ?_⟩
  by_cases hc : isCellL h1 d1 = true
  · rw [if_pos hc] at p1
    refine ⟨cellL_at s1 r1 hc, ρ1, h1, e, s1, er.ext x1, (Post.bind p1).imp fun ρ2 h2 H2 d2 x2 s2 p2 v2 r2 => ?_⟩
    cases d1 with
    | ref n =>
      have r1' := r1.ext x2
      simp only [DR] at r1'
      obtain ⟨b, e1, rfl⟩ := r1'
      cases hn : h2[n]? with
      | none =>
        simp only [hn] at p2
        exact p2.elim
      | some c =>
        cases c with
        | L l =>
          simp only [hn] at p2
          obtain ⟨vs, f, rs⟩ := s2.cells n _ b hn e1
          by_cases hl : l.length < LN
          · rw [if_pos hl] at p2
            refine ⟨b, vs, v2, rfl, rfl, f, ?_, ?_⟩
            · rw [rs.length, sizeLine_eq]
              exact hl
            · have x3 : Ext ρ2 h2 H2 ρ2 (h2.set n (.L (l ++ [d2]))) (upd H2 b (.lst (vs ++ [v2]))) := .write e1 hn (by simp)
              exact p2 ρ2 _ x3 (s2.write e1 hn (by simp) ⟨_, upd_same, (rs.append (.one r2)).ext x3⟩) _ dr_mkNon
          · rw [if_neg hl] at p2
            exact p2.elim
        | gone =>
          simp only [hn] at p2
          exact p2.elim
        | M kvs =>
          simp only [hn] at p2
          exact p2.elim
    | _ => exact p2.elim
  · rw [if_neg hc] at p1
    exact p1.elim
/-- xs.pop() -/
def sPop (o : SE) : SE := fun e h => (o e h).bind fun x h1 => match x with
  | .ref n => (match h1[n]? with | some (.L l) => (match l[l.length - 1]? with | some d => .ok d (h1.set n (.L l.dropLast)) | none => .bad) | _ => .bad)
  | _ => .bad
theorem DRs.dropLast {K : PySem.W.Frag} {L : Addr → Prop} {ρ : List Addr} {H : Hp} {l : List D} {vs : List V} (r : DRs K L ρ H l vs) : DRs K L ρ H l.dropLast vs.dropLast := by
  rw [List.dropLast_eq_take, List.dropLast_eq_take, r.length]
  exact r.take _
theorem me_pop {o : Expr} {mo : SE} {apos pos : Pos} (ho : ME X W o mo) (hbase : attributeBase o "pop" X.env (eval o X.env) = eval o X.env := by rfl) (hline : (apos.endLine == pos.line) = true := by rfl) : ME X W (.Call (.Attribute o "pop" apos) [] [] pos) (sPop mo) := by
  refine PE.wk (pe_bm0 PySem.F.plainAttrs_list PySem.F.slot_list_pop PySem.F.type_list_pop mt_pop ho hbase hline) fun σ H Q q => ?_
  obtain ⟨ρ, h, e, s, er, p⟩ := q
  refine ⟨ρ, h, e, s, er, (Post.bind p).imp fun ρ1 h1 H1 d1 x1 s1 p1 v1 r1 => ?_⟩
  cases d1 with
  | ref n =>
    simp only [DR] at r1
    obtain ⟨b, e1, rfl⟩ := r1
    cases hn : h1[n]? with
    | none =>
      simp only [hn] at p1
      exact p1.elim
    | some c =>
      cases c with
      | L l =>
        simp only [hn] at p1
        obtain ⟨vs, f, rs⟩ := s1.cells n _ b hn e1
        cases hd : l[l.length - 1]? with
        | none =>
          simp only [hd] at p1
          exact p1.elim
        | some d =>
          simp only [hd] at p1
          obtain ⟨y, hy, ry⟩ := rs.get hd
          refine ⟨.inl ⟨rfl, vs, SqL.of f⟩, b, vs, y, rfl, rfl, f, by rw [rs.length]; exact hy, ?_⟩
          have x3 : Ext ρ1 h1 H1 ρ1 (h1.set n (.L l.dropLast)) (upd H1 b (.lst vs.dropLast)) := .write e1 hn (by simp)
          exact p1 ρ1 _ x3 (s1.write e1 hn (by simp) ⟨_, upd_same, rs.dropLast.ext x3⟩) _ (ry.ext x3)
      | gone =>
        simp only [hn] at p1
        exact p1.elim
      | M kvs =>
        simp only [hn] at p1
        exact p1.elim
  | _ => exact p1.elim
end
end MR
end
section
set_option maxHeartbeats 1000000
/-! Mirror layer, part F: what a for walks, for, list comprehensions, dicts by text keys. -/
namespace MR
open PySem PySem.Spec PyProof.Rows L2

/-- the walk J gives ds, from the state (ρ, h, H) on -/
def Gives (K : PySem.W.Frag) (J : It) (ds : List D) (ρ : List Addr) (h : Sto) (H : Hp) : Prop := ∀ ρ' h' H', Ext ρ h H ρ' h' H' → SR K ρ' h' H' →
  (∀ (i : Nat) (d : D), ds[i]? = some d → J.go i H' ∧ ∀ x H'', J.yld i H' x H'' → Ext ρ' h' H' ρ' h' H'' ∧ SR K ρ' h' H'' ∧ DR K (Live ρ' h') ρ' H'' d x) ∧ J.stop ds.length H'
def okI (G : Gd) (R : It → Hp → Prop) : List Addr → Sto → Hp → List D → Prop := fun ρ h H ds => ∀ J, Gives G.K J ds ρ h H → R J H
def tI (G : Gd) (W : WX) (m : SA) : TI := fun σ H R => ∃ ρ h e, SR G.K ρ h H ∧ ER G.K ρ h H e σ ∧ Post G ρ h H (okI G R) (fun c d _ => W c d σ) (m e h)
def MI (X : Cx) (W : WX) (tg iter : Expr) (m : SA) : Prop := PI X tg iter (tI (gd X) W m)
section
variable {X : Cx} {W : WX} {tg : Expr}
theorem PI.wk {e : Expr} {t t' : TI} (p : PI X tg e t) (f : ∀ σ H R, t' σ H R → t σ H R) : PI X tg e t' := ⟨fun pins s σ H Q I q => p.run pins s σ H Q I (f _ _ _ q)⟩
theorem gives_list {ρ : List Addr} {h : Sto} {H : Hp} {a : Addr} {vs : List V} {l : List D} (t : Lp X.K (Live ρ h) H a vs) (r : DRs X.K (Live ρ h) ρ H l vs) : Gives X.K (Itl X.K a) l ρ h H := fun ρ' h' H' x s => by
  have q := (t.ext x).sq
  have rs := r.ext x
  refine ⟨fun i d e => ?_, vs, q, by rw [rs.length]; exact Nat.le_refl _⟩
  obtain ⟨v, e1, rv⟩ := rs.get e
  refine ⟨⟨vs, v, q, e1⟩, fun y H'' z => ?_⟩
  obtain ⟨rfl, z⟩ := z
  have := z vs q
  rw [e1] at this
  cases this
  exact ⟨.refl, s, rv⟩
theorem gives_tup {ρ : List Addr} {h : Sto} {H : Hp} {a : Addr} {vs : List V} {l : List D} (t : Tp X.K (Live ρ h) H a vs) (r : DRs X.K (Live ρ h) ρ H l vs) : Gives X.K (Itt X.K a) l ρ h H := fun ρ' h' H' x s => by
  have q := (t.ext x).sq
  have rs := r.ext x
  refine ⟨fun i d e => ?_, vs, q, by rw [rs.length]; exact Nat.le_refl _⟩
  obtain ⟨v, e1, rv⟩ := rs.get e
  refine ⟨⟨vs, v, q, e1⟩, fun y H'' z => ?_⟩
  obtain ⟨rfl, z⟩ := z
  have := z vs q
  rw [e1] at this
  cases this
  exact ⟨.refl, s, rv⟩
def signs (z : Str) : List D := z.cps.toList.map fun c => .str ⟨#[c]⟩
theorem gives_str {ρ : List Addr} {h : Sto} {H : Hp} {z : Str} : Gives X.K (Its z) (signs z) ρ h H := fun ρ' h' H' x s => by
  have w := walk_str (z := z)
  refine ⟨fun i d e => ?_, ?_⟩
  · have hi : i < z.cps.size := by
      have := (List.getElem?_eq_some_iff.mp e).1
      simpa [signs] using this
    refine ⟨w.goes i H' hi trivial, fun y H'' q => ?_⟩
    obtain ⟨rfl, c, e1, rfl⟩ := w.yields i H' y H'' hi trivial q
    refine ⟨.refl, s, ?_⟩
    have e2 : (signs z)[i]? = some (.str ⟨#[c]⟩) := by
      unfold signs
      rw [List.getElem?_map, Array.getElem?_toList, e1]
      rfl
    rw [e2] at e
    cases e
    exact dr_mkStr
  · have := w.stops H' trivial
    simpa [signs] using this
/-- over a list or a tuple that stands still, or a text -/
def iSeq (K : PySem.W.Frag) (tl : TE) : TI := fun σ H R => tl σ H fun x H1 => (∃ a xs, x = .ref a ∧ SqL K H1 a xs ∧ R (Itl K a) H1) ∨ (∃ a xs, x = .ref a ∧ SqT K H1 a xs ∧ R (Itt K a) H1) ∨ ∃ z, x = .str z ∧ R (Its z) H1
theorem pi_seq {l : Expr} {tl : TE} (hl : PE X l tl) : PI X tg l (iSeq X.K tl) := by
  refine ⟨fun pins s σ H R I h => thn (hl.run pins s σ H _ I h) fun v s1 ⟨x, H1, I1, r1, q1⟩ => ?_⟩
  rcases q1 with ⟨a, xs, e, hq, q⟩ | ⟨a, xs, e, hq, q⟩ | ⟨z, e, q⟩
  · subst e
    cases r1
    obtain ⟨its, rv, p, hz⟩ := I1.list hq
    exact wpAny_pyIter_list p.isList (pi_one (tk := s1.toks) I1 _ (turn_list a _) ⟨_, Heap.get?_push_size _ rfl, rfl, rfl⟩ q)
  · subst e
    cases r1
    obtain ⟨its, rv, p, hz⟩ := I1.tuple hq
    exact wpAny_pyIter_tuple (show s1.heap.IsTuple a its.toArray from p) (pi_one (tk := s1.toks) I1 _ (turn_tuple a _) ⟨_, Heap.get?_push_size _ rfl, rfl, rfl⟩ q)
  · subst e
    obtain ⟨t, rfl⟩ := r1
    cases ha : z.cps.all (· < 128)
    · exact wpAny_pyIter_wide ha (pi_one (tk := s1.toks) I1 _ (turn_str _ z t "str_iterator" (.inr rfl)) ⟨_, Heap.get?_push_size _ rfl, rfl, rfl⟩ q)
    · exact wpAny_pyIter_ascii ha (pi_one (tk := s1.toks) I1 _ (turn_str _ z t "str_ascii_iterator" (.inl rfl)) ⟨_, Heap.get?_push_size _ rfl, rfl, rfl⟩ q)
def sItems (m : SE) : SA := fun e h => (m e h).bind fun d h1 => match d with
  | .lst l => .ok l h1
  | .tup l => .ok l h1
  | .str z => .ok (signs z) h1
  | _ => .bad
theorem mi_seq {l : Expr} {m : SE} (hl : ME X W l m) : MI X W tg l (sItems m) := by
  refine PI.wk (pi_seq hl) fun σ H R q => ?_
  obtain ⟨ρ, h, e, s, er, p⟩ := q
  refine ⟨ρ, h, e, s, er, (Post.bind p).imp fun ρ1 h1 H1 d1 x1 s1 p1 v1 r1 => ?_⟩
  cases d1 with
  | lst l =>
    simp only [DR] at r1
    obtain ⟨a, vs, rfl, t, rs⟩ := r1
    exact .inl ⟨a, vs, rfl, t.sq, p1.here s1 _ (gives_list t rs)⟩
  | tup l =>
    obtain ⟨a, vs, rfl, t, rs⟩ := dr_tup r1
    exact .inr (.inl ⟨a, vs, rfl, t.sq, p1.here s1 _ (gives_tup t rs)⟩)
  | str z =>
    cases dr_str r1
    exact .inr (.inr ⟨z, rfl, p1.here s1 _ gives_str⟩)
  | _ => exact p1.elim
def rangeD (lo : Int) (n : Nat) : List D := (List.range n).map fun i => .int (lo + (i : Nat))
theorem gives_range {ρ : List Addr} {h : Sto} {H : Hp} {lo : Int} {n : Nat} : Gives X.K (Itr lo n) (rangeD lo n) ρ h H := fun ρ' h' H' x s => by
  refine ⟨fun i d e => ?_, by simp [rangeD, Itr]⟩
  have hi : i < n := by
    have := (List.getElem?_eq_some_iff.mp e).1
    simpa [rangeD] using this
  refine ⟨hi, fun y H'' q => ?_⟩
  obtain ⟨rfl, rfl⟩ := q
  refine ⟨.refl, s, ?_⟩
  have e2 : (rangeD lo n)[i]? = some (.int (lo + (i : Nat))) := by
    unfold rangeD
    rw [List.getElem?_map, List.getElem?_range hi]
    rfl
  rw [e2] at e
  cases e
  exact dr_mkInt
/-- no more than the machine's range takes -/
def rngOk (i : Int) : Bool := decide (-16777216 ≤ i) && decide (i ≤ 16777216)
theorem rngOk_lt {i : Int} (h : rngOk i = true) : -(2 ^ 62) ≤ i ∧ i < 2 ^ 62 := by
  simp only [rngOk, Bool.and_eq_true, decide_eq_true_eq] at h
  omega
def sRange1 (m : SA) : SA := fun e h => (m e h).bind fun ds h1 => match ds with | [.int j] => if rngOk j = true then .ok (rangeD 0 j.toNat) h1 else .bad | _ => .bad
def sRange2 (m : SA) : SA := fun e h => (m e h).bind fun ds h1 => match ds with | [.int i, .int j] => if (rngOk i && rngOk j) = true then .ok (rangeD i (j - i).toNat) h1 else .bad | _ => .bad
theorem mi_range1 {a : Expr} {m : SA} {p pos : Pos} (hm : X.mg "range" = none) (ha : MA X W [a] m) (hg : Gl X "range" := by rfl) (hs : starEach [a] X.env = [(false, eval a X.env)] := by rfl) : MI X W tg (.Call (.Name "range" p) [a] [] pos) (sRange1 m) := by
  refine PI.wk (pi_range1 hg hm ha hs) fun σ H R q => ?_
  obtain ⟨ρ, h, e, s, er, p⟩ := q
  refine ⟨ρ, h, e, s, er, (Post.bind p).imp fun ρ1 h1 H1 ds x1 s1 p1 vs r1 => ?_⟩
  split at p1
  · rename_i j
    obtain ⟨v, rfl, rv⟩ := drs1 r1
    by_cases hb : rngOk j = true
    · rw [if_pos hb] at p1
      exact ⟨j, by rw [dr_int rv], (rngOk_lt hb).1, (rngOk_lt hb).2, p1.here s1 _ gives_range⟩
    · rw [if_neg hb] at p1
      exact p1.elim
  · exact p1.elim
theorem mi_range2 {a b : Expr} {m : SA} {p pos : Pos} (hm : X.mg "range" = none) (ha : MA X W [a, b] m) (hg : Gl X "range" := by rfl) (hs : starEach [a, b] X.env = [(false, eval a X.env), (false, eval b X.env)] := by rfl) (hs2 : starEach [b] X.env = [(false, eval b X.env)] := by rfl) :
    MI X W tg (.Call (.Name "range" p) [a, b] [] pos) (sRange2 m) := by
  refine PI.wk (pi_range2 hg hm ha hs hs2) fun σ H R q => ?_
  obtain ⟨ρ, h, e, s, er, p⟩ := q
  refine ⟨ρ, h, e, s, er, (Post.bind p).imp fun ρ1 h1 H1 ds x1 s1 p1 vs r1 => ?_⟩
  split at p1
  · rename_i i j
    obtain ⟨v, w, rfl, rv, rw'⟩ := drs2 r1
    by_cases hb : (rngOk i && rngOk j) = true
    · rw [if_pos hb] at p1
      simp only [Bool.and_eq_true] at hb
      exact ⟨i, j, by rw [dr_int rv, dr_int rw'], ⟨(rngOk_lt hb.1).1, (rngOk_lt hb.1).2, rngOk_lt hb.2⟩, p1.here s1 _ gives_range⟩
    · rw [if_neg hb] at p1
      exact p1.elim
  · exact p1.elim
/-- enumerate(a list), to two names -/
def enumD : Nat → List D → List D
  | _, [] => []
  | i, d :: ds => .tup [.int i, d] :: enumD (i + 1) ds
theorem enumD_len : ∀ (i : Nat) (l : List D), (enumD i l).length = l.length
  | _, [] => rfl
  | i, d :: ds => by simp [enumD, enumD_len (i + 1) ds]
theorem enumD_get : ∀ (l : List D) (k i : Nat) (d : D), (enumD k l)[i]? = some d → ∃ x, l[i]? = some x ∧ d = .tup [.int ((k + i : Nat) : Int), x]
  | [], k, i, d, e => by simp [enumD] at e
  | x :: r, k, 0, d, e => by
    simp [enumD] at e
    exact ⟨x, rfl, by rw [← e]; rfl⟩
  | x :: r, k, i + 1, d, e => by
    simp only [enumD, List.getElem?_cons_succ] at e
    obtain ⟨y, h1, h2⟩ := enumD_get r (k + 1) i d e
    exact ⟨y, by simpa using h1, by rw [h2, show k + 1 + i = k + (i + 1) by omega]⟩
def sEnum (m : SA) : SA := fun e h => (m e h).bind fun ds h1 => match ds with | [.lst l] => .ok (enumD 0 l) h1 | _ => .bad
theorem mi_enum {a : Expr} {m : SA} {elts : List Expr} {kk : Nat} {tpos p pos : Pos} (hm : X.mg "enumerate" = none) (ha : MA X W [a] m) (hg : Gl X "enumerate" := by rfl) (hs : starEach [a] X.env = [(false, eval a X.env)] := by rfl) :
    MI X W (.Tuple elts kk tpos) (.Call (.Name "enumerate" p) [a] [] pos) (sEnum m) := by
  refine PI.wk (pi_enum hg hm ha hs) fun σ H R q => ?_
  obtain ⟨ρ, h, e, s, er, p⟩ := q
  refine ⟨ρ, h, e, s, er, (Post.bind p).imp fun ρ1 h1 H1 ds x1 s1 p1 vs r1 => ?_⟩
  split at p1
  · rename_i l
    obtain ⟨v, rfl, rv⟩ := drs1 r1
    simp only [DR] at rv
    obtain ⟨a, ws, rfl, t, rs⟩ := rv
    refine ⟨a, ws, rfl, t.sq, p1.here s1 _ fun ρ' h' H' x s => ?_⟩
    have q := (t.ext x).sq
    have rs := rs.ext x
    have wk := walk_enum (K := X.K) (a := a) (xs := ws)
    have hl := rs.length
    refine ⟨fun i d e => ?_, by rw [enumD_len, ← hl]; exact wk.stops H' q⟩
    obtain ⟨y, e1, e2⟩ := enumD_get l 0 i d e
    have hi : i < ws.length := by rw [hl]; exact (List.getElem?_eq_some_iff.mp e1).1
    refine ⟨wk.goes i H' hi q, fun z H'' g => ?_⟩
    obtain ⟨T, u, w, rfl, nT, rfl, g1, g2⟩ := wk.yields i H' z H'' hi q g
    obtain ⟨v, f1, f2⟩ := rs.get e1
    have g3 := f1.symm.trans g2
    cases g3
    cases g1
    subst e2
    refine ⟨.new nT, s.new nT, DR.newTup s nT ?_⟩
    simp only [DRs]
    exact ⟨_, _, rfl, by simp only [DR, Nat.zero_add], _, _, rfl, f2, rfl⟩
  · exact p1.elim

/-! ### targets, for -/
theorem wipe_at {σ : L2.St} {i : Nat} {x : Option V} : ∀ vs : List Nat, (L2.wipe (σ.set i x) vs).set i none = (L2.wipe σ vs).set i none
  | [] => by
    show (σ.set i x).set i none = σ.set i none
    rw [List.set_set]
  | v :: vs => by
    show ((L2.wipe (σ.set i x) vs).set v none).set i none = ((L2.wipe σ vs).set v none).set i none
    by_cases e : v = i
    · subst e
      rw [List.set_set, List.set_set]
      exact wipe_at vs
    · rw [List.set_comm _ _ e, List.set_comm _ _ e, wipe_at vs]
theorem wipe_set {σ : L2.St} {i : Nat} {x : Option V} : ∀ {vs : List Nat}, i ∈ vs → L2.wipe (σ.set i x) vs = L2.wipe σ vs
  | v :: vs, h => by
    show (L2.wipe (σ.set i x) vs).set v none = (L2.wipe σ vs).set v none
    rcases List.mem_cons.mp h with e | h
    · subst e
      exact wipe_at vs
    · rw [wipe_set h]
def MTg (X : Cx) (tg : Expr) (is : List Nat) (f : D → Env → Option Env) : Prop := ∃ t, PG X tg t ∧ ∀ d v e e' σ Q ρ h H, SR X.K ρ h H → DR X.K (Live ρ h) ρ H d v → ER X.K ρ h H e σ → f d e = some e' →
  (∀ σ', ER X.K ρ h H e' σ' → (∀ vs : List Nat, (∀ i ∈ is, i ∈ vs) → L2.wipe σ' vs = L2.wipe σ vs) → Q σ' H) → t v σ H Q
def gN (i : Nat) : D → Env → Option Env := fun d e => some (e.set i (some d))
theorem mt_name {x : Str} {pos : Pos} (i : Nat) (hN : X.N.Nodup) (hi : X.N[i]? = some x := by rfl) (hx : Loc X.env.scope x := by first | exact Or.inl rfl | exact Or.inr rfl)
    (hf : X.fn x = true ∨ X.env.scope.names.lookup x = some .local := by first | exact .inl rfl | exact .inr rfl | assumption) : MTg X (.Name x pos) [i] (gN i) := by
  refine ⟨_, pg_name (i := i) hN hi hx hf, fun d v e e' σ Q ρ h H s r er hs q => ?_⟩
  cases hs
  exact q _ (er.set i r) fun vs hv => wipe_set (hv i List.mem_cons_self)
def gT (is : List Nat) : D → Env → Option Env := fun d e => match d with | .tup ds => setAll is ds e | _ => none
def MGw (X : Cx) (ts : List Expr) (is : List Nat) : Prop := ∃ t, PGs X ts t ∧ ∀ ds vs e e' σ Q ρ h H, DRs X.K (Live ρ h) ρ H ds vs → ER X.K ρ h H e σ → setAll is ds e = some e' →
  (∀ σ', ER X.K ρ h H e' σ' → (∀ vs : List Nat, (∀ i ∈ is, i ∈ vs) → L2.wipe σ' vs = L2.wipe σ vs) → Q σ' H) → t vs σ H Q
theorem mgw_nil : MGw X [] [] := ⟨_, pgs_nil, fun ds vs e e' σ Q ρ h H r er hs q => by
  cases ds with
  | nil =>
    simp only [DRs] at r
    cases hs
    exact ⟨r, q σ er fun _ _ => rfl⟩
  | cons d ds => cases hs⟩
theorem mgw_cons {x : Str} {pos : Pos} {ts : List Expr} {is : List Nat} (i : Nat) (hN : X.N.Nodup) (hr : MGw X ts is) (hi : X.N[i]? = some x := by rfl) (hx : Loc X.env.scope x := by first | exact Or.inl rfl | exact Or.inr rfl)
    (hf : X.fn x = true ∨ X.env.scope.names.lookup x = some .local := by first | exact .inl rfl | exact .inr rfl | assumption)
    (hs : (assignEach (.Name x pos :: ts) X.env).map (·.2) = assign (.Name x pos) X.env :: (assignEach ts X.env).map (·.2) := by rfl) : MGw X (.Name x pos :: ts) (i :: is) := by
  obtain ⟨t, h1, h2⟩ := hr
  refine ⟨_, pgs_cons (pg_name (i := i) hN hi hx hf) h1 hs, fun ds vs e e' σ Q ρ h H r er hs q => ?_⟩
  cases ds with
  | nil => cases hs
  | cons d ds =>
    simp only [DRs] at r
    obtain ⟨v, rs, rfl, r1, r2⟩ := r
    refine ⟨v, rs, rfl, h2 ds rs _ e' _ Q ρ h H r2 (er.set i r1) hs fun σ' er' wp => q σ' er' fun vs hv => ?_⟩
    rw [wp vs fun j hj => hv j (List.mem_cons_of_mem _ hj)]
    exact wipe_set (hv i List.mem_cons_self)
theorem mt_tup {ts : List Expr} {k : Nat} {is : List Nat} {pos : Pos} (hc : X.calm = true) (hg : MGw X ts is) (hn : (assignEach ts X.env).length = is.length := by rfl) (hst : (assignEach ts X.env).findIdx? (·.1) = none := by rfl) : MTg X (.Tuple ts k pos) is (gT is) := by
  obtain ⟨t, g1, g2⟩ := hg
  refine ⟨_, pg_tup (n := is.length) hc g1 hn hst, fun d v e e' σ Q ρ h H s r er hs q => ?_⟩
  cases d with
  | tup ds =>
    obtain ⟨a, vs, rfl, tp, rs⟩ := dr_tup r
    exact ⟨a, vs, rfl, tp.sq, by rw [rs.length, setAll_len hs], g2 ds vs e e' σ Q ρ h H rs er hs q⟩
  | _ => cases hs
def forL (f : D → Env → Option Env) (b : SS) : List D → SS
  | [] => fun e h => .ok (.nx e) h
  | d :: ds => fun e h => match f d e with
    | none => .bad
    | some e1 => (b e1 h).bind fun r h2 => (match r with
      | .nx e2 => forL f b ds e2 h2
      | .ct e2 => forL f b ds e2 h2
      | .bk e2 => .ok (.nx e2) h2
      | .rt v => .ok (.rt v) h2)
def sFor (m : SA) (f : D → Env → Option Env) (b : SS) : SS := fun e h => (inE e (m e h)).bind fun ds h1 => forL f b ds e h1
theorem ms_for {iter : Expr} {body : List Stmt} {pos : Pos} {m : SA} {is : List Nat} {f : D → Env → Option Env} {mb : SS} (hc : X.calm = true) (hp : PassesOwn (model X.prog X.w) X.A X.env X.xe) (hi : MI X W tg iter m) (hg : MTg X tg is f) (hb : MSs X W body mb) (hs : ∀ x, foldedSetIterable iter X.env x = pure x := by intro _; rfl) :
    MS X W (.For tg iter body [] pos) (sFor m f mb) := by
  obtain ⟨t, g1, g2⟩ := hg
  refine PS.wk (ps_for hp hc hi g1 hb hs) fun N σ H q => ?_
  obtain ⟨ρ, h, e, s, er, p⟩ := q
  refine ⟨ρ, h, e, s, er, ((Post.bind p).inE er).imp fun ρ1 h1 H1 ds x1 s1 p1 J gv => ?_⟩
  refine ⟨fun i n σ' H' => n = ds.length - i ∧ i ≤ ds.length ∧ ∃ ρ' h' e', Ext ρ1 h1 H1 ρ' h' H' ∧ SR X.K ρ' h' H' ∧ ER X.K ρ' h' H' e' σ' ∧ Post (gd X) ρ' h' H' (okS (gd X) N) W (forL f mb (ds.drop i) e' h'),
    ⟨ds.length, by simp, Nat.zero_le _, ρ1, h1, e, .refl, s1, er.ext x1, p1⟩, ?_⟩
  rintro i n σ' H' ⟨rfl, hle, ρ', h', e', x', s', er', p'⟩
  obtain ⟨gi, gs⟩ := gv ρ' h' H' x' s'
  by_cases hlt : i < ds.length
  · refine .inr ?_
    obtain ⟨go, yl⟩ := gi i ds[i] (List.getElem?_eq_getElem hlt)
    refine ⟨go, fun σ2 H2 => i + 1 ≤ ds.length ∧ ∃ ρ2 h2 e2, Ext ρ1 h1 H1 ρ2 h2 H2 ∧ SR X.K ρ2 h2 H2 ∧ ER X.K ρ2 h2 H2 e2 σ2 ∧ Post (gd X) ρ2 h2 H2 (okS (gd X) N) W (forL f mb (ds.drop (i + 1)) e2 h2),
      fun σ2 H2 z => ⟨ds.length - (i + 1), by omega, rfl, z.1, z.2⟩, fun x H2 y => ?_⟩
    obtain ⟨x2, s2, r2⟩ := yl x H2 y
    rw [List.drop_eq_getElem_cons hlt] at p'
    cases hf : f ds[i] e' with
    | none =>
      simp only [forL, hf] at p'
      exact p'.elim
    | some e1 =>
      simp only [forL, hf] at p'
      refine g2 ds[i] x e' e1 σ' _ ρ' h' H2 s2 r2 (er'.ext x2) hf fun σ3 er3 _ => ⟨ρ', h', e1, s2, er3, ?_⟩
      refine (Post.bind (p'.later x2)).imp fun ρ4 h4 H4 fl x4 s4 p4 => ?_
      have far := (x'.trans x2).trans x4
      cases fl with
      | nx e5 => exact fun σ5 er5 => ⟨hlt, ρ4, h4, e5, far, s4, er5, p4⟩
      | ct e5 => exact fun σ5 er5 => ⟨hlt, ρ4, h4, e5, far, s4, er5, p4⟩
      | bk e5 => exact (p4.here s4 :)
      | rt v => exact (p4.here s4 :)
  · have e2 : i = ds.length := by omega
    subst e2
    refine .inl ⟨gs, ?_⟩
    rw [List.drop_length] at p'
    exact p'.here s' σ' er'

/-! ### list comprehensions -/
def lcL (f : D → Env → Option Env) (t : SB) (m : SE) (n : Nat) (e0 : Env) : List D → Sto → R Unit
  | [], h => .ok () h
  | d :: ds, h => match f d e0 with
    | none => .bad
    | some e1 => (t e1 h).bind fun b h1 => if b = true then (m e1 h1).bind fun v h2 => (match h2[n]? with
        | some (.L acc) => if acc.length < LN then lcL f t m n e0 ds (h2.set n (.L (acc ++ [v]))) else .bad
        | _ => .bad) else lcL f t m n e0 ds h1
/-- its list handed on as a value that no one changes -/
def lcFin (n : Nat) : R Unit → R D
  | .ok _ h => (match h[n]? with
    | some (.L acc) => if (D.blws n acc && (h.take n).all (Cell.blw n)) = true then .ok (.lst acc) (h.take n) else .bad
    | _ => .bad)
  | _ => .bad
def sLc (own : List Nat) (it : SA) (f : D → Env → Option Env) (t : SB) (m : SE) : SE := fun e h => (it e h).bind fun ds h1 => lcFin h1.length (lcL f t m h1.length (wipeE e own) ds (h1 ++ [.L []]))
def sYes : SB := fun _ h => .ok true h
def MTs (X : Cx) (W : WX) (ifs : List Expr) (t : SB) : Prop := PTs X ifs (tB' (gd X) W t)
theorem mts_nil : MTs X W [] sYes := by
  have p := pts_nil (X := X)
  refine ⟨fun pins s σ H Q I q => p.run pins s σ H Q I ?_⟩
  obtain ⟨ρ, h, e, s, er, p⟩ := q
  exact (p.here s :)
theorem mts_one {c : Expr} {t : SB} (h : MB X W c t) : MTs X W [c] t := pts_one h
theorem lc_fin {G : Gd} {ρ : List Addr} {h : Sto} {H : Hp} {p : Addr} {Q : VK} {W' : WX} {r : R Unit} (s : SR G.K ρ h H) (np : H p = none) (hz : Post G ρ h H (okD G Q) W' (lcFin h.length r)) :
    Post G (ρ ++ [p]) (h ++ [.L []]) (upd H p (.lst [])) (fun _ _ H' _ => Q (.ref p) H') W0 r := by
  cases r with
  | err z e h' => exact hz.elim
  | bad => exact hz.elim
  | ok u h' =>
    intro ρ' H' x' s'
    have far := (Ext.cell (c := .L []) (o := .lst []) s np).trans x'
    simp only [lcFin] at hz
    cases hn : h'[h.length]? with
    | none =>
      simp only [hn] at hz
      exact hz.elim
    | some c =>
      cases c with
      | gone =>
        simp only [hn] at hz
        exact hz.elim
      | M k =>
        simp only [hn] at hz
        exact hz.elim
      | L acc =>
        simp only [hn] at hz
        by_cases hb : (D.blws h.length acc && (h'.take h.length).all (Cell.blw h.length)) = true
        · rw [if_pos hb] at hz
          simp only [Bool.and_eq_true] at hb
          have e1 : ρ'[h.length]? = some p := x'.pre _ _ (by rw [← s.len, List.getElem?_append_right (Nat.le_refl _)]; simp)
          obtain ⟨vs, f, rs⟩ := s'.cells _ _ p hn e1
          refine hz (ρ'.take h.length) H' (far.cut s) (s'.cut hb.2) _ ?_
          simp only [DR]
          refine ⟨p, vs, rfl, .inl ⟨.inl f, fun l => ?_⟩, rs.cut _ _ hb.1⟩
          obtain ⟨i, c, i1, i2, i3⟩ := l
          have hi : i < h.length := by
            have := (List.getElem?_eq_some_iff.mp i2).1
            rw [List.length_take] at this
            omega
          rw [List.getElem?_take_of_lt hi] at i1 i2
          have := s'.inj i h.length p c (.L acc) i1 e1 i2 hn i3 (by simp)
          omega
        · rw [if_neg hb] at hz
          exact hz.elim
/-- one reading for the target, whatever the block -/
def gLc (X : Cx) (is : List Nat) (f : D → Env → Option Env) : TG := fun v σ H Q => ∃ d e e' ρ h, SR X.K ρ h H ∧ DR X.K (Live ρ h) ρ H d v ∧ ER X.K ρ h H e σ ∧ f d e = some e' ∧ ∀ σ', ER X.K ρ h H e' σ' → (∀ vs : List Nat, (∀ i ∈ is, i ∈ vs) → L2.wipe σ' vs = L2.wipe σ vs) → Q σ' H
theorem pg_lc {is : List Nat} {f : D → Env → Option Env} {scope : Scope} {tg : Expr} (hg : ∀ (s : Shared) (H : Hp) (C : Addr) (cl : List (Str × Addr)) (fp : List Addr), MTg (X.blk s H scope (compEnvC scope cl C X.env) fp) tg is f) :
    ∀ (s : Shared) (H : Hp) (C : Addr) (cl : List (Str × Addr)) (fp : List Addr), PG (X.blk s H scope (compEnvC scope cl C X.env) fp) tg (gLc X is f) := fun s H C cl fp => by
  obtain ⟨tt, g1, g2⟩ := hg s H C cl fp
  refine ⟨fun pins s σ H v u Q I r q => g1.run pins s σ H v u Q I r ?_⟩
  obtain ⟨d, e, e', ρ, h, sr, dr, er, hf, q⟩ := q
  exact g2 d v e e' σ Q ρ h H sr dr er hf q
theorem lc_read {it : SA} {is : List Nat} {vs : List Nat} {f : D → Env → Option Env} {t : SB} {m : SE} (his : ∀ i ∈ is, i ∈ vs) (σ : L2.St) (H : Hp) (Q : VK) (q : tE (gd X) W (sLc vs it f t m) σ H Q) :
    tLc (tI (gd X) W it) (gLc X is f) (tB' (gd X) W0 t) (tE (gd X) W0 m) vs σ H Q := by
  obtain ⟨ρ, h, e, s, er, p⟩ := q
  refine ⟨ρ, h, e, s, er, (Post.bind p).imp fun ρ1 h1 H1 ds x1 s1 p1 J gv a na => ?_⟩
  have c0 := Ext.cell (c := .L []) (o := .lst []) s1 na
  have sc : SR X.K (ρ1 ++ [a]) (h1 ++ [Cell.L []]) (upd H1 a (.lst [])) := s1.cell na ⟨[], upd_same, by simp [DRs]⟩
  have pz := lc_fin s1 na p1
  have ew : ER X.K (ρ1 ++ [a]) (h1 ++ [Cell.L []]) (upd H1 a (.lst [])) (wipeE e vs) (L2.wipe σ vs) := ((er.ext x1).ext c0).wipe _
  refine ⟨fun i n H' => n = ds.length - i ∧ i ≤ ds.length ∧ ∃ ρ' h', Ext (ρ1 ++ [a]) (h1 ++ [Cell.L []]) (upd H1 a (.lst [])) ρ' h' H' ∧ SR X.K ρ' h' H' ∧
      Post (gd X) ρ' h' H' (fun _ _ H' _ => Q (.ref a) H') W0 (lcL f t m h1.length (wipeE e vs) (ds.drop i) h'),
    ⟨ds.length, by simp, Nat.zero_le _, _, _, .refl, sc, pz⟩, ?_⟩
  rintro i n H' ⟨rfl, hle, ρ', h', x', s', p'⟩
  obtain ⟨gi, gs⟩ := gv ρ' h' H' (c0.trans x') s'
  by_cases hlt : i < ds.length
  · refine .inr ?_
    obtain ⟨go, yl⟩ := gi i ds[i] (List.getElem?_eq_getElem hlt)
    refine ⟨go, fun H2 => i + 1 ≤ ds.length ∧ ∃ ρ2 h2, Ext (ρ1 ++ [a]) (h1 ++ [Cell.L []]) (upd H1 a (.lst [])) ρ2 h2 H2 ∧ SR X.K ρ2 h2 H2 ∧
        Post (gd X) ρ2 h2 H2 (fun _ _ H' _ => Q (.ref a) H') W0 (lcL f t m h1.length (wipeE e vs) (ds.drop (i + 1)) h2),
      fun H2 z => ⟨ds.length - (i + 1), by omega, rfl, z.1, z.2⟩, fun x H2 y => ?_⟩
    obtain ⟨x2, s2, r2⟩ := yl x H2 y
    rw [List.drop_eq_getElem_cons hlt] at p'
    cases hf : f ds[i] (wipeE e vs) with
    | none =>
      simp only [lcL, hf] at p'
      exact p'.elim
    | some e1 =>
      simp only [lcL, hf] at p'
      refine ⟨ds[i], _, e1, ρ', h', s2, r2, (ew.ext x').ext x2, hf, fun σ3 er3 wp => ⟨?_, ρ', h', e1, s2, er3, ?_⟩⟩
      · rw [wp _ his]
        have idem : ∀ vs : List Nat, L2.wipe (L2.wipe σ vs) vs = L2.wipe σ vs := fun vs => by
          have gen : ∀ (us : List Nat) (τ : L2.St), (∀ i ∈ us, i ∈ vs) → L2.wipe (L2.wipe τ us) vs = L2.wipe τ vs := by
            intro us
            induction us with
            | nil => intro τ _; rfl
            | cons u us ih =>
              intro τ hu
              show L2.wipe ((L2.wipe τ us).set u none) vs = _
              rw [wipe_set (hu u List.mem_cons_self), ih τ fun j hj => hu j (List.mem_cons_of_mem _ hj)]
          exact gen vs σ fun _ z => z
        exact idem _
      · refine (Post.bind (p'.later x2)).imp fun ρ4 h4 H4 b x4 s4 p4 => ?_
        have far := (x'.trans x2).trans x4
        cases b with
        | false => exact ⟨hlt, ρ4, h4, far, s4, p4⟩
        | true =>
          have p4' : Post (gd X) ρ4 h4 H4 (fun _ _ H' _ => Q (.ref a) H') W0 ((m e1 h4).bind fun v h2 => (match h2[h1.length]? with
            | some (.L acc) => if acc.length < LN then lcL f t m h1.length (wipeE e vs) (ds.drop (i + 1)) (h2.set h1.length (.L (acc ++ [v]))) else .bad
            | _ => .bad)) := p4
          refine ⟨ρ4, h4, e1, s4, er3.ext x4, (Post.bind p4').imp fun ρ5 h5 H5 v x5 s5 p5 y r5 => ?_⟩
          have e5 : ρ5[h1.length]? = some a := x5.pre _ _ (x4.pre _ _ (x2.pre _ _ (x'.pre _ _ (by rw [← s1.len, List.getElem?_append_right (Nat.le_refl _)]; simp))))
          cases hn : h5[h1.length]? with
          | none =>
            simp only [hn] at p5
            exact p5.elim
          | some c =>
            cases c with
            | gone =>
              simp only [hn] at p5
              exact p5.elim
            | M k =>
              simp only [hn] at p5
              exact p5.elim
            | L acc =>
              simp only [hn] at p5
              by_cases hl : acc.length < LN
              · rw [if_pos hl] at p5
                obtain ⟨vs, fd, rs⟩ := s5.cells _ _ a hn e5
                have x6 : Ext ρ5 h5 H5 ρ5 (h5.set h1.length (.L (acc ++ [v]))) (upd H5 a (.lst (vs ++ [y]))) := .write e5 hn (by simp)
                refine ⟨vs, fd, by rw [rs.length, sizeLine_eq]; exact hl, hlt, ρ5, _, (far.trans x5).trans x6, s5.write e5 hn (by simp) ⟨_, upd_same, (rs.append (.one r5)).ext x6⟩, p5.later x6⟩
              · rw [if_neg hl] at p5
                exact p5.elim
  · have e2 : i = ds.length := by omega
    subst e2
    refine .inl ⟨gs, ?_⟩
    rw [List.drop_length] at p'
    exact (p'.here s' :)
theorem me_lc {elt iter : Expr} {ifs : List Expr} {scope : Scope} {own : List (Str × Nat)} {pos : Pos} {it : SA} {is : List Nat} {f : D → Env → Option Env} {t : SB} {m : SE} (hc : X.calm = true) (hN : X.N.Nodup) (hi : MI X W tg iter it) (ok : BlkOk X.N X.env.scope scope own)
    (his : ∀ i ∈ is, i ∈ own.map (·.2))
    (hg : ∀ (s : Shared) (H : Hp) (C : Addr) (cl : List (Str × Addr)) (fp : List Addr), MTg (X.blk s H scope (compEnvC scope cl C X.env) fp) tg is f)
    (ht : ∀ (s : Shared) (H : Hp) (C : Addr) (cl : List (Str × Addr)) (fp : List Addr), MTs (X.blk s H scope (compEnvC scope cl C X.env) fp) W0 ifs t)
    (he : ∀ (s : Shared) (H : Hp) (C : Addr) (cl : List (Str × Addr)) (fp : List Addr), ME (X.blk s H scope (compEnvC scope cl C X.env) fp) W0 elt m) (hs : ∀ x, foldedSetIterable iter X.env x = pure x := by intro _; rfl) :
    ME X W (.ListComp elt [⟨tg, iter, ifs, 0⟩] scope pos) (sLc (own.map (·.2)) it f t m) :=
  PE.wk (pe_lc (g := gLc X is f) (tt := tB' (gd X) W0 t) (te := tE (gd X) W0 m) hc hN hi ok (pg_lc hg) ht he hs) (lc_read his)
theorem ms_setLc {i : Nat} {y : Str} {py spos : Pos} {elt iter : Expr} {ifs : List Expr} {scope : Scope} {own : List (Str × Nat)} {pos : Pos} {it : SA} {is : List Nat} {f : D → Env → Option Env} {t : SB} {m : SE} (hc : X.calm = true) (hN : X.N.Nodup) (hi : MI X W tg iter it) (ok : BlkOk X.N X.env.scope scope own)
    (his : ∀ i ∈ is, i ∈ own.map (·.2))
    (hg : ∀ (s : Shared) (H : Hp) (C : Addr) (cl : List (Str × Addr)) (fp : List Addr), MTg (X.blk s H scope (compEnvC scope cl C X.env) fp) tg is f)
    (ht : ∀ (s : Shared) (H : Hp) (C : Addr) (cl : List (Str × Addr)) (fp : List Addr), MTs (X.blk s H scope (compEnvC scope cl C X.env) fp) W0 ifs t)
    (he : ∀ (s : Shared) (H : Hp) (C : Addr) (cl : List (Str × Addr)) (fp : List Addr), ME (X.blk s H scope (compEnvC scope cl C X.env) fp) W0 elt m) (hy : X.N[i]? = some y := by rfl) (hyl : X.env.scope.names.lookup y = some .local := by rfl) (hsw : swapsWith (.ListComp elt [⟨tg, iter, ifs, 0⟩] scope pos) (some (.Name y py)) spos.line X.env = pure true := by exact sw_true rfl rfl rfl (by decide +kernel)) (hs : ∀ x, foldedSetIterable iter X.env x = pure x := by intro _; rfl) :
    MS X W (.Assign [.Name y py] (.ListComp elt [⟨tg, iter, ifs, 0⟩] scope pos) spos) (sSet i (sLc (own.map (·.2)) it f t m)) := by
  refine PS.wk (ps_setLc (g := gLc X is f) (tt := tB' (gd X) W0 t) (te := tE (gd X) W0 m) hc hN hy hyl hsw hi ok (pg_lc hg) ht he hs) fun N σ H q => ?_
  refine lc_read his σ H _ ?_
  obtain ⟨ρ, h, e, s, er, p⟩ := q
  refine ⟨ρ, h, e, s, er, ((Post.bind p).inE er).imp fun ρ1 h1 H1 d x1 s1 p1 v r => ?_⟩
  exact p1.here s1 _ ((er.ext x1).set i r)
end
end MR
end
section
set_option maxHeartbeats 1000000
/-! Mirror layer, part G: dicts as cells, module tuples, more statements. -/
namespace MR
open PySem PySem.Spec PyProof.Rows L2

/-! ### tables -/
def valM : List (Key × D) → Key → Option D
  | [], _ => none
  | (k', d) :: r, k => if k' = k then some d else valM r k
def putM (kvs : List (Key × D)) (k : Key) (d : D) : List (Key × D) :=
  if (kvs.any fun kv => decide (kv.1 = k)) = true then kvs.map (fun kv => if kv.1 = k then (kv.1, d) else kv) else kvs ++ [(k, d)]
section
variable {K : PySem.W.Frag} {L : Addr → Prop} {ρ : List Addr} {H : Hp}
def KvR (K : PySem.W.Frag) (L : Addr → Prop) (ρ : List Addr) (H : Hp) (kvs : List (Key × D)) (kvs' : List (Key × V)) : Prop :=
  kvs'.map (·.1) = kvs.map (·.1) ∧ DRs K L ρ H (kvs.map (·.2)) (kvs'.map (·.2))
theorem KvR.cases {k : Key} {d : D} {r : List (Key × D)} {kvs' : List (Key × V)} (q : KvR K L ρ H ((k, d) :: r) kvs') : ∃ v r', kvs' = (k, v) :: r' ∧ DR K L ρ H d v ∧ KvR K L ρ H r r' := by
  obtain ⟨q1, q2⟩ := q
  cases kvs' with
  | nil => cases q1
  | cons p r' =>
    obtain ⟨k', v⟩ := p
    simp only [List.map_cons, List.cons.injEq] at q1
    simp only [List.map_cons, DRs] at q2
    obtain ⟨v2, r2, e, h1, h2⟩ := q2
    simp only [List.cons.injEq] at e
    obtain ⟨rfl, rfl⟩ := e
    obtain ⟨rfl, q1⟩ := q1
    exact ⟨v, r', rfl, h1, q1, h2⟩
theorem KvR.mk {k : Key} {d : D} {v : V} {r : List (Key × D)} {r' : List (Key × V)} (h : DR K L ρ H d v) (q : KvR K L ρ H r r') : KvR K L ρ H ((k, d) :: r) ((k, v) :: r') := by
  refine ⟨by simp [q.1], ?_⟩
  simp only [List.map_cons, DRs]
  exact ⟨_, _, rfl, h, q.2⟩
theorem KvR.nil {kvs' : List (Key × V)} (q : KvR K L ρ H [] kvs') : kvs' = [] := by
  cases kvs' with
  | nil => rfl
  | cons p r => cases q.1
theorem KvR.val : ∀ {kvs : List (Key × D)} {kvs' : List (Key × V)} {k : Key} {d : D}, KvR K L ρ H kvs kvs' → valM kvs k = some d → ∃ v, valV kvs' k = some v ∧ DR K L ρ H d v
  | [], _, k, d, _, e => by cases e
  | (k0, d0) :: r, kvs', k, d, q, e => by
    obtain ⟨v, r', rfl, h1, h2⟩ := q.cases
    unfold valM at e
    split at e
    · rename_i z
      cases e
      exact ⟨v, by rw [valV_pos (by exact z)], h1⟩
    · rename_i z
      obtain ⟨w, w1, w2⟩ := KvR.val h2 e
      exact ⟨w, by rw [valV_neg (by exact z)]; exact w1, w2⟩
theorem KvR.any : ∀ {kvs : List (Key × D)} {kvs' : List (Key × V)} {k : Key}, KvR K L ρ H kvs kvs' → (kvs'.any fun kv => decide (kv.1 = k)) = (kvs.any fun kv => decide (kv.1 = k))
  | [], _, k, q => by
    rw [q.nil]
    rfl
  | (k0, d0) :: r, kvs', k, q => by
    obtain ⟨v, r', rfl, h1, h2⟩ := q.cases
    rw [List.any_cons, List.any_cons, KvR.any h2]
theorem KvR.repl : ∀ {kvs : List (Key × D)} {kvs' : List (Key × V)} {k : Key} {d : D} {v : V}, KvR K L ρ H kvs kvs' → DR K L ρ H d v →
    KvR K L ρ H (kvs.map (fun kv => if kv.1 = k then (kv.1, d) else kv)) (kvs'.map (fun kv => if kv.1 = k then (kv.1, v) else kv))
  | [], _, k, d, v, q, _ => by
    rw [q.nil]
    exact ⟨rfl, by simp [DRs]⟩
  | (k0, d0) :: r, kvs', k, d, v, q, h => by
    obtain ⟨w, r', rfl, h1, h2⟩ := q.cases
    rw [List.map_cons, List.map_cons]
    by_cases z : k0 = k
    · rw [if_pos (show (k0, d0).1 = k from z), if_pos (show (k0, w).1 = k from z)]
      exact .mk h (KvR.repl h2 h)
    · rw [if_neg (show ¬ (k0, d0).1 = k from z), if_neg (show ¬ (k0, w).1 = k from z)]
      exact .mk h1 (KvR.repl h2 h)
theorem KvR.put {kvs : List (Key × D)} {kvs' : List (Key × V)} {k : Key} {d : D} {v : V} (q : KvR K L ρ H kvs kvs') (h : DR K L ρ H d v) : KvR K L ρ H (putM kvs k d) (putK kvs' k v) := by
  unfold putM putK
  rw [q.any]
  split
  · exact q.repl h
  · refine ⟨by simp [q.1], ?_⟩
    rw [List.map_append, List.map_append]
    exact q.2.append (.one h)
theorem KvR.ext {ρ' : List Addr} {h h' : Sto} {H' : Hp} {kvs : List (Key × D)} {kvs' : List (Key × V)} (q : KvR K (Live ρ h) ρ H kvs kvs') (x : Ext ρ h H ρ' h' H') : KvR K (Live ρ' h') ρ' H' kvs kvs' := ⟨q.1, q.2.ext x⟩
theorem KvR.len {kvs : List (Key × D)} {kvs' : List (Key × V)} (q : KvR K L ρ H kvs kvs') : kvs'.length = kvs.length := by
  have := congrArg List.length q.1
  simpa using this
theorem cell_M {h : Sto} {n : Nat} {a : Addr} {kvs : List (Key × D)} (s : SR K ρ h H) (hn : h[n]? = some (.M kvs)) (e1 : ρ[n]? = some a) : ∃ kvs', H a = some (.dK kvs') ∧ KvR K (Live ρ h) ρ H kvs kvs' := by
  obtain ⟨kvs', f, q⟩ := s.cells n _ a hn e1
  exact ⟨kvs', f, q⟩
end
theorem mergeK_nodup : ∀ (more kvs : List (Key × V)), ((kvs ++ more).map (·.1)).Nodup → mergeK kvs more = kvs ++ more
  | [], kvs, _ => by simp [mergeK]
  | p :: r, kvs, hn => by
    have hput : putK kvs p.1 p.2 = kvs ++ [p] := by
      unfold putK
      rw [if_neg]
      intro z
      rw [List.any_eq_true] at z
      obtain ⟨q, hq, e⟩ := z
      rw [decide_eq_true_eq] at e
      rw [List.map_append, List.map_cons] at hn
      exact (List.nodup_append.mp hn).2.2 q.1 (List.mem_map_of_mem hq) p.1 List.mem_cons_self e
    show mergeK (putK kvs p.1 p.2) r = _
    rw [hput, mergeK_nodup r (kvs ++ [p]) (by simpa using hn)]
    simp

section
variable {X : Cx} {W : WX}
/-! ### {'k': v, ..} -/
def zipK (ks : List Key) (vs : List V) : List (V × V) := (ks.zip vs).map fun kv => (kV kv.1, kv.2)
def MPs (X : Cx) (W : WX) (pos : Pos) (keys : List (Option Expr)) (values : List Expr) (ks : List Key) (m : SA) : Prop := ∃ trs, PPs X pos keys values trs ∧
  ∀ σ H Q, tA (gd X) W m σ H (fun vs H' => vs.length = ks.length → Q (zipK ks vs) H') → tPairs trs σ H Q
theorem mps_nil {pos : Pos} : MPs X W pos [] [] [] sNil := ⟨[], pps_nil, fun σ H Q q => by
  obtain ⟨ρ, h, e, s, er, p⟩ := q
  exact p.here s [] (by simp [DRs]) rfl⟩
theorem mps_str {pos p1 : Pos} {x : Str} {j} {v : Expr} {keys : List (Option Expr)} {values : List Expr} {ks : List Key} {mv : SE} {m : SA} (hv : ME X W v mv) (hr : MPs X W pos keys values ks m) :
    MPs X W pos (some (.Constant (.str x) j p1) :: keys) (v :: values) ((Sum.inr x : Key) :: ks) (sCons mv m) := by
  obtain ⟨trs, g1, g2⟩ := hr
  refine ⟨_, pps_cons pe_str hv g1, fun σ H Q q => ?_⟩
  obtain ⟨ρ, h, e, s, er, p⟩ := q
  show tE (gd X) W mv σ H fun y H2 => tPairs trs σ H2 fun ps H3 => Q ((V.str x, y) :: ps) H3
  refine ⟨ρ, h, e, s, er, (Post.bind p).imp fun ρ1 h1 H1 d1 x1 s1 p1 v1 r1 => ?_⟩
  refine g2 σ H1 _ ⟨ρ1, h1, e, s1, er.ext x1, (Post.bind p1).imp fun ρ2 h2 H2 ds x2 s2 p2 vs r2 hl => ?_⟩
  exact p2.here s2 (v1 :: vs) (by simp only [DRs]; exact ⟨_, _, rfl, r1.ext x2, r2⟩) (by simp [hl])
def sDisp (ks : List Key) (m : SA) : SE := fun e h => (m e (h ++ [Cell.M []])).bind fun ds h1 => match h1[h.length]? with
  | some (.M []) => if ds.length = ks.length then .ok (.ref h.length) (h1.set h.length (.M (ks.zip ds))) else .bad
  | _ => .bad
theorem kvR_zip {K : PySem.W.Frag} {L : Addr → Prop} {ρ : List Addr} {H : Hp} : ∀ {ks : List Key} {ds : List D} {vs : List V}, ds.length = ks.length → DRs K L ρ H ds vs → KvR K L ρ H (ks.zip ds) (ks.zip vs)
  | [], [], vs, _, r => by
    simp only [DRs] at r
    subst r
    exact ⟨rfl, by simp [DRs]⟩
  | k :: ks, d :: ds, vs, hl, r => by
    simp only [DRs] at r
    obtain ⟨v, rs, rfl, r1, r2⟩ := r
    exact .mk r1 (kvR_zip (by simpa using hl) r2)
  | [], _ :: _, _, hl, _ => by cases hl
  | _ :: _, [], _, hl, _ => by cases hl
theorem me_disp {pos : Pos} {keys : List (Option Expr)} {values : List Expr} {ks : List Key} {m : SA} (hm : MPs X W pos keys values ks m) (hnd : ks.Nodup := by decide) (hk : ks.length ≤ 15 := by decide) (hall : keys.all (·.isSome) = true := by rfl) (hl : keys.length = values.length := by rfl)
    (h0 : keys ≠ [] := by intro z; cases z) (h15 : keys.length ≤ 15 := by decide) : ME X W (.Dict keys values pos) (sDisp ks m) := by
  obtain ⟨trs, g1, g2⟩ := hm
  refine PE.wk (pe_disp g1 hall hl h0 h15) fun σ H Q q => ?_
  obtain ⟨ρ, h, e, s, er, p⟩ := q
  intro a na
  have x0 : Ext ρ h H (ρ ++ [a]) (h ++ [Cell.M []]) (upd H a (.dK [])) := .cell s na
  have s0 : SR X.K (ρ ++ [a]) (h ++ [Cell.M []]) (upd H a (.dK [])) := s.cell na ⟨[], upd_same, rfl, by simp [DRs]⟩
  refine g2 σ _ _ ⟨ρ ++ [a], h ++ [Cell.M []], e, s0, er.ext x0, ?_⟩
  have p0 := Post.bind p
  -- the work goes on from the state with the new cell
  have p1 : Post (gd X) (ρ ++ [a]) (h ++ [Cell.M []]) (upd H a (.dK [])) (fun ρ' h' H' ds => Post (gd X) ρ' h' H' (okD (gd X) Q) (fun c d _ => W c d σ) (match h'[h.length]? with
      | some (.M []) => if ds.length = ks.length then .ok (.ref h.length) (h'.set h.length (.M (ks.zip ds))) else .bad
      | _ => .bad)) (fun c d _ => W c d σ) (m e (h ++ [Cell.M []])) := p0.later x0
  refine p1.imp fun ρ1 h1 H1 ds x1 s1 p2 vs r1 hl2 => ?_
  have e1 : ρ1[h.length]? = some a := x1.pre _ _ (by rw [← s.len, List.getElem?_append_right (Nat.le_refl _)]; simp)
  split at p2
  · rename_i hn
    split at p2
    · rename_i hld
      obtain ⟨kvs', f, kr⟩ := cell_M s1 hn e1
      cases kr.nil
      refine ⟨f, ks.zip vs, rfl, ?_, ?_⟩
      · rw [List.length_zip]
        omega
      · have x3 : Ext ρ1 h1 H1 ρ1 (h1.set h.length (.M (ks.zip ds))) (upd H1 a (.dK (ks.zip vs))) := .write e1 hn (by simp)
        have kz := kvR_zip hld r1
        rw [mergeK_nodup (ks.zip vs) [] (by rw [List.nil_append, List.map_fst_zip (by omega)]; exact hnd), List.nil_append]
        refine p2 ρ1 _ x3 (s1.write e1 hn (by simp) ⟨_, upd_same, kz.ext x3⟩) (.ref a) ?_
        simp only [DR]
        exact ⟨a, e1, rfl⟩
    · exact p2.elim
  · exact p2.elim
def sDNew : SE := fun _ h => .ok (.ref h.length) (h ++ [Cell.M []])
theorem me_dnew {pos : Pos} : ME X W (.Dict [] [] pos) sDNew := by
  refine PE.wk pe_dnewK fun σ H Q q => ?_
  obtain ⟨ρ, h, e, s, er, p⟩ := q
  intro a na
  exact p (ρ ++ [a]) _ (.cell s na) (s.cell na ⟨[], upd_same, rfl, by simp [DRs]⟩) _ (ref_new s)

/-! ### d['k'], d['k'] = v -/
def keyOf : D → Option Key
  | .str s => some (Sum.inr s)
  | .int i => some (Sum.inl i)
  | _ => none
theorem keyOf_v {K : PySem.W.Frag} {L : Addr → Prop} {ρ : List Addr} {H : Hp} {d : D} {v : V} {k : Key} (r : DR K L ρ H d v) (e : keyOf d = some k) : v = kV k := by
  cases d <;> simp only [keyOf, reduceCtorEq] at e
  · cases e
    exact dr_int r
  · cases e
    exact dr_str r
def fDGet (h : Sto) (x y : D) : Option D := match x with
  | .ref n => (match h[n]? with
    | some (.M kvs) => (keyOf y).bind fun k => valM kvs k
    | _ => none)
  | _ => none
theorem me_dget {o i : Expr} {pos : Pos} {mo mi : SE} (hu : X.A.units + 1 < cLine) (ho : ME X W o mo) (hi : ME X W i mi) (hs : NoSl i := by intro _ _; rfl) : ME X W (.Subscript o i pos) (sOp fDGet mo mi) := by
  refine PE.wk (pe_dget hu ho hi hs) fun σ H Q q => ?_
  obtain ⟨ρ, h, e, s, er, p⟩ := q
  refine ⟨ρ, h, e, s, er, (Post.bind p).imp fun ρ1 h1 H1 d1 x1 s1 p1 v1 r1 => ?_⟩
  refine ⟨ρ1, h1, e, s1, er.ext x1, (Post.bind p1).imp fun ρ2 h2 H2 d2 x2 s2 p2 v2 r2 => ?_⟩
  have r1' := r1.ext x2
  cases hf : fDGet h2 d1 d2 with
  | none =>
    rw [hf] at p2
    exact p2.elim
  | some d =>
    rw [hf] at p2
    unfold fDGet at hf
    split at hf
    · rename_i n
      split at hf
      · rename_i kvs hn
        obtain ⟨k, k1, k2⟩ := Option.bind_eq_some_iff.mp hf
        simp only [DR] at r1'
        obtain ⟨a, e1, rfl⟩ := r1'
        obtain ⟨kvs', f, kr⟩ := cell_M s2 hn e1
        obtain ⟨w, w1, w2⟩ := kr.val k2
        rw [keyOf_v r2 k1]
        exact ⟨a, w, rfl, w1 ▸ DGet.k f, p2.here s2 w w2⟩
      · cases hf
    · cases hf
def sDPutE (mo mi mv : SE) : SE := fun e h => (mv e h).bind fun v h1 => (mo e h1).bind fun x h2 => (mi e h2).bind fun y h3 => match x with
  | .ref n => (match h3[n]? with
    | some (.M kvs) => (match keyOf y with
      | some k => if kvs.length < 4096 then .ok .non (h3.set n (.M (putM kvs k v))) else .bad
      | none => .bad)
    | _ => .bad)
  | _ => .bad
def sStm (m : SE) : SS := fun e h => (inE e (m e h)).bind fun _ h1 => .ok (.nx e) h1
theorem ms_dput {o i v : Expr} {pos pos' : Pos} {mo mi mv : SE} (hu : X.A.units + 1 < cLine) (ho : ME X W o mo) (hi : ME X W i mi) (hv : ME X W v mv) (hs : swapsWith v (some (.Subscript o i pos')) pos.line X.env = pure false := by rfl) :
    MS X W (.Assign [.Subscript o i pos'] v pos) (sStm (sDPutE mo mi mv)) := by
  refine PS.wk (ps_dput hu ho hi hv hs) fun N σ H q => ?_
  obtain ⟨ρ, h, e, s, er, p⟩ := q
  have p0 := (Post.bind p).inE er
  refine ⟨ρ, h, e, s, er, (Post.bind p0).imp fun ρ1 h1 H1 d1 x1 s1 p1 v1 r1 => ?_⟩
  refine ⟨ρ1, h1, e, s1, er.ext x1, (Post.bind p1).imp fun ρ2 h2 H2 d2 x2 s2 p2 v2 r2 => ?_⟩
  refine ⟨ρ2, h2, e, s2, (er.ext x1).ext x2, (Post.bind p2).imp fun ρ3 h3 H3 d3 x3 s3 p3 v3 r3 => ?_⟩
  have r2' := r2.ext x3
  have r1' := (r1.ext x2).ext x3
  split at p3
  · rename_i n
    split at p3
    · rename_i kvs hn
      split at p3
      · rename_i k hk
        split at p3
        · rename_i hl
          simp only [DR] at r2'
          obtain ⟨a, e1, rfl⟩ := r2'
          obtain ⟨kvs', f, kr⟩ := cell_M s3 hn e1
          rw [keyOf_v r3 hk]
          have x4 : Ext ρ3 h3 H3 ρ3 (h3.set n (.M (putM kvs k d1))) (upd H3 a (.dK (putK kvs' k v1))) := .write e1 hn (by simp)
          refine ⟨a, _, rfl, DPut.k f (by rw [kr.len, sizeLine_eq]; omega), ?_⟩
          have s4 : SR X.K ρ3 (h3.set n (.M (putM kvs k d1))) (upd H3 a (.dK (putK kvs' k v1))) := s3.write e1 hn (by simp) ⟨_, upd_same, (kr.put r1').ext x4⟩
          exact p3 ρ3 _ x4 s4 ρ3 _ .refl s4 σ ((((er.ext x1).ext x2).ext x3).ext x4)
        · exact p3.elim
      · exact p3.elim
    · exact p3.elim
  · exact p3.elim

/-! ### a, b, c = x, y, z -/
def sPar3 (i j l : Nat) (m : SA) : SS := fun e h => (inE e (m e h)).bind fun ds h1 => match ds with | [a, b, c] => .ok (.nx (((e.set i (some a)).set j (some b)).set l (some c))) h1 | _ => .bad
theorem ms_par3 {i j l : Nat} {x y z : Str} {a b c : Expr} {m : SA} {px py pz pt pt2 pos : Pos} {kt k2} (hc : X.calm = true) (hN : X.N.Nodup) (hm : MA X W [a, b, c] m) (hij : i ≠ j := by decide) (hil : i ≠ l := by decide) (hjl : j ≠ l := by decide)
    (hi : X.N[i]? = some x := by rfl) (hj : X.N[j]? = some y := by rfl) (hl : X.N[l]? = some z := by rfl)
    (hx : X.env.scope.names.lookup x = some .local := by rfl) (hy : X.env.scope.names.lookup y = some .local := by rfl) (hz : X.env.scope.names.lookup z = some .local := by rfl)
    (hw : swappedStores [.Tuple [.Name x px, .Name y py, .Name z pz] kt pt] (.Tuple [a, b, c] k2 pt2) X.env = pure (some [x, y, z]) := by rfl)
    (hs : swapsWithSole [.Tuple [.Name x px, .Name y py, .Name z pz] kt pt] (.Tuple [a, b, c] k2 pt2) pos.line X.env = pure false := by rfl) :
    MS X W (.Assign [.Tuple [.Name x px, .Name y py, .Name z pz] kt pt] (.Tuple [a, b, c] k2 pt2) pos) (sPar3 i j l m) := by
  refine PS.wk (ps_par3 hc hN hi hj hl hij hil hjl hx hy hz hm hw hs) fun N σ H q => ?_
  obtain ⟨ρ, h, e, s, er, p⟩ := q
  refine ⟨ρ, h, e, s, er, ((Post.bind p).inE er).imp fun ρ1 h1 H1 ds x1 s1 p1 vs r => ?_⟩
  match ds, r, p1 with
  | [], _, p1 => exact p1.elim
  | [_], _, p1 => exact p1.elim
  | [_, _], _, p1 => exact p1.elim
  | _ :: _ :: _ :: _ :: _, _, p1 => exact p1.elim
  | [a, b, c], r, p1 =>
    simp only [DRs] at r
    obtain ⟨v, r1, rfl, q1, w, r2, rfl, q2, u, r3, rfl, q3, rfl⟩ := r
    exact ⟨v, w, u, rfl, p1.here s1 _ ((((er.ext x1).set i q1).set j q2).set l q3)⟩

/-! ### a module's tuple of texts -/
def StrsK : List Value → List Str → Prop
  | [], ss => ss = []
  | v :: vs, ss => ∃ x t r, v = .str x t ∧ ss = x :: r ∧ StrsK vs r
theorem strsK_vals : ∀ {vs : List Value} {ss : List Str}, StrsK vs ss → Vals (ss.map V.str) vs
  | [], ss, h => by
    cases h
    exact .nil
  | v :: vs, ss, h => by
    obtain ⟨x, t, r, rfl, rfl, q⟩ := h
    exact .cons ⟨t, rfl⟩ (strsK_vals q)
theorem me_gtup {x : Str} {pos : Pos} {ss : List Str} (hm : ∃ (a : Addr) (o : Obj) (its : Array Value) (n : Nat), X.mg x = some (.ref a) ∧ X.K.lookup a = some o ∧ o.cls = .type "tuple" ∧ o.data = .seq its n ∧ its.size ≤ 4096 ∧ StrsK its.toList ss) (hg : Gl X x := by rfl) (hd : (x == ("__debug__" : Str)) = false := by decide) :
    ME X W (.Name x pos) (sC (.tup (ss.map D.str))) := by
  obtain ⟨a, o, its, n, h1, h2, h3, h4, h5, h6⟩ := hm
  refine me_c (pe_glob hg h1 (v := .ref a) rfl hd) fun L ρ H => ?_
  simp only [DR]
  exact ⟨a, ss.map V.str, rfl, .inr ⟨o, its, n, h2, h3, h4, line4096 h5, strsK_vals h6⟩, DRs.strs⟩
end
end MR
end
section
set_option maxHeartbeats 1000000
/-! Mirror layer, part H: own exceptions whose __init__ says super().__init__(e); self.f = e. Raised, caught. -/
namespace MR
open PySem PySem.Spec PyProof.Rows L2

/-! ### ValueError.__init__ bound to an exception, called -/
section
open PySem.W PySem.Calls
variable {prog : Program} {w : World} {A : Around} {E : Value → Shared → Prop} {h : Heap} {g : Array GenState} {d : Drawn} {t : Nat} {os : OsState}
variable {nm q : Str} {C N : Addr} {bs bm : List Value} {hdct : Bool} {sn : List Str} {sub : List Value} {ab : Bool} {col : Option Bool} {dd : Option Addr} {k0 k1 k2 k3 k5 : Option Value}
theorem call_mw {u e t0 : Addr} {rest : List Value} {Q : Value → Shared → Prop}
    (hC : h.get? C = some (excClassObj nm q C N bs bm hdct sn sub ab col dd k0 k1 k2 k3 k5 "ValueError.__new__")) (he : h.get? e = some (HandSPX.excO C t0)) (hu : h.get? u = some (kxs_mw "ValueError.__init__" e)) (hrest : rest.length ≤ sizeLine)
    (hq : ∀ h' t1, (∀ b o, b ≠ e → h.get? b = some o → h'.get? b = some o) → h'.get? e = some (HandSPX.excO C t1) → Q .none ⟨h', g, d, t, os⟩) :
    wpAny (model prog w) A (call (.ref u) rest) Q E ⟨h, g, d, t, os⟩ := by
  refine wpAny_call (codeAny_of_tree ?_)
  show wpAny _ A.in1 (callAny (.ref u) ⟨rest, []⟩) _ _ _
  simp only [callAny]
  refine wpAny_bind (wpAny_load hu ?_)
  simp only [kxs_mw, show (Value.type "method-wrapper" == Value.type "method" || Value.type "method-wrapper" == Value.type "builtin_function_or_method" || Value.type "method-wrapper" == Value.type "method-wrapper") = true by decide, if_true]
  refine KFB.if_so (by decide) ?_
  refine wpAny_bind (ESX.check_bound F.excBase_ValueError hC he rfl ?_)
  refine wpAny_bind (wpAny_pure (wpAny_pure ?_))
  refine ⟨plainId_quiet F.excBase_ValueError.init.plain _, codeAny_builtin F.excBase_ValueError.initEntry ?_⟩
  exact exc_init_tree (cls := .ref C) (t0 := t0) (dv := none) (c2 := .none) (c3 := .none) (b4 := .bool false) he hrest fun h' k e' _ => hq h' _ k e'
end
section
variable {X : Cx} {pins : List (Addr × Obj)} {σ : L2.St} {H : Hp} {s : Shared} {a C u : Addr} {A : Around} {E : Value → Shared → Prop}
theorem mw_ok {us : List Value} {Q : Value → Shared → Prop} (T : OexC X.K C) (I : Inv X pins σ H s) (e : H a = some (exo a C none)) (hu : s.heap.get? u = some (PySem.W.kxs_mw "ValueError.__init__" a)) (hl : us.length ≤ sizeLine) (h : ∀ s', Inv X pins σ H s' → Q .none s') :
    wpAny (model X.prog X.w) A (call (.ref u) us) Q E s := by
  obtain ⟨nm, q, N, bs, bm, sn, sub, ab, col, dd, k0, k1, k2, k3, k5, hC, hbm⟩ := T.cls
  obtain ⟨t1, ho⟩ := exo_at I.hok e
  obtain ⟨hp, g, d, t, os⟩ := s
  refine call_mw (I.kIn _ _ hC) ho hu hl fun h' t2 k hx => ?_
  have J := I.write (t' := t) (x := a) (e := a) (o := exo a C none) (by rw [e]; exact True.intro) (.inl rfl) k ⟨_, hx⟩ (exo_ok hx)
  have eu : upd H a (exo a C none) = H := by
    funext b
    by_cases hb : b = a
    · rw [hb, upd_same, e]
    · rw [upd_ne hb]
  rw [eu] at J
  exact h _ J
/-- a pin more -/
theorem inv_pin {p : Addr} {o : Obj} (I : Inv X pins σ H s) (hp : s.heap.get? p = some o) (n : H p = none) (nl : p ≠ X.env.locals) (nf : p ∉ X.fs) (nc : ∀ v, o.data ≠ .cell v) : Inv X ((p, o) :: pins) σ H s :=
  ⟨I.ok, I.os, I.bare, I.base, I.loc, I.cell, I.free, I.freeC, fun q hq => by
    rcases List.mem_append.mp hq with hq | hq
    · exact I.pin q (List.mem_append_left _ hq)
    · rcases List.mem_cons.mp hq with rfl | hq
      · exact ⟨hp, n, nl, nf, nc⟩
      · exact I.pin q (List.mem_append_right _ hq), I.hok, I.len⟩
end

/-! ### what is known of the class -/
structure IniF (P : Program) (K : PySem.W.Frag) (mg : Str → Option Value) (c : Str) (C fI cc cda : Addr) (f : Str) (fd : FuncData) (name qual : Str) (params : Arguments) (body : List Stmt) (scope : Scope) : Prop where
  T : OexC K C
  mgC : mg c = some (.ref C)
  lk : ∃ (oc : Value) (od : Option Addr) (osl : Array (Option Value)) (kV doc pm : Value) (an : Option Addr) (ct : Value), fd = PySem.W.ksFn name qual params body scope .none kV doc pm an (.ref cda) ct cc ∧ K.lookup fI = some ⟨oc, od, .func fd, osl⟩
  code : PySem.W.codeIn K (.ref cda) qual = true
  file : ∃ (co : Obj) (vs : Array Value) (file : Str) (tf : Tok), K.lookup cda = some co ∧ co.data = .fields vs ∧ vs[2]? = some (.str file tf) ∧ ((P.main.file : Str) == file) = true
  cell : ∃ co : Obj, K.lookup cc = some co ∧ co.data = .cell (some (.ref C))
  sub : PySem.W.mroIn K C (.ref C) = some true
  noSup : mg "super" = none
  noAny : PySem.W.nsIn K cStatics "thirdparty.any" = some none
  supI : PySem.W.ks_superIn K C C "__init__" = some (some (.builtin "ValueError.__init__"))
  isVE : PySem.W.subIn K (.ref C) (.type "ValueError") = some true
  noTop : (P.main.scope.names.lookup ("super" : Str)).isSome = false
  noF : PySem.W.findIn K (.ref C) f = some none
  iC : PySem.W.findIn K (.ref C) "__init__" = some (some (.ref fI))
  tI : PySem.W.typeIn K (.ref fI) = some (.type "function")
abbrev nfI (name qual : Str) (params : Arguments) (body : List Stmt) (scope : Scope) (cc cda : Addr) : NdefX.NF := ⟨name, qual, params, body, scope, [(("__class__" : Str), cc)], cda⟩
abbrev ix (P : Program) (w : World) (K : PySem.W.Frag) (mg : Str → Option Value) (base : Heap) (N : List Str) (F : NdefX.NF) (f : Addr) (A : Around) (outer : List PySem.Env) (s : Shared) (H : Hp) (E : XK) : Cx :=
  NdefX.ncx (L2.CX P w) P w K mg base N F f A outer s H E

theorem ini_run {P : Program} {w : World} {K : PySem.W.Frag} {mg : Str → Option Value} {base : Heap} {k : Nat} {c : Str} {C fI cc cda : Addr} {f : Str} {fd : FuncData} {name qual : Str} {params : Arguments} {body : List Stmt} {scope : Scope}
    {self pn : Str} {p0 p1 p2 p3 p4 p5 p6 p7 : Pos} {e0 e1 : Expr} {m0 m1 : SE} {pl : Sem Bool}
    (F : IniF P K mg c C fI cc cda f fd name qual params body scope) (S : NdefX.NScope [self, pn, ("__class__" : Str)] [self, pn] [("__class__" : Str)] scope)
    (hbd : body = [.Expr (.Call (.Attribute (.Call (.Name "super" p0) [] [] p1) "__init__" p2) [e0] [] p3) p4, .Assign [.Attribute (.Name self p5) f p6] e1 p7])
    (hpar : ∃ ar, (params.posonlyargs ++ params.args).head? = some ar ∧ ar.arg = self) (hbind : ∀ (s : Shared) (u v : Value), BindsTo s fd ⟨[u, v], []⟩ [(self, u), (pn, v)]) (hne : self ≠ pn)
    (hks : scope.names.lookup ("super" : Str) = some .globalImplicit) (hkc : scope.names.lookup ("__class__" : Str) = some .free) (hsd : (self == ("__debug__" : Str)) = false) (hsc : (self == ("__classdict__" : Str)) = false)
    (A : Around) (outer : List PySem.Env) (s : Shared) (H : Hp) (a : Addr) (u : Value) (v : V) (Q : Hp → Prop)
    (hr : Room (k + 1) A) (hg : A.guards = some []) (he : Env0 P w K mg base A outer s H) (ha : H a = some (exo a C none)) (rv : RelV v u)
    (hcall : ∀ E, eval (.Call (.Attribute (.Call (.Name "super" p0) [] [] p1) "__init__" p2) [e0] [] p3) (ix P w K mg base [self, pn, "__class__"] (nfI name qual params body scope cc cda) fI A outer s H E).env = (do
      let ov ← attributeBase (.Call (.Name "super" p0) [] [] p1) "__init__" (ix P w K mg base [self, pn, "__class__"] (nfI name qual params body scope cc cda) fI A outer s H E).env (eval (.Call (.Name "super" p0) [] [] p1) (ix P w K mg base [self, pn, "__class__"] (nfI name qual params body scope cc cda) fI A outer s H E).env)
      standAt p2.atName
      let (f, first) ← holding [ov] (getMethod ov "__init__" pl)
      callWith p3 f first (backTo p3 (starEach [e0] (ix P w K mg base [self, pn, "__class__"] (nfI name qual params body scope cc cda) fI A outer s H E).env)) []))
    (h0 : ∀ E, Cxg (ix P w K mg base [self, pn, "__class__"] (nfI name qual params body scope cc cda) fI A outer s H E) (fun c d _ H' => E c d H') k →
      ME (ix P w K mg base [self, pn, "__class__"] (nfI name qual params body scope cc cda) fI A outer s H E) (fun c d _ H' => E c d H') e0 m0 ∧
      ME (ix P w K mg base [self, pn, "__class__"] (nfI name qual params body scope cc cda) fI A outer s H E) (fun c d _ H' => E c d H') e1 m1)
    (hs1 : ∀ env, swapsWith (.Call (.Attribute (.Call (.Name "super" p0) [] [] p1) "__init__" p2) [e0] [] p3) none p4.line env = pure false)
    (hs2 : ∀ env, swapsWith e1 (some (.Attribute (.Name self p5) f p6)) p7.line env = pure false)
    (hst : ∀ env, starEach [e0] env = [(false, eval e0 env)])
    (hQ : ∃ ρ h d h2 d0 h3 d1, SR K ρ h H ∧ ¬ Live ρ h a ∧ DR K (Live ρ h) ρ H d v ∧ m0 [none, some d, none] h = .ok d0 h2 ∧ m1 [none, some d, none] h2 = .ok d1 h3 ∧
      ∀ ρ3 H3 y dx, Ext ρ h H ρ3 h3 H3 → SR K ρ3 h3 H3 → DR K (Live ρ3 h3) ρ3 H3 d1 y → H3 dx = none → dx ≠ a → Q (upd (upd H3 dx (exd dx [(f, y)])) a (exo a C (some dx)))) :
    codeAny (model P w) A (.call (.ref fI) ⟨[.ref a, u], []⟩) (CR (L2.CX P w) outer P w H s (fun v H' => v = .non ∧ Q H') (fun _ _ _ => False)) s := by
  obtain ⟨oc, od, osl, kV, doc, pm, an, ct, hfd, lk⟩ := F.lk
  have KX : K.In s.heap := he.mod.kin.keeps fun b o e => (he.bs b o e).1
  have lim : s.heap.NoLimit := he.mod.nolimit.keeps fun b o e => (he.bs b o e).1
  subst hfd
  obtain ⟨coO, hcell, hcellD⟩ := F.cell
  have Ccell : NdefX.CellsAt (nfI name qual params body scope cc cda).cl [("__class__" : Str)] [some (V.ref C)] s.heap H := by
    refine ⟨rfl, fun y c e => ?_, fun x y c e1 e2 => ?_, fun i y e => ?_⟩
    · simp only [List.lookup] at e
      split at e
      · cases e
        exact ⟨(he.bs _ _ (he.mod.kin _ _ hcell)).2, _, coO, KX _ _ hcell, hcellD⟩
      · cases e
    · simp only [List.lookup] at e1 e2
      split at e1
      · split at e2
        · rename_i z1 _ z2
          have q1 := eq_of_beq z1
          have q2 := eq_of_beq z2
          rw [q1, q2]
        · cases e2
      · cases e1
    · cases i with
      | zero =>
        simp at e
        subst e
        refine ⟨cc, by simp [List.lookup], fun v e => ?_⟩
        simp at e
        subst e
        exact ⟨.ref C, rfl, coO, KX _ _ hcell, hcellD⟩
      | succ n => simp at e
  refine ks_codeAny_call_defAt (fd := PySem.W.ksFn name qual params body scope .none kV doc pm an (.ref cda) ct cc) (body := body) (binds := [(self, .ref a), (pn, u)]) hr.depth (KX _ _ lk) rfl lim (PySem.W.codeRec_of KX F.code) rfl (hbind s (.ref a) u) S.nocell (fun y hy => ?_) (fun h₁ hns kp => ?_) S.co S.gen S.kind
  · rcases List.mem_cons.mp hy with rfl | hy
    · exact S.par _ (by simp)
    · rcases List.mem_cons.mp hy with rfl | hy
      · exact S.par _ (by simp)
      · cases hy
  have I : Inv (ix P w K mg base [self, pn, "__class__"] (nfI name qual params body scope cc cda) fI A outer s H (fun _ _ _ => False)) [] (NdefX.startF [self, pn, ("__class__" : Str)] [V.ref a, v] [some (V.ref C)]) H { s with heap := h₁, toks := s.toks + 2 } :=
    NdefX.inv_startN (tk := s.toks + 2) S hr.hd he rfl (.cons rfl (.cons rv .nil)) Ccell hns kp
  obtain ⟨ρ, h, d, h2, d0, h3, d1, sr, nlv, rd, em0, em1, hfin⟩ := hQ
  subst hbd
  have hint : ∀ q L, interactive (callEnv (PySem.W.ksFn name q params [.Expr (.Call (.Attribute (.Call (.Name "super" p0) [] [] p1) "__init__" p2) [e0] [] p3) p4, .Assign [.Attribute (.Name self p5) f p6] e1 p7] scope .none kV doc pm an (.ref cda) ct cc) L fI) = false := fun q L => by
    show (scope.kind == .module && _) = false
    rw [S.kind]
    rfl
  -- the wish of an exception: none
  refine ks_wpAt_execs_cons (ks_wpAt_Expr_any (ks_wpAt_MethodCall (pl := pl) ?_ (hcall fun _ _ _ => False)) (hint _ _) (hs1 _))
  obtain ⟨fco, fvs, ffile, ftf, fc1, fc2, fc3, fc4⟩ := F.file
  obtain ⟨nm, q, Nc, bs, bm, sn, sub, ab, col, dd, k0, k1, k2, k3, k5, hC, hbm⟩ := F.T.cls
  obtain ⟨ar, har, hara⟩ := hpar
  have I0 := I
  obtain ⟨t1, hx0⟩ := exo_at I.hok ha
  obtain ⟨hp, g, dr, tk, os⟩ := s
  have kin1 : K.In h₁ := I.kIn
  refine ks_wpAt_super_base (f := fI) (cc := cda) hks hkc (by decide) rfl (kp _ _ (KX _ _ lk)) rfl har rfl (kin1 _ _ fc1) fc2 fc3 fc4 F.noTop ?_
  refine PySem.W.ks_loadName_global S.kind hks ?_
  obtain ⟨mb, hb1, hb2⟩ := he.mod.blt
  refine Calls.loadGlobal_builtin (he.mod.glob.keeps I.bk) F.noSup (hb1.keeps I.bk) ((hb2 _ (by decide)).trans rfl) ⟨rfl, ?_⟩
  refine wpAny_loadName_free S.kind hkc rfl ⟨coO, kin1 _ _ hcell, hcellD⟩ ?_
  rw [hara]
  refine wpAny_loadName_local (v := .ref a) S.kind (S.par self (by simp)) hns (by
    have : (pn == self) = false := by simpa using Ne.symm hne
    have h2 : (self == pn) = false := by simpa using hne
    simp [List.lookup, h2]) ?_
  refine ks_wpAny_isType_cls (kin1 _ _ hC) rfl ⟨rfl, ?_⟩
  refine ks_wpAny_call_super (kin1 _ _ hC) rfl hx0 rfl (fun c e => by cases e) (PySem.W.looks_mroIn kin1 F.sub) fun h' e k' => ?_
  have I1 := I.kept (t' := tk + 2) k'
  have hcl : PySem.W.clsIn K C = some { name := nm, bases := bs, mro := .ref C :: bm, ns := Nc, qualname := q, hasDict := true, slotNames := sn, subclasses := sub, abstract := ab, collection := col, hasDel := false } := by
    unfold PySem.W.clsIn
    rw [hC] <;> rfl
  have kin2 : K.In h' := I1.kIn
  have hx1 := k' _ _ hx0
  have hsup : PySem.W.alongIn K "__init__" (((Value.ref C :: bm).dropWhile (· != .ref C)).drop 1) = some (some (.builtin "ValueError.__init__")) := by
    have z := F.supI
    unfold PySem.W.ks_superIn at z
    rw [hcl] at z
    exact z
  have Ia : PySem.W.InstAt h' a _ C none := ⟨hx1, rfl, rfl, trivial⟩
  refine PySem.W.kxs_getMethod PySem.W.kxs_ValueError (name := "__init__") e (PySem.W.looks_opaque kin2 F.noAny) (l₀ := .ref C :: bm) (fun A Q E s k q => wpAny_bind ((PySem.W.looks_clsIn kin2 hcl) A _ E s k (wpAny_pure q))) rfl kin2 hsup
    (Ia.type.andThen (PySem.W.looks_subIn kin2 F.isVE)) (fun z => by
      rw [z, kin2 _ _ hC] at hx1
      cases hx1) (by decide) ?_
  have gq : (h'.push (PySem.W.kxs_mw "ValueError.__init__" a)).get? h'.objs.size = some (PySem.W.kxs_mw "ValueError.__init__" a) := Heap.get?_push_at rfl rfl
  have I2 := I1.kept (h' := h'.push (PySem.W.kxs_mw "ValueError.__init__" a)) (t' := tk + 2 + 1) (fun b o e => Heap.get?_push_of_some _ e)
  have nl : h'.objs.size ≠ hp.objs.size := by
    obtain ⟨o, es, ep, e1, _⟩ := hns
    exact Nat.ne_of_gt (Heap.lt_size (k' _ _ e1))
  have I3 := inv_pin I2 gq (I1.hok.fresh (Nat.le_refl _)) nl (I1.nofs (Nat.le_refl _)) (fun v z => by cases z)
  have cx : Cxg (ix P w K mg base [self, pn, "__class__"] (nfI name qual params [.Expr (.Call (.Attribute (.Call (.Name "super" p0) [] [] p1) "__init__" p2) [e0] [] p3) p4, .Assign [.Attribute (.Name self p5) f p6] e1 p7] scope cc cda) fI A outer ⟨hp, g, dr, tk, os⟩ H (fun _ _ _ => False)) (fun c d _ H' => False) k :=
    ⟨rfl, hr.deeper _, gu_deeper _ hg, takes_of rfl rfl rfl rfl, passes_of rfl⟩
  obtain ⟨hm0, hm1⟩ := h0 (fun _ _ _ => False) cx
  have er : ER K ρ h H [none, some d, none] (NdefX.startF [self, pn, ("__class__" : Str)] [V.ref a, v] [some (V.ref C)]) := ⟨rfl, fun i d' z => by
    match i, z with
    | 0, z => simp at z
    | 1, z =>
      simp at z
      subst z
      exact ⟨v, rfl, rd⟩
    | 2, z => simp at z
    | n + 3, z => simp at z⟩
  have hA := (ma_cons hm0 ma_nil (hst _)).run p3 _ _ _ H (fun vs H1 => vs.length = 1 ∧ ∃ ρ1, Ext ρ h H ρ1 h2 H1 ∧ SR K ρ1 h2 H1) I3 ⟨ρ, h, _, sr, er, by
    show Post _ ρ h H _ _ ((m0 [none, some d, none] h).bind _)
    rw [em0]
    intro ρ' H' x' s' vs rvs
    exact ⟨by rw [rvs.length]; rfl, ρ', x', s'⟩⟩
  have hpl : starEach [e0] (ix P w K mg base [self, pn, "__class__"] (nfI name qual params [.Expr (.Call (.Attribute (.Call (.Name "super" p0) [] [] p1) "__init__" p2) [e0] [] p3) p4, .Assign [.Attribute (.Name self p5) f p6] e1 p7] scope cc cda) fI A outer ⟨hp, g, dr, tk, os⟩ H (fun _ _ _ => False)).env = [(false, eval e0 _)] := hst _
  rw [hpl] at hA
  show wpAny _ _ (callWith p3 (.ref h'.objs.size) [] (backTo p3 (starEach [e0] (ix P w K mg base [self, pn, "__class__"] (nfI name qual params [.Expr (.Call (.Attribute (.Call (.Name "super" p0) [] [] p1) "__init__" p2) [e0] [] p3) p4, .Assign [.Attribute (.Name self p5) f p6] e1 p7] scope cc cda) fI A outer ⟨hp, g, dr, tk, os⟩ H (fun _ _ _ => False)).env)) []) _ _ _
  rw [hpl]
  refine PySem.W.kxs_callWith (i := "ValueError.__init__") (x := a) rfl (Calls.evalArgs_plain (thn hA fun us s4 ⟨vs, H4, I4, rvs, hl, ρ1, x1, s1⟩ => ?_))
  have gq4 := (I4.pin _ (List.mem_append_right _ List.mem_cons_self)).1
  have ha4 : H4 a = some (exo a C none) := x1.keep _ _ ha nlv
  refine ⟨gq4, mw_ok F.T I4 ha4 gq4 (by
    show ([] ++ us).length ≤ _
    rw [List.nil_append, ← rvs.length, hl, sizeLine_eq]
    omega) fun s5 I5 => ?_⟩
  have st2 := pss_one (ps_ost (f := f) (p' := p6) (pos := p7) (pe_var (X := ix P w K mg base [self, pn, "__class__"] (nfI name qual params [.Expr (.Call (.Attribute (.Call (.Name "super" p0) [] [] p1) "__init__" p2) [e0] [] p3) p4, .Assign [.Attribute (.Name self p5) f p6] e1 p7] scope cc cda) fI A outer ⟨hp, g, dr, tk, os⟩ H (fun _ _ _ => False)) (i := 0) (x := self) (pos := p5) rfl (.inl (S.par self (by simp))) hsd hsc) hm1 (hs2 _))
  refine wpAt_of_wpAny (wpAny_mono (st2.run _ s5 _ H4 { nx := fun _ H' => V.non = .non ∧ Q H', rt := fun v H' => v = .non ∧ Q H' } I5 ⟨ρ1, h2, [none, some d, none], s1, er.ext x1, ?_⟩) (fun fl s' hs => ?_) fun e s' hs => hs)
  · rw [em1]
    intro ρ3 H3 x3 s3 y ry
    exact ⟨.ref a, rfl, a, C, rfl, F.T, F.noF, .inl ⟨x3.keep _ _ ha4 (x1.live _ (by rw [ha]; simp) nlv), fun dx n ne => ⟨rfl, hfin ρ3 H3 y dx (x1.trans x3) s3 ry n ne⟩⟩⟩
  · cases fl with
    | ret u =>
      obtain ⟨v, σ', H', J, rv, q⟩ := hs
      exact ⟨v, H', J.os, J.bare, J.base, J.hok, rv, q⟩
    | next =>
      obtain ⟨σ', H', J, q⟩ := hs
      exact ⟨.non, H', J.os, J.bare, J.base, J.hok, rfl, q⟩
    | brk =>
      obtain ⟨_, _, _, q⟩ := hs
      exact q.elim
    | cont =>
      obtain ⟨_, _, _, q⟩ := hs
      exact q.elim
end MR
end
section
set_option maxHeartbeats 1000000
/-! Mirror layer, part I: raise C(e); try .. except C as n: return n.f. -/
namespace MR
open PySem PySem.Spec PyProof.Rows L2

structure IniG (P : Program) (w : World) (K : PySem.W.Frag) (mg : Str → Option Value) (base : Heap) (k : Nat) (c : Str) (C fI : Addr) (f : Str) (m0 m1 : SE) : Prop where
  T : OexC K C
  mgC : mg c = some (.ref C)
  iC : PySem.W.findIn K (.ref C) "__init__" = some (some (.ref fI))
  tI : PySem.W.typeIn K (.ref fI) = some (.type "function")
  run : ∀ (A : Around) (outer : List PySem.Env) (s : Shared) (H : Hp) (a : Addr) (u : Value) (v : V) (Q : Hp → Prop), Room k A → A.guards = some [] → Env0 P w K mg base A outer s H → H a = some (exo a C none) → RelV v u →
    (∃ ρ h d h2 d0 h3 d1, SR K ρ h H ∧ ¬ Live ρ h a ∧ DR K (Live ρ h) ρ H d v ∧ m0 [none, some d, none] h = .ok d0 h2 ∧ m1 [none, some d, none] h2 = .ok d1 h3 ∧
      ∀ ρ3 H3 y dx, Ext ρ h H ρ3 h3 H3 → SR K ρ3 h3 H3 → DR K (Live ρ3 h3) ρ3 H3 d1 y → H3 dx = none → dx ≠ a → Q (upd (upd H3 dx (exd dx [(f, y)])) a (exo a C (some dx)))) →
    codeAny (model P w) A (.call (.ref fI) ⟨[.ref a, u], []⟩) (CR (L2.CX P w) outer P w H s (fun v H' => v = .non ∧ Q H') (fun _ _ _ => False)) s
theorem make_guards {A : Around} {C : Addr} {us : List Value} {kw : List (Str × Value)} (h : A.guards = some []) : (A.under (.builtin "type.__call__" ⟨.ref C :: us, kw⟩)).guards = some [] := by
  first
    | exact h
    | (simp [Around.under, Code.weight, Code.isCreation, Code.isGuard, Code.isCaller, Code.frames, Code.isFrame, guardIds, h])

section
variable {K : PySem.W.Frag} {L : Addr → Prop} {ρ : List Addr} {H H' : Hp}
theorem Tp.re {a : Addr} {vs : List V} (k : ∀ b u, Rd H b u → (∃ vs, u = .tup vs ∨ u = .lst vs) → Rd H' b u) (t : Tp K L H a vs) : Tp K L H' a vs := t.imp (fun ⟨r, n⟩ => ⟨k _ _ r ⟨_, .inl rfl⟩, n⟩) id
theorem Lp.re {a : Addr} {vs : List V} (k : ∀ b u, Rd H b u → (∃ vs, u = .tup vs ∨ u = .lst vs) → Rd H' b u) (t : Lp K L H a vs) : Lp K L H' a vs := t.imp (fun ⟨r, n⟩ => ⟨k _ _ r ⟨_, .inr rfl⟩, n⟩) id
mutual
theorem DR.re (k : ∀ b u, Rd H b u → (∃ vs, u = .tup vs ∨ u = .lst vs) → Rd H' b u) : ∀ (d : D) (v : V), DR K L ρ H d v → DR K L ρ H' d v
  | .non, _, e => by simpa only [DR] using e
  | .bl _, _, e => by simpa only [DR] using e
  | .int _, _, e => by simpa only [DR] using e
  | .str _, _, e => by simpa only [DR] using e
  | .tup l, v, e => by
    simp only [DR] at e ⊢
    obtain ⟨a, vs, e1, t, r⟩ := e
    exact ⟨a, vs, e1, t.re k, DRs.re k l vs r⟩
  | .lst l, v, e => by
    simp only [DR] at e ⊢
    obtain ⟨a, vs, e1, t, r⟩ := e
    exact ⟨a, vs, e1, t.re k, DRs.re k l vs r⟩
  | .ref n, v, e => by simpa only [DR] using e
theorem DRs.re (k : ∀ b u, Rd H b u → (∃ vs, u = .tup vs ∨ u = .lst vs) → Rd H' b u) : ∀ (l : List D) (vs : List V), DRs K L ρ H l vs → DRs K L ρ H' l vs
  | [], _, e => by simpa only [DRs] using e
  | d :: ds, vs, e => by
    simp only [DRs] at e ⊢
    obtain ⟨v, r, e1, e2, e3⟩ := e
    exact ⟨v, r, e1, DR.re k d v e2, DRs.re k ds r e3⟩
end
end
theorem exo_lst {e C : Addr} {d : Option Addr} {xs : List V} : exo e C d ≠ .lst xs := fun z => by
  have z' : HO.ext _ = HO.lst xs := z
  cases z'
theorem exo_dK {e C : Addr} {d : Option Addr} {kvs : List (Key × V)} : exo e C d ≠ .dK kvs := fun z => by
  have z' : HO.ext _ = HO.dK kvs := z
  cases z'
/-- the heap behind the making of an exception -/
theorem made_heap {G : Gd} {ρ ρ3 : List Addr} {h h3 : Sto} {H1 H3 : Hp} {a C dx : Addr} {c f : Str} {d1 : D} {y : V} (hm : G.mg c = some (.ref C)) (na : H1 a = none) (sr : SR G.K ρ h H1) (x : Ext ρ h (upd H1 a (exo a C none)) ρ3 h3 H3) (s3 : SR G.K ρ3 h3 H3)
    (ry : DR G.K (Live ρ3 h3) ρ3 H3 d1 y) (nd : H3 dx = none) (ne : dx ≠ a) (H2 : Hp) (e2 : H2 = upd (del (upd (upd H3 dx (exd dx [(f, y)])) a (exo a C (some dx))) a) dx (.xd [(f, y)])) :
    Ext ρ h H1 ρ3 h3 H2 ∧ SR G.K ρ3 h3 H2 ∧ XR G ρ3 h3 H2 (.own c f d1) (.ref C) (some dx) := by
  have at_ : ∀ b, b ≠ a → b ≠ dx → H2 b = H3 b := fun b n1 n2 => by rw [e2, upd_ne n2, del_ne n1, upd_ne n1, upd_ne n2]
  have nla : ¬ Live ρ h a := sr.notLive na
  have ha3 : H3 a = some (exo a C none) := x.keep a _ upd_same nla
  have k : ∀ b u, Rd H3 b u → (∃ vs, u = .tup vs ∨ u = .lst vs) → Rd H2 b u := fun b u r hu => by
    rcases r with r | ⟨o, r⟩
    · refine .inl ?_
      rw [at_ b _ (ne_of_none r nd)]
      · exact r
      · rintro rfl
        rw [ha3] at r
        obtain ⟨vs, hu | hu⟩ := hu
        · rw [hu] at r
          exact exo_tup (Option.some.inj r)
        · rw [hu] at r
          exact exo_lst (Option.some.inj r)
    · refine .inr ⟨o, ?_⟩
      rw [at_ b _ (ne_of_none r nd)]
      · exact r
      · rintro rfl
        rw [ha3] at r
        exact exo_frz (Option.some.inj r)
  have up : ∀ b o, H1 b = some o → (upd H1 a (exo a C none)) b = some o := fun b o e => by
    rw [upd_ne]
    · exact e
    · rintro rfl
      rw [na] at e
      cases e
  refine ⟨⟨x.pre, fun b o e n => ?_, fun b e n => ?_, fun b e => ?_⟩, ⟨s3.len, s3.inj, fun i ci b e1 e2 => ?_⟩, C, dx, y, hm, rfl, rfl, by rw [e2, upd_same], s3.notLive nd, DR.re k _ _ ry⟩
  · have e3 := x.keep b o (up b o e) n
    rw [at_ b _ (ne_of_none e3 nd)]
    · exact e3
    · rintro rfl
      rw [na] at e
      cases e
  · exact x.live b (by
      cases q : H1 b with
      | none => exact absurd q e
      | some o => rw [up b o q]; simp) n
  · cases q : H1 b with
    | none => exact absurd q e
    | some o =>
      have z := x.stay b (by rw [up b o q]; simp)
      rw [at_ b]
      · exact z
      · rintro rfl
        rw [na] at q
        cases q
      · rintro rfl
        exact z nd
  · have q := s3.cells i ci b e1 e2
    cases ci with
    | gone => trivial
    | L l =>
      obtain ⟨vs, f1, r⟩ := q
      refine ⟨vs, ?_, DRs.re k _ _ r⟩
      rw [at_ b _ (ne_of_none f1 nd)]
      · exact f1
      · rintro rfl
        rw [ha3] at f1
        exact exo_lst (Option.some.inj f1)
    | M kvs =>
      obtain ⟨vs, f1, f2, r⟩ := q
      refine ⟨vs, ?_, f2, DRs.re k _ _ r⟩
      rw [at_ b _ (ne_of_none f1 nd)]
      · exact f1
      · rintro rfl
        rw [ha3] at f1
        exact exo_dK (Option.some.inj f1)

section
variable {X : Cx} {W : WX}
def tMkI (K : PySem.W.Frag) (mg : Str → Option Value) (c f : Str) (m0 m1 : SE) (ta : TA) : L2.St → Hp → XK → Prop := fun σ H Q => ta σ H fun vs H1 => ∃ v ρ h d h2 d0 h3 d1, vs = [v] ∧ SR K ρ h H1 ∧ DR K (Live ρ h) ρ H1 d v ∧ m0 [none, some d, none] h = .ok d0 h2 ∧ m1 [none, some d, none] h2 = .ok d1 h3 ∧
  ∀ ρ' H' cls dd, Ext ρ h H1 ρ' h3 H' → SR K ρ' h3 H' → XR ⟨K, mg⟩ ρ' h3 H' (.own c f d1) cls dd → Q cls dd H'
theorem pmk_ini {k j : Nat} {c f : Str} {C fI : Addr} {m0 m1 : SE} {e : Expr} {ta : TA} {p pos : Pos} (G : IniG X.prog X.w X.K X.mg X.base k c C fI f m0 m1) (cx : Cxg X W j) (hk : k + 1 ≤ j) (hg : Gl X c) (ha : PA X [e] ta)
    (hdb : (c == ("__debug__" : Str)) = false := by decide) (he : starEach [e] X.env = (false, eval e X.env) :: starEach [] X.env := by rfl) (hpl : (backTo pos (starEach [] X.env)).any (·.1) = false := by rfl) :
    PMk X (.Call (.Name c p) [e] [] pos) (tMkI X.K X.mg c f m0 m1 ta) := by
  intro pins s σ H Q I h
  have T := G.T
  obtain ⟨nm, q, N, bs, bm, sn, sub, ab, col, dd, k0, k1, k2, k3, k5, hC, hbm⟩ := T.cls
  refine wpAny_Call_Name_kw (ld_glob I hg G.mgC ?_ hdb)
  refine PySem.W.callWith_K (h₀ := X.base) I.ok.mod.kin T.kC (thn (ha.run pos pins s σ H _ I h) fun us s1 ⟨vs, H1, I1, r1, q1⟩ => ⟨I1.kIn, ?_⟩) he hpl
  obtain ⟨v, ρ, h, d, h2, d0, h3, d1, rfl, sr, rd, em0, em1, hq⟩ := q1
  obtain ⟨u, rfl, ru⟩ := r1.one
  show wpAny _ _ (call (.ref C) [u]) _ _ _
  obtain ⟨hp, g, dr, tk, os⟩ := s1
  have hsz : hp.objs.size ≤ hp.objs.size + 1 := Nat.le_succ _
  have hn : H1 (hp.objs.size + 1) = none := I1.hok.fresh hsz
  have kk : ∀ b o, hp.get? b = some o → ((hp.push (PySem.W.kdv_tup [u])).push (PySem.HandSPX.excO C hp.objs.size)).get? b = some o := fun b o e => Heap.get?_push_of_some _ (Heap.get?_push_of_some _ e)
  have hget : ((hp.push (PySem.W.kdv_tup [u])).push (PySem.HandSPX.excO C hp.objs.size)).get? (hp.objs.size + 1) = some (PySem.HandSPX.excO C hp.objs.size) := by heap_get
  have I2 : Inv X pins σ (upd H1 (hp.objs.size + 1) (exo (hp.objs.size + 1) C none)) ⟨(hp.push (PySem.W.kdv_tup [u])).push (PySem.HandSPX.excO C hp.objs.size), g, dr, tk, os⟩ :=
    I1.laid (t' := tk) (a := hp.objs.size + 1) (o := exo (hp.objs.size + 1) C none) (h' := (hp.push (PySem.W.kdv_tup [u])).push (PySem.HandSPX.excO C hp.objs.size)) kk hsz (exo_ok hget)
  have sn : SR X.K ρ h (upd H1 (hp.objs.size + 1) (exo (hp.objs.size + 1) C none)) := sr.new hn
  refine wpAny_call (PySem.HandSPX.call_own F.excBase_ValueError (fun Y => PySem.HandSPX.refsVE_contains Y bm hbm) (I1.kIn _ _ hC) (PySem.W.looks_findIn I1.kIn G.iC) (fun self => PySem.W.bind_fn I1.kIn self G.tI) (by rw [sizeLine_eq]; show 1 ≤ 16777216; decide)
    (codeAny_mono (G.run _ X.stack _ _ (hp.objs.size + 1) u v (fun H' => ∃ dx y ρ3 H3, H' = upd (upd H3 dx (exd dx [(f, y)])) (hp.objs.size + 1) (exo (hp.objs.size + 1) C (some dx)) ∧ Ext ρ h (upd H1 (hp.objs.size + 1) (exo (hp.objs.size + 1) C none)) ρ3 h3 H3 ∧ SR X.K ρ3 h3 H3 ∧
        DR X.K (Live ρ3 h3) ρ3 H3 d1 y ∧ H3 dx = none ∧ dx ≠ hp.objs.size + 1) ((cx.room.mono hk).make C [u] []) (make_guards cx.gu) (I2.env0.make C [u] []) upd_same ru
        ⟨ρ, h, d, h2, d0, h3, d1, sn, sr.notLive hn, rd.ext (.new hn), em0, em1, fun ρ3 H3 y dx x3 s3 ry n ne => ⟨dx, y, ρ3, H3, rfl, x3, s3, ry, n, ne⟩⟩) fun r s' hq' => ?_))
  cases r with
  | error er =>
    obtain ⟨_, _, _, _, _, _, _, _, _, _, _, _, z⟩ := hq'
    exact z.elim
  | ok fl =>
    cases fl with
    | ret ur =>
      obtain ⟨vr, H2, os2, bare2, un2, hok2, rv, ev, dx, y, ρ3, H3, rfl, x3, s3, ry, n, ne⟩ := hq'
      subst ev
      obtain ⟨hh2, g2, d2, t2, os'⟩ := s'
      have hd1 : H1 dx = none := by
        cases z : H1 dx with
        | none => rfl
        | some o => exact absurd n (x3.stay dx (by rw [upd_ne ne, z]; simp))
      obtain ⟨y1, y2, y3⟩ := made_heap (G := ⟨X.K, X.mg⟩) (f := f) G.mgC hn sr x3 s3 ry n ne _ rfl
      exact ⟨rv, mk_end (raises_own T.exC T.tyC) I1 hsz kk un2 hok2 os2 bare2 upd_same (by rw [upd_ne ne, upd_same]) hd1 (hq _ _ _ _ y1 y2 y3)⟩
    | next => exact False.elim hq'
    | brk => exact False.elim hq'
    | cont => exact False.elim hq'
def sRaise (c f : Str) (m0 m1 : SE) (ma : SA) : SS := fun e h => (inE e (ma e h)).bind fun ds h1 => match ds with
  | [d] => (match m0 [none, some d, none] h1 with
    | .ok _ h2 => (match m1 [none, some d, none] h2 with
      | .ok d1 h3 => .err (.own c f d1) e h3
      | _ => .bad)
    | _ => .bad)
  | _ => .bad
theorem ms_raise {k j : Nat} {c f : Str} {C fI : Addr} {m0 m1 : SE} {e : Expr} {ma : SA} {p pos pos' : Pos} (G : IniG X.prog X.w X.K X.mg X.base k c C fI f m0 m1) (cx : Cxg X W j) (hk : k + 1 ≤ j) (ha : MA X W [e] ma) (hg : Gl X c := by rfl)
    (hdb : (c == ("__debug__" : Str)) = false := by decide) (he : starEach [e] X.env = (false, eval e X.env) :: starEach [] X.env := by rfl) (hpl : (backTo pos (starEach [] X.env)).any (·.1) = false := by rfl) :
    MS X W (.Raise (some (.Call (.Name c p) [e] [] pos)) none pos') (sRaise c f m0 m1 ma) := by
  refine PS.wk (ps_raise cx.calm cx.tk (pmk_ini G cx hk hg ha hdb he hpl)) fun N σ H q => ?_
  obtain ⟨ρ, h, en, s, er, p⟩ := q
  refine ⟨ρ, h, en, s, er, ((Post.bind p).inE er).imp fun ρ1 h1 H1 ds x1 s1 p1 vs r => ?_⟩
  split at p1
  · rename_i d
    split at p1
    · rename_i d0 h2 em0
      split at p1
      · rename_i d1 h3 em1
        obtain ⟨v, rfl, rd⟩ := drs1 r
        refine ⟨v, ρ1, h1, d, h2, d0, h3, d1, rfl, s1, rd, em0, em1, fun ρ' H' cls dd x' s' xr => ?_⟩
        exact p1 ρ' H' cls dd σ x' s' xr ((er.ext x1).ext x')
      · exact p1.elim
    · exact p1.elim
  · exact p1.elim
end
end MR
end
section
set_option maxHeartbeats 1000000
/-! Mirror layer, part J: try .. except C as n: return n.f. -/
namespace MR
open PySem PySem.Spec PyProof.Rows L2

/-- what is known of the class whose field is read -/
structure FldF (K : PySem.W.Frag) (C : Addr) (f : Str) : Prop where
  ga : PySem.W.findIn K (.ref C) "__getattribute__" = some (some (.builtin "BaseException.__getattribute__"))
  gg : PySem.W.findIn K (.ref C) "__getattr__" = some none
  noN : PySem.W.findIn K (.ref C) f = some none
  exC : PySem.W.subIn K (.ref C) (.type "BaseException") = some true
  hdC : PySem.W.hasDictIn K C = true
  te : PySem.W.exmOne K (.ref C) (.ref C) = some true
section
variable {X : Cx} {W : WX}
def tFld (C : Addr) (f : Str) (a : Addr) (cls : Value) (d : Option Addr) (te : TE) : TE := fun σ H Q => te σ H fun x H1 => x = .ref a ∧ cls = .ref C ∧ ∃ (dd : Addr) (v : V), d = some dd ∧ H1 dd = some (.xd [(f, v)]) ∧ Q v H1
theorem pe_fldx {C a : Addr} {oe : Obj} {cls : Value} {d : Option Addr} {pn : List (Addr × Obj)} {e : Expr} {te : TE} {pos : Pos} {f : Str} (T : FldF X.K C f) (hz : Zc cls d oe) (hf : ∃ vs, oe.data = .fields vs) (he : PE (X.suite a ((a, oe) :: pn)) e te)
    (hb : attributeBase e f X.env (eval e X.env) = eval e X.env := by rfl) :
    PE (X.suite a ((a, oe) :: pn)) (.Attribute e f pos) (tFld C f a cls d te) := by
  refine ⟨fun pins s σ H Q I h => ?_⟩
  refine attr_of hb (thn (he.run pins s σ H _ I h) fun u s1 hh => ?_)
  obtain ⟨x, H1, I1, rx, ex, ec, dd, v, ed, ea, q⟩ := hh
  subst ex
  obtain rfl : u = Value.ref a := rx
  subst ec
  subst ed
  obtain ⟨ha, _⟩ := I1.pin (a, oe) (List.mem_append_left _ List.mem_cons_self)
  obtain ⟨vs, hd⟩ := hf
  have hx : ObjOk X.prog X.w H1 s1.heap dd (.xd [(f, v)]) := I1.hok dd _ ea
  obtain ⟨mA, hns, hr⟩ := hx
  obtain ⟨od, ho, hl⟩ := lookIn_ns hns
  have l : List.lookup f [(f, v)] = some v := by simp [List.lookup]
  obtain ⟨u, hu, ru⟩ := RelO.some_of (v := v) (o := mA f) (by rw [← l]; exact hr f)
  have J : PySem.W.InstAt s1.heap a oe C (some od) := ⟨ha, hz.1, by unfold PySem.W.notCls; rw [hd] <;> rfl, by rw [hz.2]; exact ho⟩
  exact HandSPX.exc_get I1.kIn J T.ga T.gg T.exC (PySem.W.findObj_own T.hdC T.noN rfl (by rw [hl, hu])) (handed_of ru) ⟨v, H1, I1.tok _, ru, q⟩
theorem Cxg.tr {k : Nat} (c : Cxg X W k) {W' : WX} {pn : List (Addr × Obj)} {xe : Value → Shared → Prop} (tk : Takes (X.tr pn xe) W') (p : PassesOwn (model X.prog X.w) X.A X.env xe) : Cxg (X.tr pn xe) W' k := ⟨c.calm, c.room, c.gu, tk, p⟩
def sTryF (i : Nat) (c f : Str) (b : SS) : SS := fun e h => match b e h with
  | .err (.own c' f' d) e' h' => if c' = c ∧ f' = f ∧ i < e'.length then .ok (.rt d) h' else .bad
  | .err _ _ _ => .bad
  | r => r
theorem ms_tryF {k : Nat} {c n f : Str} {C : Addr} {i : Nat} {body : List Stmt} {np pos pos' q1 q2 q3 : Pos} {mb : SS} (cx : Cxg X W k) (T : FldF X.K C f) (hmC : X.mg c = some (.ref C)) (hs : X.stack = X.env :: X.outer) (hf : X.env.frame = some X.env.locals) (hN : X.N.Nodup)
    (hb : ∀ (W' : WX) (pn : List (Addr × Obj)) (xe : Value → Shared → Prop), Cxg (X.tr pn xe) W' k → MSs (X.tr pn xe) W' body mb)
    (hi : X.N[i]? = some n := by rfl) (hln : X.env.kindOf n = some .local := by rfl) (hg : Gl X c := by rfl) (hdb : (c == ("__debug__" : Str)) = false := by decide)
    (hd : (n == ("__debug__" : Str)) = false := by decide) (hcd : (n == ("__classdict__" : Str)) = false := by decide) (hbase : attributeBase (.Name n q1) f X.env (eval (.Name n q1) X.env) = eval (.Name n q1) X.env := by rfl) :
    MS X W (.Try body [.ExceptHandler (some (.Name c np)) (some n) [.Return (some (.Attribute (.Name n q1) f q2)) q3] pos'] [] [] pos) (sTryF i c f mb) := by
  refine PS.wk (ps_try_as (tb := fun W' => tS (gd X) W' mb) (Wout := W) (c := .ref C)
    (ts := fun a cls d D σ H => tFld C f a cls d (tVar i) σ H D.rt)
    hs hf hN hi hln ⟨hg, hdb, .inl hmC⟩ cx.tk (fun W' pn xe tk p => hb W' pn xe (cx.tr tk p))
    (fun a oe cls d pn hz hfl => pss_one (ps_ret (pe_fldx T hz hfl (pe_var (X := X.suite a ((a, oe) :: pn)) hi (.inl hln) hd hcd) hbase)))) fun N σ H q => ?_
  obtain ⟨ρ, h, e, s, er, p⟩ := q
  refine ⟨ρ, h, e, s, er, ?_⟩
  unfold sTryF at p
  revert p
  generalize mb e h = r
  intro p
  cases r with
  | ok fl h' =>
    exact p
  | bad => exact p.elim
  | err z e' h' =>
    cases z with
    | bi n => exact p.elim
    | own c' f' d =>
      simp only at p
      split at p
      · rename_i hcf
        obtain ⟨rfl, rfl, hie⟩ := hcf
        intro ρ' H' cls dd σ' x' s' xr er'
        obtain ⟨C', a', v, g1, g2, g3, g4, g5, g6⟩ := xr
        have hC : C' = C := by
          have z := g1.symm.trans hmC
          cases z
          rfl
        subst hC
        subst g2 g3
        refine ⟨true, T.te, fun _ a na => ?_, fun z => by cases z⟩
        refine ⟨.ref a, ?_, rfl, rfl, a', v, rfl, g4, p ρ' H' x' s' v g6⟩
        have hl : i < σ'.length := by
          rw [er'.len]
          exact hie
        rw [List.getElem?_set_self hl]
      · exact p.elim
end
end MR
end
section
set_option maxHeartbeats 1000000
/-! Mirror layer, part K: odds and ends. -/
namespace MR
open PySem PySem.Spec PyProof.Rows L2
section
variable {X : Cx} {W : WX}
theorem drs_rep {K : PySem.W.Frag} {L : Addr → Prop} {ρ : List Addr} {H : Hp} {ds : List D} {vs : List V} (r : DRs K L ρ H ds vs) : ∀ n : Nat, DRs K L ρ H (List.replicate n ds).flatten (List.replicate n vs).flatten
  | 0 => by simp [DRs]
  | n + 1 => by
    rw [List.replicate_succ, List.replicate_succ, List.flatten_cons, List.flatten_cons]
    exact r.append (drs_rep r n)
/-- [..] * k -/
def sRep (m : SA) (b : SE) : SE := fun e h => (m e h).bind fun ds h1 => if ds.length ≤ 4096 then (b e h1).bind fun y h2 => (match y with
  | .int k => if 0 ≤ k ∧ k ≤ 4096 then .ok (.lst (List.replicate k.toNat ds).flatten) h2 else .bad
  | _ => .bad) else .bad
theorem me_rep {es : List Expr} {b : Expr} {p pos : Pos} {m : SA} {mb : SE} (hm : MA X W es m) (hb : ME X W b mb) : ME X W (.BinOp (.List es p) .Mult b pos) (sRep m mb) := by
  refine PE.wk (pe_op op_rep (pe_lst hm) hb) fun σ H Q q => ?_
  obtain ⟨ρ, h, e, s, er, po⟩ := q
  refine ⟨ρ, h, e, s, er, (Post.bind po).imp fun ρ1 h1 H1 ds x1 s1 p1 vs r1 => ?_⟩
  by_cases hl : ds.length ≤ 4096
  · rw [if_pos hl] at p1
    refine ⟨by rw [r1.length]; exact line4096 hl, fun a n => ?_⟩
    have p2 := (Post.bind p1).later (Ext.new (o := .lst vs) n)
    refine ⟨ρ1, h1, e, s1.new n, (er.ext x1).ext (.new n), p2.imp fun ρ2 h2 H2 d2 x2 s2 p3 v2 r2 => ?_⟩
    cases d2 with
    | int k =>
      simp only at p3
      split at p3
      · rename_i hk
        refine ⟨a, k, vs, rfl, dr_int r2, x2.keep _ _ upd_same (s1.notLive n), by omega, by omega, ?_, fun b nb => ?_⟩
        · rw [r1.length, sizeLine_eq]
          have h1 : k.toNat ≤ 4096 := by omega
          have := Nat.mul_le_mul hl h1
          omega
        · exact p3 ρ2 _ (.new nb) (s2.new nb) _ (.newLst s2 nb (drs_rep ((r1.ext (.new n)).ext x2) k.toNat))
      · exact p3.elim
    | _ => exact p3.elim
  · rw [if_neg hl] at p1
    exact p1.elim
end
end MR
end
section
set_option maxHeartbeats 1000000
/-! Mirror layer, part L: what the printed derivations lean on. -/
namespace MR
open PySem PySem.Spec PyProof.Rows L2
abbrev fLt := cmpI fun i j => decide (i < j)
abbrev fLe := cmpI fun i j => decide (i ≤ j)
abbrev fGt := cmpI fun i j => decide (j < i)
abbrev fGe := cmpI fun i j => decide (j ≤ i)
/-- the i-th statement of a class -/
def inCls (s : Stmt) (i : Nat) : Stmt := match s with
  | .ClassDef (body := b) .. => b.getD i (.Pass ⟨0, 0, 0, 0⟩)
  | s => s
structure Dfn (K : PySem.W.Frag) (mg : Str → Option Value) (x : Str) (st : Stmt) (ps : List Str) (f : Addr) (fd : FuncData) : Prop where
  F : Fun K x x st f fd
  m : mg x = some (.ref f)
  b : Binds K fd ps []
section
variable {X : Cx} {W : WX} {k : Nat}
theorem cx_u1 (c : Cxg X W k) : X.A.units + 1 < cLine := hu_of c.room
theorem cx_u64 (c : Cxg X W k) : X.A.units + 64 < cLine := c.room.units
theorem cx_u100 (c : Cxg X W k) : X.A.units + 100 < cLine := by
  have := c.room.un
  omega
theorem me_callD {j : Nat} {f : Addr} {fd : FuncData} {ps : List Str} {st : Stmt} {F : List D → Sto → R D} {x : Str} {p pos : Pos} {e : Expr} {es : List Expr} {m : SA} (d : Dfn X.K X.mg x st ps f fd) (g : FnG X.prog X.w X.K X.mg X.base j f fd ps F) (c : Cxg X W k) (hk : j ≤ k)
    (ha : MA X W (e :: es) m) (hg : Gl X x := by rfl) (hdb : (x == ("__debug__" : Str)) = false := by decide) (he : starEach (e :: es) X.env = (false, eval e X.env) :: starEach es X.env := by rfl)
    (hpl : (backTo pos (starEach es X.env)).any (·.1) = false := by rfl) : ME X W (.Call (.Name x p) (e :: es) [] pos) (sCall ps.length F m) := me_call g c hk d.m d.F.kp d.b ha hg hdb he hpl
theorem me_callD0 {j : Nat} {f : Addr} {fd : FuncData} {st : Stmt} {F : List D → Sto → R D} {x : Str} {p pos : Pos} (d : Dfn X.K X.mg x st [] f fd) (g : FnG X.prog X.w X.K X.mg X.base j f fd [] F) (c : Cxg X W k) (hk : j ≤ k)
    (hg : Gl X x := by rfl) (hdb : (x == ("__debug__" : Str)) = false := by decide) : ME X W (.Call (.Name x p) [] [] pos) (sCall 0 F sNil) := me_call0 g c hk d.m d.F.kp d.b hg hdb
theorem blkE {s : Shared} {H : Hp} {scope : Scope} {cenv : PySem.Env} {fp : List Addr} {e : Expr} {m : SE} (c : Cxg X W k) (h : Cxg (X.blk s H scope cenv fp) W0 k → ME (X.blk s H scope cenv fp) W0 e m) : ME (X.blk s H scope cenv fp) W0 e m := h (c.blk s H scope cenv fp)
theorem blkT {s : Shared} {H : Hp} {scope : Scope} {cenv : PySem.Env} {fp : List Addr} {e : List Expr} {m : SB} (c : Cxg X W k) (h : Cxg (X.blk s H scope cenv fp) W0 k → MTs (X.blk s H scope cenv fp) W0 e m) : MTs (X.blk s H scope cenv fp) W0 e m := h (c.blk s H scope cenv fp)
end
def strsB : List Value → List Str → Bool
  | [], [] => true
  | .str x _ :: vs, s :: ss => (x == s) && strsB vs ss
  | _, _ => false
theorem strsK_of : ∀ {vs : List Value} {ss : List Str}, strsB vs ss = true → StrsK vs ss
  | [], [], _ => rfl
  | [], _ :: _, h => by cases h
  | v :: vs, ss, h => by
    cases v <;> cases ss <;> simp only [strsB, Bool.and_eq_true, reduceCtorEq, Bool.false_eq_true] at h
    obtain ⟨h1, h2⟩ := h
    cases eq_of_beq h1
    exact ⟨_, _, _, rfl, rfl, strsK_of h2⟩
theorem exm_selfM {K : PySem.W.Frag} {S : Addr} (h1 : PySem.W.subIn K (.ref S) (.type "BaseException") = some true) (h2 : PySem.W.isClsIn K S = true) (h3 : PySem.W.typeIn K (.ref S) = some (.type "type")) (h4 : PySem.W.subIn K (.ref S) (.ref S) = some true) : PySem.W.exmOne K (.ref S) (.ref S) = some true := by
  have e1 : (PySem.W.subIn K (.ref S) (.type "BaseException") == some true) = true := by
    rw [h1]
    rfl
  have h2' : (PySem.W.clsIn K S).isSome = true := h2
  have e2 : ((PySem.W.clsIn K S).isSome && PySem.W.typeIn K (.ref S) == some (.type "type")) = true := by
    rw [h2', h3]
    rfl
  show (if (PySem.W.subIn K (.ref S) (.type "BaseException") == some true) = true then (if ((PySem.W.clsIn K S).isSome && PySem.W.typeIn K (.ref S) == some (.type "type")) = true then PySem.W.subIn K (.ref S) (.ref S) else none) else none) = some true
  rw [if_pos e1, if_pos e2]
  exact h4
/-- __init__(self, pn): super().__init__(copied(pn)); self.f = copied(pn) -/
theorem ini_of {P : Program} {w : World} {K : PySem.W.Frag} {mg : Str → Option Value} {base : Heap} {k : Nat} {c : Str} {C fI cc cda fc : Addr} {f pn qual : Str} {fd fdc : FuncData} {st stc : Stmt} {Fc : List D → Sto → R D} {p0 p1 p2 p3 p4 p5 p6 p7 q0 q1 q2 q3 q4 q5 : Pos}
    (F : IniF P K mg c C fI cc cda f fd "__init__" qual (defArgs st) (defBody st) (defScope st)) (d : Dfn K mg "copied" stc ["value"] fc fdc) (G : FnG P w K mg base k fc fdc ["value"] Fc)
    (hbd : defBody st = [.Expr (.Call (.Attribute (.Call (.Name "super" p0) [] [] p1) "__init__" p2) [.Call (.Name "copied" q0) [.Name pn q1] [] q2] [] p3) p4, .Assign [.Attribute (.Name "self" p5) f p6] (.Call (.Name "copied" q3) [.Name pn q4] [] q5) p7])
    (S : NdefX.NScope ["self", pn, ("__class__" : Str)] ["self", pn] [("__class__" : Str)] (defScope st)) (hpar : ∃ ar, ((defArgs st).posonlyargs ++ (defArgs st).args).head? = some ar ∧ ar.arg = ("self" : Str))
    (hbind : ∀ (kV doc pm ct : Value) (an : Option Addr) (u v : Value), bindArgs (PySem.W.ksFn "__init__" qual (defArgs st) (defBody st) (defScope st) .none kV doc pm an (.ref cda) ct cc) ⟨[u, v], []⟩ = pure [(("self" : Str), u), (pn, v)]) (hne : ("self" : Str) ≠ pn)
    (hks : (defScope st).names.lookup ("super" : Str) = some .globalImplicit) (hkc : (defScope st).names.lookup ("__class__" : Str) = some .free) (hcp : (defScope st).names.lookup ("copied" : Str) = some .globalImplicit) (hpd : (pn == ("__debug__" : Str)) = false) (hpc : (pn == ("__classdict__" : Str)) = false)
    (hcall : ∀ env : PySem.Env, env.scope = defScope st → eval (.Call (.Attribute (.Call (.Name "super" p0) [] [] p1) "__init__" p2) [.Call (.Name "copied" q0) [.Name pn q1] [] q2] [] p3) env = (do
      let ov ← attributeBase (.Call (.Name "super" p0) [] [] p1) "__init__" env (eval (.Call (.Name "super" p0) [] [] p1) env)
      standAt p2.atName
      let (f, first) ← holding [ov] (getMethod ov "__init__" (do return (← importBound (.Call (.Name "super" p0) [] [] p1) env).getD true))
      callWith p3 f first (backTo p3 (starEach [.Call (.Name "copied" q0) [.Name pn q1] [] q2] env)) [])) :
    IniG P w K mg base (k + 1) c C fI f (sCall 1 Fc (sCons (sVar 1) sNil)) (sCall 1 Fc (sCons (sVar 1) sNil)) := by
  refine ⟨F.T, F.mgC, F.iC, F.tI, fun A outer s H a u v Q hr hg he ha rv hQ => ?_⟩
  refine ini_run (pl := do return (← importBound (.Call (.Name "super" p0) [] [] p1) (NdefX.envF (nfI "__init__" qual (defArgs st) (defBody st) (defScope st) cc cda) fI s.heap.objs.size)).getD true) F S hbd hpar (fun s u v => ?_) hne hks hkc (by decide) (by decide) A outer s H a u v Q hr hg he ha rv (fun E => hcall (NdefX.envF (nfI "__init__" qual (defArgs st) (defBody st) (defScope st) cc cda) fI s.heap.objs.size) rfl) (fun E cx => ?_) (fun env => rfl) (fun env => rfl) (fun env => rfl) hQ
  · obtain ⟨oc, od, osl, kV, doc, pm, an, ct, hfd, lk⟩ := F.lk
    subst hfd
    exact .of_eq (hbind kV doc pm ct an u v)
  · have hv : ∀ (pos : Pos), ME (ix P w K mg base ["self", pn, "__class__"] (nfI "__init__" qual (defArgs st) (defBody st) (defScope st) cc cda) fI A outer s H E) (fun c d _ H' => E c d H') (.Name pn pos) (sVar 1) :=
      fun pos => me_var 1 rfl (.inl (S.par pn (by simp))) hpd hpc
    exact ⟨me_callD d G cx (Nat.le_refl _) (ma_cons (hv _) ma_nil) hcp, me_callD d G cx (Nat.le_refl _) (ma_cons (hv _) ma_nil) hcp⟩
end MR
end
section
set_option maxHeartbeats 4000000
namespace K52
open PySem PySem.Spec PyProof.Rows L2 MR
def topS (i : Nat) : Stmt := PySem.Challenge.pw_togethersafe_k52_texts_of_journals.main.body.getD i (.Pass ⟨0, 0, 0, 0⟩)
abbrev st_copied : Stmt := topS 1
abbrev st_is_name : Stmt := topS 9
abbrev st_record_line : Stmt := topS 15
abbrev st_journal_text : Stmt := topS 16
abbrev st_alike_signs : Stmt := topS 17
abbrev st_word_end : Stmt := topS 18
abbrev st_number_end : Stmt := topS 19
abbrev st_name_end : Stmt := topS 20
abbrev st_line_end : Stmt := topS 21
abbrev st_gone_over : Stmt := topS 22
abbrev st_read_journal : Stmt := topS 23
abbrev st_whole_of : Stmt := topS 24
abbrev st__law_open_cells : Stmt := topS 26
abbrev st__law_pick : Stmt := topS 27
abbrev st__law_of : Stmt := topS 28
abbrev st__law_words : Stmt := topS 29
abbrev st__law_line : Stmt := topS 30
abbrev st__law_is_number : Stmt := topS 31
abbrev st__law_is_begun : Stmt := topS 32
abbrev st__law_is_name : Stmt := topS 33
abbrev st__law_record : Stmt := topS 34
abbrev st__law_can_be : Stmt := topS 35
abbrev st__law_gone_over : Stmt := topS 36
abbrev st__law_told : Stmt := topS 37
abbrev st__law_read_right : Stmt := topS 38
abbrev st__law_any_record : Stmt := topS 39
abbrev st__law_bent : Stmt := topS 40
abbrev st_law : Stmt := topS 41
def k_WORDS_checks : List Str := ["plans", "plan", "deed", "child", "row", "side", "else", "undo", "sure"]
def k_WORDS_journaltexts : List Str := ["try", "undo", "done", "failed", "undone", "left"]
theorem sc_copied : FnScope ["value", "one", "key"] ["value"] (defScope st_copied) := ⟨rfl, rfl, rfl, by decide +kernel, rfl, by decide +kernel, by decide +kernel⟩
theorem sc_is_name : FnScope ["value", "sign"] ["value"] (defScope st_is_name) := ⟨rfl, rfl, rfl, by decide +kernel, rfl, by decide +kernel, by decide +kernel⟩
theorem sc_record_line : FnScope ["record", "one"] ["record"] (defScope st_record_line) := ⟨rfl, rfl, rfl, by decide +kernel, rfl, by decide +kernel, by decide +kernel⟩
theorem sc_journal_text : FnScope ["journal", "record"] ["journal"] (defScope st_journal_text) := ⟨rfl, rfl, rfl, by decide +kernel, rfl, by decide +kernel, by decide +kernel⟩
theorem sc_alike_signs : FnScope ["text", "place", "word", "found"] ["text", "place", "word"] (defScope st_alike_signs) := ⟨rfl, rfl, rfl, by decide +kernel, rfl, by decide +kernel, by decide +kernel⟩
theorem sc_word_end : FnScope ["text", "place", "best", "word", "many"] ["text", "place"] (defScope st_word_end) := ⟨rfl, rfl, rfl, by decide +kernel, rfl, by decide +kernel, by decide +kernel⟩
theorem sc_number_end : FnScope ["text", "place", "last", "end"] ["text", "place", "last"] (defScope st_number_end) := ⟨rfl, rfl, rfl, by decide +kernel, rfl, by decide +kernel, by decide +kernel⟩
theorem sc_name_end : FnScope ["text", "place", "end"] ["text", "place"] (defScope st_name_end) := ⟨rfl, rfl, rfl, by decide +kernel, rfl, by decide +kernel, by decide +kernel⟩
theorem sc_line_end : FnScope ["text", "place", "end", "word", "run", "name"] ["text", "place"] (defScope st_line_end) := ⟨rfl, rfl, rfl, by decide +kernel, rfl, by decide +kernel, by decide +kernel⟩
theorem sc_gone_over : FnScope ["text", "found", "end", "record"] ["text"] (defScope st_gone_over) := ⟨rfl, rfl, rfl, by decide +kernel, rfl, by decide +kernel, by decide +kernel⟩
theorem sc_read_journal : FnScope ["text", "found", "end"] ["text"] (defScope st_read_journal) := ⟨rfl, rfl, rfl, by decide +kernel, rfl, by decide +kernel, by decide +kernel⟩
theorem sc_whole_of : FnScope ["text", "found", "end"] ["text"] (defScope st_whole_of) := ⟨rfl, rfl, rfl, by decide +kernel, rfl, by decide +kernel, by decide +kernel⟩
theorem sc__law_open_cells : FnScope ["script", "stirred", "cell", "cells"] ["script"] (defScope st__law_open_cells) := ⟨rfl, rfl, rfl, by decide +kernel, rfl, by decide +kernel, by decide +kernel⟩
theorem sc__law_pick : FnScope ["source", "most", "cells", "others", "lap", "stirred"] ["source", "most"] (defScope st__law_pick) := ⟨rfl, rfl, rfl, by decide +kernel, rfl, by decide +kernel, by decide +kernel⟩
theorem sc__law_of : FnScope ["source", "some"] ["source", "some"] (defScope st__law_of) := ⟨rfl, rfl, rfl, by decide +kernel, rfl, by decide +kernel, by decide +kernel⟩
theorem sc__law_words : FnScope [] [] (defScope st__law_words) := ⟨rfl, rfl, rfl, by decide +kernel, rfl, by decide +kernel, by decide +kernel⟩
theorem sc__law_line : FnScope ["record", "name"] ["record"] (defScope st__law_line) := ⟨rfl, rfl, rfl, by decide +kernel, rfl, by decide +kernel, by decide +kernel⟩
theorem sc__law_is_number : FnScope ["text"] ["text"] (defScope st__law_is_number) := ⟨rfl, rfl, rfl, by decide +kernel, rfl, by decide +kernel, by decide +kernel⟩
theorem sc__law_is_begun : FnScope ["text", "signs", "sign"] ["text"] (defScope st__law_is_begun) := ⟨rfl, rfl, rfl, by decide +kernel, rfl, by decide +kernel, by decide +kernel⟩
theorem sc__law_is_name : FnScope ["text", "words"] ["text"] (defScope st__law_is_name) := ⟨rfl, rfl, rfl, by decide +kernel, rfl, by decide +kernel, by decide +kernel⟩
theorem sc__law_record : FnScope ["line", "parts"] ["line"] (defScope st__law_record) := ⟨rfl, rfl, rfl, by decide +kernel, rfl, by decide +kernel, by decide +kernel⟩
theorem sc__law_can_be : FnScope ["line", "parts", "word"] ["line"] (defScope st__law_can_be) := ⟨rfl, rfl, rfl, by decide +kernel, rfl, by decide +kernel, by decide +kernel⟩
theorem sc__law_gone_over : FnScope ["text", "lines", "found", "place", "k", "line", "record", "many", "size"] ["text"] (defScope st__law_gone_over) := ⟨rfl, rfl, rfl, by decide +kernel, rfl, by decide +kernel, by decide +kernel⟩
theorem sc__law_told : FnScope ["text", "is_torn", "e"] ["text", "is_torn"] (defScope st__law_told) := ⟨rfl, rfl, rfl, by decide +kernel, rfl, by decide +kernel, by decide +kernel⟩
theorem sc__law_read_right : FnScope ["text", "whole", "torn", "found", "place"] ["text"] (defScope st__law_read_right) := ⟨rfl, rfl, rfl, by decide +kernel, rfl, by decide +kernel, by decide +kernel⟩
theorem sc__law_any_record : FnScope ["source", "name", "word", "run"] ["source"] (defScope st__law_any_record) := ⟨rfl, rfl, rfl, by decide +kernel, rfl, by decide +kernel, by decide +kernel⟩
theorem sc__law_bent : FnScope ["source", "text", "sign", "k", "road"] ["source", "text"] (defScope st__law_bent) := ⟨rfl, rfl, rfl, by decide +kernel, rfl, by decide +kernel, by decide +kernel⟩
theorem sc_law : FnScope ["script", "source", "lap", "some", "odd", "told", "journal", "text", "look", "late", "value", "turn", "record"] ["script"] (defScope st_law) := ⟨rfl, rfl, rfl, by decide +kernel, rfl, by decide +kernel, by decide +kernel⟩
/-! ### the semantics -/
def m_copied : SS :=
  (sSeq (sIf (sTest (sIsi "list" (sVar 0))) sBadS sNext)
  (sSeq (sIf (sTest (sIsi "tuple" (sVar 0))) sBadS sNext)
  (sSeq (sIf (sTest (sIsi "dict" (sVar 0))) sBadS sNext)
  (sRet (sVar 0)))))
def F_copied : List D → Sto → R D := runB 3 m_copied
def mI_BadText : SE := sCall 1 F_copied (sCons (sVar 1) sNil)
def m_is_name : SS :=
  (sSeq (sIf (sOr (sNot (sTest (sIsi "str" (sVar 0)))) (sOr (sNot (sTest (sChain fLt fLe (sC (.int 0)) (sFn fLen (sCons (sVar 0) sNil)) (sC (.int 12))))) (sTest (sOp fIn (sVar 0) (sC (.tup (k_WORDS_checks.map D.str))))))) (sRet (sC (.bl false))) sNext)
  (sRet (sAndV (sOp fIn (sOp fIx (sVar 0) (sC (.int 0))) (sC (.str "abcdefghijklmnopqrstuvwxyz"))) (sFn fAll (sCons (sLc [1] (sItems (sVar 0)) (gN 1) sYes (sOp fIn (sVar 1) (sOp fAdd (sC (.str "abcdefghijklmnopqrstuvwxyz")) (sC (.str "0123456789"))))) sNil)))))
def F_is_name : List D → Sto → R D := runB 2 m_is_name
def m_record_line : SS :=
  (sRet (sOp fAdd (sM1 fJoin (sC (.str " ")) (sLc [1] (sItems (sVar 0)) (gN 1) sYes (sFn fStr (sCons (sVar 1) sNil)))) (sC (.str "\n"))))
def F_record_line : List D → Sto → R D := runB 2 m_record_line
def m_journal_text : SS :=
  (sRet (sM1 fJoin (sC (.str "")) (sLc [1] (sItems (sVar 0)) (gN 1) sYes (sCall 1 F_record_line (sCons (sVar 1) sNil)))))
def F_journal_text : List D → Sto → R D := runB 2 m_journal_text
def m_alike_signs : SS :=
  (sSeq (sSet 3 (sC (.int 0)))
  (sSeq (sWhile (sAnd (sTest (sOp fLt (sVar 3) (sFn fLen (sCons (sVar 2) sNil)))) (sTest (sOp fEq (sSl (sVar 0) (some (sOp fAdd (sVar 1) (sVar 3))) (some (sOp fAdd (sOp fAdd (sVar 1) (sVar 3)) (sC (.int 1))))) (sOp fIx (sVar 2) (sVar 3))))) (sAug 3 fIadd (sC (.int 1))) 4096)
  (sRet (sVar 3))))
def F_alike_signs : List D → Sto → R D := runB 4 m_alike_signs
def m_word_end : SS :=
  (sSeq (sSet 2 (sC (.int 0)))
  (sSeq (sFor (sItems (sC (.tup (k_WORDS_journaltexts.map D.str)))) (gN 3) (sSeq (sSet 4 (sCall 3 F_alike_signs (sCons (sVar 0) (sCons (sVar 1) (sCons (sOp fAdd (sVar 3) (sC (.str " "))) sNil)))))
  (sSeq (sIf (sTest (sOp fEq (sVar 4) (sOp fAdd (sFn fLen (sCons (sVar 3) sNil)) (sC (.int 1))))) (sRet (sTup (sCons (sOp fAdd (sVar 1) (sVar 4)) (sCons (sVar 3) sNil)))) sNext)
  (sSet 2 (sFn fMax2 (sCons (sVar 2) (sCons (sVar 4) sNil)))))))
  (sRet (sTup (sCons (sOp fAdd (sVar 1) (sVar 2)) (sCons (sC .non) sNil))))))
def F_word_end : List D → Sto → R D := runB 5 m_word_end
def m_number_end : SS :=
  (sSeq (sSet 3 (sVar 1))
  (sSeq (sWhile (sAnd (sTest (sOp fLt (sVar 3) (sFn fLen (sCons (sVar 0) sNil)))) (sAnd (sTest (sOp fLt (sVar 3) (sOp fAdd (sVar 1) (sC (.int 2))))) (sAnd (sTest (sOp fIn (sOp fIx (sVar 0) (sVar 3)) (sC (.str "0123456789")))) (sTest (sOp fNe (sSl (sVar 0) (some (sVar 1)) (some (sVar 3))) (sC (.str "0"))))))) (sAug 3 fIadd (sC (.int 1))) 4096)
  (sSeq (sIf (sOr (sTest (sOp fEq (sVar 3) (sVar 1))) (sTest (sOp fNe (sSl (sVar 0) (some (sVar 3)) (some (sOp fAdd (sVar 3) (sC (.int 1))))) (sVar 2)))) (sRet (sTup (sCons (sVar 3) (sCons (sC .non) sNil)))) sNext)
  (sRet (sTup (sCons (sOp fAdd (sVar 3) (sC (.int 1))) (sCons (sFn fInt (sCons (sSl (sVar 0) (some (sVar 1)) (some (sVar 3))) sNil)) sNil)))))))
def F_number_end : List D → Sto → R D := runB 4 m_number_end
def m_name_end : SS :=
  (sSeq (sSet 2 (sVar 1))
  (sSeq (sWhile (sAnd (sTest (sOp fLt (sVar 2) (sFn fLen (sCons (sVar 0) sNil)))) (sAnd (sTest (sOp fLt (sVar 2) (sOp fAdd (sVar 1) (sC (.int 12))))) (sTest (sOp fIn (sOp fIx (sVar 0) (sVar 2)) (sIfE (sTest (sOp fEq (sVar 2) (sVar 1))) (sC (.str "abcdefghijklmnopqrstuvwxyz")) (sOp fAdd (sC (.str "abcdefghijklmnopqrstuvwxyz")) (sC (.str "0123456789")))))))) (sAug 2 fIadd (sC (.int 1))) 4096)
  (sSeq (sIf (sOr (sTest (sOp fNe (sSl (sVar 0) (some (sVar 2)) (some (sOp fAdd (sVar 2) (sC (.int 1))))) (sC (.str "\n")))) (sNot (sTest (sCall 1 F_is_name (sCons (sSl (sVar 0) (some (sVar 1)) (some (sVar 2))) sNil))))) (sRet (sTup (sCons (sVar 2) (sCons (sC .non) sNil)))) sNext)
  (sRet (sTup (sCons (sOp fAdd (sVar 2) (sC (.int 1))) (sCons (sSl (sVar 0) (some (sVar 1)) (some (sVar 2))) sNil)))))))
def F_name_end : List D → Sto → R D := runB 3 m_name_end
def m_line_end : SS :=
  (sSeq (sUnp [2, 3] (sCall 2 F_word_end (sCons (sVar 0) (sCons (sVar 1) sNil))))
  (sSeq (sIf (sTest (sOp fIs (sVar 3) (sC .non))) (sRet (sTup (sCons (sVar 2) (sCons (sC .non) sNil)))) sNext)
  (sSeq (sUnp [2, 4] (sCall 3 F_number_end (sCons (sVar 0) (sCons (sVar 2) (sCons (sIfE (sTest (sOp fEq (sVar 3) (sC (.str "left")))) (sC (.str "\n")) (sC (.str " "))) sNil)))))
  (sSeq (sIf (sOr (sTest (sOp fIs (sVar 4) (sC .non))) (sTest (sOp fEq (sVar 3) (sC (.str "left"))))) (sRet (sTup (sCons (sVar 2) (sCons (sIfE (sTest (sOp fIs (sVar 4) (sC .non))) (sC .non) (sTup (sCons (sVar 3) (sCons (sVar 4) sNil)))) sNil)))) sNext)
  (sSeq (sUnp [2, 5] (sCall 2 F_name_end (sCons (sVar 0) (sCons (sVar 2) sNil))))
  (sRet (sTup (sCons (sVar 2) (sCons (sIfE (sTest (sOp fIs (sVar 5) (sC .non))) (sC .non) (sTup (sCons (sVar 3) (sCons (sVar 4) (sCons (sVar 5) sNil))))) sNil)))))))))
def F_line_end : List D → Sto → R D := runB 6 m_line_end
def m_gone_over : SS :=
  (sSeq (sPar3 1 2 3 (sCons (sLstC sNil) (sCons (sC (.int 0)) (sCons (sTup sNil) sNil))))
  (sSeq (sWhile (sAnd (sTest (sOp fIsNot (sVar 3) (sC .non))) (sTest (sOp fLt (sVar 2) (sFn fLen (sCons (sVar 0) sNil))))) (sSeq (sUnp [2, 3] (sCall 2 F_line_end (sCons (sVar 0) (sCons (sVar 2) sNil))))
  (sIf (sTest (sOp fIsNot (sVar 3) (sC .non))) (sExpr (sApp' (sVar 1) (sVar 3))) sNext)) 4096)
  (sRet (sTup (sCons (sFn fTuple (sCons (sVar 1) sNil)) (sCons (sVar 2) sNil))))))
def F_gone_over : List D → Sto → R D := runB 4 m_gone_over
def m_read_journal : SS :=
  (sSeq (sIf (sNot (sTest (sIsi "str" (sVar 0)))) (sRaise "BadText" "place" mI_BadText mI_BadText (sCons (sC (.int 0)) sNil)) sNext)
  (sSeq (sUnp [1, 2] (sCall 1 F_gone_over (sCons (sVar 0) sNil)))
  (sSeq (sIf (sOr (sTest (sOp fLt (sVar 2) (sFn fLen (sCons (sVar 0) sNil)))) (sAnd (sTest (sOp fNe (sVar 0) (sC (.str "")))) (sTest (sOp fNe (sOp fIx (sVar 0) (sUn fNeg (sC (.int 1)))) (sC (.str "\n")))))) (sRaise "BadText" "place" mI_BadText mI_BadText (sCons (sVar 2) sNil)) sNext)
  (sRet (sVar 1)))))
def F_read_journal : List D → Sto → R D := runB 3 m_read_journal
def m_whole_of : SS :=
  (sSeq (sIf (sNot (sTest (sIsi "str" (sVar 0)))) (sRaise "BadText" "place" mI_BadText mI_BadText (sCons (sC (.int 0)) sNil)) sNext)
  (sSeq (sUnp [1, 2] (sCall 1 F_gone_over (sCons (sVar 0) sNil)))
  (sSeq (sIf (sTest (sOp fLt (sVar 2) (sFn fLen (sCons (sVar 0) sNil)))) (sRaise "BadText" "place" mI_BadText mI_BadText (sCons (sVar 2) sNil)) sNext)
  (sRet (sVar 1)))))
def F_whole_of : List D → Sto → R D := runB 3 m_whole_of
def m__law_open_cells : SS :=
  (sSeq (sSet 1 (sC (.int 11)))
  (sSeq (sFor (sItems (sVar 0)) (gN 2) (sSet 1 (sOp fMod (sFn fInt (sCons (sOp fAdd (sOp fAdd (sOp fMul (sVar 1) (sC (.int 69069))) (sOp fMul (sVar 2) (sC (.int 31)))) (sC (.int 5))) sNil)) (sC (.int 2147483629)))))
  (sSeq (sSet 3 (sLc [2] (sItems (sVar 0)) (gN 2) sYes (sFn fAbs (sCons (sVar 2) sNil))))
  (sRet (sDisp [.inr "cells", .inr "left", .inr "mixed", .inr "turn"] (sCons (sRevC (sVar 3)) (sCons (sC (.int 1)) (sCons (sVar 1) (sCons (sC (.int 0)) sNil)))))))))
def F__law_open_cells : List D → Sto → R D := runB 4 m__law_open_cells
def m__law_pick : SS :=
  (sSeq (sIf (sTest (sOp fLt (sVar 1) (sC (.int 2)))) (sRet (sC (.int 0))) sNext)
  (sSeq (sSet 2 (sOp fDGet (sVar 0) (sC (.str "cells"))))
  (sSeq (sWhile (sAnd (sTest (sOp fLt (sOp fDGet (sVar 0) (sC (.str "left"))) (sC (.int 2)))) (sTest (sOp fGt (sFn fLen (sCons (sVar 2) sNil)) (sC (.int 0))))) (sStm (sDPutE (sVar 0) (sC (.str "left")) (sPop (sVar 2)))) 4096)
  (sSeq (sSet 3 (sOp fDGet (sVar 0) (sC (.str "left"))))
  (sSeq (sIf (sTest (sOp fGt (sVar 3) (sC (.int 1)))) (sSeq (sStm (sDPutE (sVar 0) (sC (.str "left")) (sOp fFdiv (sVar 3) (sVar 1))))
  (sRet (sOp fMod (sFn fInt (sCons (sVar 3) sNil)) (sVar 1)))) sNext)
  (sSeq (sStm (sDPutE (sVar 0) (sC (.str "turn")) (sOp fAdd (sOp fDGet (sVar 0) (sC (.str "turn"))) (sC (.int 1)))))
  (sSeq (sSet 4 (sOp fDGet (sVar 0) (sC (.str "turn"))))
  (sSeq (sSet 5 (sOp fMod (sFn fInt (sCons (sOp fAdd (sOp fDGet (sVar 0) (sC (.str "mixed"))) (sOp fMul (sVar 4) (sC (.int 104729)))) sNil)) (sC (.int 998244353))))
  (sSeq (sSet 5 (sOp fMod (sFn fInt (sCons (sOp fAdd (sOp fMul (sVar 5) (sVar 5)) (sOp fMul (sVar 4) (sC (.int 17)))) sNil)) (sC (.int 2147483647))))
  (sRet (sOp fMod (sFn fInt (sCons (sOp fFdiv (sVar 5) (sC (.int 16))) sNil)) (sVar 1))))))))))))
def F__law_pick : List D → Sto → R D := runB 6 m__law_pick
def m__law_of : SS :=
  (sRet (sOp fIx (sVar 1) (sCall 2 F__law_pick (sCons (sVar 0) (sCons (sFn fLen (sCons (sVar 1) sNil)) sNil)))))
def F__law_of : List D → Sto → R D := runB 2 m__law_of
def m__law_words : SS :=
  (sRet (sLst (sCons (sC (.str "try")) (sCons (sC (.str "undo")) (sCons (sC (.str "done")) (sCons (sC (.str "failed")) (sCons (sC (.str "undone")) (sCons (sC (.str "left")) sNil))))))))
def F__law_words : List D → Sto → R D := runB 0 m__law_words
def m__law_line : SS :=
  (sRet (sOp fAdd (sOp fAdd (sOp fAdd (sOp fAdd (sOp fIx (sVar 0) (sC (.int 0))) (sC (.str " "))) (sFn fRepr (sCons (sOp fIx (sVar 0) (sC (.int 1))) sNil))) (sM1 fJoin (sC (.str "")) (sLc [1] (sItems (sSl (sVar 0) (some (sC (.int 2))) none)) (gN 1) sYes (sOp fAdd (sC (.str " ")) (sVar 1))))) (sC (.str "\n"))))
def F__law_line : List D → Sto → R D := runB 2 m__law_line
def m__law_is_number : SS :=
  (sRet (sAndV (sM0 fIsdigit (sVar 0)) (sAndV (sOp fLt (sFn fLen (sCons (sVar 0) sNil)) (sC (.int 3))) (sOrV (sOp fEq (sVar 0) (sC (.str "0"))) (sOp fNe (sOp fIx (sVar 0) (sC (.int 0))) (sC (.str "0")))))))
def F__law_is_number : List D → Sto → R D := runB 1 m__law_is_number
def m__law_is_begun : SS :=
  (sSeq (sSet 1 (sC (.str "abcdefghijklmnopqrstuvwxyz0123456789")))
  (sRet (sAndV (sOp fLt (sFn fLen (sCons (sVar 0) sNil)) (sC (.int 13))) (sAndV (sFn fAll (sCons (sLc [2] (sItems (sVar 0)) (gN 2) sYes (sOp fIn (sVar 2) (sVar 1))) sNil)) (sOrV (sOp fEq (sVar 0) (sC (.str ""))) (sOp fIn (sOp fIx (sVar 0) (sC (.int 0))) (sSl (sVar 1) none (some (sC (.int 26))))))))))
def F__law_is_begun : List D → Sto → R D := runB 3 m__law_is_begun
def m__law_is_name : SS :=
  (sSeq (sSet 1 (sLst (sCons (sC (.str "plans")) (sCons (sC (.str "plan")) (sCons (sC (.str "deed")) (sCons (sC (.str "child")) (sCons (sC (.str "row")) (sCons (sC (.str "side")) (sCons (sC (.str "else")) (sCons (sC (.str "undo")) (sCons (sC (.str "sure")) sNil)))))))))))
  (sRet (sAndV (sOp fNe (sVar 0) (sC (.str ""))) (sAndV (sCall 1 F__law_is_begun (sCons (sVar 0) sNil)) (sOp fNotIn (sVar 0) (sVar 1))))))
def F__law_is_name : List D → Sto → R D := runB 2 m__law_is_name
def m__law_record : SS :=
  (sSeq (sSet 1 (sM1 fSplit (sVar 0) (sC (.str " "))))
  (sSeq (sIf (sOr (sTest (sOp fLt (sFn fLen (sCons (sVar 1) sNil)) (sC (.int 2)))) (sOr (sTest (sOp fNotIn (sOp fIx (sVar 1) (sC (.int 0))) (sCall 0 F__law_words sNil))) (sNot (sTest (sCall 1 F__law_is_number (sCons (sOp fIx (sVar 1) (sC (.int 1))) sNil)))))) (sRet (sLst sNil)) sNext)
  (sSeq (sIf (sTest (sOp fEq (sOp fIx (sVar 1) (sC (.int 0))) (sC (.str "left")))) (sRet (sIfE (sTest (sOp fEq (sFn fLen (sCons (sVar 1) sNil)) (sC (.int 2)))) (sLst (sCons (sTup (sCons (sC (.str "left")) (sCons (sFn fInt (sCons (sOp fIx (sVar 1) (sC (.int 1))) sNil)) sNil))) sNil)) (sLst sNil))) sNext)
  (sRet (sIfE (sAnd (sTest (sOp fEq (sFn fLen (sCons (sVar 1) sNil)) (sC (.int 3)))) (sTest (sCall 1 F__law_is_name (sCons (sOp fIx (sVar 1) (sC (.int 2))) sNil)))) (sLst (sCons (sTup (sCons (sOp fIx (sVar 1) (sC (.int 0))) (sCons (sFn fInt (sCons (sOp fIx (sVar 1) (sC (.int 1))) sNil)) (sCons (sOp fIx (sVar 1) (sC (.int 2))) sNil)))) sNil)) (sLst sNil))))))
def F__law_record : List D → Sto → R D := runB 2 m__law_record
def m__law_can_be : SS :=
  (sSeq (sSet 1 (sM1 fSplit (sVar 0) (sC (.str " "))))
  (sSeq (sIf (sTest (sOp fEq (sFn fLen (sCons (sVar 1) sNil)) (sC (.int 1)))) (sRet (sFn fAny (sCons (sLc [2] (sItems (sCall 0 F__law_words sNil)) (gN 2) sYes (sM1 fStarts (sVar 2) (sVar 0))) sNil))) sNext)
  (sSeq (sIf (sOr (sTest (sOp fNotIn (sOp fIx (sVar 1) (sC (.int 0))) (sCall 0 F__law_words sNil))) (sNot (sOr (sAnd (sTest (sOp fEq (sOp fIx (sVar 1) (sC (.int 1))) (sC (.str "")))) (sTest (sOp fEq (sFn fLen (sCons (sVar 1) sNil)) (sC (.int 2))))) (sTest (sCall 1 F__law_is_number (sCons (sOp fIx (sVar 1) (sC (.int 1))) sNil)))))) (sRet (sC (.bl false))) sNext)
  (sRet (sOrV (sOp fEq (sFn fLen (sCons (sVar 1) sNil)) (sC (.int 2))) (sAndV (sOp fEq (sFn fLen (sCons (sVar 1) sNil)) (sC (.int 3))) (sAndV (sOp fNe (sOp fIx (sVar 1) (sC (.int 0))) (sC (.str "left"))) (sCall 1 F__law_is_begun (sCons (sOp fIx (sVar 1) (sC (.int 2))) sNil)))))))))
def F__law_can_be : List D → Sto → R D := runB 3 m__law_can_be
def m__law_gone_over : SS :=
  (sSeq (sPar 2 3 (sCons (sLst sNil) (sCons (sC (.int 0)) sNil)))
  (sSeq (sSet 1 (sM1 fSplit (sVar 0) (sC (.str "\n"))))
  (sSeq (sFor (sEnum (sCons (sVar 1) sNil)) (gT [4, 5]) (sSeq (sSet 6 (sIfE (sTest (sOp fLt (sOp fAdd (sVar 4) (sC (.int 1))) (sFn fLen (sCons (sVar 1) sNil)))) (sCall 1 F__law_record (sCons (sVar 5) sNil)) (sLst sNil)))
  (sSeq (sIf (sTest (sOp fEq (sVar 6) (sLst sNil))) (sSeq (sSet 7 (sFn fMaxL (sCons (sLc [8] (sRange1 (sCons (sOp fAdd (sFn fLen (sCons (sVar 5) sNil)) (sC (.int 1))) sNil)) (gN 8) (sTest (sCall 1 F__law_can_be (sCons (sSl (sVar 5) none (some (sVar 8))) sNil))) (sVar 8)) sNil)))
  (sRet (sTup (sCons (sFn fTuple (sCons (sVar 2) sNil)) (sCons (sOp fAdd (sVar 3) (sVar 7)) sNil))))) sNext)
  (sPar 2 3 (sCons (sOp fAdd (sVar 2) (sVar 6)) (sCons (sOp fAdd (sOp fAdd (sVar 3) (sFn fLen (sCons (sVar 5) sNil))) (sC (.int 1))) sNil))))))
  (sRet (sTup (sCons (sFn fTuple (sCons (sVar 2) sNil)) (sCons (sVar 3) sNil)))))))
def F__law_gone_over : List D → Sto → R D := runB 9 m__law_gone_over
def m__law_told : SS :=
  (sTryF 2 "BadText" "place" (sRet (sLst (sCons (sIfE (sTest (sVar 1)) (sCall 1 F_whole_of (sCons (sVar 0) sNil)) (sCall 1 F_read_journal (sCons (sVar 0) sNil))) sNil))))
def F__law_told : List D → Sto → R D := runB 3 m__law_told
def m__law_read_right : SS :=
  (sSeq (sUnp [3, 4] (sCall 1 F__law_gone_over (sCons (sVar 0) sNil)))
  (sSeq (sSet 1 (sIfE (sAnd (sTest (sOp fEq (sVar 4) (sFn fLen (sCons (sVar 0) sNil)))) (sOr (sTest (sOp fEq (sVar 0) (sC (.str "")))) (sTest (sOp fEq (sOp fIx (sVar 0) (sUn fNeg (sC (.int 1)))) (sC (.str "\n")))))) (sLst (sCons (sVar 3) sNil)) (sVar 4)))
  (sSeq (sSet 2 (sIfE (sTest (sOp fEq (sVar 4) (sFn fLen (sCons (sVar 0) sNil)))) (sLst (sCons (sVar 3) sNil)) (sVar 4)))
  (sRet (sOp fEq (sFn fRepr (sCons (sLst (sCons (sCall 2 F__law_told (sCons (sVar 0) (sCons (sC (.bl false)) sNil))) (sCons (sCall 2 F__law_told (sCons (sVar 0) (sCons (sC (.bl true)) sNil))) sNil))) sNil)) (sFn fRepr (sCons (sLst (sCons (sVar 1) (sCons (sVar 2) sNil))) sNil)))))))
def F__law_read_right : List D → Sto → R D := runB 5 m__law_read_right
def m__law_any_record : SS :=
  (sSeq (sPar 2 3 (sCons (sCall 2 F__law_of (sCons (sVar 0) (sCons (sCall 0 F__law_words sNil) sNil))) (sCons (sCall 2 F__law_of (sCons (sVar 0) (sCons (sLst (sCons (sC (.int 0)) (sCons (sC (.int 1)) (sCons (sC (.int 4)) (sCons (sC (.int 9)) (sCons (sC (.int 10)) (sCons (sC (.int 37)) (sCons (sC (.int 99)) sNil)))))))) sNil))) sNil)))
  (sSeq (sSet 1 (sCall 2 F__law_of (sCons (sVar 0) (sCons (sLst (sCons (sC (.str "a")) (sCons (sC (.str "pay")) (sCons (sC (.str "x1")) (sCons (sC (.str "plan1")) (sCons (sC (.str "undone")) (sCons (sC (.str "sured")) (sCons (sOp fMul (sC (.str "z")) (sC (.int 12))) (sCons (sC (.str "rows")) (sCons (sC (.str "left")) (sCons (sC (.str "try")) (sCons (sC (.str "e0")) sNil)))))))))))) sNil))))
  (sRet (sIfE (sTest (sOp fEq (sVar 2) (sC (.str "left")))) (sTup (sCons (sC (.str "left")) (sCons (sVar 3) sNil))) (sTup (sCons (sVar 2) (sCons (sVar 3) (sCons (sVar 1) sNil))))))))
def F__law_any_record : List D → Sto → R D := runB 4 m__law_any_record
def m__law_bent : SS :=
  (sSeq (sPar 3 4 (sCons (sCall 2 F__law_pick (sCons (sVar 0) (sCons (sOp fAdd (sFn fLen (sCons (sVar 1) sNil)) (sC (.int 1))) sNil))) (sCons (sCall 2 F__law_pick (sCons (sVar 0) (sCons (sC (.int 4)) sNil))) sNil)))
  (sSeq (sSet 2 (sCall 2 F__law_of (sCons (sVar 0) (sCons (sLst (sCons (sC (.str " ")) (sCons (sC (.str "\n")) (sCons (sC (.str "0")) (sCons (sC (.str "1")) (sCons (sC (.str "a")) (sCons (sC (.str "e")) (sCons (sC (.str "t")) (sCons (sC (.str "-")) (sCons (sC (.str "A")) (sCons (sC (.str "_")) (sCons (sC (.str "\t")) (sCons (sC (.str "d")) (sCons (sC (.str "u")) (sCons (sC (.str "l")) (sCons (sC (.str "9")) sNil)))))))))))))))) sNil))))
  (sRet (sOp fIx (sLst (sCons (sSl (sVar 1) none (some (sVar 3))) (sCons (sOp fAdd (sOp fAdd (sSl (sVar 1) none (some (sVar 3))) (sVar 2)) (sSl (sVar 1) (some (sVar 3)) none)) (sCons (sOp fAdd (sOp fAdd (sSl (sVar 1) none (some (sVar 3))) (sVar 2)) (sSl (sVar 1) (some (sOp fAdd (sVar 3) (sC (.int 1)))) none)) (sCons (sOp fAdd (sSl (sVar 1) none (some (sVar 3))) (sSl (sVar 1) (some (sOp fAdd (sVar 3) (sC (.int 1)))) none)) sNil))))) (sVar 4)))))
def F__law_bent : List D → Sto → R D := runB 5 m__law_bent
def m_law : SS :=
  (sSeq (sSet 1 (sCall 1 F__law_open_cells (sCons (sVar 0) sNil)))
  (sSeq (sFor (sRange1 (sCons (sC (.int 3)) sNil)) (gN 2) (sSeq (sSet 6 (sFn fTuple (sCons (sLc [11] (sRange1 (sCons (sCall 2 F__law_pick (sCons (sVar 1) (sCons (sOp fIx (sLst (sCons (sC (.int 4)) (sCons (sC (.int 9)) (sCons (sC (.int 41)) sNil)))) (sVar 2)) sNil))) sNil)) (gN 11) sYes (sCall 1 F__law_any_record (sCons (sVar 1) sNil))) sNil)))
  (sSeq (sSet 7 (sM1 fJoin (sC (.str "")) (sLc [12] (sItems (sVar 6)) (gN 12) sYes (sCall 1 F__law_line (sCons (sVar 12) sNil)))))
  (sSeq (sIf (sTest (sOp fNe (sLc [12] (sItems (sVar 6)) (gN 12) sYes (sCall 1 F_record_line (sCons (sVar 12) sNil))) (sLc [12] (sItems (sVar 6)) (gN 12) sYes (sCall 1 F__law_line (sCons (sVar 12) sNil))))) (sRet (sC (.bl false))) sNext)
  (sSeq (sIf (sOr (sTest (sOp fNe (sCall 1 F_journal_text (sCons (sVar 6) sNil)) (sVar 7))) (sTest (sOp fNe (sFn fRepr (sCons (sCall 1 F_read_journal (sCons (sVar 7) sNil)) sNil)) (sFn fRepr (sCons (sVar 6) sNil))))) (sRet (sC (.bl false))) sNext)
  (sFor (sRange1 (sCons (sC (.int 8)) sNil)) (gN 8) (sSeq (sSet 9 (sCall 2 F__law_bent (sCons (sVar 1) (sCons (sVar 7) sNil))))
  (sSeq (sSet 9 (sIfE (sTest (sOp fEq (sCall 2 F__law_pick (sCons (sVar 1) (sCons (sC (.int 2)) sNil))) (sC (.int 0)))) (sCall 2 F__law_bent (sCons (sVar 1) (sCons (sVar 9) sNil))) (sVar 9)))
  (sIf (sNot (sTest (sCall 1 F__law_read_right (sCons (sVar 9) sNil)))) (sRet (sC (.bl false))) sNext)))))))))
  (sSeq (sSet 3 (sLst (sCons (sC (.str "undo 0 plan\n")) (sCons (sC (.str "undo 0 plan")) (sCons (sC (.str "left 1 a\n")) (sCons (sC (.str "left 01\n")) (sCons (sC (.str "left 100\n")) (sCons (sOp fAdd (sC (.str "try 0 ")) (sOp fMul (sC (.str "a")) (sC (.int 13)))) sNil))))))))
  (sSeq (sSet 3 (sOp fAdd (sVar 3) (sLst (sCons (sC (.str "done 3 1a\n")) (sCons (sC (.str "\n")) (sCons (sC (.str "undone 0 sure\nleft")) (sCons (sC (.str "failed  0 a\n")) (sCons (sC (.str "Try 0 a\n")) (sCons (sC (.str "left 0\n\n")) sNil)))))))))
  (sSeq (sSet 3 (sOp fAdd (sVar 3) (sLst (sCons (sC (.str "left 0\nleft 0")) (sCons (sC (.str "try 0 a \n")) (sCons (sC (.str "doneleft")) sNil))))))
  (sSeq (sIf (sNot (sTest (sFn fAll (sCons (sLc [7] (sItems (sVar 3)) (gN 7) sYes (sCall 1 F__law_read_right (sCons (sVar 7) sNil))) sNil)))) (sRet (sC (.bl false))) sNext)
  (sSeq (sSet 4 (sLst (sCons (sC .non) (sCons (sC (.int 0)) (sCons (sC (.bl true)) (sCons (sLst (sCons (sC (.str "left 0\n")) sNil)) (sCons (sTup (sCons (sC (.str "left")) (sCons (sC (.int 0)) sNil))) (sCons sDNew sNil))))))))
  (sSeq (sSet 5 (sOp fAdd (sLc [10] (sItems (sVar 4)) (gN 10) sYes (sCall 2 F__law_told (sCons (sVar 10) (sCons (sC (.bl false)) sNil)))) (sLc [10] (sItems (sVar 4)) (gN 10) sYes (sCall 2 F__law_told (sCons (sVar 10) (sCons (sC (.bl true)) sNil))))))
  (sRet (sAndV (sOp fEq (sVar 5) (sRep (sCons (sC (.int 0)) sNil) (sC (.int 12)))) (sOp fEq (sCall 1 F_journal_text (sCons (sTup sNil) sNil)) (sC (.str "")))))))))))))
def F_law : List D → Sto → R D := runB 13 m_law
abbrev st_iBadText : Stmt := inCls (topS 3) 0
/-! ### what the top holds -/
structure Ad where
  a_copied : Addr
  d_copied : FuncData
  a_is_name : Addr
  d_is_name : FuncData
  a_record_line : Addr
  d_record_line : FuncData
  a_journal_text : Addr
  d_journal_text : FuncData
  a_alike_signs : Addr
  d_alike_signs : FuncData
  a_word_end : Addr
  d_word_end : FuncData
  a_number_end : Addr
  d_number_end : FuncData
  a_name_end : Addr
  d_name_end : FuncData
  a_line_end : Addr
  d_line_end : FuncData
  a_gone_over : Addr
  d_gone_over : FuncData
  a_read_journal : Addr
  d_read_journal : FuncData
  a_whole_of : Addr
  d_whole_of : FuncData
  a__law_open_cells : Addr
  d__law_open_cells : FuncData
  a__law_pick : Addr
  d__law_pick : FuncData
  a__law_of : Addr
  d__law_of : FuncData
  a__law_words : Addr
  d__law_words : FuncData
  a__law_line : Addr
  d__law_line : FuncData
  a__law_is_number : Addr
  d__law_is_number : FuncData
  a__law_is_begun : Addr
  d__law_is_begun : FuncData
  a__law_is_name : Addr
  d__law_is_name : FuncData
  a__law_record : Addr
  d__law_record : FuncData
  a__law_can_be : Addr
  d__law_can_be : FuncData
  a__law_gone_over : Addr
  d__law_gone_over : FuncData
  a__law_told : Addr
  d__law_told : FuncData
  a__law_read_right : Addr
  d__law_read_right : FuncData
  a__law_any_record : Addr
  d__law_any_record : FuncData
  a__law_bent : Addr
  d__law_bent : FuncData
  a_law : Addr
  d_law : FuncData
  C_BadText : Addr
  i_BadText : Addr
  e_BadText : Addr
  o_BadText : Addr
  D_BadText : FuncData
structure Md (P : Program) (K : PySem.W.Frag) (mg : Str → Option Value) (A : Ad) : Prop where
  d_copied : Dfn K mg "copied" st_copied ["value"] A.a_copied A.d_copied
  d_is_name : Dfn K mg "is_name" st_is_name ["value"] A.a_is_name A.d_is_name
  d_record_line : Dfn K mg "record_line" st_record_line ["record"] A.a_record_line A.d_record_line
  d_journal_text : Dfn K mg "journal_text" st_journal_text ["journal"] A.a_journal_text A.d_journal_text
  d_alike_signs : Dfn K mg "alike_signs" st_alike_signs ["text", "place", "word"] A.a_alike_signs A.d_alike_signs
  d_word_end : Dfn K mg "word_end" st_word_end ["text", "place"] A.a_word_end A.d_word_end
  d_number_end : Dfn K mg "number_end" st_number_end ["text", "place", "last"] A.a_number_end A.d_number_end
  d_name_end : Dfn K mg "name_end" st_name_end ["text", "place"] A.a_name_end A.d_name_end
  d_line_end : Dfn K mg "line_end" st_line_end ["text", "place"] A.a_line_end A.d_line_end
  d_gone_over : Dfn K mg "gone_over" st_gone_over ["text"] A.a_gone_over A.d_gone_over
  d_read_journal : Dfn K mg "read_journal" st_read_journal ["text"] A.a_read_journal A.d_read_journal
  d_whole_of : Dfn K mg "whole_of" st_whole_of ["text"] A.a_whole_of A.d_whole_of
  d__law_open_cells : Dfn K mg "_law_open_cells" st__law_open_cells ["script"] A.a__law_open_cells A.d__law_open_cells
  d__law_pick : Dfn K mg "_law_pick" st__law_pick ["source", "most"] A.a__law_pick A.d__law_pick
  d__law_of : Dfn K mg "_law_of" st__law_of ["source", "some"] A.a__law_of A.d__law_of
  d__law_words : Dfn K mg "_law_words" st__law_words [] A.a__law_words A.d__law_words
  d__law_line : Dfn K mg "_law_line" st__law_line ["record"] A.a__law_line A.d__law_line
  d__law_is_number : Dfn K mg "_law_is_number" st__law_is_number ["text"] A.a__law_is_number A.d__law_is_number
  d__law_is_begun : Dfn K mg "_law_is_begun" st__law_is_begun ["text"] A.a__law_is_begun A.d__law_is_begun
  d__law_is_name : Dfn K mg "_law_is_name" st__law_is_name ["text"] A.a__law_is_name A.d__law_is_name
  d__law_record : Dfn K mg "_law_record" st__law_record ["line"] A.a__law_record A.d__law_record
  d__law_can_be : Dfn K mg "_law_can_be" st__law_can_be ["line"] A.a__law_can_be A.d__law_can_be
  d__law_gone_over : Dfn K mg "_law_gone_over" st__law_gone_over ["text"] A.a__law_gone_over A.d__law_gone_over
  d__law_told : Dfn K mg "_law_told" st__law_told ["text", "is_torn"] A.a__law_told A.d__law_told
  d__law_read_right : Dfn K mg "_law_read_right" st__law_read_right ["text"] A.a__law_read_right A.d__law_read_right
  d__law_any_record : Dfn K mg "_law_any_record" st__law_any_record ["source"] A.a__law_any_record A.d__law_any_record
  d__law_bent : Dfn K mg "_law_bent" st__law_bent ["source", "text"] A.a__law_bent A.d__law_bent
  d_law : Dfn K mg "law" st_law ["script"] A.a_law A.d_law
  b_isinstance : mg "isinstance" = none
  b_list : mg "list" = none
  b_tuple : mg "tuple" = none
  b_dict : mg "dict" = none
  b_str : mg "str" = none
  b_len : mg "len" = none
  b_all : mg "all" = none
  b_max : mg "max" = none
  b_int : mg "int" = none
  b_abs : mg "abs" = none
  b_repr : mg "repr" = none
  b_any : mg "any" = none
  b_enumerate : mg "enumerate" = none
  b_range : mg "range" = none
  c_MOST_LETTERS : ∃ t, mg "MOST_LETTERS" = some (.int 12 t)
  c_WORDS_checks : ∃ (a : Addr) (o : Obj) (its : Array Value) (n : Nat), mg "WORDS_checks" = some (.ref a) ∧ K.lookup a = some o ∧ o.cls = .type "tuple" ∧ o.data = .seq its n ∧ its.size ≤ 4096 ∧ StrsK its.toList k_WORDS_checks
  c_LETTERS_checks : ∃ t, mg "LETTERS_checks" = some (.str "abcdefghijklmnopqrstuvwxyz" t)
  c_DIGITS_checks : ∃ t, mg "DIGITS_checks" = some (.str "0123456789" t)
  c_WORDS_journaltexts : ∃ (a : Addr) (o : Obj) (its : Array Value) (n : Nat), mg "WORDS_journaltexts" = some (.ref a) ∧ K.lookup a = some o ∧ o.cls = .type "tuple" ∧ o.data = .seq its n ∧ its.size ≤ 4096 ∧ StrsK its.toList k_WORDS_journaltexts
  c_DIGITS_journaltexts : ∃ t, mg "DIGITS_journaltexts" = some (.str "0123456789" t)
  c_LONGEST : ∃ t, mg "LONGEST" = some (.int 12 t)
  c_LETTERS_journaltexts : ∃ t, mg "LETTERS_journaltexts" = some (.str "abcdefghijklmnopqrstuvwxyz" t)
  x_BadText : IniF P K mg "BadText" A.C_BadText A.i_BadText A.e_BadText A.o_BadText "place" A.D_BadText "__init__" "BadText.__init__" (defArgs (st_iBadText)) (defBody (st_iBadText)) (defScope (st_iBadText))
  f_BadText : FldF K A.C_BadText "place"
section
variable {P : Program} {w : World} {K : PySem.W.Frag} {mg : Str → Option Value} {base : Heap} {A : Ad}
variable (T : Md P K mg A)
include T
theorem G_copied : FnG P w K mg base 1 A.a_copied A.d_copied ["value"] F_copied :=
  fnG_of T.d_copied.F sc_copied fun cdv A1 outer s H E c => by
    have S := sc_copied
    unfold m_copied
    exact (mss_cons (ms_if (mb_val (me_isi (T := "list") T.b_isinstance T.b_list (by decide +kernel) (me_var 0))) mss_never mss_nil)
    (mss_cons (ms_if (mb_val (me_isi (T := "tuple") T.b_isinstance T.b_tuple (by decide +kernel) (me_var 0))) mss_never mss_nil)
    (mss_cons (ms_if (mb_val (me_isi (T := "dict") T.b_isinstance T.b_dict (by decide +kernel) (me_var 0))) mss_never mss_nil)
    (mss_one (ms_ret (me_var 0))))))
theorem I_BadText : IniG P w K mg base 2 "BadText" A.C_BadText A.i_BadText "place" mI_BadText mI_BadText := by
  exact ini_of T.x_BadText T.d_copied (G_copied T) rfl (NdefX.nscope_by (by decide +kernel)) ⟨_, rfl, rfl⟩ (by intros; rfl) (by decide) rfl rfl rfl (by decide) (by decide)  (fun env he => by
    obtain ⟨sc⟩ := env
    cases he
    rfl)
theorem G_is_name : FnG P w K mg base 1 A.a_is_name A.d_is_name ["value"] F_is_name :=
  fnG_of T.d_is_name.F sc_is_name fun cdv A1 outer s H E c => by
    have S := sc_is_name
    unfold m_is_name
    exact (mss_cons (ms_if (MBw.b (mbw_or (mb_not (mb_val (me_isi (T := "str") T.b_isinstance T.b_str (by decide +kernel) (me_var 0)))) (mbw_or (mb_not (mb_chain om_ltI om_leI me_int (me_fn cm_len T.b_len (ma_cons (me_var 0) ma_nil)) (me_gint T.c_MOST_LETTERS))) (mbw_or1 (mb_cmp om_in (me_var 0) (me_gtup T.c_WORDS_checks)))))) (mss_one (ms_ret me_bl)) mss_nil)
    (mss_one (ms_ret (me_and (me_cmp om_in (me_ix (me_var 0) me_int) (me_gstr T.c_LETTERS_checks)) (me_one (me_fn (cm_all c.calm) T.b_all (ma_cons (me_lc (own := [("sign", 1)]) (is := [1]) c.calm S.nd (mi_seq (me_var 0)) (blkOk_by (N := ["value", "sign"]) (sc := defScope st_is_name) (by decide +kernel)) (by decide) (fun s H C cl fp => (mt_name 1 S.nd)) (fun s H C cl fp => blkT c fun c => mts_nil) (fun s H C cl fp => blkE c fun c => (me_cmp om_in (me_var 1) (me_op om_add (me_gstr T.c_LETTERS_checks) (me_gstr T.c_DIGITS_checks))))) ma_nil)))))))
theorem G_record_line : FnG P w K mg base 1 A.a_record_line A.d_record_line ["record"] F_record_line :=
  fnG_of T.d_record_line.F sc_record_line fun cdv A1 outer s H E c => by
    have S := sc_record_line
    unfold m_record_line
    exact (mss_one (ms_ret (me_op om_add (me_m1 PySem.F.slot_str_join PySem.F.type_str_join mf_join me_str (me_lc (own := [("one", 1)]) (is := [1]) c.calm S.nd (mi_seq (me_var 0)) (blkOk_by (N := ["record", "one"]) (sc := defScope st_record_line) (by decide +kernel)) (by decide) (fun s H C cl fp => (mt_name 1 S.nd)) (fun s H C cl fp => blkT c fun c => mts_nil) (fun s H C cl fp => blkE c fun c => (me_ty cm_str T.b_str (ma_cons (me_var 1) ma_nil))))) me_str)))
theorem G_journal_text : FnG P w K mg base 2 A.a_journal_text A.d_journal_text ["journal"] F_journal_text :=
  fnG_of T.d_journal_text.F sc_journal_text fun cdv A1 outer s H E c => by
    have S := sc_journal_text
    unfold m_journal_text
    exact (mss_one (ms_ret (me_m1 PySem.F.slot_str_join PySem.F.type_str_join mf_join me_str (me_lc (own := [("record", 1)]) (is := [1]) c.calm S.nd (mi_seq (me_var 0)) (blkOk_by (N := ["journal", "record"]) (sc := defScope st_journal_text) (by decide +kernel)) (by decide) (fun s H C cl fp => (mt_name 1 S.nd)) (fun s H C cl fp => blkT c fun c => mts_nil) (fun s H C cl fp => blkE c fun c => (me_callD T.d_record_line (G_record_line T) c (by decide) (ma_cons (me_var 1) ma_nil)))))))
theorem G_alike_signs : FnG P w K mg base 1 A.a_alike_signs A.d_alike_signs ["text", "place", "word"] F_alike_signs :=
  fnG_of T.d_alike_signs.F sc_alike_signs fun cdv A1 outer s H E c => by
    have S := sc_alike_signs
    unfold m_alike_signs
    exact (mss_cons (ms_set (i := 3) me_int S.nd)
    (mss_cons (ms_while 4096 c.pass (MBw.b (mbw_and (mb_cmp om_ltI (me_var 3) (me_fn cm_len T.b_len (ma_cons (me_var 2) ma_nil))) (mbw_and1 (mb_cmp (om_eq (cx_u64 c)) (me_sl (me_var 0) (mp_some (me_op om_add (me_var 1) (me_var 3))) (mp_some (me_op om_add (me_op om_add (me_var 1) (me_var 3)) me_int))) (me_ix (me_var 2) (me_var 3)))))) (mss_one (ms_aug (i := 3) om_iadd me_int S.nd)))
    (mss_one (ms_ret (me_var 3)))))
theorem G_word_end : FnG P w K mg base 2 A.a_word_end A.d_word_end ["text", "place"] F_word_end :=
  fnG_of T.d_word_end.F sc_word_end fun cdv A1 outer s H E c => by
    have S := sc_word_end
    unfold m_word_end
    exact (mss_cons (ms_set (i := 2) me_int S.nd)
    (mss_cons (ms_for c.calm c.pass (mi_seq (me_gtup T.c_WORDS_journaltexts)) (mt_name 3 S.nd) (mss_cons (ms_set (i := 4) (me_callD T.d_alike_signs (G_alike_signs T) c (by decide) (ma_cons (me_var 0) (ma_cons (me_var 1) (ma_cons (me_op om_add (me_var 3) me_str) ma_nil)))) S.nd)
    (mss_cons (ms_if (mb_cmp (om_eq (cx_u64 c)) (me_var 4) (me_op om_add (me_fn cm_len T.b_len (ma_cons (me_var 3) ma_nil)) me_int)) (mss_one (ms_ret (me_tup (ma_cons (me_op om_add (me_var 1) (me_var 4)) (ma_cons (me_var 3) ma_nil))))) mss_nil)
    (mss_one (ms_set (i := 2) (me_fn (cm_max2 c.calm) T.b_max (ma_cons (me_var 2) (ma_cons (me_var 4) ma_nil))) S.nd)))))
    (mss_one (ms_ret (me_tup (ma_cons (me_op om_add (me_var 1) (me_var 2)) (ma_cons me_non ma_nil)))))))
theorem G_number_end : FnG P w K mg base 1 A.a_number_end A.d_number_end ["text", "place", "last"] F_number_end :=
  fnG_of T.d_number_end.F sc_number_end fun cdv A1 outer s H E c => by
    have S := sc_number_end
    unfold m_number_end
    exact (mss_cons (ms_set (i := 3) (me_var 1) S.nd)
    (mss_cons (ms_while 4096 c.pass (MBw.b (mbw_and (mb_cmp om_ltI (me_var 3) (me_fn cm_len T.b_len (ma_cons (me_var 0) ma_nil))) (mbw_and (mb_cmp om_ltI (me_var 3) (me_op om_add (me_var 1) me_int)) (mbw_and (mb_cmp om_in (me_ix (me_var 0) (me_var 3)) (me_gstr T.c_DIGITS_journaltexts)) (mbw_and1 (mb_cmp (om_ne (cx_u64 c)) (me_sl (me_var 0) (mp_some (me_var 1)) (mp_some (me_var 3))) me_str)))))) (mss_one (ms_aug (i := 3) om_iadd me_int S.nd)))
    (mss_cons (ms_if (MBw.b (mbw_or (mb_cmp (om_eq (cx_u64 c)) (me_var 3) (me_var 1)) (mbw_or1 (mb_cmp (om_ne (cx_u64 c)) (me_sl (me_var 0) (mp_some (me_var 3)) (mp_some (me_op om_add (me_var 3) me_int))) (me_var 2))))) (mss_one (ms_ret (me_tup (ma_cons (me_var 3) (ma_cons me_non ma_nil))))) mss_nil)
    (mss_one (ms_ret (me_tup (ma_cons (me_op om_add (me_var 3) me_int) (ma_cons (me_ty cm_int T.b_int (ma_cons (me_sl (me_var 0) (mp_some (me_var 1)) (mp_some (me_var 3))) ma_nil)) ma_nil))))))))
theorem G_name_end : FnG P w K mg base 2 A.a_name_end A.d_name_end ["text", "place"] F_name_end :=
  fnG_of T.d_name_end.F sc_name_end fun cdv A1 outer s H E c => by
    have S := sc_name_end
    unfold m_name_end
    exact (mss_cons (ms_set (i := 2) (me_var 1) S.nd)
    (mss_cons (ms_while 4096 c.pass (MBw.b (mbw_and (mb_cmp om_ltI (me_var 2) (me_fn cm_len T.b_len (ma_cons (me_var 0) ma_nil))) (mbw_and (mb_cmp om_ltI (me_var 2) (me_op om_add (me_var 1) (me_gint T.c_LONGEST))) (mbw_and1 (mb_cmp om_in (me_ix (me_var 0) (me_var 2)) (me_if (mb_cmp (om_eq (cx_u64 c)) (me_var 2) (me_var 1)) (me_gstr T.c_LETTERS_journaltexts) (me_op om_add (me_gstr T.c_LETTERS_journaltexts) (me_gstr T.c_DIGITS_journaltexts)))))))) (mss_one (ms_aug (i := 2) om_iadd me_int S.nd)))
    (mss_cons (ms_if (MBw.b (mbw_or (mb_cmp (om_ne (cx_u64 c)) (me_sl (me_var 0) (mp_some (me_var 2)) (mp_some (me_op om_add (me_var 2) me_int))) me_str) (mbw_or1 (mb_not (mb_val (me_callD T.d_is_name (G_is_name T) c (by decide) (ma_cons (me_sl (me_var 0) (mp_some (me_var 1)) (mp_some (me_var 2))) ma_nil))))))) (mss_one (ms_ret (me_tup (ma_cons (me_var 2) (ma_cons me_non ma_nil))))) mss_nil)
    (mss_one (ms_ret (me_tup (ma_cons (me_op om_add (me_var 2) me_int) (ma_cons (me_sl (me_var 0) (mp_some (me_var 1)) (mp_some (me_var 2))) ma_nil))))))))
theorem G_line_end : FnG P w K mg base 3 A.a_line_end A.d_line_end ["text", "place"] F_line_end :=
  fnG_of T.d_line_end.F sc_line_end fun cdv A1 outer s H E c => by
    have S := sc_line_end
    unfold m_line_end
    exact (mss_cons (ms_unp c.calm (me_callD T.d_word_end (G_word_end T) c (by decide) (ma_cons (me_var 0) (ma_cons (me_var 1) ma_nil))) (mgs_cons 2 S.nd (mgs_cons 3 S.nd mgs_nil)))
    (mss_cons (ms_if (mb_cmp om_is (me_var 3) me_non) (mss_one (ms_ret (me_tup (ma_cons (me_var 2) (ma_cons me_non ma_nil))))) mss_nil)
    (mss_cons (ms_unp c.calm (me_callD T.d_number_end (G_number_end T) c (by decide) (ma_cons (me_var 0) (ma_cons (me_var 2) (ma_cons (me_if (mb_cmp (om_eq (cx_u64 c)) (me_var 3) me_str) me_str me_str) ma_nil)))) (mgs_cons 2 S.nd (mgs_cons 4 S.nd mgs_nil)))
    (mss_cons (ms_if (MBw.b (mbw_or (mb_cmp om_is (me_var 4) me_non) (mbw_or1 (mb_cmp (om_eq (cx_u64 c)) (me_var 3) me_str)))) (mss_one (ms_ret (me_tup (ma_cons (me_var 2) (ma_cons (me_if (mb_cmp om_is (me_var 4) me_non) me_non (me_tup (ma_cons (me_var 3) (ma_cons (me_var 4) ma_nil)))) ma_nil))))) mss_nil)
    (mss_cons (ms_unp c.calm (me_callD T.d_name_end (G_name_end T) c (by decide) (ma_cons (me_var 0) (ma_cons (me_var 2) ma_nil))) (mgs_cons 2 S.nd (mgs_cons 5 S.nd mgs_nil)))
    (mss_one (ms_ret (me_tup (ma_cons (me_var 2) (ma_cons (me_if (mb_cmp om_is (me_var 5) me_non) me_non (me_tup (ma_cons (me_var 3) (ma_cons (me_var 4) (ma_cons (me_var 5) ma_nil))))) ma_nil))))))))))
theorem G_gone_over : FnG P w K mg base 4 A.a_gone_over A.d_gone_over ["text"] F_gone_over :=
  fnG_of T.d_gone_over.F sc_gone_over fun cdv A1 outer s H E c => by
    have S := sc_gone_over
    unfold m_gone_over
    exact (mss_cons (ms_par3 (i := 1) (j := 2) (l := 3) c.calm S.nd (ma_cons (me_lstC ma_nil) (ma_cons me_int (ma_cons (me_tup ma_nil) ma_nil))))
    (mss_cons (ms_while 4096 c.pass (MBw.b (mbw_and (mb_cmp om_isNot (me_var 3) me_non) (mbw_and1 (mb_cmp om_ltI (me_var 2) (me_fn cm_len T.b_len (ma_cons (me_var 0) ma_nil)))))) (mss_cons (ms_unp c.calm (me_callD T.d_line_end (G_line_end T) c (by decide) (ma_cons (me_var 0) (ma_cons (me_var 2) ma_nil))) (mgs_cons 2 S.nd (mgs_cons 3 S.nd mgs_nil)))
    (mss_one (ms_if (mb_cmp om_isNot (me_var 3) me_non) (mss_one (ms_expr (me_app (me_var 1) (me_var 3)))) mss_nil))))
    (mss_one (ms_ret (me_tup (ma_cons (me_ty cm_tuple T.b_tuple (ma_cons (me_var 1) ma_nil)) (ma_cons (me_var 2) ma_nil)))))))
theorem G_read_journal : FnG P w K mg base 5 A.a_read_journal A.d_read_journal ["text"] F_read_journal :=
  fnG_of T.d_read_journal.F sc_read_journal fun cdv A1 outer s H E c => by
    have S := sc_read_journal
    unfold m_read_journal
    exact (mss_cons (ms_if (mb_not (mb_val (me_isi (T := "str") T.b_isinstance T.b_str (by decide +kernel) (me_var 0)))) (mss_one (ms_raise (I_BadText T) c (by decide) (ma_cons me_int ma_nil))) mss_nil)
    (mss_cons (ms_unp c.calm (me_callD T.d_gone_over (G_gone_over T) c (by decide) (ma_cons (me_var 0) ma_nil)) (mgs_cons 1 S.nd (mgs_cons 2 S.nd mgs_nil)))
    (mss_cons (ms_if (MBw.b (mbw_or (mb_cmp om_ltI (me_var 2) (me_fn cm_len T.b_len (ma_cons (me_var 0) ma_nil))) (mbw_or1 (MBw.b (mbw_and (mb_cmp (om_ne (cx_u64 c)) (me_var 0) me_str) (mbw_and1 (mb_cmp (om_ne (cx_u64 c)) (me_ix (me_var 0) (me_neg me_int)) me_str))))))) (mss_one (ms_raise (I_BadText T) c (by decide) (ma_cons (me_var 2) ma_nil))) mss_nil)
    (mss_one (ms_ret (me_var 1))))))
theorem G_whole_of : FnG P w K mg base 5 A.a_whole_of A.d_whole_of ["text"] F_whole_of :=
  fnG_of T.d_whole_of.F sc_whole_of fun cdv A1 outer s H E c => by
    have S := sc_whole_of
    unfold m_whole_of
    exact (mss_cons (ms_if (mb_not (mb_val (me_isi (T := "str") T.b_isinstance T.b_str (by decide +kernel) (me_var 0)))) (mss_one (ms_raise (I_BadText T) c (by decide) (ma_cons me_int ma_nil))) mss_nil)
    (mss_cons (ms_unp c.calm (me_callD T.d_gone_over (G_gone_over T) c (by decide) (ma_cons (me_var 0) ma_nil)) (mgs_cons 1 S.nd (mgs_cons 2 S.nd mgs_nil)))
    (mss_cons (ms_if (mb_cmp om_ltI (me_var 2) (me_fn cm_len T.b_len (ma_cons (me_var 0) ma_nil))) (mss_one (ms_raise (I_BadText T) c (by decide) (ma_cons (me_var 2) ma_nil))) mss_nil)
    (mss_one (ms_ret (me_var 1))))))
theorem G__law_open_cells : FnG P w K mg base 1 A.a__law_open_cells A.d__law_open_cells ["script"] F__law_open_cells :=
  fnG_of T.d__law_open_cells.F sc__law_open_cells fun cdv A1 outer s H E c => by
    have S := sc__law_open_cells
    unfold m__law_open_cells
    exact (mss_cons (ms_set (i := 1) me_int S.nd)
    (mss_cons (ms_for c.calm c.pass (mi_seq (me_var 0)) (mt_name 2 S.nd) (mss_one (ms_set (i := 1) (me_op om_mod (me_ty cm_int T.b_int (ma_cons (me_op om_add (me_op om_add (me_op om_mul (me_var 1) me_int) (me_op om_mul (me_var 2) me_int)) me_int) ma_nil)) me_int) S.nd)))
    (mss_cons (ms_setLc (i := 3) (own := [("cell", 2)]) (is := [2]) c.calm S.nd (mi_seq (me_var 0)) (blkOk_by (N := ["script", "stirred", "cell", "cells"]) (sc := defScope st__law_open_cells) (by decide +kernel)) (by decide) (fun s H C cl fp => (mt_name 2 S.nd)) (fun s H C cl fp => blkT c fun c => mts_nil) (fun s H C cl fp => blkE c fun c => (me_fn cm_abs T.b_abs (ma_cons (me_var 2) ma_nil))))
    (mss_one (ms_ret (me_disp (mps_str (me_revC (me_var 3)) (mps_str me_int (mps_str (me_var 1) (mps_str me_int mps_nil))))))))))
theorem G__law_pick : FnG P w K mg base 1 A.a__law_pick A.d__law_pick ["source", "most"] F__law_pick :=
  fnG_of T.d__law_pick.F sc__law_pick fun cdv A1 outer s H E c => by
    have S := sc__law_pick
    unfold m__law_pick
    exact (mss_cons (ms_if (mb_cmp om_ltI (me_var 1) me_int) (mss_one (ms_ret me_int)) mss_nil)
    (mss_cons (ms_set (i := 2) (me_dget (cx_u1 c) (me_var 0) me_str) S.nd)
    (mss_cons (ms_while 4096 c.pass (MBw.b (mbw_and (mb_cmp om_ltI (me_dget (cx_u1 c) (me_var 0) me_str) me_int) (mbw_and1 (mb_cmp om_gtI (me_fn cm_len T.b_len (ma_cons (me_var 2) ma_nil)) me_int)))) (mss_one (ms_dput (cx_u1 c) (me_var 0) me_str (me_pop (me_var 2)))))
    (mss_cons (ms_set (i := 3) (me_dget (cx_u1 c) (me_var 0) me_str) S.nd)
    (mss_cons (ms_if (mb_cmp om_gtI (me_var 3) me_int) (mss_cons (ms_dput (cx_u1 c) (me_var 0) me_str (me_op om_fdiv (me_var 3) (me_var 1)))
    (mss_one (ms_ret (me_op om_mod (me_ty cm_int T.b_int (ma_cons (me_var 3) ma_nil)) (me_var 1))))) mss_nil)
    (mss_cons (ms_dput (cx_u1 c) (me_var 0) me_str (me_op om_add (me_dget (cx_u1 c) (me_var 0) me_str) me_int))
    (mss_cons (ms_set (i := 4) (me_dget (cx_u1 c) (me_var 0) me_str) S.nd)
    (mss_cons (ms_set (i := 5) (me_op om_mod (me_ty cm_int T.b_int (ma_cons (me_op om_add (me_dget (cx_u1 c) (me_var 0) me_str) (me_op om_mul (me_var 4) me_int)) ma_nil)) me_int) S.nd)
    (mss_cons (ms_set (i := 5) (me_op om_mod (me_ty cm_int T.b_int (ma_cons (me_op om_add (me_op om_mul (me_var 5) (me_var 5)) (me_op om_mul (me_var 4) me_int)) ma_nil)) me_int) S.nd)
    (mss_one (ms_ret (me_op om_mod (me_ty cm_int T.b_int (ma_cons (me_op om_fdiv (me_var 5) me_int) ma_nil)) (me_var 1)))))))))))))
theorem G__law_of : FnG P w K mg base 2 A.a__law_of A.d__law_of ["source", "some"] F__law_of :=
  fnG_of T.d__law_of.F sc__law_of fun cdv A1 outer s H E c => by
    have S := sc__law_of
    unfold m__law_of
    exact (mss_one (ms_ret (me_ix (me_var 1) (me_callD T.d__law_pick (G__law_pick T) c (by decide) (ma_cons (me_var 0) (ma_cons (me_fn cm_len T.b_len (ma_cons (me_var 1) ma_nil)) ma_nil))))))
theorem G__law_words : FnG P w K mg base 1 A.a__law_words A.d__law_words [] F__law_words :=
  fnG_of T.d__law_words.F sc__law_words fun cdv A1 outer s H E c => by
    have S := sc__law_words
    unfold m__law_words
    exact (mss_one (ms_ret (me_lst (ma_cons me_str (ma_cons me_str (ma_cons me_str (ma_cons me_str (ma_cons me_str (ma_cons me_str ma_nil)))))))))
theorem G__law_line : FnG P w K mg base 1 A.a__law_line A.d__law_line ["record"] F__law_line :=
  fnG_of T.d__law_line.F sc__law_line fun cdv A1 outer s H E c => by
    have S := sc__law_line
    unfold m__law_line
    exact (mss_one (ms_ret (me_op om_add (me_op om_add (me_op om_add (me_op om_add (me_ix (me_var 0) me_int) me_str) (me_fn (cm_repr (cx_u100 c) c.gu) T.b_repr (ma_cons (me_ix (me_var 0) me_int) ma_nil))) (me_m1 PySem.F.slot_str_join PySem.F.type_str_join mf_join me_str (me_lc (own := [("name", 1)]) (is := [1]) c.calm S.nd (mi_seq (me_sl (me_var 0) (mp_some me_int) mp_none)) (blkOk_by (N := ["record", "name"]) (sc := defScope st__law_line) (by decide +kernel)) (by decide) (fun s H C cl fp => (mt_name 1 S.nd)) (fun s H C cl fp => blkT c fun c => mts_nil) (fun s H C cl fp => blkE c fun c => (me_op om_add me_str (me_var 1)))))) me_str)))
theorem G__law_is_number : FnG P w K mg base 1 A.a__law_is_number A.d__law_is_number ["text"] F__law_is_number :=
  fnG_of T.d__law_is_number.F sc__law_is_number fun cdv A1 outer s H E c => by
    have S := sc__law_is_number
    unfold m__law_is_number
    exact (mss_one (ms_ret (me_and (me_m0 PySem.F.slot_str_isdigit PySem.F.type_str_isdigit mf_isdigit (me_var 0)) (me_and (me_cmp om_ltI (me_fn cm_len T.b_len (ma_cons (me_var 0) ma_nil)) me_int) (me_one (me_or (me_cmp (om_eq (cx_u64 c)) (me_var 0) me_str) (me_one (me_cmp (om_ne (cx_u64 c)) (me_ix (me_var 0) me_int) me_str))))))))
theorem G__law_is_begun : FnG P w K mg base 1 A.a__law_is_begun A.d__law_is_begun ["text"] F__law_is_begun :=
  fnG_of T.d__law_is_begun.F sc__law_is_begun fun cdv A1 outer s H E c => by
    have S := sc__law_is_begun
    unfold m__law_is_begun
    exact (mss_cons (ms_set (i := 1) me_str S.nd)
    (mss_one (ms_ret (me_and (me_cmp om_ltI (me_fn cm_len T.b_len (ma_cons (me_var 0) ma_nil)) me_int) (me_and (me_fn (cm_all c.calm) T.b_all (ma_cons (me_lc (own := [("sign", 2)]) (is := [2]) c.calm S.nd (mi_seq (me_var 0)) (blkOk_by (N := ["text", "signs", "sign"]) (sc := defScope st__law_is_begun) (by decide +kernel)) (by decide) (fun s H C cl fp => (mt_name 2 S.nd)) (fun s H C cl fp => blkT c fun c => mts_nil) (fun s H C cl fp => blkE c fun c => (me_cmp om_in (me_var 2) (me_var 1)))) ma_nil)) (me_one (me_or (me_cmp (om_eq (cx_u64 c)) (me_var 0) me_str) (me_one (me_cmp om_in (me_ix (me_var 0) me_int) (me_sl (me_var 1) mp_none (mp_some me_int)))))))))))
theorem G__law_is_name : FnG P w K mg base 2 A.a__law_is_name A.d__law_is_name ["text"] F__law_is_name :=
  fnG_of T.d__law_is_name.F sc__law_is_name fun cdv A1 outer s H E c => by
    have S := sc__law_is_name
    unfold m__law_is_name
    exact (mss_cons (ms_set (i := 1) (me_lst (ma_cons me_str (ma_cons me_str (ma_cons me_str (ma_cons me_str (ma_cons me_str (ma_cons me_str (ma_cons me_str (ma_cons me_str (ma_cons me_str ma_nil)))))))))) S.nd)
    (mss_one (ms_ret (me_and (me_cmp (om_ne (cx_u64 c)) (me_var 0) me_str) (me_and (me_callD T.d__law_is_begun (G__law_is_begun T) c (by decide) (ma_cons (me_var 0) ma_nil)) (me_one (me_cmp om_notIn (me_var 0) (me_var 1))))))))
theorem G__law_record : FnG P w K mg base 3 A.a__law_record A.d__law_record ["line"] F__law_record :=
  fnG_of T.d__law_record.F sc__law_record fun cdv A1 outer s H E c => by
    have S := sc__law_record
    unfold m__law_record
    exact (mss_cons (ms_set (i := 1) (me_m1 PySem.F.slot_str_split PySem.F.type_str_split mf_split (me_var 0) me_str) S.nd)
    (mss_cons (ms_if (MBw.b (mbw_or (mb_cmp om_ltI (me_fn cm_len T.b_len (ma_cons (me_var 1) ma_nil)) me_int) (mbw_or (mb_cmp om_notIn (me_ix (me_var 1) me_int) (me_callD0 T.d__law_words (G__law_words T) c (by decide))) (mbw_or1 (mb_not (mb_val (me_callD T.d__law_is_number (G__law_is_number T) c (by decide) (ma_cons (me_ix (me_var 1) me_int) ma_nil)))))))) (mss_one (ms_ret (me_lst ma_nil))) mss_nil)
    (mss_cons (ms_if (mb_cmp (om_eq (cx_u64 c)) (me_ix (me_var 1) me_int) me_str) (mss_one (ms_ret (me_if (mb_cmp (om_eq (cx_u64 c)) (me_fn cm_len T.b_len (ma_cons (me_var 1) ma_nil)) me_int) (me_lst (ma_cons (me_tup (ma_cons me_str (ma_cons (me_ty cm_int T.b_int (ma_cons (me_ix (me_var 1) me_int) ma_nil)) ma_nil))) ma_nil)) (me_lst ma_nil)))) mss_nil)
    (mss_one (ms_ret (me_if (MBw.b (mbw_and (mb_cmp (om_eq (cx_u64 c)) (me_fn cm_len T.b_len (ma_cons (me_var 1) ma_nil)) me_int) (mbw_and1 (mb_val (me_callD T.d__law_is_name (G__law_is_name T) c (by decide) (ma_cons (me_ix (me_var 1) me_int) ma_nil)))))) (me_lst (ma_cons (me_tup (ma_cons (me_ix (me_var 1) me_int) (ma_cons (me_ty cm_int T.b_int (ma_cons (me_ix (me_var 1) me_int) ma_nil)) (ma_cons (me_ix (me_var 1) me_int) ma_nil)))) ma_nil)) (me_lst ma_nil)))))))
theorem G__law_can_be : FnG P w K mg base 2 A.a__law_can_be A.d__law_can_be ["line"] F__law_can_be :=
  fnG_of T.d__law_can_be.F sc__law_can_be fun cdv A1 outer s H E c => by
    have S := sc__law_can_be
    unfold m__law_can_be
    exact (mss_cons (ms_set (i := 1) (me_m1 PySem.F.slot_str_split PySem.F.type_str_split mf_split (me_var 0) me_str) S.nd)
    (mss_cons (ms_if (mb_cmp (om_eq (cx_u64 c)) (me_fn cm_len T.b_len (ma_cons (me_var 1) ma_nil)) me_int) (mss_one (ms_ret (me_fn (cm_any c.calm) T.b_any (ma_cons (me_lc (own := [("word", 2)]) (is := [2]) c.calm S.nd (mi_seq (me_callD0 T.d__law_words (G__law_words T) c (by decide))) (blkOk_by (N := ["line", "parts", "word"]) (sc := defScope st__law_can_be) (by decide +kernel)) (by decide) (fun s H C cl fp => (mt_name 2 S.nd)) (fun s H C cl fp => blkT c fun c => mts_nil) (fun s H C cl fp => blkE c fun c => (me_m1 PySem.F.slot_str_startswith PySem.F.type_str_startswith mf_startswith (me_var 2) (me_var 0)))) ma_nil)))) mss_nil)
    (mss_cons (ms_if (MBw.b (mbw_or (mb_cmp om_notIn (me_ix (me_var 1) me_int) (me_callD0 T.d__law_words (G__law_words T) c (by decide))) (mbw_or1 (mb_not (MBw.b (mbw_or (MBw.b (mbw_and (mb_cmp (om_eq (cx_u64 c)) (me_ix (me_var 1) me_int) me_str) (mbw_and1 (mb_cmp (om_eq (cx_u64 c)) (me_fn cm_len T.b_len (ma_cons (me_var 1) ma_nil)) me_int)))) (mbw_or1 (mb_val (me_callD T.d__law_is_number (G__law_is_number T) c (by decide) (ma_cons (me_ix (me_var 1) me_int) ma_nil)))))))))) (mss_one (ms_ret me_bl)) mss_nil)
    (mss_one (ms_ret (me_or (me_cmp (om_eq (cx_u64 c)) (me_fn cm_len T.b_len (ma_cons (me_var 1) ma_nil)) me_int) (me_one (me_and (me_cmp (om_eq (cx_u64 c)) (me_fn cm_len T.b_len (ma_cons (me_var 1) ma_nil)) me_int) (me_and (me_cmp (om_ne (cx_u64 c)) (me_ix (me_var 1) me_int) me_str) (me_one (me_callD T.d__law_is_begun (G__law_is_begun T) c (by decide) (ma_cons (me_ix (me_var 1) me_int) ma_nil))))))))))))
theorem G__law_gone_over : FnG P w K mg base 4 A.a__law_gone_over A.d__law_gone_over ["text"] F__law_gone_over :=
  fnG_of T.d__law_gone_over.F sc__law_gone_over fun cdv A1 outer s H E c => by
    have S := sc__law_gone_over
    unfold m__law_gone_over
    exact (mss_cons (ms_par (i := 2) (j := 3) c.calm S.nd (ma_cons (me_lst ma_nil) (ma_cons me_int ma_nil)))
    (mss_cons (ms_set (i := 1) (me_m1 PySem.F.slot_str_split PySem.F.type_str_split mf_split (me_var 0) me_str) S.nd)
    (mss_cons (ms_for c.calm c.pass (mi_enum T.b_enumerate (ma_cons (me_var 1) ma_nil)) (mt_tup rfl (mgw_cons 4 S.nd (mgw_cons 5 S.nd mgw_nil))) (mss_cons (ms_set (i := 6) (me_if (mb_cmp om_ltI (me_op om_add (me_var 4) me_int) (me_fn cm_len T.b_len (ma_cons (me_var 1) ma_nil))) (me_callD T.d__law_record (G__law_record T) c (by decide) (ma_cons (me_var 5) ma_nil)) (me_lst ma_nil)) S.nd)
    (mss_cons (ms_if (mb_cmp (om_eq (cx_u64 c)) (me_var 6) (me_lst ma_nil)) (mss_cons (ms_set (i := 7) (me_fn (cm_maxL c.calm) T.b_max (ma_cons (me_lc (own := [("size", 8)]) (is := [8]) c.calm S.nd (mi_range1 T.b_range (ma_cons (me_op om_add (me_fn cm_len T.b_len (ma_cons (me_var 5) ma_nil)) me_int) ma_nil)) (blkOk_by (N := ["text", "lines", "found", "place", "k", "line", "record", "many", "size"]) (sc := defScope st__law_gone_over) (by decide +kernel)) (by decide) (fun s H C cl fp => (mt_name 8 S.nd)) (fun s H C cl fp => blkT c fun c => (mts_one (mb_val (me_callD T.d__law_can_be (G__law_can_be T) c (by decide) (ma_cons (me_sl (me_var 5) mp_none (mp_some (me_var 8))) ma_nil))))) (fun s H C cl fp => blkE c fun c => (me_var 8))) ma_nil)) S.nd)
    (mss_one (ms_ret (me_tup (ma_cons (me_ty cm_tuple T.b_tuple (ma_cons (me_var 2) ma_nil)) (ma_cons (me_op om_add (me_var 3) (me_var 7)) ma_nil)))))) mss_nil)
    (mss_one (ms_par (i := 2) (j := 3) c.calm S.nd (ma_cons (me_op om_add (me_var 2) (me_var 6)) (ma_cons (me_op om_add (me_op om_add (me_var 3) (me_fn cm_len T.b_len (ma_cons (me_var 5) ma_nil))) me_int) ma_nil)))))))
    (mss_one (ms_ret (me_tup (ma_cons (me_ty cm_tuple T.b_tuple (ma_cons (me_var 2) ma_nil)) (ma_cons (me_var 3) ma_nil))))))))
theorem G__law_told : FnG P w K mg base 6 A.a__law_told A.d__law_told ["text", "is_torn"] F__law_told :=
  fnG_of T.d__law_told.F sc__law_told fun cdv A1 outer s H E c => by
    have S := sc__law_told
    unfold m__law_told
    exact (mss_one (ms_tryF (i := 2) c T.f_BadText T.x_BadText.mgC rfl rfl S.nd (fun W pn xe c => (mss_one (ms_ret (me_lst (ma_cons (me_if (mb_val (me_var 1)) (me_callD T.d_whole_of (G_whole_of T) c (by decide) (ma_cons (me_var 0) ma_nil)) (me_callD T.d_read_journal (G_read_journal T) c (by decide) (ma_cons (me_var 0) ma_nil))) ma_nil)))))))
theorem G__law_read_right : FnG P w K mg base 7 A.a__law_read_right A.d__law_read_right ["text"] F__law_read_right :=
  fnG_of T.d__law_read_right.F sc__law_read_right fun cdv A1 outer s H E c => by
    have S := sc__law_read_right
    unfold m__law_read_right
    exact (mss_cons (ms_unp c.calm (me_callD T.d__law_gone_over (G__law_gone_over T) c (by decide) (ma_cons (me_var 0) ma_nil)) (mgs_cons 3 S.nd (mgs_cons 4 S.nd mgs_nil)))
    (mss_cons (ms_set (i := 1) (me_if (MBw.b (mbw_and (mb_cmp (om_eq (cx_u64 c)) (me_var 4) (me_fn cm_len T.b_len (ma_cons (me_var 0) ma_nil))) (mbw_and1 (MBw.b (mbw_or (mb_cmp (om_eq (cx_u64 c)) (me_var 0) me_str) (mbw_or1 (mb_cmp (om_eq (cx_u64 c)) (me_ix (me_var 0) (me_neg me_int)) me_str))))))) (me_lst (ma_cons (me_var 3) ma_nil)) (me_var 4)) S.nd)
    (mss_cons (ms_set (i := 2) (me_if (mb_cmp (om_eq (cx_u64 c)) (me_var 4) (me_fn cm_len T.b_len (ma_cons (me_var 0) ma_nil))) (me_lst (ma_cons (me_var 3) ma_nil)) (me_var 4)) S.nd)
    (mss_one (ms_ret (me_cmp (om_eq (cx_u64 c)) (me_fn (cm_repr (cx_u100 c) c.gu) T.b_repr (ma_cons (me_lst (ma_cons (me_callD T.d__law_told (G__law_told T) c (by decide) (ma_cons (me_var 0) (ma_cons me_bl ma_nil))) (ma_cons (me_callD T.d__law_told (G__law_told T) c (by decide) (ma_cons (me_var 0) (ma_cons me_bl ma_nil))) ma_nil))) ma_nil)) (me_fn (cm_repr (cx_u100 c) c.gu) T.b_repr (ma_cons (me_lst (ma_cons (me_var 1) (ma_cons (me_var 2) ma_nil))) ma_nil))))))))
theorem G__law_any_record : FnG P w K mg base 3 A.a__law_any_record A.d__law_any_record ["source"] F__law_any_record :=
  fnG_of T.d__law_any_record.F sc__law_any_record fun cdv A1 outer s H E c => by
    have S := sc__law_any_record
    unfold m__law_any_record
    exact (mss_cons (ms_par (i := 2) (j := 3) c.calm S.nd (ma_cons (me_callD T.d__law_of (G__law_of T) c (by decide) (ma_cons (me_var 0) (ma_cons (me_callD0 T.d__law_words (G__law_words T) c (by decide)) ma_nil))) (ma_cons (me_callD T.d__law_of (G__law_of T) c (by decide) (ma_cons (me_var 0) (ma_cons (me_lst (ma_cons me_int (ma_cons me_int (ma_cons me_int (ma_cons me_int (ma_cons me_int (ma_cons me_int (ma_cons me_int ma_nil)))))))) ma_nil))) ma_nil)))
    (mss_cons (ms_set (i := 1) (me_callD T.d__law_of (G__law_of T) c (by decide) (ma_cons (me_var 0) (ma_cons (me_lst (ma_cons me_str (ma_cons me_str (ma_cons me_str (ma_cons me_str (ma_cons me_str (ma_cons me_str (ma_cons (me_op om_mul me_str me_int) (ma_cons me_str (ma_cons me_str (ma_cons me_str (ma_cons me_str ma_nil)))))))))))) ma_nil))) S.nd)
    (mss_one (ms_ret (me_if (mb_cmp (om_eq (cx_u64 c)) (me_var 2) me_str) (me_tup (ma_cons me_str (ma_cons (me_var 3) ma_nil))) (me_tup (ma_cons (me_var 2) (ma_cons (me_var 3) (ma_cons (me_var 1) ma_nil)))))))))
theorem G__law_bent : FnG P w K mg base 3 A.a__law_bent A.d__law_bent ["source", "text"] F__law_bent :=
  fnG_of T.d__law_bent.F sc__law_bent fun cdv A1 outer s H E c => by
    have S := sc__law_bent
    unfold m__law_bent
    exact (mss_cons (ms_par (i := 3) (j := 4) c.calm S.nd (ma_cons (me_callD T.d__law_pick (G__law_pick T) c (by decide) (ma_cons (me_var 0) (ma_cons (me_op om_add (me_fn cm_len T.b_len (ma_cons (me_var 1) ma_nil)) me_int) ma_nil))) (ma_cons (me_callD T.d__law_pick (G__law_pick T) c (by decide) (ma_cons (me_var 0) (ma_cons me_int ma_nil))) ma_nil)))
    (mss_cons (ms_set (i := 2) (me_callD T.d__law_of (G__law_of T) c (by decide) (ma_cons (me_var 0) (ma_cons (me_lst (ma_cons me_str (ma_cons me_str (ma_cons me_str (ma_cons me_str (ma_cons me_str (ma_cons me_str (ma_cons me_str (ma_cons me_str (ma_cons me_str (ma_cons me_str (ma_cons me_str (ma_cons me_str (ma_cons me_str (ma_cons me_str (ma_cons me_str ma_nil)))))))))))))))) ma_nil))) S.nd)
    (mss_one (ms_ret (me_ix (me_lst (ma_cons (me_sl (me_var 1) mp_none (mp_some (me_var 3))) (ma_cons (me_op om_add (me_op om_add (me_sl (me_var 1) mp_none (mp_some (me_var 3))) (me_var 2)) (me_sl (me_var 1) (mp_some (me_var 3)) mp_none)) (ma_cons (me_op om_add (me_op om_add (me_sl (me_var 1) mp_none (mp_some (me_var 3))) (me_var 2)) (me_sl (me_var 1) (mp_some (me_op om_add (me_var 3) me_int)) mp_none)) (ma_cons (me_op om_add (me_sl (me_var 1) mp_none (mp_some (me_var 3))) (me_sl (me_var 1) (mp_some (me_op om_add (me_var 3) me_int)) mp_none)) ma_nil))))) (me_var 4))))))
theorem G_law : FnG P w K mg base 8 A.a_law A.d_law ["script"] F_law :=
  fnG_of T.d_law.F sc_law fun cdv A1 outer s H E c => by
    have S := sc_law
    unfold m_law
    exact (mss_cons (ms_set (i := 1) (me_callD T.d__law_open_cells (G__law_open_cells T) c (by decide) (ma_cons (me_var 0) ma_nil)) S.nd)
    (mss_cons (ms_for c.calm c.pass (mi_range1 T.b_range (ma_cons me_int ma_nil)) (mt_name 2 S.nd) (mss_cons (ms_set (i := 6) (me_ty cm_tuple T.b_tuple (ma_cons (me_lc (own := [("turn", 11)]) (is := [11]) c.calm S.nd (mi_range1 T.b_range (ma_cons (me_callD T.d__law_pick (G__law_pick T) c (by decide) (ma_cons (me_var 1) (ma_cons (me_ix (me_lst (ma_cons me_int (ma_cons me_int (ma_cons me_int ma_nil)))) (me_var 2)) ma_nil))) ma_nil)) (blkOk_by (N := ["script", "source", "lap", "some", "odd", "told", "journal", "text", "look", "late", "value", "turn", "record"]) (sc := defScope st_law) (by decide +kernel)) (by decide) (fun s H C cl fp => (mt_name 11 S.nd)) (fun s H C cl fp => blkT c fun c => mts_nil) (fun s H C cl fp => blkE c fun c => (me_callD T.d__law_any_record (G__law_any_record T) c (by decide) (ma_cons (me_var 1) ma_nil)))) ma_nil)) S.nd)
    (mss_cons (ms_set (i := 7) (me_m1 PySem.F.slot_str_join PySem.F.type_str_join mf_join me_str (me_lc (own := [("record", 12)]) (is := [12]) c.calm S.nd (mi_seq (me_var 6)) (blkOk_by (N := ["script", "source", "lap", "some", "odd", "told", "journal", "text", "look", "late", "value", "turn", "record"]) (sc := defScope st_law) (by decide +kernel)) (by decide) (fun s H C cl fp => (mt_name 12 S.nd)) (fun s H C cl fp => blkT c fun c => mts_nil) (fun s H C cl fp => blkE c fun c => (me_callD T.d__law_line (G__law_line T) c (by decide) (ma_cons (me_var 12) ma_nil))))) S.nd)
    (mss_cons (ms_if (mb_cmp (om_ne (cx_u64 c)) (me_lc (own := [("record", 12)]) (is := [12]) c.calm S.nd (mi_seq (me_var 6)) (blkOk_by (N := ["script", "source", "lap", "some", "odd", "told", "journal", "text", "look", "late", "value", "turn", "record"]) (sc := defScope st_law) (by decide +kernel)) (by decide) (fun s H C cl fp => (mt_name 12 S.nd)) (fun s H C cl fp => blkT c fun c => mts_nil) (fun s H C cl fp => blkE c fun c => (me_callD T.d_record_line (G_record_line T) c (by decide) (ma_cons (me_var 12) ma_nil)))) (me_lc (own := [("record", 12)]) (is := [12]) c.calm S.nd (mi_seq (me_var 6)) (blkOk_by (N := ["script", "source", "lap", "some", "odd", "told", "journal", "text", "look", "late", "value", "turn", "record"]) (sc := defScope st_law) (by decide +kernel)) (by decide) (fun s H C cl fp => (mt_name 12 S.nd)) (fun s H C cl fp => blkT c fun c => mts_nil) (fun s H C cl fp => blkE c fun c => (me_callD T.d__law_line (G__law_line T) c (by decide) (ma_cons (me_var 12) ma_nil))))) (mss_one (ms_ret me_bl)) mss_nil)
    (mss_cons (ms_if (MBw.b (mbw_or (mb_cmp (om_ne (cx_u64 c)) (me_callD T.d_journal_text (G_journal_text T) c (by decide) (ma_cons (me_var 6) ma_nil)) (me_var 7)) (mbw_or1 (mb_cmp (om_ne (cx_u64 c)) (me_fn (cm_repr (cx_u100 c) c.gu) T.b_repr (ma_cons (me_callD T.d_read_journal (G_read_journal T) c (by decide) (ma_cons (me_var 7) ma_nil)) ma_nil)) (me_fn (cm_repr (cx_u100 c) c.gu) T.b_repr (ma_cons (me_var 6) ma_nil)))))) (mss_one (ms_ret me_bl)) mss_nil)
    (mss_one (ms_for c.calm c.pass (mi_range1 T.b_range (ma_cons me_int ma_nil)) (mt_name 8 S.nd) (mss_cons (ms_set (i := 9) (me_callD T.d__law_bent (G__law_bent T) c (by decide) (ma_cons (me_var 1) (ma_cons (me_var 7) ma_nil))) S.nd)
    (mss_cons (ms_set (i := 9) (me_if (mb_cmp (om_eq (cx_u64 c)) (me_callD T.d__law_pick (G__law_pick T) c (by decide) (ma_cons (me_var 1) (ma_cons me_int ma_nil))) me_int) (me_callD T.d__law_bent (G__law_bent T) c (by decide) (ma_cons (me_var 1) (ma_cons (me_var 9) ma_nil))) (me_var 9)) S.nd)
    (mss_one (ms_if (mb_not (mb_val (me_callD T.d__law_read_right (G__law_read_right T) c (by decide) (ma_cons (me_var 9) ma_nil)))) (mss_one (ms_ret me_bl)) mss_nil)))))))))))
    (mss_cons (ms_set (i := 3) (me_lst (ma_cons me_str (ma_cons me_str (ma_cons me_str (ma_cons me_str (ma_cons me_str (ma_cons (me_op om_add me_str (me_op om_mul me_str me_int)) ma_nil))))))) S.nd)
    (mss_cons (ms_set (i := 3) (me_op om_add (me_var 3) (me_lst (ma_cons me_str (ma_cons me_str (ma_cons me_str (ma_cons me_str (ma_cons me_str (ma_cons me_str ma_nil)))))))) S.nd)
    (mss_cons (ms_set (i := 3) (me_op om_add (me_var 3) (me_lst (ma_cons me_str (ma_cons me_str (ma_cons me_str ma_nil))))) S.nd)
    (mss_cons (ms_if (mb_not (mb_val (me_fn (cm_all c.calm) T.b_all (ma_cons (me_lc (own := [("text", 7)]) (is := [7]) c.calm S.nd (mi_seq (me_var 3)) (blkOk_by (N := ["script", "source", "lap", "some", "odd", "told", "journal", "text", "look", "late", "value", "turn", "record"]) (sc := defScope st_law) (by decide +kernel)) (by decide) (fun s H C cl fp => (mt_name 7 S.nd)) (fun s H C cl fp => blkT c fun c => mts_nil) (fun s H C cl fp => blkE c fun c => (me_callD T.d__law_read_right (G__law_read_right T) c (by decide) (ma_cons (me_var 7) ma_nil)))) ma_nil)))) (mss_one (ms_ret me_bl)) mss_nil)
    (mss_cons (ms_set (i := 4) (me_lst (ma_cons me_non (ma_cons me_int (ma_cons me_bl (ma_cons (me_lst (ma_cons me_str ma_nil)) (ma_cons (me_tup (ma_cons me_str (ma_cons me_int ma_nil))) (ma_cons me_dnew ma_nil))))))) S.nd)
    (mss_cons (ms_set (i := 5) (me_op om_add (me_lc (own := [("value", 10)]) (is := [10]) c.calm S.nd (mi_seq (me_var 4)) (blkOk_by (N := ["script", "source", "lap", "some", "odd", "told", "journal", "text", "look", "late", "value", "turn", "record"]) (sc := defScope st_law) (by decide +kernel)) (by decide) (fun s H C cl fp => (mt_name 10 S.nd)) (fun s H C cl fp => blkT c fun c => mts_nil) (fun s H C cl fp => blkE c fun c => (me_callD T.d__law_told (G__law_told T) c (by decide) (ma_cons (me_var 10) (ma_cons me_bl ma_nil))))) (me_lc (own := [("value", 10)]) (is := [10]) c.calm S.nd (mi_seq (me_var 4)) (blkOk_by (N := ["script", "source", "lap", "some", "odd", "told", "journal", "text", "look", "late", "value", "turn", "record"]) (sc := defScope st_law) (by decide +kernel)) (by decide) (fun s H C cl fp => (mt_name 10 S.nd)) (fun s H C cl fp => blkT c fun c => mts_nil) (fun s H C cl fp => blkE c fun c => (me_callD T.d__law_told (G__law_told T) c (by decide) (ma_cons (me_var 10) (ma_cons me_bl ma_nil)))))) S.nd)
    (mss_one (ms_ret (me_and (me_cmp (om_eq (cx_u64 c)) (me_var 5) (me_rep (ma_cons me_int ma_nil) me_int)) (me_one (me_cmp (om_eq (cx_u64 c)) (me_callD T.d_journal_text (G_journal_text T) c (by decide) (ma_cons (me_tup ma_nil) ma_nil)) me_str)))))))))))))
end
end K52
end
section
/-! Texts as lists of signs. -/
namespace MX
open PySem PySem.Spec PyProof.Rows L2 MR
/-- the text of these signs -/
def T (l : List Nat) : Str := ⟨l.toArray⟩
theorem T_inj {a b : List Nat} : T a = T b ↔ a = b := by
  constructor
  · intro h
    have := congrArg (fun s => Str.cps s |>.toList) h
    simpa [T] using this
  · rintro rfl
    rfl
theorem T_len (a : List Nat) : (T a).length = a.length := by simp [T, Str.length]
theorem T_cps (a : List Nat) : (T a).cps.toList = a := by simp [T]
theorem T_app (a b : List Nat) : T a ++ T b = T (a ++ b) := by
  show (⟨a.toArray ++ b.toArray⟩ : Str) = ⟨(a ++ b).toArray⟩
  simp
theorem T_of (s : Str) : s = T s.cps.toList := by simp [T]
theorem T_one (c : Nat) : (⟨#[c]⟩ : Str) = T [c] := rfl
theorem T_cut (l : List Nat) (i j : Nat) : cutS (T l) (some (i : Int)) (some (j : Int)) = T ((l.take j).drop i) := by
  unfold cutS
  rw [T_len, HT.sIx_nat, HT.sIx_nat, T_cps]
  show T _ = _
  rw [T_inj]
  apply List.ext_getElem?
  intro k
  rw [List.getElem?_take, List.getElem?_drop, List.getElem?_drop, List.getElem?_take]
  by_cases h1 : i ≤ l.length
  · rw [Nat.min_eq_left h1]
    by_cases h2 : i + k < j
    · by_cases h3 : i + k < l.length
      · rw [if_pos h2, if_pos (by omega)]
      · rw [List.getElem?_eq_none (by omega)]
        split <;> rfl
    · rw [if_neg h2]
      split
      · omega
      · rfl
  · have : min i l.length = l.length := by omega
    rw [this]
    rw [List.getElem?_eq_none (show l.length ≤ l.length + k by omega), List.getElem?_eq_none (show l.length ≤ i + k by omega)]
    split <;> split <;> rfl
theorem T_cutTo (l : List Nat) (j : Nat) : cutS (T l) none (some (j : Int)) = T (l.take j) := by
  have h := T_cut l 0 j
  rw [List.drop_zero] at h
  rw [← h]
  unfold cutS
  have e0 : HT.sIx (T l).length 0 (some 0) = 0 := by simp [HT.sIx]
  rw [HT.sIx_none, HT.sIx_nat]
  simp [e0]
theorem T_cutFrom (l : List Nat) (i : Nat) : cutS (T l) (some (i : Int)) none = T (l.drop i) := by
  have h := T_cut l i l.length
  rw [List.take_length] at h
  rw [← h]
  unfold cutS
  rw [HT.sIx_none, HT.sIx_nat, HT.sIx_nat, T_len]
  simp
/-! ### split -/
def spl (c : Nat) : List Nat → List (List Nat)
  | [] => [[]]
  | x :: r => if x = c then [] :: spl c r else match spl c r with
    | p :: ps => (x :: p) :: ps
    | [] => [[x]]
def jn (s : List Nat) : List (List Nat) → List Nat
  | [] => []
  | [p] => p
  | p :: q :: r => p ++ s ++ jn s (q :: r)
theorem jn_T (s : List Nat) : ∀ ps : List (List Nat), Str.join (T s) (ps.map T) = T (jn s ps)
  | [] => rfl
  | [p] => rfl
  | p :: q :: r => by
    have h := jn_T s (q :: r)
    show T p ++ T s ++ Str.join (T s) ((q :: r).map T) = T (p ++ s ++ jn s (q :: r))
    rw [h, T_app, T_app]
/-- parts without the sign are told by their join -/
theorem spl_ne (c : Nat) : ∀ l : List Nat, ∃ p ps, spl c l = p :: ps
  | [] => ⟨_, _, rfl⟩
  | x :: r => by
    unfold spl
    split
    · exact ⟨_, _, rfl⟩
    · split
      · exact ⟨_, _, rfl⟩
      · exact ⟨_, _, rfl⟩
theorem spl_free {c : Nat} : ∀ {p : List Nat}, c ∉ p → spl c p = [p]
  | [], _ => rfl
  | x :: r, h => by
    have h1 : x ≠ c := fun e => h (by simp [e])
    have h2 : c ∉ r := fun e => h (by simp [e])
    unfold spl
    rw [if_neg h1, spl_free h2]
theorem spl_app {c : Nat} : ∀ {p q : List Nat}, c ∉ p → spl c (p ++ c :: q) = p :: spl c q
  | [], q, _ => by
    show spl c (c :: q) = _
    unfold spl
    rw [if_pos rfl]
    cases q <;> rfl
  | x :: r, q, h => by
    have h1 : x ≠ c := fun e => h (by simp [e])
    have h2 : c ∉ r := fun e => h (by simp [e])
    show spl c (x :: (r ++ c :: q)) = _
    rw [show spl c (x :: (r ++ c :: q)) = (if x = c then [] :: spl c (r ++ c :: q) else match spl c (r ++ c :: q) with
      | p :: ps => (x :: p) :: ps
      | [] => [[x]]) from rfl, if_neg h1, spl_app h2]
theorem spl_jn {c : Nat} : ∀ {ps : List (List Nat)}, ps ≠ [] → (∀ p ∈ ps, c ∉ p) → spl c (jn [c] ps) = ps
  | [], h, _ => absurd rfl h
  | [p], _, h => spl_free (h p (by simp))
  | p :: q :: r, _, h => by
    show spl c (p ++ [c] ++ jn [c] (q :: r)) = _
    rw [List.append_assoc]
    show spl c (p ++ c :: jn [c] (q :: r)) = _
    rw [spl_app (h p (by simp)), spl_jn (by simp) fun x hx => h x (List.mem_cons_of_mem _ hx)]
theorem split_T (l : List Nat) (c : Nat) : Txt.split (T l) (T [c]) = (spl c l).map T := by
  have h1 := StrLaws.join_split (T l) (T [c])
  have h2 := StrLaws.split_free (T l) c
  have hne : Txt.split (T l) (T [c]) ≠ [] := fun e => by
    unfold Txt.split at e
    split at e
    · cases e
    · split at e
      · cases e
      · obtain ⟨p, r, q⟩ := StrLaws.partsFrom_ne (T l) (T [c]).length 0 (Builtin.Str.occurrences (T l) (T [c]) 0 (T l).length ((T l).length + 1))
        rw [StrLaws.partsBetween_eq, q] at e
        cases e
  have e : Txt.split (T l) (T [c]) = ((Txt.split (T l) (T [c])).map fun s => s.cps.toList).map T := by
    rw [List.map_map]
    conv => lhs; rw [← List.map_id (Txt.split (T l) (T [c]))]
    exact List.map_congr_left fun s _ => T_of s
  have h3 : jn [c] ((Txt.split (T l) (T [c])).map fun s => s.cps.toList) = l := by
    rw [e, jn_T] at h1
    exact T_inj.mp h1
  rw [e]
  congr 1
  rw [← h3, spl_jn (by simpa using hne)]
  · rw [h3]
  · intro p hp
    obtain ⟨s, hs, rfl⟩ := List.mem_map.mp hp
    exact h2 s hs
end MX
end
section
/-! The functions' evaluation: what is rewritten. -/
namespace MX
open PySem PySem.Spec PyProof.Rows L2 MR
section
variable {α β : Type} {h : Sto} {e : MR.Env}
@[simp] theorem ev_bind_ok {a : α} {f : α → Sto → R β} : (R.ok a h).bind f = f a h := rfl
@[simp] theorem ev_of_some {a : α} : R.of (some a) h = R.ok a h := rfl
@[simp] theorem ev_in_ok {a : α} : inE e (R.ok a h) = R.ok a h := rfl
theorem fin_ok {v : D} : fin h.length (.ok v h) = .ok v h := by
  simp only [fin]
  split
  · rw [List.take_length]
  · rfl
@[simp] theorem ev_var {i : Nat} {d : D} (q : e[i]? = some (some d)) : sVar i e h = .ok d h := by
  unfold sVar
  rw [q]
@[simp] theorem ev_c {d : D} : sC d e h = .ok d h := rfl
@[simp] theorem ev_nil : sNil e h = .ok [] h := rfl
@[simp] theorem ev_next : sNext e h = .ok (.nx e) h := rfl
end
/-! a def's function at its arguments -/
theorem run_rt {N : Nat} {m : SS} {ds : List D} {h : Sto} {d : D} (q : m (ds.map some ++ List.replicate (N - ds.length) none) h = .ok (.rt d) h) : runB N m ds h = .ok d h := by
  unfold runB
  rw [q]
  exact fin_ok
/-! ### texts -/
theorem T_le {l : List Nat} (h : l.length ≤ 16777216) : (T l).length ≤ LN := by
  rw [T_len]
  exact h
theorem f_len {h : Sto} {l : List Nat} (hl : l.length ≤ 16777216) : fLen h [.str (T l)] = some (.int l.length) := by
  show (if (T l).length ≤ LN then some (D.int (T l).length) else none) = _
  rw [if_pos (T_le hl), T_len]
theorem f_lenL {h : Sto} {l : List D} : fLen h [.lst l] = some (.int l.length) := rfl
theorem f_lenT {h : Sto} {l : List D} : fLen h [.tup l] = some (.int l.length) := rfl
theorem atI_nat {α : Type} {l : List α} {i : Nat} (hi : i < l.length) : atI l (i : Int) = some l[i] := by
  unfold atI ixN
  rw [if_pos (by omega), if_pos (by omega)]
  show l[(i : Int).toNat]? = _
  rw [Int.toNat_natCast, List.getElem?_eq_getElem hi]
theorem f_ix {h : Sto} {l : List Nat} {i : Nat} (hl : l.length ≤ 16777216) (hi : i < l.length) : fIx h (.str (T l)) (.int (i : Int)) = some (.str (T [l[i]])) := by
  show (if (T l).length ≤ LN then (atI (T l).cps.toList (i : Int)).map fun c => D.str ⟨#[c]⟩ else none) = _
  rw [if_pos (T_le hl), T_cps, atI_nat hi]
  rfl
theorem f_ix0 {h : Sto} {c : Nat} {l : List Nat} (hl : (c :: l).length ≤ 16777216) : fIx h (.str (T (c :: l))) (.int 0) = some (.str (T [c])) := f_ix (i := 0) hl (by simp)
theorem f_ixm {h : Sto} {l : List Nat} {c : Nat} (hl : l.length + 1 ≤ 16777216) : fIx h (.str (T (l ++ [c]))) (.int (-1)) = some (.str (T [c])) := by
  show (if (T (l ++ [c])).length ≤ LN then (atI (T (l ++ [c])).cps.toList (-1)).map fun c => D.str ⟨#[c]⟩ else none) = _
  rw [if_pos (T_le (by simpa using hl)), T_cps]
  unfold atI ixN
  rw [if_neg (by omega), if_pos (by simp; omega)]
  have : ((-1 : Int) + ((l ++ [c]).length : Int)).toNat = l.length := by simp; omega
  show (((l ++ [c])[((-1 : Int) + ((l ++ [c]).length : Int)).toNat]?).map fun c => D.str ⟨#[c]⟩) = _
  rw [this]
  simp
  rfl
theorem f_add {h : Sto} {a b : List Nat} (hl : a.length + b.length ≤ 16777216) : fAdd h (.str (T a)) (.str (T b)) = some (.str (T (a ++ b))) := by
  show (if (T a).length + (T b).length ≤ LN then some (D.str (T a ++ T b)) else none) = _
  rw [if_pos (by rw [T_len, T_len]; exact hl), T_app]
theorem f_addI {h : Sto} {a b : Int} : fAdd h (.int a) (.int b) = some (.int (a + b)) := rfl
theorem f_eq {h : Sto} {a b : List Nat} : fEq h (.str (T a)) (.str (T b)) = some (.bl (decide (a = b))) := by
  show some (D.bl (decide (T a = T b))) = _
  simp only [T_inj]
theorem f_ne {h : Sto} {a b : List Nat} : fNe h (.str (T a)) (.str (T b)) = some (.bl (!decide (a = b))) := by
  show some (D.bl (!decide (T a = T b))) = _
  simp only [T_inj]
theorem f_eqI {h : Sto} {a b : Int} : fEq h (.int a) (.int b) = some (.bl (decide (a = b))) := by
  show (if (D.flat 60 (.int a) && D.flat 60 (.int b)) = true then some (D.bl (deq (.int a) (.int b))) else none) = _
  rw [if_pos (show (D.flat 60 (.int a) && D.flat 60 (.int b)) = true from rfl)]
  congr 2
theorem f_neI {h : Sto} {a b : Int} : fNe h (.int a) (.int b) = some (.bl (!decide (a = b))) := by
  show (if (D.flat 60 (.int a) && D.flat 60 (.int b)) = true then some (D.bl (!deq (.int a) (.int b))) else none) = _
  rw [if_pos (show (D.flat 60 (.int a) && D.flat 60 (.int b)) = true from rfl)]
  congr 3
theorem f_in1 {h : Sto} {c : Nat} {z : List Nat} : fIn h (.str (T [c])) (.str (T z)) = some (.bl (decide (c ∈ z))) := by
  show (Option.map D.bl (some (decide (c ∈ (T z).cps.toList)))) = _
  rw [T_cps]
  rfl
theorem strsOf_T : ∀ ss : List (List Nat), strsOf (ss.map fun s => D.str (T s)) = some (ss.map T)
  | [] => rfl
  | s :: r => by
    show (strsOf (r.map fun s => D.str (T s))).map (T s :: ·) = _
    rw [strsOf_T r]
    rfl
theorem memT {a : List Nat} {ss : List (List Nat)} : T a ∈ ss.map T ↔ a ∈ ss := by
  constructor
  · intro h
    obtain ⟨b, hb, e⟩ := List.mem_map.mp h
    rw [← T_inj.mp e]
    exact hb
  · intro h
    exact List.mem_map_of_mem h
theorem f_inL {h : Sto} {a : List Nat} {ss : List (List Nat)} : fIn h (.str (T a)) (.lst (ss.map fun s => D.str (T s))) = some (.bl (decide (a ∈ ss))) := by
  show Option.map D.bl (((seqOf h (.lst (ss.map fun s => D.str (T s)))).bind strsOf).map fun q => decide (T a ∈ q)) = _
  show Option.map D.bl ((strsOf (ss.map fun s => D.str (T s))).map fun q => decide (T a ∈ q)) = _
  rw [strsOf_T]
  simp [memT]
theorem f_inT {h : Sto} {a : List Nat} {ss : List (List Nat)} : fIn h (.str (T a)) (.tup (ss.map fun s => D.str (T s))) = some (.bl (decide (a ∈ ss))) := by
  show Option.map D.bl ((strsOf (ss.map fun s => D.str (T s))).map fun q => decide (T a ∈ q)) = _
  rw [strsOf_T]
  simp [memT]
theorem f_notInL {h : Sto} {a : List Nat} {ss : List (List Nat)} : fNotIn h (.str (T a)) (.lst (ss.map fun s => D.str (T s))) = some (.bl (!decide (a ∈ ss))) := by
  show Option.map _ ((strsOf (ss.map fun s => D.str (T s))).map fun q => decide (T a ∈ q)) = _
  rw [strsOf_T]
  simp [memT]
theorem f_sl {h : Sto} {l : List Nat} {i j : Nat} (hl : l.length ≤ 16777216) : fSl h (.str (T l)) (some (i : Int)) (some (j : Int)) = some (.str (T ((l.take j).drop i))) := by
  show (if (T l).length ≤ LN then some (D.str (cutS (T l) (some (i : Int)) (some (j : Int)))) else none) = _
  rw [if_pos (T_le hl), T_cut]
theorem f_slTo {h : Sto} {l : List Nat} {j : Nat} (hl : l.length ≤ 16777216) : fSl h (.str (T l)) none (some (j : Int)) = some (.str (T (l.take j))) := by
  show (if (T l).length ≤ LN then some (D.str (cutS (T l) none (some (j : Int)))) else none) = _
  rw [if_pos (T_le hl), T_cutTo]
theorem f_slFrom {h : Sto} {l : List Nat} {i : Nat} (hl : l.length ≤ 16777216) : fSl h (.str (T l)) (some (i : Int)) none = some (.str (T (l.drop i))) := by
  show (if (T l).length ≤ LN then some (D.str (cutS (T l) (some (i : Int)) none)) else none) = _
  rw [if_pos (T_le hl), T_cutFrom]
theorem f_split {h : Sto} {l : List Nat} {c : Nat} (hl : l.length ≤ 16777000) : fSplit h (T l) [.str (T [c])] = some (.lst ((spl c l).map fun s => .str (T s))) := by
  show (if ((T [c]).length == 0) = false ∧ (T l).length + 2 ≤ LN then some (D.lst ((Txt.split (T l) (T [c])).map D.str)) else none) = _
  rw [if_pos ⟨rfl, by rw [T_len]; show _ ≤ 16777216; omega⟩, split_T, List.map_map]
  rfl
theorem sub0 (a b : List Nat) : Builtin.Str.subAt (T a) (T b) 0 = (a.take b.length == b) := by
  show ((T a).cps.extract 0 (0 + (T b).length) == (T b).cps) = _
  rw [T_len, Nat.zero_add]
  show (a.toArray.extract 0 b.length == b.toArray) = _
  rw [List.extract_toArray]
  simp
theorem f_starts {h : Sto} {a b : List Nat} : fStarts h (T a) [.str (T b)] = some (.bl (b.isPrefixOf a)) := by
  show some (D.bl (Txt.startswith (T a) (T b))) = _
  congr 2
  unfold Txt.startswith
  rw [sub0, T_len, T_len, Bool.eq_iff_iff]
  simp only [Nat.zero_add, Bool.and_eq_true, decide_eq_true_eq, beq_iff_eq, List.isPrefixOf_iff_prefix]
  constructor
  · rintro ⟨_, h2⟩
    rw [← h2]
    exact List.take_prefix _ _
  · intro hp
    exact ⟨hp.length_le, (List.prefix_iff_eq_take.mp hp).symm⟩
theorem digit_ascii : ∀ c : Nat, c < 128 → Unicode.isDigit c = decide (48 ≤ c ∧ c ≤ 57) := by decide +kernel
def dig (c : Nat) : Bool := decide (48 ≤ c ∧ c ≤ 57)
theorem f_isdigit {h : Sto} {l : List Nat} (hl : ∀ c ∈ l, c < 128) : fIsdigit h (T l) [] = some (.bl (decide (l ≠ []) && l.all dig)) := by
  show some (D.bl (Txt.isdigit (T l))) = _
  congr 2
  unfold Txt.isdigit
  rw [T_len]
  congr 1
  · cases l <;> simp
  · show l.toArray.all Unicode.isDigit = _
    rw [Bool.eq_iff_iff]
    simp only [List.all_toArray', List.all_eq_true, dig]
    constructor
    · intro q c hc
      rw [← digit_ascii c (hl c hc)]
      exact q c hc
    · intro q c hc
      rw [digit_ascii c (hl c hc)]
      exact q c hc
end MX
end
section
/-! Evaluation, rule by rule. -/
namespace MX
open PySem PySem.Spec PyProof.Rows L2 MR
section
variable {e e1 : MR.Env} {h h1 h2 h3 : Sto} {a b c : SE} {x y z w d : D} {p q : Bool} {m n : SA} {ds : List D}
theorem q_var {i : Nat} (q : e[i]? = some (some d) := by rfl) : sVar i e h = .ok d h := ev_var q
theorem q_c : sC d e h = .ok d h := rfl
theorem q_op {f : Sto → D → D → Option D} (ha : a e h = .ok x h1) (hb : b e h1 = .ok y h2) (hf : f h2 x y = some z) : sOp f a b e h = .ok z h2 := by
  simp only [sOp, ha, hb, ev_bind_ok, hf, ev_of_some]
theorem q_test (ha : a e h = .ok (.bl p) h1) : sTest a e h = .ok p h1 := by
  simp only [sTest, ha, ev_bind_ok, asB]
theorem q_and {a b : SB} (ha : a e h = .ok p h1) (hf : p = false → h1 = h2) (hb : p = true → b e h1 = .ok q h2) : sAnd a b e h = .ok (p && q) h2 := by
  simp only [sAnd, ha, ev_bind_ok]
  cases p with
  | false => rw [hf rfl]; rfl
  | true => rw [if_pos rfl, hb rfl]; rfl
theorem q_or {a b : SB} (ha : a e h = .ok p h1) (hf : p = true → h1 = h2) (hb : p = false → b e h1 = .ok q h2) : sOr a b e h = .ok (p || q) h2 := by
  simp only [sOr, ha, ev_bind_ok]
  cases p with
  | true => rw [hf rfl]; rfl
  | false => rw [if_neg Bool.false_ne_true, hb rfl]; rfl
theorem q_not {a : SB} (ha : a e h = .ok p h1) : sNot a e h = .ok (!p) h1 := by
  simp only [sNot, ha, ev_bind_ok]
theorem q_andV (ha : a e h = .ok (.bl p) h1) (hf : p = false → h1 = h2) (hb : p = true → b e h1 = .ok (.bl q) h2) : sAndV a b e h = .ok (.bl (p && q)) h2 := by
  simp only [sAndV, ha, ev_bind_ok]
  cases p with
  | false => rw [hf rfl]; rfl
  | true => rw [hb rfl]; rfl
theorem q_orV (ha : a e h = .ok (.bl p) h1) (hf : p = true → h1 = h2) (hb : p = false → b e h1 = .ok (.bl q) h2) : sOrV a b e h = .ok (.bl (p || q)) h2 := by
  simp only [sOrV, ha, ev_bind_ok]
  cases p with
  | true => rw [hf rfl]; rfl
  | false => rw [hb rfl]; rfl
/-- the store stays -/
theorem k_and {a b : SB} (ha : a e h = .ok p h) (hb : p = true → b e h = .ok q h) : sAnd a b e h = .ok (p && q) h := q_and ha (fun _ => rfl) hb
theorem k_or {a b : SB} (ha : a e h = .ok p h) (hb : p = false → b e h = .ok q h) : sOr a b e h = .ok (p || q) h := q_or ha (fun _ => rfl) hb
theorem k_andV (ha : a e h = .ok (.bl p) h) (hb : p = true → b e h = .ok (.bl q) h) : sAndV a b e h = .ok (.bl (p && q)) h := q_andV ha (fun _ => rfl) hb
theorem k_orV (ha : a e h = .ok (.bl p) h) (hb : p = false → b e h = .ok (.bl q) h) : sOrV a b e h = .ok (.bl (p || q)) h := q_orV ha (fun _ => rfl) hb
theorem q_notV (ha : a e h = .ok (.bl p) h1) : sNotV a e h = .ok (.bl (!p)) h1 := by
  simp only [sNotV, ha, ev_bind_ok]
theorem q_ifT {c : SB} (hc : c e h = .ok true h1) (ha : a e h1 = .ok x h2) : sIfE c a b e h = .ok x h2 := by
  simp only [sIfE, hc, ev_bind_ok, if_true, ha]
theorem q_ifF {c : SB} (hc : c e h = .ok false h1) (hb : b e h1 = .ok x h2) : sIfE c a b e h = .ok x h2 := by
  simp only [sIfE, hc, ev_bind_ok, Bool.false_eq_true, if_false, hb]
theorem k_ifE {c : SB} (hc : c e h = .ok p h1) (ha : p = true → a e h1 = .ok x h1) (hb : p = false → b e h1 = .ok y h1) : sIfE c a b e h = .ok (if p = true then x else y) h1 := by
  cases p with
  | true => exact q_ifT hc (ha rfl)
  | false => exact q_ifF hc (hb rfl)
theorem q_fn {F : Sto → List D → Option D} (hm : m e h = .ok ds h1) (hf : F h1 ds = some d) : sFn F m e h = .ok d h1 := by
  simp only [sFn, hm, ev_bind_ok, hf, ev_of_some]
theorem q_nil : sNil e h = .ok [] h := rfl
theorem q_cons (ha : a e h = .ok x h1) (hr : m e h1 = .ok ds h2) : sCons a m e h = .ok (x :: ds) h2 := by
  simp only [sCons, ha, hr, ev_bind_ok]
theorem q_one (ha : a e h = .ok x h1) : sCons a sNil e h = .ok [x] h1 := q_cons ha q_nil
theorem q_tup (hm : m e h = .ok ds h1) (hl : ds.length ≤ 4096 := by simp) : sTup m e h = .ok (.tup ds) h1 := by
  simp only [sTup, hm, ev_bind_ok, hl, if_true]
theorem q_lst (hm : m e h = .ok ds h1) (hl : ds.length ≤ 4096 := by simp) : sLst m e h = .ok (.lst ds) h1 := by
  simp only [sLst, hm, ev_bind_ok, hl, if_true]
theorem q_lstC (hm : m e h = .ok ds h1) (hl : ds.length ≤ 4096 := by simp) : sLstC m e h = .ok (.ref h1.length) (h1 ++ [.L ds]) := by
  simp only [sLstC, hm, ev_bind_ok, hl, if_true]
theorem q_call {F : List D → Sto → R D} {k : Nat} (hm : m e h = .ok ds h1) (hf : F ds h1 = .ok d h2) (hl : ds.length = k := by rfl) : sCall k F m e h = .ok d h2 := by
  simp only [sCall, hm, ev_bind_ok, hl, if_true, hf, ev_in_ok]
theorem q_m0 {F : Sto → Str → List D → Option D} {t : Str} (ha : a e h = .ok (.str t) h1) (hf : F h1 t [] = some d) : sM0 F a e h = .ok d h1 := by
  simp only [sM0, ha, ev_bind_ok, hf, ev_of_some]
theorem q_m1 {F : Sto → Str → List D → Option D} {t : Str} (ha : a e h = .ok (.str t) h1) (hb : b e h1 = .ok y h2) (hf : F h2 t [y] = some d) : sM1 F a b e h = .ok d h2 := by
  simp only [sM1, ha, hb, ev_bind_ok, hf, ev_of_some]
theorem q_sl2 {i j : Int} (ha : a e h = .ok x h1) (hb : b e h1 = .ok (.int i) h2) (hc : c e h2 = .ok (.int j) h3) (hf : fSl h3 x (some i) (some j) = some d) : sSl a (some b) (some c) e h = .ok d h3 := by
  simp only [sSl, sPart, ha, hb, hc, ev_bind_ok, hf, ev_of_some]
theorem q_slTo {j : Int} (ha : a e h = .ok x h1) (hc : c e h1 = .ok (.int j) h2) (hf : fSl h2 x none (some j) = some d) : sSl a none (some c) e h = .ok d h2 := by
  simp only [sSl, sPart, ha, hc, ev_bind_ok, hf, ev_of_some]
theorem q_slFrom {j : Int} (ha : a e h = .ok x h1) (hc : c e h1 = .ok (.int j) h2) (hf : fSl h2 x (some j) none = some d) : sSl a (some c) none e h = .ok d h2 := by
  simp only [sSl, sPart, ha, hc, ev_bind_ok, hf, ev_of_some]
theorem q_neg {i : Int} (ha : a e h = .ok (.int i) h1) : sUn fNeg a e h = .ok (.int (-i)) h1 := by
  simp only [sUn, ha, ev_bind_ok, fNeg, ev_of_some]
theorem q_isi {S S' : String} (ha : a e h = .ok x h1) (ht : tyName h1 x = some S') (hk : L2.kitB S' S = some p) : sIsi S a e h = .ok (.bl p) h1 := by
  simp only [sIsi, ha, ev_bind_ok, ht, Option.bind_some, hk, Option.map_some, ev_of_some]
/-! statements -/
variable {s t : SS} {r : R Fl}
theorem q_seq (ha : s e h = .ok (.nx e1) h1) (hb : t e1 h1 = r) : sSeq s t e h = r := by
  simp only [sSeq, ha, ev_bind_ok, hb]
theorem q_seqR (ha : s e h = .ok (.rt d) h1) : sSeq s t e h = .ok (.rt d) h1 := by
  simp only [sSeq, ha, ev_bind_ok]
theorem q_seqE {z : Exn} (ha : s e h = .err z e1 h1) : sSeq s t e h = .err z e1 h1 := by
  simp only [sSeq, ha, R.bind]
theorem q_set {i : Nat} (ha : a e h = .ok d h1) : sSet i a e h = .ok (.nx (e.set i (some d))) h1 := by
  simp only [sSet, ha, ev_in_ok, ev_bind_ok]
theorem q_ret (ha : a e h = .ok d h1) : sRet a e h = .ok (.rt d) h1 := by
  simp only [sRet, ha, ev_in_ok, ev_bind_ok]
theorem q_sif {c : SB} (hc : c e h = .ok p h1) (ht : p = true → s e h1 = r) (hf : p = false → t e h1 = r) : sIf c s t e h = r := by
  simp only [sIf, hc, ev_in_ok, ev_bind_ok]
  cases p with
  | true => rw [if_pos rfl, ht rfl]
  | false => rw [if_neg Bool.false_ne_true, hf rfl]
theorem q_sifT {c : SB} (hc : c e h = .ok true h1) (ht : s e h1 = r) : sIf c s t e h = r := q_sif hc (fun _ => ht) fun z => by cases z
theorem q_sifF {c : SB} (hc : c e h = .ok false h1) (ht : t e h1 = r) : sIf c s t e h = r := q_sif hc (fun z => by cases z) fun _ => ht
theorem q_unp {is : List Nat} (ha : a e h = .ok (.tup ds) h1) (hs : setAll is ds e = some e1 := by rfl) : sUnp is a e h = .ok (.nx e1) h1 := by
  simp only [sUnp, ha, ev_in_ok, ev_bind_ok, hs]
theorem q_par {i j : Nat} (ha : m e h = .ok [x, y] h1) : sPar i j m e h = .ok (.nx ((e.set i (some x)).set j (some y))) h1 := by
  simp only [sPar, ha, ev_in_ok, ev_bind_ok]
theorem q_par3 {i j l : Nat} (ha : m e h = .ok [x, y, z] h1) : sPar3 i j l m e h = .ok (.nx (((e.set i (some x)).set j (some y)).set l (some z))) h1 := by
  simp only [sPar3, ha, ev_in_ok, ev_bind_ok]
theorem q_aug {i : Nat} {f : Sto → D → D → Option D} (hv : e[i]? = some (some x)) (ha : a e h = .ok y h1) (hf : f h1 x y = some z) : sAug i f a e h = .ok (.nx (e.set i (some z))) h1 := by
  simp only [sAug, hv, ha, ev_in_ok, ev_bind_ok, hf, ev_of_some]
theorem q_expr (ha : a e h = .ok d h1) : sExpr a e h = .ok (.nx e) h1 := by
  simp only [sExpr, ha, ev_in_ok, ev_bind_ok]
theorem q_for {f : D → MR.Env → Option MR.Env} (ha : m e h = .ok ds h1) : sFor m f s e h = forL f s ds e h1 := by
  simp only [sFor, ha, ev_in_ok, ev_bind_ok]
theorem q_items {l : List D} (ha : a e h = .ok (.lst l) h1) : sItems a e h = .ok l h1 := by
  simp only [sItems, ha, ev_bind_ok]
theorem q_itemsT {l : List D} (ha : a e h = .ok (.tup l) h1) : sItems a e h = .ok l h1 := by
  simp only [sItems, ha, ev_bind_ok]
theorem q_itemsS {l : List Nat} (ha : a e h = .ok (.str (T l)) h1) : sItems a e h = .ok (l.map fun c => .str (T [c])) h1 := by
  simp only [sItems, ha, ev_bind_ok, MR.signs, T_cps]
  rfl
end
/-! ### cells that hold no cell of later index -/
mutual
theorem blw_mono {n k : Nat} (hk : n ≤ k) : ∀ d : D, D.blw n d = true → D.blw k d = true
  | .non, _ => rfl
  | .bl _, _ => rfl
  | .int _, _ => rfl
  | .str _, _ => rfl
  | .ref m, h => by
    simp only [D.blw, decide_eq_true_eq] at h ⊢
    omega
  | .tup l, h => by
    simp only [D.blw] at h ⊢
    exact blws_mono hk l h
  | .lst l, h => by
    simp only [D.blw] at h ⊢
    exact blws_mono hk l h
theorem blws_mono {n k : Nat} (hk : n ≤ k) : ∀ l : List D, D.blws n l = true → D.blws k l = true
  | [], _ => rfl
  | d :: ds, h => by
    simp only [D.blws, Bool.and_eq_true] at h ⊢
    exact ⟨blw_mono hk d h.1, blws_mono hk ds h.2⟩
end
theorem cblw_mono {n k : Nat} (hk : n ≤ k) : ∀ c : Cell, Cell.blw n c = true → Cell.blw k c = true
  | .gone, _ => rfl
  | .L l, h => blws_mono hk l h
  | .M kvs, h => blws_mono hk _ h
theorem blws_app {n : Nat} : ∀ {a b : List D}, D.blws n a = true → D.blws n b = true → D.blws n (a ++ b) = true
  | [], _, _, hb => hb
  | x :: r, b, ha, hb => by
    simp only [List.cons_append, D.blws, Bool.and_eq_true] at ha ⊢
    exact ⟨ha.1, blws_app ha.2 hb⟩
def Good (h : Sto) : Prop := h.all (Cell.blw h.length) = true
theorem Good.snoc {h : Sto} {l : List D} (g : Good h) (hl : D.blws (h.length + 1) l = true) : Good (h ++ [.L l]) := by
  unfold Good at *
  rw [List.all_append, Bool.and_eq_true]
  refine ⟨List.all_eq_true.mpr fun c hc => ?_, ?_⟩
  · exact cblw_mono (by simp) c (List.all_eq_true.mp g c hc)
  · simp only [List.all_cons, List.all_nil, Bool.and_true, List.length_append, List.length_singleton]
    exact hl
/-- a comprehension whose parts leave the store as it is -/
theorem lc_go {f : D → MR.Env → Option MR.Env} {t : SB} {m : SE} {e0 : MR.Env} {h : Sto} {k : D → Bool} {v : D → D} : ∀ {ds acc : List D},
    (∀ d ∈ ds, ∃ e1, f d e0 = some e1 ∧ ∀ acc' : List D, D.blws (h.length + 1) acc' = true → t e1 (h ++ [.L acc']) = .ok (k d) (h ++ [.L acc']) ∧ (k d = true → D.blw 0 (v d) = true ∧ m e1 (h ++ [.L acc']) = .ok (v d) (h ++ [.L acc']))) →
    D.blws (h.length + 1) acc = true → acc.length + ds.length ≤ 16777216 → lcL f t m h.length e0 ds (h ++ [.L acc]) = .ok () (h ++ [.L (acc ++ (ds.filter k).map v)])
  | [], acc, _, _, _ => by simp [lcL]
  | d :: ds, acc, hp, hb, hl => by
    obtain ⟨e1, h1, h2⟩ := hp d (by simp)
    obtain ⟨h3, h4⟩ := h2 acc hb
    simp only [List.length_cons] at hl
    simp only [lcL, h1, h3, ev_bind_ok]
    cases hk : k d with
    | false =>
      rw [if_neg Bool.false_ne_true, lc_go (fun x hx => hp x (List.mem_cons_of_mem _ hx)) hb (by omega), List.filter_cons_of_neg (by rw [hk]; simp)]
    | true =>
      obtain ⟨h5, h6⟩ := h4 hk
      rw [if_pos rfl, h6, ev_bind_ok]
      have g : (h ++ [Cell.L acc])[h.length]? = some (.L acc) := by simp
      simp only [g]
      rw [if_pos (show acc.length < LN by show acc.length < 16777216; omega)]
      have e2 : (h ++ [Cell.L acc]).set h.length (.L (acc ++ [v d])) = h ++ [.L (acc ++ [v d])] := by simp
      rw [e2, lc_go (fun x hx => hp x (List.mem_cons_of_mem _ hx)) (blws_app hb (by simp only [D.blws, Bool.and_true]; exact blw_mono (Nat.zero_le _) _ h5)) (by simp; omega), List.filter_cons_of_pos hk]
      simp
theorem blws0 {n : Nat} : ∀ {l : List D}, (∀ d ∈ l, D.blw 0 d = true) → D.blws n l = true
  | [], _ => rfl
  | d :: ds, h => by
    simp only [D.blws, Bool.and_eq_true]
    exact ⟨blw_mono (Nat.zero_le _) _ (h d (by simp)), blws0 fun x hx => h x (List.mem_cons_of_mem _ hx)⟩
theorem q_lc {own : List Nat} {it : SA} {f : D → MR.Env → Option MR.Env} {t : SB} {m : SE} {e : MR.Env} {h : Sto} {ds : List D} (k : D → Bool) (v : D → D) (hi : it e h = .ok ds h) (g : Good h)
    (hp : ∀ d ∈ ds, ∃ e1, f d (wipeE e own) = some e1 ∧ ∀ acc' : List D, Good (h ++ [.L acc']) → t e1 (h ++ [.L acc']) = .ok (k d) (h ++ [.L acc']) ∧ (k d = true → D.blw 0 (v d) = true ∧ m e1 (h ++ [.L acc']) = .ok (v d) (h ++ [.L acc'])))
    (hl : ds.length ≤ 16777216) : sLc own it f t m e h = .ok (.lst ((ds.filter k).map v)) h := by
  unfold sLc
  rw [hi, ev_bind_ok]
  have h2 := lc_go (f := f) (t := t) (m := m) (e0 := wipeE e own) (h := h) (k := k) (v := v) (ds := ds) (acc := []) (fun d hd => by
    obtain ⟨e1, q1, q2⟩ := hp d hd
    exact ⟨e1, q1, fun acc' ha => q2 acc' (g.snoc ha)⟩) rfl (by simpa using hl)
  rw [h2]
  have hv : ∀ x ∈ (ds.filter k).map v, D.blw 0 x = true := fun x hx => by
    obtain ⟨d, hd, rfl⟩ := List.mem_map.mp hx
    obtain ⟨hd1, hd2⟩ := List.mem_filter.mp hd
    obtain ⟨e1, q1, q2⟩ := hp d hd1
    exact ((q2 [] (g.snoc rfl)).2 hd2).1
  simp only [lcFin, List.nil_append]
  have gg : (h ++ [Cell.L ((ds.filter k).map v)])[h.length]? = some (.L ((ds.filter k).map v)) := by simp
  simp only [gg]
  have tk : (h ++ [Cell.L ((ds.filter k).map v)]).take h.length = h := by simp
  rw [tk, blws0 hv, if_pos (by rw [Bool.true_and]; exact g)]
/-- without an if -/
theorem q_lc0 {own : List Nat} {it : SA} {f : D → MR.Env → Option MR.Env} {m : SE} {e : MR.Env} {h : Sto} {ds : List D} (v : D → D) (hi : it e h = .ok ds h) (g : Good h)
    (hp : ∀ d ∈ ds, ∃ e1, f d (wipeE e own) = some e1 ∧ D.blw 0 (v d) = true ∧ ∀ acc' : List D, Good (h ++ [.L acc']) → m e1 (h ++ [.L acc']) = .ok (v d) (h ++ [.L acc']))
    (hl : ds.length ≤ 16777216) : sLc own it f sYes m e h = .ok (.lst (ds.map v)) h := by
  have q := q_lc (own := own) (it := it) (f := f) (t := sYes) (m := m) (e := e) (fun _ => true) v hi g (fun d hd => by
    obtain ⟨e1, q1, q2, q3⟩ := hp d hd
    exact ⟨e1, q1, fun acc' ha => ⟨rfl, fun _ => ⟨q2, q3 acc' ha⟩⟩⟩) hl
  rw [q]
  congr 2
  rw [List.filter_eq_self.mpr (by simp)]
end MX
end
section
set_option maxHeartbeats 1000000
namespace K52
open PySem PySem.Spec PyProof.Rows L2 MR MX
/-! ### constants -/
def lets : List Nat := [97, 98, 99, 100, 101, 102, 103, 104, 105, 106, 107, 108, 109, 110, 111, 112, 113, 114, 115, 116, 117, 118, 119, 120, 121, 122]
def digs : List Nat := [48, 49, 50, 51, 52, 53, 54, 55, 56, 57]
theorem s0 : Str.ofString "" = T [] := by decide +kernel
theorem s_0 : Str.ofString "0" = T [48] := by decide +kernel
theorem s_sp : Str.ofString " " = T [32] := by decide +kernel
theorem s_nl : Str.ofString "\n" = T [10] := by decide +kernel
theorem s_lets : Str.ofString "abcdefghijklmnopqrstuvwxyz" = T lets := by decide +kernel
theorem s_digs : Str.ofString "0123456789" = T digs := by decide +kernel
theorem s_signs : Str.ofString "abcdefghijklmnopqrstuvwxyz0123456789" = T (lets ++ digs) := by decide +kernel
abbrev wTry : List Nat := [116, 114, 121]
abbrev wUndo : List Nat := [117, 110, 100, 111]
abbrev wDone : List Nat := [100, 111, 110, 101]
abbrev wFailed : List Nat := [102, 97, 105, 108, 101, 100]
abbrev wUndone : List Nat := [117, 110, 100, 111, 110, 101]
abbrev wLeft : List Nat := [108, 101, 102, 116]
theorem s_try : Str.ofString "try" = T wTry := by decide +kernel
theorem s_undo : Str.ofString "undo" = T wUndo := by decide +kernel
theorem s_done : Str.ofString "done" = T wDone := by decide +kernel
theorem s_failed : Str.ofString "failed" = T wFailed := by decide +kernel
theorem s_undone : Str.ofString "undone" = T wUndone := by decide +kernel
theorem s_left : Str.ofString "left" = T wLeft := by decide +kernel
def words : List (List Nat) := [wTry, wUndo, wDone, wFailed, wUndone, wLeft]
def noNames : List (List Nat) := [[112, 108, 97, 110, 115], [112, 108, 97, 110], [100, 101, 101, 100], [99, 104, 105, 108, 100], [114, 111, 119], [115, 105, 100, 101], [101, 108, 115, 101], [117, 110, 100, 111], [115, 117, 114, 101]]
theorem s_plans : Str.ofString "plans" = T [112, 108, 97, 110, 115] := by decide +kernel
theorem s_plan : Str.ofString "plan" = T [112, 108, 97, 110] := by decide +kernel
theorem s_deed : Str.ofString "deed" = T [100, 101, 101, 100] := by decide +kernel
theorem s_child : Str.ofString "child" = T [99, 104, 105, 108, 100] := by decide +kernel
theorem s_row : Str.ofString "row" = T [114, 111, 119] := by decide +kernel
theorem s_side : Str.ofString "side" = T [115, 105, 100, 101] := by decide +kernel
theorem s_else : Str.ofString "else" = T [101, 108, 115, 101] := by decide +kernel
theorem s_sure : Str.ofString "sure" = T [115, 117, 114, 101] := by decide +kernel
def lt (c : Nat) : Bool := decide (c ∈ lets)
def an (c : Nat) : Bool := decide (c ∈ lets ++ digs)
theorem mk_c (c : Nat) : (⟨#[c]⟩ : Str) = T [c] := rfl
/-! ### the judge's readings of one part -/
def isNum (l : List Nat) : Bool := (decide (l ≠ []) && l.all dig) && (decide (l.length < 3) && (decide (l = [48]) || !decide (l.take 1 = [48])))
theorem e_is_number {l : List Nat} {h : Sto} (hl : ∀ c ∈ l, c < 128) (hz : l.length ≤ 16777000) : F__law_is_number [.str (T l)] h = .ok (.bl (isNum l)) h := by
  refine run_rt (q_ret (k_andV (q_m0 q_var (f_isdigit hl)) fun h1 => k_andV (q_op (q_fn (q_one q_var) (f_len (by omega))) q_c ?_) fun h2 => k_orV (q_op q_var q_c (by rw [s_0]; exact f_eq)) fun h3 => ?_))
  · show some (D.bl (decide ((l.length : Int) < 3))) = some (.bl (decide (l.length < 3)))
    congr 2
    rw [decide_eq_decide]
    omega
  · cases l with
    | nil => simp at h1
    | cons c r => exact q_op (q_op q_var q_c (f_ix0 (by omega))) q_c (by rw [s_0]; exact f_ne)
def begun (l : List Nat) : Bool := decide (l.length < 13) && (l.all an && (decide (l = []) || (l.take 1).all lt))
theorem f_allB {h : Sto} {α : Type} {l : List α} {g : α → Bool} : fAll h [.lst (l.map fun c => .bl (g c))] = some (.bl (l.all g)) := by
  show (blsOf (l.map fun c => D.bl (g c))).map (fun bs => D.bl (bs.all id)) = _
  have : ∀ l : List α, blsOf (l.map fun c => D.bl (g c)) = some (l.map g) := fun l => by
    induction l with
    | nil => rfl
    | cons c r ih =>
      show (blsOf (r.map fun c => D.bl (g c))).map (g c :: ·) = _
      rw [ih]
      rfl
  rw [this]
  simp [Function.comp_def]
theorem f_anyB {h : Sto} {α : Type} {l : List α} {g : α → Bool} : fAny h [.lst (l.map fun c => .bl (g c))] = some (.bl (l.any g)) := by
  show (blsOf (l.map fun c => D.bl (g c))).map (fun bs => D.bl (bs.any id)) = _
  have : ∀ l : List α, blsOf (l.map fun c => D.bl (g c)) = some (l.map g) := fun l => by
    induction l with
    | nil => rfl
    | cons c r ih =>
      show (blsOf (r.map fun c => D.bl (g c))).map (g c :: ·) = _
      rw [ih]
      rfl
  rw [this]
  simp [Function.comp_def]
theorem e_is_begun {l : List Nat} {h : Sto} (g : Good h) (hz : l.length ≤ 16777000) : F__law_is_begun [.str (T l)] h = .ok (.bl (begun l)) h := by
  refine run_rt (q_seq (q_set q_c) (q_ret (k_andV (q_op (q_fn (q_one q_var) (f_len (by omega))) q_c ?_) fun h1 => k_andV (p := l.all an) (q_fn (q_one (q_lc0 (fun d => match d with
    | .str s => .bl (an (s.cps.toList.headD 0))
    | d => d) (q_itemsS (l := l) q_var) g ?_ ?_)) ?_) fun h2 => k_orV (q_op q_var q_c (by rw [s0]; exact f_eq)) fun h3 => ?_)))
  · show some (D.bl (decide ((l.length : Int) < 13))) = some (.bl (decide (l.length < 13)))
    congr 2
    rw [decide_eq_decide]
    omega
  · intro d hd
    obtain ⟨c, hc, rfl⟩ := List.mem_map.mp hd
    refine ⟨_, rfl, rfl, fun acc' g' => q_op q_var q_var ?_⟩
    rw [s_signs]
    exact f_in1
  · rw [List.length_map]
    omega
  · rw [List.map_map]
    exact f_allB (g := an)
  · cases l with
    | nil => simp at h3
    | cons c r =>
      refine q_op (q_op q_var q_c (f_ix0 (by omega))) (q_slTo q_var q_c (by rw [s_signs]; exact f_slTo (j := 26) (by decide))) ?_
      rw [show (lets ++ digs).take 26 = lets from rfl, f_in1]
      simp [lt]
def nameL (l : List Nat) : Bool := !decide (l = []) && (begun l && !decide (l ∈ noNames))
theorem e_is_name_law {l : List Nat} {h : Sto} (g : Good h) (hz : l.length ≤ 16777000) : F__law_is_name [.str (T l)] h = .ok (.bl (nameL l)) h := by
  refine run_rt (q_seq (q_set (q_lst (q_cons q_c (q_cons q_c (q_cons q_c (q_cons q_c (q_cons q_c (q_cons q_c (q_cons q_c (q_cons q_c (q_one q_c)))))))))) )
    (q_ret (k_andV (q_op q_var q_c (by rw [s0]; exact f_ne)) fun h1 => k_andV (q_call (q_one q_var) (e_is_begun g hz)) fun h2 => q_op q_var q_var ?_)))
  rw [s_plans, s_plan, s_deed, s_child, s_row, s_side, s_else, s_undo, s_sure]
  exact f_notInL (ss := noNames)
end K52
end
section
set_option maxHeartbeats 1000000
namespace K52
open PySem PySem.Spec PyProof.Rows L2 MR MX
theorem e_words {h : Sto} : F__law_words [] h = .ok (.lst (words.map fun s => .str (T s))) h := by
  refine run_rt (q_ret (q_lst ?_ (by decide)))
  rw [s_try, s_undo, s_done, s_failed, s_undone, s_left]
  exact q_cons q_c (q_cons q_c (q_cons q_c (q_cons q_c (q_cons q_c (q_one q_c)))))
def numV (l : List Nat) : Int := (NumText.digitsVal l : Nat)
theorem f_int {h : Sto} {l : List Nat} (hn : isNum l = true) : fInt h [.str (T l)] = some (.int (numV l)) := by
  simp only [isNum, Bool.and_eq_true, decide_eq_true_eq] at hn
  obtain ⟨⟨h1, h2⟩, h3, _⟩ := hn
  show (if (T l).length ≤ 640 then (PySem.intText? (T l)).map D.int else none) = _
  rw [if_pos (by rw [T_len]; omega)]
  have q : PySem.intText? (T l) = some ((NumText.digitsVal l : Nat) : Int) := SX.int_S (by
    rw [List.all_eq_true] at h2 ⊢
    intro c hc
    have := h2 c hc
    simp only [dig, decide_eq_true_eq] at this
    simp [this]) h1 (by omega)
  rw [q]
  rfl
/-- a record, as the judge reads a whole line -/
def recP : List (List Nat) → Option (List D)
  | [w, n] => if (decide (w ∈ words) && isNum n && decide (w = wLeft)) = true then some [.str (T w), .int (numV n)] else none
  | [w, n, m] => if (decide (w ∈ words) && isNum n && !decide (w = wLeft) && nameL m) = true then some [.str (T w), .int (numV n), .str (T m)] else none
  | _ => none
def recL (l : List Nat) : Option (List D) := recP (spl 32 l)
def optD : Option (List D) → D
  | some r => .lst [.tup r]
  | none => .lst []
theorem spl_sub {c : Nat} : ∀ {l p : List Nat}, p ∈ spl c l → ∀ x ∈ p, x ∈ l
  | [], p, hp, x, hx => by
    simp only [spl, List.mem_singleton] at hp
    subst hp
    exact hx
  | y :: r, p, hp, x, hx => by
    unfold spl at hp
    split at hp
    · rcases List.mem_cons.mp hp with rfl | hp
      · cases hx
      · exact List.mem_cons_of_mem _ (spl_sub hp x hx)
    · split at hp
      · rename_i q qs e
        rcases List.mem_cons.mp hp with rfl | hp
        · rcases List.mem_cons.mp hx with rfl | hx
          · exact List.mem_cons_self
          · exact List.mem_cons_of_mem _ (spl_sub (p := q) (by rw [e]; exact List.mem_cons_self) x hx)
        · exact List.mem_cons_of_mem _ (spl_sub (p := p) (by rw [e]; exact List.mem_cons_of_mem _ hp) x hx)
      · rename_i e
        obtain ⟨p1, ps, q⟩ := spl_ne c r
        rw [e] at q
        cases q
theorem spl_len {c : Nat} : ∀ {l p : List Nat}, p ∈ spl c l → p.length ≤ l.length
  | [], p, hp => by
    simp only [spl, List.mem_singleton] at hp
    subst hp
    exact Nat.le_refl _
  | y :: r, p, hp => by
    unfold spl at hp
    split at hp
    · rcases List.mem_cons.mp hp with rfl | hp
      · exact Nat.zero_le _
      · have := spl_len hp
        simp
        omega
    · split at hp
      · rename_i q qs e
        rcases List.mem_cons.mp hp with rfl | hp
        · have := spl_len (p := q) (by rw [e]; exact List.mem_cons_self)
          simp
          omega
        · have := spl_len (p := p) (by rw [e]; exact List.mem_cons_of_mem _ hp)
          simp
          omega
      · rename_i e
        obtain ⟨p1, ps, q⟩ := spl_ne c r
        rw [e] at q
        cases q
theorem spl_many {c : Nat} : ∀ l : List Nat, (spl c l).length ≤ l.length + 1
  | [] => by simp [spl]
  | y :: r => by
    have ih := spl_many (c := c) r
    unfold spl
    split
    · simp
      omega
    · split
      · rename_i q qs e
        rw [e] at ih
        simp at ih ⊢
        omega
      · simp
theorem f_ixL {h : Sto} {l : List D} {i : Nat} {d : D} (hi : l[i]? = some d) : fIx h (.lst l) (.int (i : Int)) = some d := by
  show atI l (i : Int) = some d
  have hl := (List.getElem?_eq_some_iff.mp hi).1
  rw [atI_nat hl]
  rw [List.getElem?_eq_getElem hl] at hi
  exact hi
theorem f_ixTu {h : Sto} {l : List D} {i : Nat} {d : D} (hi : l[i]? = some d) : fIx h (.tup l) (.int (i : Int)) = some d := by
  show atI l (i : Int) = some d
  have hl := (List.getElem?_eq_some_iff.mp hi).1
  rw [atI_nat hl]
  rw [List.getElem?_eq_getElem hl] at hi
  exact hi
theorem e_record {l : List Nat} {h : Sto} (g : Good h) (hl : ∀ c ∈ l, c < 128) (hz : l.length ≤ 16777000) : F__law_record [.str (T l)] h = .ok (optD (recL l)) h := by
  refine run_rt (q_seq (q_set (q_m1 q_var q_c (by rw [s_sp]; exact f_split hz))) ?_)
  have hsub : ∀ p ∈ spl 32 l, (∀ c ∈ p, c < 128) ∧ p.length ≤ 16777000 := fun p hp => ⟨fun c hc => hl c (spl_sub hp c hc), Nat.le_trans (spl_len hp) hz⟩
  unfold recL
  revert hsub
  generalize spl 32 l = P
  intro hsub
  match P, hsub with
  | [], _ => exact q_seqR (q_sifT (k_or (p := true) (q := false) (q_test (q_op (q_fn (q_one q_var) f_lenL) q_c rfl)) fun z => by cases z) (q_ret (q_lst q_nil)))
  | [w], _ => exact q_seqR (q_sifT (k_or (p := true) (q := false) (q_test (q_op (q_fn (q_one q_var) f_lenL) q_c rfl)) fun z => by cases z) (q_ret (q_lst q_nil)))
  | w :: n :: r, hsub =>
    have hw := hsub w (by simp)
    have hn := hsub n (by simp)
    have iw : ∀ h, fIx h (.lst ((w :: n :: r).map fun s => .str (T s))) (.int 0) = some (.str (T w)) := fun h => f_ixL (i := 0) rfl
    have in_ : ∀ h, fIx h (.lst ((w :: n :: r).map fun s => .str (T s))) (.int 1) = some (.str (T n)) := fun h => f_ixL (i := 1) rfl
    have t1 : sTest (sOp fLt (sFn fLen (sCons (sVar 1) sNil)) (sC (.int 2))) [some (.str (T l)), some (.lst ((w :: n :: r).map fun s => .str (T s)))] h = .ok false h := q_test (q_op (q_fn (q_one q_var) f_lenL) q_c (by
      show some (D.bl (decide ((((w :: n :: r).map fun s => D.str (T s)).length : Int) < 2))) = _
      rw [decide_eq_false (by simp; omega)]))
    have t2 : sTest (sOp fNotIn (sOp fIx (sVar 1) (sC (.int 0))) (sCall 0 F__law_words sNil)) [some (.str (T l)), some (.lst ((w :: n :: r).map fun s => .str (T s)))] h = .ok (!decide (w ∈ words)) h :=
      q_test (q_op (q_op q_var q_c (iw _)) (q_call q_nil e_words) f_notInL)
    have t3 : sNot (sTest (sCall 1 F__law_is_number (sCons (sOp fIx (sVar 1) (sC (.int 1))) sNil))) [some (.str (T l)), some (.lst ((w :: n :: r).map fun s => .str (T s)))] h = .ok (!isNum n) h :=
      q_not (q_test (q_call (q_one (q_op q_var q_c (in_ _))) (e_is_number hn.1 hn.2)))
    have c0 := k_or t1 fun _ => k_or t2 fun _ => t3
    have t4 : sTest (sOp fEq (sOp fIx (sVar 1) (sC (.int 0))) (sC (.str "left"))) [some (.str (T l)), some (.lst ((w :: n :: r).map fun s => .str (T s)))] h = .ok (decide (w = wLeft)) h :=
      q_test (q_op (q_op q_var q_c (iw _)) q_c (by rw [s_left]; exact f_eq))
    have t5 : ∀ k : Int, sTest (sOp fEq (sFn fLen (sCons (sVar 1) sNil)) (sC (.int k))) [some (.str (T l)), some (.lst ((w :: n :: r).map fun s => .str (T s)))] h = .ok (decide (((r.length : Int) + 2) = k)) h := fun k =>
      q_test (q_op (q_fn (q_one q_var) f_lenL) q_c (by
        rw [f_eqI, show (((w :: n :: r).map fun s => D.str (T s)).length : Int) = (r.length : Int) + 2 by simp; omega]))
    by_cases hww : w ∈ words
    · by_cases hnn : isNum n = true
      · refine q_seq (q_sifF (c0.trans (congrArg (fun b => R.ok b h) (by simp [hww, hnn]))) rfl) ?_
        by_cases hll : w = wLeft
        · refine q_seqR (q_sifT (t4.trans (congrArg (fun b => R.ok b h) (by simp [hll]))) (q_ret ?_))
          match r, hsub with
          | [], _ =>
            refine q_ifT ((t5 _).trans (congrArg (fun b => R.ok b h) (by rfl))) ?_
            have e2 : optD (recP [w, n]) = .lst [.tup [.str (T wLeft), .int (numV n)]] := by simp [recP, hnn, hll, optD, show wLeft ∈ words from by decide]
            rw [e2]
            exact q_lst (q_one (q_tup (q_cons (by rw [s_left]; exact q_c) (q_one (q_fn (q_one (q_op q_var q_c (in_ _))) (f_int hnn))))))
          | [m], _ =>
            refine q_ifF ((t5 _).trans (congrArg (fun b => R.ok b h) (by rfl))) ?_
            have e2 : optD (recP [w, n, m]) = .lst [] := by simp [recP, hll, optD]
            rw [e2]
            exact q_lst q_nil
          | m :: m' :: r', _ =>
            refine q_ifF ((t5 _).trans (congrArg (fun b => R.ok b h) (by simp; omega))) ?_
            exact q_lst q_nil
        · refine q_seq (q_sifF (t4.trans (congrArg (fun b => R.ok b h) (by simp [hll]))) rfl) (q_ret ?_)
          match r, hsub with
          | [], _ =>
            refine q_ifF (k_and (p := false) (q := false) ((t5 _).trans (congrArg (fun b => R.ok b h) (by rfl))) fun z => by cases z) ?_
            have e2 : optD (recP [w, n]) = .lst [] := by simp [recP, hll, optD]
            rw [e2]
            exact q_lst q_nil
          | [m], hsub =>
            have hm := hsub m (by simp)
            have im : ∀ h, fIx h (.lst ([w, n, m].map fun s => .str (T s))) (.int 2) = some (.str (T m)) := fun h => f_ixL (i := 2) rfl
            have c1 := k_and (p := true) (q := nameL m) (t5 3) fun _ => q_test (a := sCall 1 F__law_is_name (sCons (sOp fIx (sVar 1) (sC (.int 2))) sNil)) (q_call (q_one (q_op q_var q_c (im _))) (e_is_name_law g hm.2))
            by_cases hmm : nameL m = true
            · refine q_ifT (c1.trans (congrArg (fun b => R.ok b h) (by rw [hmm]; rfl))) ?_
              have e2 : optD (recP [w, n, m]) = .lst [.tup [.str (T w), .int (numV n), .str (T m)]] := by simp [recP, hww, hnn, hll, hmm, optD]
              rw [e2]
              exact q_lst (q_one (q_tup (q_cons (q_op q_var q_c (iw _)) (q_cons (q_fn (q_one (q_op q_var q_c (in_ _))) (f_int hnn)) (q_one (q_op q_var q_c (im _)))))))
            · refine q_ifF (c1.trans (congrArg (fun b => R.ok b h) (by simp [hmm]))) ?_
              have e2 : optD (recP [w, n, m]) = .lst [] := by simp [recP, hmm, optD]
              rw [e2]
              exact q_lst q_nil
          | m :: m' :: r', _ =>
            refine q_ifF (k_and (p := false) (q := false) ((t5 _).trans (congrArg (fun b => R.ok b h) (by simp; omega))) fun z => by cases z) ?_
            exact q_lst q_nil
      · refine q_seqR (q_sifT (c0.trans (congrArg (fun b => R.ok b h) (by simp [hww, hnn]))) ?_)
        have e2 : optD (recP (w :: n :: r)) = .lst [] := by
          match r with
          | [] => simp [recP, hnn, optD]
          | [m] => simp [recP, hnn, optD]
          | m :: m' :: r' => rfl
        rw [e2]
        exact q_ret (q_lst q_nil)
    · refine q_seqR (q_sifT (c0.trans (congrArg (fun b => R.ok b h) (by simp [hww]))) ?_)
      have e2 : optD (recP (w :: n :: r)) = .lst [] := by
        match r with
        | [] => simp [recP, hww, optD]
        | [m] => simp [recP, hww, optD]
        | m :: m' :: r' => rfl
      rw [e2]
      exact q_ret (q_lst q_nil)
end K52
end
section
set_option maxHeartbeats 1000000
namespace K52
open PySem PySem.Spec PyProof.Rows L2 MR MX
def canT (w : List Nat) : List (List Nat) → Bool
  | [] => true
  | [m] => !decide (w = wLeft) && begun m
  | _ => false
def canP : List (List Nat) → Bool
  | [] => false
  | [s] => words.any fun w => s.isPrefixOf w
  | w :: n :: r => (decide (w ∈ words) && ((decide (n = []) && decide (r = [])) || isNum n)) && canT w r
def canL (l : List Nat) : Bool := canP (spl 32 l)
theorem e_can_be {l : List Nat} {h : Sto} (g : Good h) (hl : ∀ c ∈ l, c < 128) (hz : l.length ≤ 16777000) : F__law_can_be [.str (T l)] h = .ok (.bl (canL l)) h := by
  refine run_rt (q_seq (q_set (q_m1 q_var q_c (by rw [s_sp]; exact f_split hz))) ?_)
  have hsub : ∀ p ∈ spl 32 l, (∀ c ∈ p, c < 128) ∧ p.length ≤ 16777000 := fun p hp => ⟨fun c hc => hl c (spl_sub hp c hc), Nat.le_trans (spl_len hp) hz⟩
  have hone : ∀ s, spl 32 l = [s] → s = l := fun s e => by
    have q : ∀ l s, spl 32 l = [s] → s = l := fun l => by
      induction l with
      | nil =>
        intro s e
        simp [spl] at e
        exact e
      | cons x r ih =>
        intro s e
        unfold spl at e
        split at e
        · obtain ⟨p, ps, z⟩ := spl_ne 32 r
          rw [z] at e
          cases e
        · split at e
          · rename_i p ps z
            simp at e
            obtain ⟨rfl, rfl⟩ := e
            rw [ih p z]
          · rename_i z
            obtain ⟨p, ps, z'⟩ := spl_ne 32 r
            rw [z] at z'
            cases z'
    exact q l s e
  have hne := spl_ne 32 l
  unfold canL
  revert hsub hone hne
  generalize spl 32 l = P
  intro hsub hone hne
  have tl : ∀ k : Int, sTest (sOp fEq (sFn fLen (sCons (sVar 1) sNil)) (sC (.int k))) [some (.str (T l)), some (.lst (P.map fun s => .str (T s))), none] h = .ok (decide ((P.length : Int) = k)) h := fun k =>
    q_test (q_op (q_fn (q_one q_var) f_lenL) q_c (by rw [f_eqI, List.length_map]))
  have vl : ∀ k : Int, sOp fEq (sFn fLen (sCons (sVar 1) sNil)) (sC (.int k)) [some (.str (T l)), some (.lst (P.map fun s => .str (T s))), none] h = .ok (.bl (decide ((P.length : Int) = k))) h := fun k =>
    q_op (q_fn (q_one q_var) f_lenL) q_c (by rw [f_eqI, List.length_map])
  match P, hsub, hone, hne, tl, vl with
  | [], _, _, hne, _, _ =>
    obtain ⟨p, ps, z⟩ := hne
    cases z
  | [s], _, hone, _, tl, vl =>
    have e := hone s rfl
    subst e
    refine q_seqR (q_sifT (tl 1) (q_ret (q_fn (q_one (q_lc0 (fun d => match d with
      | .str w => .bl (s.isPrefixOf w.cps.toList)
      | d => d) (q_items (q_call q_nil e_words)) g ?_ (by decide))) ?_)))
    · intro d hd
      obtain ⟨w, hw, rfl⟩ := List.mem_map.mp hd
      exact ⟨_, rfl, rfl, fun acc' g' => q_m1 q_var q_var f_starts⟩
    · rw [List.map_map]
      exact f_anyB (g := fun w => s.isPrefixOf w)
  | w :: n :: r, hsub, _, _, tl, vl =>
    have hw := hsub w (by simp)
    have hn := hsub n (by simp)
    have iw : ∀ h, fIx h (.lst ((w :: n :: r).map fun s => .str (T s))) (.int 0) = some (.str (T w)) := fun h => f_ixL (i := 0) rfl
    have in_ : ∀ h, fIx h (.lst ((w :: n :: r).map fun s => .str (T s))) (.int 1) = some (.str (T n)) := fun h => f_ixL (i := 1) rfl
    have c0 : _ = R.ok ((!decide (w ∈ words)) || !((decide (n = []) && decide ((((w :: n :: r).length : Nat) : Int) = 2)) || isNum n)) h := k_or (a := sTest (sOp fNotIn (sOp fIx (sVar 1) (sC (.int 0))) (sCall 0 F__law_words sNil))) (b := sNot (sOr (sAnd (sTest (sOp fEq (sOp fIx (sVar 1) (sC (.int 1))) (sC (.str "")))) (sTest (sOp fEq (sFn fLen (sCons (sVar 1) sNil)) (sC (.int 2))))) (sTest (sCall 1 F__law_is_number (sCons (sOp fIx (sVar 1) (sC (.int 1))) sNil))))) (e := [some (.str (T l)), some (.lst ((w :: n :: r).map fun s => .str (T s))), none])
      (q_test (q_op (q_op q_var q_c (iw _)) (q_call q_nil e_words) f_notInL)) fun _ => q_not (k_or (k_and (q_test (q_op (q_op q_var q_c (in_ _)) q_c (by rw [s0]; exact f_eq))) fun _ => tl 2) fun _ => q_test (q_call (q_one (q_op q_var q_c (in_ _))) (e_is_number hn.1 hn.2)))
    refine q_seq (q_sifF ((tl 1).trans (congrArg (fun b => R.ok b h) (decide_eq_false (by simp; omega)))) rfl) ?_
    have er : decide ((((w :: n :: r).length : Nat) : Int) = 2) = decide (r = []) := by
      rw [decide_eq_decide]
      cases r <;> simp
      omega
    rw [er] at c0
    by_cases hc : (decide (w ∈ words) && ((decide (n = []) && decide (r = [])) || isNum n)) = true
    · have hc' : ((!decide (w ∈ words)) || !((decide (n = []) && decide (r = [])) || isNum n)) = false := by
        rw [← Bool.not_and, hc]
        rfl
      refine q_seq (q_sifF (c0.trans (congrArg (fun b => R.ok b h) hc')) rfl) (q_ret ?_)
      have e2 : canP (w :: n :: r) = (decide (r = []) || canT w r) := by
        simp only [canP, hc, Bool.true_and]
        cases r <;> simp [canT]
      rw [e2]
      refine k_orV ((vl 2).trans (by rw [er])) fun h1 => ?_
      match r, hsub, vl, iw with
      | [], _, _, _ => simp at h1
      | [m], hsub, vl, iw =>
        have hm := hsub m (by simp)
        have im : ∀ h, fIx h (.lst ([w, n, m].map fun s => .str (T s))) (.int 2) = some (.str (T m)) := fun h => f_ixL (i := 2) rfl
        show _ = R.ok (D.bl (true && (!decide (w = wLeft) && begun m))) h
        exact k_andV (vl 3) fun _ => k_andV (q_op (q_op q_var q_c (iw _)) q_c (by rw [s_left]; exact f_ne)) fun _ => q_call (q_one (q_op q_var q_c (im _))) (e_is_begun g hm.2)
      | m :: m' :: r', _, vl, _ =>
        show _ = R.ok (D.bl (false && false)) h
        exact k_andV ((vl 3).trans (congrArg (fun b => R.ok (D.bl b) h) (decide_eq_false (by simp; omega)))) fun z => by cases z
    · have hc' : ((!decide (w ∈ words)) || !((decide (n = []) && decide (r = [])) || isNum n)) = true := by
        rw [← Bool.not_and]
        simp only [Bool.not_eq_true] at hc
        rw [hc]
        rfl
      refine q_seqR (q_sifT (c0.trans (congrArg (fun b => R.ok b h) hc')) (q_ret ?_))
      have e2 : canP (w :: n :: r) = false := by
        simp only [Bool.not_eq_true] at hc
        simp only [canP, hc, Bool.false_and]
      rw [e2]
      exact q_c
end K52
end
section
set_option maxHeartbeats 1000000
namespace K52
open PySem PySem.Spec PyProof.Rows L2 MR MX
/-- the greatest that holds, 0 where none -/
def gr (P : Nat → Bool) : Nat → Nat
  | 0 => 0
  | n + 1 => if P (n + 1) = true then n + 1 else gr P n
theorem gr_le (P : Nat → Bool) : ∀ n, gr P n ≤ n
  | 0 => Nat.le_refl _
  | n + 1 => by
    unfold gr
    split
    · exact Nat.le_refl _
    · exact Nat.le_succ_of_le (gr_le P n)
theorem gr_holds {P : Nat → Bool} (h0 : P 0 = true) : ∀ n, P (gr P n) = true
  | 0 => h0
  | n + 1 => by
    unfold gr
    split
    · assumption
    · exact gr_holds h0 n
theorem gr_most {P : Nat → Bool} : ∀ {n k : Nat}, k ≤ n → P k = true → k ≤ gr P n
  | 0, k, hk, _ => by omega
  | n + 1, k, hk, hp => by
    unfold gr
    split
    · exact hk
    · rename_i hn
      refine gr_most (n := n) ?_ hp
      by_cases e : k = n + 1
      · subst e
        exact absurd hp hn
      · omega
theorem gr_eq {P : Nat → Bool} {n m : Nat} (h0 : P 0 = true) (hm : m ≤ n) (hp : P m = true) (hn : ∀ k, m < k → k ≤ n → P k = false) : gr P n = m := by
  have h1 := gr_most hm hp
  have h2 := gr_holds h0 n
  by_cases e : m < gr P n
  · rw [hn _ e (gr_le P n)] at h2
    cases h2
  · omega
def mx (s : List Nat) : Nat := gr (fun k => canL (s.take k)) s.length
theorem can_nil : canL [] = true := by decide +kernel
def lgo : List (List Nat) → List D → Nat → List D × Nat
  | [], f, p => (f, p)
  | [s], f, p => (f, p + mx s)
  | s :: t :: r, f, p => match recL s with
    | some rec => lgo (t :: r) (f ++ [.tup rec]) (p + s.length + 1)
    | none => (f, p + mx s)
theorem intsOf_map {α : Type} (g : α → Int) : ∀ l : List α, intsOf (l.map fun a => D.int (g a)) = some (l.map g)
  | [] => rfl
  | a :: r => by
    show (intsOf (r.map fun a => D.int (g a))).map (g a :: ·) = _
    rw [intsOf_map g r]
    rfl
theorem f_maxGr {h : Sto} {s : List Nat} : fMaxL h [.lst (((List.range (s.length + 1)).filter fun k => canL (s.take k)).map fun k => .int (k : Nat))] = some (.int (mx s)) := by
  show ((intsOf (((List.range (s.length + 1)).filter fun k => canL (s.take k)).map fun (k : Nat) => D.int (k : Int))).bind fun ns => if ns = [] then none else some (D.int (maxL ns))) = _
  rw [intsOf_map (fun k : Nat => (k : Int)), Option.bind_some]
  have h0 : (fun k => canL (s.take k)) 0 = true := by simpa using can_nil
  have mem : (mx s : Int) ∈ ((List.range (s.length + 1)).filter fun k => canL (s.take k)).map fun k : Nat => (k : Int) :=
    List.mem_map.mpr ⟨mx s, List.mem_filter.mpr ⟨List.mem_range.mpr (Nat.lt_succ_of_le (gr_le _ _)), gr_holds (P := fun k => canL (s.take k)) h0 s.length⟩, rfl⟩
  rw [if_neg (fun e => by rw [e] at mem; cases mem), maxL_eq mem]
  intro y hy
  obtain ⟨k, hk, rfl⟩ := List.mem_map.mp hy
  obtain ⟨k1, k2⟩ := List.mem_filter.mp hk
  have := gr_most (P := fun k => canL (s.take k)) (n := s.length) (Nat.le_of_lt_succ (List.mem_range.mp k1)) k2
  exact Int.ofNat_le.mpr this
theorem f_addL {h : Sto} {a b : List D} (hl : a.length + b.length ≤ 16777216) : fAdd h (.lst a) (.lst b) = some (.lst (a ++ b)) := if_pos hl
/-! records as data -/
theorem strOk_T {l : List Nat} (hl : ∀ c ∈ l, c < 128) : PyData.strOk (T l) = true := by
  simp only [PyData.strOk, T, List.all_toArray', List.all_eq_true]
  intro c hc
  have := hl c hc
  exact decide_eq_true (by omega)
theorem words_ascii : ∀ w ∈ words, ∀ c ∈ w, c < 128 := by decide +kernel
theorem recL_parts {l : List Nat} {r : List D} (hl : ∀ c ∈ l, c < 128) (h : recL l = some r) : ∃ (w : List Nat) (n : Int), w ∈ words ∧ (r = [.str (T w), .int n] ∨ ∃ m : List Nat, (∀ c ∈ m, c < 128) ∧ m.length ≤ 12 ∧ r = [.str (T w), .int n, .str (T m)]) := by
  unfold recL at h
  have hsub : ∀ p ∈ spl 32 l, ∀ c ∈ p, c < 128 := fun p hp c hc => hl c (spl_sub hp c hc)
  revert h hsub
  generalize spl 32 l = P
  intro h hsub
  match P, h, hsub with
  | [w, n], h, hsub =>
    simp only [recP] at h
    split at h
    · rename_i hc
      simp only [Bool.and_eq_true, decide_eq_true_eq] at hc
      cases h
      exact ⟨w, _, hc.1.1, .inl rfl⟩
    · cases h
  | [w, n, m], h, hsub =>
    simp only [recP] at h
    split at h
    · rename_i hc
      simp only [Bool.and_eq_true, decide_eq_true_eq] at hc
      cases h
      refine ⟨w, _, hc.1.1.1, .inr ⟨m, hsub m (by simp), ?_, rfl⟩⟩
      have := hc.2
      simp only [nameL, begun, Bool.and_eq_true, decide_eq_true_eq] at this
      have := this.2.1.1
      omega
    · cases h
  | [], h, _ => cases h
  | [_], h, _ => cases h
  | _ :: _ :: _ :: _ :: _, h, _ => cases h
theorem rec_flat {l : List Nat} {r : List D} (hl : ∀ c ∈ l, c < 128) (h : recL l = some r) (n : Nat) : D.flat (n + 1) (.tup r) = true := by
  obtain ⟨w, i, hw, e | ⟨m, hm, _, e⟩⟩ := recL_parts hl h
  · subst e
    have := strOk_T (words_ascii w hw)
    cases n <;> simp [D.flat, this]
  · subst e
    have h1 := strOk_T (words_ascii w hw)
    have h2 := strOk_T hm
    cases n <;> simp [D.flat, h1, h2]
theorem rec_nor {l : List Nat} {r : List D} (hl : ∀ c ∈ l, c < 128) (h : recL l = some r) : D.blw 0 (.tup r) = true := by
  obtain ⟨w, i, hw, e | ⟨m, hm, _, e⟩⟩ := recL_parts hl h
  · subst e
    rfl
  · subst e
    rfl
theorem f_eqNil {h : Sto} {l : List Nat} (hl : ∀ c ∈ l, c < 128) : fEq h (optD (recL l)) (.lst []) = some (.bl (decide (recL l = none))) := by
  cases q : recL l with
  | none =>
    show (if (D.flat 60 (.lst []) && D.flat 60 (.lst [])) = true then some (D.bl (deq (.lst []) (.lst []))) else none) = _
    rw [if_pos (show (D.flat 60 (.lst []) && D.flat 60 (.lst [])) = true from rfl)]
    rfl
  | some r =>
    show (if (D.flat 60 (.lst [.tup r]) && D.flat 60 (.lst [])) = true then some (D.bl (deq (.lst [.tup r]) (.lst []))) else none) = _
    have : D.flat 60 (.lst [.tup r]) = true := by
      show [D.tup r].all (D.flat 59) = true
      simp [rec_flat hl q 58]
    rw [if_pos (show (D.flat 60 (.lst [.tup r]) && D.flat 60 (.lst [])) = true by rw [this]; rfl)]
    rfl
abbrev lineD (s : List Nat) : D := .str (T s)
theorem q_enum {m : SA} {e : MR.Env} {h h1 : Sto} {l : List D} (ha : m e h = .ok [.lst l] h1) : sEnum m e h = .ok (enumD 0 l) h1 := by
  simp only [sEnum, ha, ev_bind_ok]
theorem q_range1 {m : SA} {e : MR.Env} {h h1 : Sto} {j : Nat} (ha : m e h = .ok [.int (j : Int)] h1) (hj : j ≤ 16777216) : sRange1 m e h = .ok ((List.range j).map fun i => .int (i : Nat)) h1 := by
  simp only [sRange1, ha, ev_bind_ok]
  have c : rngOk (j : Int) = true := by
    unfold rngOk
    rw [decide_eq_true (show -16777216 ≤ (j : Int) by omega), decide_eq_true (show (j : Int) ≤ 16777216 by omega)]
    rfl
  rw [if_pos c]
  unfold rangeD
  rw [Int.toNat_natCast]
  simp only [Int.zero_add]
end K52
end
section
set_option maxHeartbeats 1000000
namespace K52
open PySem PySem.Spec PyProof.Rows L2 MR MX
def goBody : SS :=
  (sSeq (sSet 6 (sIfE (sTest (sOp fLt (sOp fAdd (sVar 4) (sC (.int 1))) (sFn fLen (sCons (sVar 1) sNil)))) (sCall 1 F__law_record (sCons (sVar 5) sNil)) (sLst sNil)))
  (sSeq (sIf (sTest (sOp fEq (sVar 6) (sLst sNil))) (sSeq (sSet 7 (sFn fMaxL (sCons (sLc [8] (sRange1 (sCons (sOp fAdd (sFn fLen (sCons (sVar 5) sNil)) (sC (.int 1))) sNil)) (gN 8) (sTest (sCall 1 F__law_can_be (sCons (sSl (sVar 5) none (some (sVar 8))) sNil))) (sVar 8)) sNil)))
  (sRet (sTup (sCons (sFn fTuple (sCons (sVar 2) sNil)) (sCons (sOp fAdd (sVar 3) (sVar 7)) sNil))))) sNext)
  (sPar 2 3 (sCons (sOp fAdd (sVar 2) (sVar 6)) (sCons (sOp fAdd (sOp fAdd (sVar 3) (sFn fLen (sCons (sVar 5) sNil))) (sC (.int 1))) sNil)))))
theorem f_addN {h : Sto} {a b : Nat} : fAdd h (.int (a : Int)) (.int (b : Int)) = some (.int ((a + b : Nat) : Int)) := rfl
theorem q_many {s : List Nat} {h : Sto} {e : MR.Env} (g : Good h) (hs : ∀ c ∈ s, c < 128) (hz : s.length ≤ 16777000) (h5 : e[5]? = some (some (lineD s))) (h9 : e.length = 9) :
    sFn fMaxL (sCons (sLc [8] (sRange1 (sCons (sOp fAdd (sFn fLen (sCons (sVar 5) sNil)) (sC (.int 1))) sNil)) (gN 8) (sTest (sCall 1 F__law_can_be (sCons (sSl (sVar 5) none (some (sVar 8))) sNil))) (sVar 8)) sNil) e h = .ok (.int (mx s)) h := by
  refine q_fn (q_one (q_lc (fun d => match d with
    | .int i => canL (s.take i.toNat)
    | _ => false) id (q_range1 (j := s.length + 1) (q_one (q_op (q_fn (q_one (q_var h5)) (f_len (by omega))) q_c (f_addN (b := 1)))) (by omega)) g ?_ (by simp; omega))) ?_
  · intro d hd
    obtain ⟨k, hk, rfl⟩ := List.mem_map.mp hd
    have e5 : ((e.set 8 none).set 8 (some (D.int (k : Nat))))[5]? = some (some (lineD s)) := by
      rw [List.getElem?_set_ne (by decide), List.getElem?_set_ne (by decide)]
      exact h5
    have e8 : ((e.set 8 none).set 8 (some (D.int (k : Nat))))[8]? = some (some (.int (k : Nat))) := by
      rw [List.getElem?_set_self (by simp [h9])]
    refine ⟨_, rfl, fun acc' g' => ⟨?_, fun _ => ⟨rfl, q_var e8⟩⟩⟩
    show _ = R.ok (canL (s.take k)) _
    exact q_test (q_call (q_one (q_slTo (q_var e5) (q_var e8) (f_slTo (by omega)))) (e_can_be g' (fun c hc => hs c (List.mem_of_mem_take hc)) (by rw [List.length_take]; omega)))
  · rw [List.filter_map, List.map_id]
    exact f_maxGr
theorem go_loop {lines : List (List Nat)} {t : D} {h : Sto} (g : Good h) : ∀ (rest : List (List Nat)) (k : Nat) (f : List D) (p : Nat) (a4 a5 a6 a7 a8 : Option D), rest ≠ [] → k + rest.length = lines.length → (∀ s ∈ rest, (∀ c ∈ s, c < 128) ∧ s.length ≤ 16777000) → f.length + rest.length ≤ 16777000 →
    forL (gT [4, 5]) goBody (enumD k (rest.map lineD)) [some t, some (.lst (lines.map lineD)), some (.lst f), some (.int (p : Nat)), a4, a5, a6, a7, a8] h = .ok (.rt (.tup [.tup (lgo rest f p).1, .int ((lgo rest f p).2 : Nat)])) h
  | [], _, _, _, _, _, _, _, _, hne, _, _, _ => absurd rfl hne
  | s :: r, k, f, p, a4, a5, a6, a7, a8, _, hk, hs, hf => by
    have hs1 := hs s (by simp)
    simp only [List.map_cons, enumD, forL, gT, setAll]
    -- the state with the line in its slot
    have hgo : goBody [some t, some (.lst (lines.map lineD)), some (.lst f), some (.int (p : Nat)), some (.int (k : Nat)), some (lineD s), a6, a7, a8] h =
        (if r = [] ∨ recL s = none then .ok (.rt (.tup [.tup f, .int ((p + mx s : Nat) : Int)])) h
         else .ok (.nx [some t, some (.lst (lines.map lineD)), some (.lst (f ++ (match recL s with | some q => [.tup q] | none => []))), some (.int ((p + s.length + 1 : Nat) : Int)), some (.int (k : Nat)), some (lineD s), some (optD (recL s)), a7, a8]) h) := by
      have c1 : sTest (sOp fLt (sOp fAdd (sVar 4) (sC (.int 1))) (sFn fLen (sCons (sVar 1) sNil))) [some t, some (.lst (lines.map lineD)), some (.lst f), some (.int (p : Nat)), some (.int (k : Nat)), some (lineD s), a6, a7, a8] h = .ok (!decide (r = [])) h := by
        refine q_test (q_op (q_op q_var q_c (f_addN (b := 1))) (q_fn (q_one q_var) f_lenL) ?_)
        show some (D.bl (decide (((k + 1 : Nat) : Int) < ((lines.map lineD).length : Nat)))) = _
        congr 2
        rw [List.length_map, ← hk, ← decide_not, decide_eq_decide]
        cases r <;> simp
        omega
      have fin : ∀ d6, (sSeq (sSet 7 (sFn fMaxL (sCons (sLc [8] (sRange1 (sCons (sOp fAdd (sFn fLen (sCons (sVar 5) sNil)) (sC (.int 1))) sNil)) (gN 8) (sTest (sCall 1 F__law_can_be (sCons (sSl (sVar 5) none (some (sVar 8))) sNil))) (sVar 8)) sNil)))
          (sRet (sTup (sCons (sFn fTuple (sCons (sVar 2) sNil)) (sCons (sOp fAdd (sVar 3) (sVar 7)) sNil))))) [some t, some (.lst (lines.map lineD)), some (.lst f), some (.int (p : Nat)), some (.int (k : Nat)), some (lineD s), d6, a7, a8] h = .ok (.rt (.tup [.tup f, .int ((p + mx s : Nat) : Int)])) h := fun d6 =>
        q_seq (q_set (q_many g hs1.1 hs1.2 rfl rfl)) (q_ret (q_tup (q_cons (q_fn (q_one q_var) rfl) (q_one (q_op q_var q_var f_addN)))))
      by_cases hr : r = []
      · rw [if_pos (.inl hr)]
        refine q_seq (q_set (q_ifF (c1.trans (congrArg (fun b => R.ok b h) (by simp [hr]))) (q_lst q_nil))) (q_seqR (q_sifT (q_test (q_op q_var (q_lst q_nil) (f_eqNil (l := []) (fun c hc => by cases hc)))) (fin _)))
      · have st := q_set (i := 6) (q_ifT (b := sLst sNil) (c1.trans (congrArg (fun b => R.ok b h) (by simp [hr]))) (q_call (q_one (q_var (i := 5))) (e_record g hs1.1 hs1.2)))
        by_cases hn : recL s = none
        · rw [if_pos (.inr hn)]
          exact q_seq st (q_seqR (q_sifT (q_test (q_op q_var (q_lst q_nil) ((f_eqNil hs1.1).trans (by rw [hn]; rfl)))) (fin _)))
        · rw [if_neg (by simp [hr, hn])]
          refine q_seq st (q_seq (q_sifF (q_test (q_op q_var (q_lst q_nil) ((f_eqNil hs1.1).trans (by simp [hn])))) rfl) ?_)
          cases q : recL s with
          | none => exact absurd q hn
          | some rec =>
            simp only [List.length_cons] at hf
            refine q_par (q_cons (q_op q_var q_var (f_addL (b := [.tup rec]) (by simp; omega))) (q_one (q_op (q_op q_var (q_fn (q_one q_var) (f_len (by omega))) f_addN) q_c (f_addN (b := 1)))))
    show (R.bind (goBody [some t, some (.lst (lines.map lineD)), some (.lst f), some (.int (p : Nat)), some (.int (k : Nat)), some (lineD s), a6, a7, a8] h) _) = _
    rw [hgo]
    by_cases hr : r = []
    · subst hr
      rw [if_pos (.inl rfl)]
      rfl
    · obtain ⟨t2, r2, rfl⟩ : ∃ t2 r2, r = t2 :: r2 := by
        cases r with
        | nil => exact absurd rfl hr
        | cons t2 r2 => exact ⟨t2, r2, rfl⟩
      cases q : recL s with
      | none =>
        rw [if_pos (.inr rfl)]
        simp only [lgo, q]
        rfl
      | some rec =>
        rw [if_neg (by simp)]
        simp only [ev_bind_ok]
        simp only [List.length_cons] at hk hf
        refine (go_loop (lines := lines) (t := t) g (t2 :: r2) (k + 1) (f ++ [D.tup rec]) (p + s.length + 1) _ _ _ _ _ (by simp) (by simp; omega) (fun x hx => hs x (List.mem_cons_of_mem _ hx)) (by simp; omega)).trans ?_
        simp only [lgo, q]
theorem e_law_gone {l : List Nat} {h : Sto} (g : Good h) (hl : ∀ c ∈ l, c < 128) (hz : l.length ≤ 16776000) : F__law_gone_over [.str (T l)] h = .ok (.tup [.tup (lgo (spl 10 l) [] 0).1, .int ((lgo (spl 10 l) [] 0).2 : Nat)]) h := by
  refine run_rt (q_seq (q_par (q_cons (q_lst q_nil) (q_one q_c))) (q_seq (q_set (q_m1 q_var q_c (by rw [s_nl]; exact f_split (by omega)))) (q_seqR ((q_for (q_enum (q_one q_var))).trans ?_))))
  exact go_loop g (spl 10 l) 0 [] 0 _ _ _ _ _ (by
    obtain ⟨p, ps, e⟩ := spl_ne 10 l
    rw [e]
    simp) (by simp) (fun s hs => ⟨fun c hc => hl c (spl_sub hs c hc), Nat.le_trans (spl_len hs) (by omega)⟩) (by
    have := spl_many (c := 10) l
    simp
    omega)
end K52
end
section
set_option maxHeartbeats 1000000
namespace K52
open PySem PySem.Spec PyProof.Rows L2 MR MX
theorem q_whF {c : SB} {b : SS} {n : Nat} {e : MR.Env} {h : Sto} (hc : c e h = .ok false h) : sWhile c b (n + 1) e h = .ok (.nx e) h := by
  simp only [sWhile, hc, ev_in_ok, ev_bind_ok, Bool.false_eq_true, if_false]
theorem q_whT {c : SB} {b : SS} {n : Nat} {e e2 : MR.Env} {h h1 h2 : Sto} (hc : c e h = .ok true h1) (hb : b e h1 = .ok (.nx e2) h2) : sWhile c b (n + 1) e h = sWhile c b n e2 h2 := by
  simp only [sWhile, hc, ev_in_ok, ev_bind_ok, if_true, hb]
theorem f_sl2 {h : Sto} {l : List Nat} {i j : Nat} (hl : l.length ≤ 16777216) : fSl h (.str (T l)) (some (i : Int)) (some (j : Int)) = some (.str (T ((l.drop i).take (j - i)))) := by
  rw [f_sl hl, List.drop_take]
theorem f_iaddN {h : Sto} {a b : Nat} : fIadd h (.int (a : Int)) (.int (b : Int)) = some (.int ((a + b : Nat) : Int)) := rfl
theorem f_ltN {h : Sto} {a b : Nat} : fLt h (.int (a : Int)) (.int (b : Int)) = some (.bl (decide (a < b))) := by
  show some (D.bl (decide ((a : Int) < (b : Int)))) = _
  congr 2
  rw [decide_eq_decide]
  omega
theorem f_eqN {h : Sto} {a b : Nat} : fEq h (.int (a : Int)) (.int (b : Int)) = some (.bl (decide (a = b))) := by
  rw [f_eqI]
  congr 2
  rw [decide_eq_decide]
  omega
/-- how far two texts go alike -/
def lcp : List Nat → List Nat → Nat
  | a :: x, b :: y => if a = b then lcp x y + 1 else 0
  | _, _ => 0
theorem lcp_nil (w : List Nat) : lcp [] w = 0 := by cases w <;> rfl
theorem lcp_nil2 (w : List Nat) : lcp w [] = 0 := by cases w <;> rfl
def alC : SB := (sAnd (sTest (sOp fLt (sVar 3) (sFn fLen (sCons (sVar 2) sNil)))) (sTest (sOp fEq (sSl (sVar 0) (some (sOp fAdd (sVar 1) (sVar 3))) (some (sOp fAdd (sOp fAdd (sVar 1) (sVar 3)) (sC (.int 1))))) (sOp fIx (sVar 2) (sVar 3)))))
def alB : SS := (sAug 3 fIadd (sC (.int 1)))
theorem al_loop {t w : List Nat} {p : Nat} {h : Sto} (ht : t.length ≤ 16776000) (hw : w.length ≤ 16776000) : ∀ (n k : Nat), k ≤ w.length → w.length < n + k →
    sWhile alC alB n [some (.str (T t)), some (.int (p : Nat)), some (.str (T w)), some (.int (k : Nat))] h = .ok (.nx [some (.str (T t)), some (.int (p : Nat)), some (.str (T w)), some (.int ((k + lcp (t.drop (p + k)) (w.drop k) : Nat) : Int))]) h
  | 0, k, hk, hn => by omega
  | n + 1, k, hk, hn => by
    have c1 : sTest (sOp fLt (sVar 3) (sFn fLen (sCons (sVar 2) sNil))) [some (.str (T t)), some (.int (p : Nat)), some (.str (T w)), some (.int (k : Nat))] h = .ok (decide (k < w.length)) h :=
      q_test (q_op q_var (q_fn (q_one q_var) (f_len (by omega))) f_ltN)
    by_cases hk2 : k < w.length
    · have c2 : alC [some (.str (T t)), some (.int (p : Nat)), some (.str (T w)), some (.int (k : Nat))] h = .ok (true && decide ((t.drop (p + k)).take 1 = [w[k]])) h := by
        refine k_and (c1.trans (congrArg (fun b => R.ok b h) (decide_eq_true hk2))) fun _ => q_test (q_op (q_sl2 (d := .str (T ((t.drop (p + k)).take 1))) q_var (q_op q_var q_var f_addN) (q_op (q_op q_var q_var f_addN) q_c (f_addN (b := 1))) ?_) (q_op q_var q_var (f_ix (by omega) hk2)) f_eq)
        rw [f_sl2 (by omega), show p + k + 1 - (p + k) = 1 by omega]
      have ew : w.drop k = w[k] :: w.drop (k + 1) := List.drop_eq_getElem_cons hk2
      by_cases he : (t.drop (p + k)).take 1 = [w[k]]
      · obtain ⟨r, et⟩ : ∃ r, t.drop (p + k) = w[k] :: r := by
          cases q : t.drop (p + k) with
          | nil =>
            rw [q] at he
            cases he
          | cons c r =>
            rw [q] at he
            simp at he
            exact ⟨r, by rw [he]⟩
        have er : t.drop (p + (k + 1)) = r := by
          rw [show p + (k + 1) = (p + k) + 1 by omega, ← List.drop_drop, et]
          rfl
        refine (q_whT (c := alC) (b := alB) (n := n) (c2.trans (congrArg (fun b => R.ok b h) (by rw [decide_eq_true he]; rfl))) (q_aug (i := 3) rfl q_c (f_iaddN (b := 1)))).trans ?_
        refine (al_loop ht hw n (k + 1) hk2 (by omega)).trans ?_
        have ee : k + lcp (t.drop (p + k)) (w.drop k) = k + 1 + lcp r (w.drop (k + 1)) := by
          rw [et, ew]
          simp only [lcp, if_true]
          omega
        rw [er, ee]
      · rw [q_whF (c2.trans (congrArg (fun b => R.ok b h) (by rw [decide_eq_false he]; rfl)))]
        have : lcp (t.drop (p + k)) (w.drop k) = 0 := by
          rw [ew]
          cases q : t.drop (p + k) with
          | nil => rfl
          | cons c r =>
            rw [q] at he
            simp only [lcp]
            rw [if_neg]
            intro z
            exact he (by simp [z])
        rw [this]
        rfl
    · have c2 : alC [some (.str (T t)), some (.int (p : Nat)), some (.str (T w)), some (.int (k : Nat))] h = .ok (false && false) h :=
        k_and (c1.trans (congrArg (fun b => R.ok b h) (decide_eq_false hk2))) fun z => by cases z
      rw [q_whF c2]
      rw [List.drop_eq_nil_of_le (show w.length ≤ k by omega), lcp_nil2]
      rfl
theorem e_alike {t w : List Nat} {p : Nat} {h : Sto} (ht : t.length ≤ 16776000) (hw : w.length ≤ 4000) : F_alike_signs [.str (T t), .int (p : Nat), .str (T w)] h = .ok (.int (lcp (t.drop p) w : Nat)) h := by
  refine run_rt (q_seq (q_set q_c) (q_seq (al_loop ht (by omega) 4096 0 (by omega) (by omega)) (q_ret ?_)))
  have e : ((0 + lcp (t.drop (p + 0)) (w.drop 0) : Nat) : Int) = (lcp (t.drop p) w : Nat) := by simp
  rw [e]
  exact q_var
/-! ### word_end -/
def wend (u : List Nat) : List (List Nat) → Nat → Nat × Option (List Nat)
  | [], best => (best, none)
  | w :: ws, best => if lcp u (w ++ [32]) = w.length + 1 then (lcp u (w ++ [32]), some w) else wend u ws (max best (lcp u (w ++ [32])))
def optS : Option (List Nat) → D
  | some w => .str (T w)
  | none => .non
theorem f_max {h : Sto} {a b : Nat} : fMax2 h [.int (a : Int), .int (b : Int)] = some (.int ((max a b : Nat) : Int)) := by
  show some (D.int (if (b : Int) > (a : Int) then (b : Int) else (a : Int))) = _
  congr 2
  split <;> omega
def weB : SS := sSeq (sSet 4 (sCall 3 F_alike_signs (sCons (sVar 0) (sCons (sVar 1) (sCons (sOp fAdd (sVar 3) (sC (.str " "))) sNil)))))
  (sSeq (sIf (sTest (sOp fEq (sVar 4) (sOp fAdd (sFn fLen (sCons (sVar 3) sNil)) (sC (.int 1))))) (sRet (sTup (sCons (sOp fAdd (sVar 1) (sVar 4)) (sCons (sVar 3) sNil)))) sNext)
  (sSet 2 (sFn fMax2 (sCons (sVar 2) (sCons (sVar 4) sNil)))))
def weR : SS := sRet (sTup (sCons (sOp fAdd (sVar 1) (sVar 2)) (sCons (sC .non) sNil)))
/-- what comes behind -/
def andThen (b : SS) (r : R Fl) : R Fl := r.bind fun f h1 => match f with | .nx e1 => b e1 h1 | f => .ok f h1
theorem q_then {a b : SS} {e : MR.Env} {h : Sto} : sSeq a b e h = andThen b (a e h) := rfl
theorem we_loop {t : List Nat} {p : Nat} {h : Sto} (ht : t.length ≤ 16776000) : ∀ (ws : List (List Nat)) (best : Nat) (a3 a4 : Option D), (∀ w ∈ ws, w.length ≤ 3000) →
    andThen weR (forL (gN 3) weB (ws.map lineD) [some (.str (T t)), some (.int (p : Nat)), some (.int (best : Nat)), a3, a4] h) = .ok (.rt (.tup [.int ((p + (wend (t.drop p) ws best).1 : Nat) : Int), optS (wend (t.drop p) ws best).2])) h
  | [], best, a3, a4, _ => by
    show weR [some (.str (T t)), some (.int (p : Nat)), some (.int (best : Nat)), a3, a4] h = .ok (.rt (.tup [.int ((p + best : Nat) : Int), .non])) h
    exact q_ret (q_tup (q_cons (q_op q_var q_var f_addN) (q_one q_c)))
  | w :: ws, best, a3, a4, hw => by
    have hw1 := hw w (by simp)
    simp only [List.map_cons, forL, gN]
    have st : sSet 4 (sCall 3 F_alike_signs (sCons (sVar 0) (sCons (sVar 1) (sCons (sOp fAdd (sVar 3) (sC (.str " "))) sNil)))) [some (.str (T t)), some (.int (p : Nat)), some (.int (best : Nat)), some (lineD w), a4] h =
        .ok (.nx [some (.str (T t)), some (.int (p : Nat)), some (.int (best : Nat)), some (lineD w), some (.int (lcp (t.drop p) (w ++ [32]) : Nat))]) h :=
      q_set (q_call (q_cons q_var (q_cons q_var (q_one (q_op q_var q_c (by rw [s_sp]; exact f_add (by simp; omega)))))) (e_alike ht (by simp; omega)))
    have c1 : sTest (sOp fEq (sVar 4) (sOp fAdd (sFn fLen (sCons (sVar 3) sNil)) (sC (.int 1)))) [some (.str (T t)), some (.int (p : Nat)), some (.int (best : Nat)), some (lineD w), some (.int (lcp (t.drop p) (w ++ [32]) : Nat))] h = .ok (decide (lcp (t.drop p) (w ++ [32]) = w.length + 1)) h :=
      q_test (q_op q_var (q_op (q_fn (q_one q_var) (f_len (by omega))) q_c (f_addN (b := 1))) f_eqN)
    by_cases hm : lcp (t.drop p) (w ++ [32]) = w.length + 1
    · have b1 : weB [some (.str (T t)), some (.int (p : Nat)), some (.int (best : Nat)), some (lineD w), a4] h = .ok (.rt (.tup [.int ((p + lcp (t.drop p) (w ++ [32]) : Nat) : Int), .str (T w)])) h :=
        q_seq st (q_seqR (q_sifT (c1.trans (congrArg (fun b => R.ok b h) (decide_eq_true hm))) (q_ret (q_tup (q_cons (q_op q_var q_var f_addN) (q_one q_var))))))
      show andThen weR (R.bind (weB [some (.str (T t)), some (.int (p : Nat)), some (.int (best : Nat)), some (lineD w), a4] h) _) = _
      rw [b1]
      simp only [wend, if_pos hm]
      rfl
    · have b1 : weB [some (.str (T t)), some (.int (p : Nat)), some (.int (best : Nat)), some (lineD w), a4] h = .ok (.nx [some (.str (T t)), some (.int (p : Nat)), some (.int ((max best (lcp (t.drop p) (w ++ [32])) : Nat) : Int)), some (lineD w), some (.int (lcp (t.drop p) (w ++ [32]) : Nat))]) h :=
        q_seq st (q_seq (q_sifF (c1.trans (congrArg (fun b => R.ok b h) (decide_eq_false hm))) rfl) (q_set (q_fn (q_cons q_var (q_one q_var)) f_max)))
      show andThen weR (R.bind (weB [some (.str (T t)), some (.int (p : Nat)), some (.int (best : Nat)), some (lineD w), a4] h) _) = _
      rw [b1]
      simp only [wend, if_neg hm]
      exact we_loop ht ws _ _ _ fun x hx => hw x (List.mem_cons_of_mem _ hx)
theorem k_words : (k_WORDS_journaltexts.map D.str) = words.map lineD := by
  unfold k_WORDS_journaltexts
  rw [s_try, s_undo, s_done, s_failed, s_undone, s_left]
  rfl
theorem e_word_end {t : List Nat} {p : Nat} {h : Sto} (ht : t.length ≤ 16776000) : F_word_end [.str (T t), .int (p : Nat)] h = .ok (.tup [.int ((p + (wend (t.drop p) words 0).1 : Nat) : Int), optS (wend (t.drop p) words 0).2]) h := by
  refine run_rt (q_seq (q_set q_c) (q_then.trans ?_))
  rw [k_words, q_for (q_itemsT q_c)]
  exact we_loop ht words 0 none none (by decide +kernel)
/-! ### number_end -/
def nlen : List Nat → Nat
  | c :: r => if dig c = true then (if c = 48 then 1 else match r with
    | d :: _ => if dig d = true then 2 else 1
    | [] => 1) else 0
  | [] => 0
def nend (u : List Nat) (z : Nat) : Nat × Option Int := if nlen u = 0 ∨ (u.drop (nlen u)).take 1 ≠ [z] then (nlen u, none) else (nlen u + 1, some (numV (u.take (nlen u))))
def optI : Option Int → D
  | some i => .int i
  | none => .non
def nuC : SB := (sAnd (sTest (sOp fLt (sVar 3) (sFn fLen (sCons (sVar 0) sNil)))) (sAnd (sTest (sOp fLt (sVar 3) (sOp fAdd (sVar 1) (sC (.int 2))))) (sAnd (sTest (sOp fIn (sOp fIx (sVar 0) (sVar 3)) (sC (.str "0123456789")))) (sTest (sOp fNe (sSl (sVar 0) (some (sVar 1)) (some (sVar 3))) (sC (.str "0")))))))
def nuB : SS := (sAug 3 fIadd (sC (.int 1)))
theorem dig_in {c : Nat} : decide (c ∈ digs) = dig c := by
  unfold dig digs
  rw [decide_eq_decide]
  simp
  omega
theorem nu_c {t : List Nat} {p k : Nat} {z : D} {h : Sto} (ht : t.length ≤ 16776000) : nuC [some (.str (T t)), some (.int (p : Nat)), some z, some (.int ((p + k : Nat) : Int))] h =
    .ok (decide (p + k < t.length) && (decide (k < 2) && ((match t.drop (p + k) with | c :: _ => dig c | [] => false) && !decide ((t.drop p).take k = [48])))) h := by
  refine k_and (q_test (q_op q_var (q_fn (q_one q_var) (f_len (by omega))) f_ltN)) fun h1 => k_and (q_test (q_op q_var (q_op q_var q_c (f_addN (b := 2))) ?_)) fun h2 => k_and (q_test (q_op (q_op q_var q_var (f_ix (by omega) (by simpa using h1))) q_c (by rw [s_digs]; refine f_in1.trans ?_; rw [dig_in]; congr 2; rw [List.drop_eq_getElem_cons (by simpa using h1)])) ) fun h3 =>
    q_test (q_op (q_sl2 (d := .str (T ((t.drop p).take k))) q_var q_var q_var (by rw [f_sl2 (by omega), show p + k - p = k by omega])) q_c (by rw [s_0]; exact f_ne))
  rw [f_ltN]
  congr 2
  rw [decide_eq_decide]
  omega
end K52
end
section
set_option maxHeartbeats 1000000
namespace K52
open PySem PySem.Spec PyProof.Rows L2 MR MX
def nuG (u : List Nat) (k : Nat) : Bool := match u.drop k with
  | c :: _ => decide (k < 2) && (dig c && !decide (u.take k = [48]))
  | [] => false
theorem lt_drop {t : List Nat} {p k : Nat} : decide (p + k < t.length) = !((t.drop p).drop k).isEmpty := by
  rw [List.drop_drop]
  by_cases h : p + k < t.length
  · rw [decide_eq_true h, List.drop_eq_getElem_cons h]
    rfl
  · rw [decide_eq_false h, List.drop_eq_nil_of_le (by omega)]
    rfl
theorem nu_c2 {t : List Nat} {p k : Nat} {z : D} {h : Sto} (ht : t.length ≤ 16776000) : nuC [some (.str (T t)), some (.int (p : Nat)), some z, some (.int ((p + k : Nat) : Int))] h = .ok (nuG (t.drop p) k) h := by
  rw [nu_c ht, lt_drop]
  congr 1
  unfold nuG
  rw [List.drop_drop]
  cases t.drop (p + k) with
  | nil => rfl
  | cons c r => rfl
theorem nu_go {t : List Nat} {p k n : Nat} {z : D} {h : Sto} (ht : t.length ≤ 16776000) (hg : nuG (t.drop p) k = true) :
    sWhile nuC nuB (n + 1) [some (.str (T t)), some (.int (p : Nat)), some z, some (.int ((p + k : Nat) : Int))] h = sWhile nuC nuB n [some (.str (T t)), some (.int (p : Nat)), some z, some (.int ((p + (k + 1) : Nat) : Int))] h :=
  q_whT (c := nuC) (b := nuB) ((nu_c2 ht).trans (congrArg (fun b => R.ok b h) hg)) (q_aug (i := 3) rfl q_c (f_iaddN (b := 1)))
theorem nu_stop {t : List Nat} {p k n : Nat} {z : D} {h : Sto} (ht : t.length ≤ 16776000) (hg : nuG (t.drop p) k = false) :
    sWhile nuC nuB (n + 1) [some (.str (T t)), some (.int (p : Nat)), some z, some (.int ((p + k : Nat) : Int))] h = .ok (.nx [some (.str (T t)), some (.int (p : Nat)), some z, some (.int ((p + k : Nat) : Int))]) h :=
  q_whF (c := nuC) (b := nuB) ((nu_c2 ht).trans (congrArg (fun b => R.ok b h) hg))
theorem nu_loop {t : List Nat} {p n : Nat} {z : D} {h : Sto} (ht : t.length ≤ 16776000) :
    sWhile nuC nuB (n + 3) [some (.str (T t)), some (.int (p : Nat)), some z, some (.int ((p + 0 : Nat) : Int))] h = .ok (.nx [some (.str (T t)), some (.int (p : Nat)), some z, some (.int ((p + nlen (t.drop p) : Nat) : Int))]) h := by
  generalize hu : t.drop p = u
  match u, hu with
  | [], hu => exact nu_stop ht (by rw [hu]; rfl)
  | c :: r, hu =>
    by_cases h1 : dig c = true
    · rw [nu_go ht (by rw [hu]; simp [nuG, h1])]
      by_cases h2 : c = 48
      · rw [nu_stop ht (by rw [hu]; subst h2; cases r <;> simp [nuG])]
        simp [nlen, h2, show dig 48 = true from by decide]
      · match r, hu with
        | [], hu =>
          rw [nu_stop ht (by rw [hu]; rfl)]
          simp [nlen, h1, h2]
        | d :: r', hu =>
          by_cases h3 : dig d = true
          · rw [nu_go ht (by rw [hu]; simp [nuG, h2, h3]), nu_stop ht (by rw [hu]; cases r' <;> simp [nuG])]
            simp [nlen, h1, h2, h3]
          · rw [nu_stop ht (by rw [hu]; simp [nuG, h3])]
            simp [nlen, h1, h2, h3]
    · rw [nu_stop ht (by rw [hu]; simp [nuG, h1])]
      simp [nlen, h1]
theorem nlen_cons (c : Nat) (r : List Nat) : nlen (c :: r) = (if dig c = true then (if c = 48 then 1 else match r with
  | d :: _ => if dig d = true then 2 else 1
  | [] => 1) else 0) := rfl
theorem nlen_num : ∀ u : List Nat, nlen u ≠ 0 → isNum (u.take (nlen u)) = true
  | [], h => absurd rfl h
  | c :: r, h => by
    rw [nlen_cons] at h ⊢
    by_cases h1 : dig c = true
    · rw [if_pos h1] at h ⊢
      by_cases h2 : c = 48
      · rw [if_pos h2]
        subst h2
        rfl
      · rw [if_neg h2]
        match r with
        | [] => simp [isNum, h1, h2]
        | d :: r' =>
          by_cases h3 : dig d = true
          · simp [isNum, h1, h2, h3]
          · simp [isNum, h1, h2, h3]
    · rw [if_neg h1] at h
      exact absurd rfl h
theorem e_number_end {t : List Nat} {p z : Nat} {h : Sto} (ht : t.length ≤ 16776000) : F_number_end [.str (T t), .int (p : Nat), .str (T [z])] h = .ok (.tup [.int ((p + (nend (t.drop p) z).1 : Nat) : Int), optI (nend (t.drop p) z).2]) h := by
  have c1 : sOr (sTest (sOp fEq (sVar 3) (sVar 1))) (sTest (sOp fNe (sSl (sVar 0) (some (sVar 3)) (some (sOp fAdd (sVar 3) (sC (.int 1))))) (sVar 2))) [some (.str (T t)), some (.int (p : Nat)), some (.str (T [z])), some (.int ((p + nlen (t.drop p) : Nat) : Int))] h =
      .ok (decide (nlen (t.drop p) = 0) || !decide (((t.drop p).drop (nlen (t.drop p))).take 1 = [z])) h := by
    refine k_or (q_test (q_op q_var q_var ?_)) fun _ => q_test (q_op (q_sl2 (d := .str (T (((t.drop p).drop (nlen (t.drop p))).take 1))) q_var q_var (q_op q_var q_c (f_addN (b := 1))) ?_) q_var f_ne)
    · rw [f_eqN]
      congr 2
      rw [decide_eq_decide]
      omega
    · rw [f_sl2 (by omega), List.drop_drop, show p + nlen (t.drop p) + 1 - (p + nlen (t.drop p)) = 1 by omega]
  refine run_rt (q_seq (q_set q_var) (q_seq (nu_loop (n := 4093) ht) ?_))
  by_cases hc : nlen (t.drop p) = 0 ∨ ((t.drop p).drop (nlen (t.drop p))).take 1 ≠ [z]
  · have e : nend (t.drop p) z = (nlen (t.drop p), none) := if_pos hc
    rw [e]
    refine q_seqR (q_sifT (c1.trans (congrArg (fun b => R.ok b h) (by simpa using hc))) (q_ret (q_tup (q_cons q_var (q_one q_c)))))
  · have e : nend (t.drop p) z = (nlen (t.drop p) + 1, some (numV ((t.drop p).take (nlen (t.drop p))))) := if_neg hc
    rw [e]
    have hn : nlen (t.drop p) ≠ 0 := fun z => hc (.inl z)
    refine q_seq (q_sifF (c1.trans (congrArg (fun b => R.ok b h) (by simpa using hc))) rfl) (q_ret (q_tup (q_cons (q_op q_var q_c (f_addN (b := 1))) (q_one (q_fn (q_one (q_sl2 (d := .str (T ((t.drop p).take (nlen (t.drop p))))) q_var q_var q_var ?_)) (f_int (nlen_num _ hn)))))))
    rw [f_sl2 (by omega), show p + nlen (t.drop p) - p = nlen (t.drop p) by omega]
/-! ### name_end -/
def nmlen : List Nat → Nat
  | c :: r => if lt c = true then 1 + ((r.take 11).takeWhile an).length else 0
  | [] => 0
def isNm (l : List Nat) : Bool := (decide (0 < l.length) && decide (l.length ≤ 12)) && (!decide (l ∈ noNames) && ((l.take 1).all lt && l.all an))
def mend (u : List Nat) : Nat × Option (List Nat) := if (u.drop (nmlen u)).take 1 ≠ [10] ∨ isNm (u.take (nmlen u)) = false then (nmlen u, none) else (nmlen u + 1, some (u.take (nmlen u)))
theorem k_names : (k_WORDS_checks.map D.str) = noNames.map lineD := by
  unfold k_WORDS_checks
  rw [s_plans, s_plan, s_deed, s_child, s_row, s_side, s_else, s_undo, s_sure]
  rfl
theorem q_chainLL {h : Sto} {e : MR.Env} {a b c : SE} {i j k : Nat} (ha : a e h = .ok (.int (i : Nat)) h) (hb : b e h = .ok (.int (j : Nat)) h) (hc : c e h = .ok (.int (k : Nat)) h) : sChain fLt fLe a b c e h = .ok (.bl (decide (i < j) && decide (j ≤ k))) h := by
  simp only [sChain, ha, hb, hc, ev_bind_ok, f_ltN, ev_of_some]
  cases decide (i < j) with
  | false => rfl
  | true =>
    simp only [ev_bind_ok, hc, Bool.true_and]
    show R.of (some (D.bl (decide ((j : Int) ≤ (k : Int))))) h = _
    rw [ev_of_some, show decide ((j : Int) ≤ (k : Int)) = decide (j ≤ k) by rw [decide_eq_decide]; omega]
theorem e_is_name {l : List Nat} {h : Sto} (g : Good h) (hz : l.length ≤ 16776000) : F_is_name [.str (T l)] h = .ok (.bl (isNm l)) h := by
  have c1 : sOr (sNot (sTest (sIsi "str" (sVar 0)))) (sOr (sNot (sTest (sChain fLt fLe (sC (.int 0)) (sFn fLen (sCons (sVar 0) sNil)) (sC (.int 12))))) (sTest (sOp fIn (sVar 0) (sC (.tup (k_WORDS_checks.map D.str)))))) [some (.str (T l)), none] h =
      .ok (!true || (!(decide (0 < l.length) && decide (l.length ≤ 12)) || decide (l ∈ noNames))) h :=
    k_or (q_not (q_test (q_isi (S' := "str") q_var rfl (by decide +kernel)))) fun _ => k_or (q_not (q_test (q_chainLL q_c (q_fn (q_one q_var) (f_len (by omega))) q_c))) fun _ => q_test (q_op q_var q_c (by rw [k_names]; exact f_inT))
  by_cases hc : (!(decide (0 < l.length) && decide (l.length ≤ 12)) || decide (l ∈ noNames)) = true
  · have e : isNm l = false := by
      unfold isNm
      revert hc
      cases (decide (0 < l.length) && decide (l.length ≤ 12)) <;> cases decide (l ∈ noNames) <;> simp
    rw [e]
    exact run_rt (q_seqR (q_sifT (c1.trans (congrArg (fun b => R.ok b h) (by rw [hc]; rfl))) (q_ret q_c)))
  · simp only [Bool.not_eq_true] at hc
    refine run_rt (q_seq (q_sifF (c1.trans (congrArg (fun b => R.ok b h) (by rw [hc]; rfl))) rfl) (q_ret ?_))
    have e : isNm l = ((l.take 1).all lt && l.all an) := by
      unfold isNm
      revert hc
      cases (decide (0 < l.length) && decide (l.length ≤ 12)) <;> cases decide (l ∈ noNames) <;> simp
    rw [e]
    cases l with
    | nil => simp at hc
    | cons c r =>
      refine k_andV (q_op (q_op q_var q_c (f_ix0 (by omega))) q_c (by rw [s_lets, f_in1]; simp [lt])) fun _ => q_fn (q_one (q_lc0 (fun d => match d with
        | .str s => .bl (an (s.cps.toList.headD 0))
        | d => d) (q_itemsS (l := c :: r) q_var) g ?_ (by rw [List.length_map]; omega))) ?_
      · intro d hd
        obtain ⟨x, hx, rfl⟩ := List.mem_map.mp hd
        refine ⟨_, rfl, rfl, fun acc' g' => q_op q_var (q_op q_c q_c (by rw [s_lets, s_digs]; exact f_add (by decide))) f_in1⟩
      · rw [List.map_map]
        exact f_allB (g := an)
end K52
end
section
set_option maxHeartbeats 1000000
namespace K52
open PySem PySem.Spec PyProof.Rows L2 MR MX
def naC : SB := (sAnd (sTest (sOp fLt (sVar 2) (sFn fLen (sCons (sVar 0) sNil)))) (sAnd (sTest (sOp fLt (sVar 2) (sOp fAdd (sVar 1) (sC (.int 12))))) (sTest (sOp fIn (sOp fIx (sVar 0) (sVar 2)) (sIfE (sTest (sOp fEq (sVar 2) (sVar 1))) (sC (.str "abcdefghijklmnopqrstuvwxyz")) (sOp fAdd (sC (.str "abcdefghijklmnopqrstuvwxyz")) (sC (.str "0123456789"))))))))
def naB : SS := (sAug 2 fIadd (sC (.int 1)))
def naG (u : List Nat) (k : Nat) : Bool := match u.drop k with
  | c :: _ => decide (k < 12) && (if k = 0 then lt c else an c)
  | [] => false
theorem na_c {t : List Nat} {p k : Nat} {h : Sto} (ht : t.length ≤ 16776000) : naC [some (.str (T t)), some (.int (p : Nat)), some (.int ((p + k : Nat) : Int))] h = .ok (naG (t.drop p) k) h := by
  have q : naC [some (.str (T t)), some (.int (p : Nat)), some (.int ((p + k : Nat) : Int))] h = .ok (decide (p + k < t.length) && (decide (k < 12) && (match (t.drop p).drop k with | c :: _ => (if k = 0 then lt c else an c) | [] => false))) h := by
    refine k_and (q_test (q_op q_var (q_fn (q_one q_var) (f_len (by omega))) f_ltN)) fun h1 => k_and (q_test (q_op q_var (q_op q_var q_c (f_addN (b := 12))) ?_)) fun h2 => q_test (q_op (q_op q_var q_var (f_ix (by omega) (by simpa using h1))) (k_ifE (p := decide (k = 0)) (x := .str (T lets)) (y := .str (T (lets ++ digs))) (q_test (q_op q_var q_var ?_)) (fun _ => by rw [s_lets]; exact q_c) (fun _ => q_op q_c q_c (by rw [s_lets, s_digs]; exact f_add (by decide)))) ?_)
    · rw [f_ltN]
      congr 2
      rw [decide_eq_decide]
      omega
    · rw [f_eqN]
      congr 2
      rw [decide_eq_decide]
      omega
    · have hk : p + k < t.length := by simpa using h1
      rw [List.drop_drop, List.drop_eq_getElem_cons hk]
      by_cases h0 : k = 0
      · subst h0
        rw [if_pos (decide_eq_true rfl), f_in1]
        rfl
      · rw [if_neg (by simp [h0]), f_in1]
        simp [h0, an]
  rw [q, lt_drop]
  congr 1
  unfold naG
  cases (t.drop p).drop k with
  | nil => rfl
  | cons c r => rfl
theorem na_go {t : List Nat} {p k n : Nat} {h : Sto} (ht : t.length ≤ 16776000) (hg : naG (t.drop p) k = true) :
    sWhile naC naB (n + 1) [some (.str (T t)), some (.int (p : Nat)), some (.int ((p + k : Nat) : Int))] h = sWhile naC naB n [some (.str (T t)), some (.int (p : Nat)), some (.int ((p + (k + 1) : Nat) : Int))] h :=
  q_whT (c := naC) (b := naB) ((na_c ht).trans (congrArg (fun b => R.ok b h) hg)) (q_aug (i := 2) rfl q_c (f_iaddN (b := 1)))
theorem na_stop {t : List Nat} {p k n : Nat} {h : Sto} (ht : t.length ≤ 16776000) (hg : naG (t.drop p) k = false) :
    sWhile naC naB (n + 1) [some (.str (T t)), some (.int (p : Nat)), some (.int ((p + k : Nat) : Int))] h = .ok (.nx [some (.str (T t)), some (.int (p : Nat)), some (.int ((p + k : Nat) : Int))]) h :=
  q_whF (c := naC) (b := naB) ((na_c ht).trans (congrArg (fun b => R.ok b h) hg))
theorem na_more {t : List Nat} {p : Nat} {h : Sto} (ht : t.length ≤ 16776000) : ∀ (m k n : Nat), k + m = 12 → 1 ≤ k → m < n →
    sWhile naC naB n [some (.str (T t)), some (.int (p : Nat)), some (.int ((p + k : Nat) : Int))] h = .ok (.nx [some (.str (T t)), some (.int (p : Nat)), some (.int ((p + (k + ((((t.drop p).drop k).take m).takeWhile an).length) : Nat) : Int))]) h
  | _, _, 0, _, _, hn => by omega
  | 0, k, n + 1, hk, h1, hn => by
    rw [na_stop ht (by
      unfold naG
      cases (t.drop p).drop k with
      | nil => rfl
      | cons c r => rw [decide_eq_false (by omega)]; rfl)]
    simp
  | m + 1, k, n + 1, hk, h1, hn => by
    cases q : (t.drop p).drop k with
    | nil =>
      rw [na_stop ht (by unfold naG; rw [q])]
      simp
    | cons c r =>
      have er : (t.drop p).drop (k + 1) = r := by
        rw [← List.drop_drop, q]
        rfl
      by_cases hc : an c = true
      · rw [na_go ht (by unfold naG; rw [q]; simp only; rw [decide_eq_true (by omega), if_neg (by omega), hc]; rfl), na_more ht m (k + 1) n (by omega) (by omega) (by omega), er]
        rw [List.take_succ_cons, List.takeWhile_cons_of_pos hc, List.length_cons]
        congr 7
        omega
      · rw [na_stop ht (by unfold naG; rw [q]; simp only; rw [if_neg (by omega)]; simp [hc])]
        rw [List.take_succ_cons, List.takeWhile_cons_of_neg hc]
        simp
theorem na_loop {t : List Nat} {p n : Nat} {h : Sto} (ht : t.length ≤ 16776000) (hn : 20 ≤ n) :
    sWhile naC naB n [some (.str (T t)), some (.int (p : Nat)), some (.int ((p + 0 : Nat) : Int))] h = .ok (.nx [some (.str (T t)), some (.int (p : Nat)), some (.int ((p + nmlen (t.drop p) : Nat) : Int))]) h := by
  obtain ⟨m, rfl⟩ : ∃ m, n = m + 1 := ⟨n - 1, by omega⟩
  cases q : t.drop p with
  | nil =>
    rw [na_stop ht (by rw [q]; rfl)]
    rfl
  | cons c r =>
    by_cases hc : lt c = true
    · rw [na_go ht (by rw [q]; simp [naG, hc]), na_more ht 11 1 m (by omega) (by omega) (by omega), q]
      simp only [nmlen, hc, if_true, List.drop_succ_cons, List.drop_zero]
    · rw [na_stop ht (by rw [q]; simp [naG, hc])]
      simp [nmlen, hc]
theorem nm_small : ∀ u : List Nat, nmlen u ≤ 12
  | [] => by simp [nmlen]
  | c :: r => by
    rw [show nmlen (c :: r) = if lt c = true then 1 + ((r.take 11).takeWhile an).length else 0 from rfl]
    split
    · have h1 : ((r.take 11).takeWhile an).length ≤ (r.take 11).length := (List.takeWhile_prefix _).length_le
      rw [List.length_take] at h1
      omega
    · omega
theorem e_name_end {t : List Nat} {p : Nat} {h : Sto} (g : Good h) (ht : t.length ≤ 16776000) : F_name_end [.str (T t), .int (p : Nat)] h = .ok (.tup [.int ((p + (mend (t.drop p)).1 : Nat) : Int), optS (mend (t.drop p)).2]) h := by
  have sl0 : ∀ e : MR.Env, e = [some (.str (T t)), some (.int (p : Nat)), some (.int ((p + nmlen (t.drop p) : Nat) : Int))] → sSl (sVar 0) (some (sVar 1)) (some (sVar 2)) e h = .ok (.str (T ((t.drop p).take (nmlen (t.drop p))))) h := fun e he => by
    subst he
    exact q_sl2 q_var q_var q_var (by rw [f_sl2 (by omega), show p + nmlen (t.drop p) - p = nmlen (t.drop p) by omega])
  have c1 : sOr (sTest (sOp fNe (sSl (sVar 0) (some (sVar 2)) (some (sOp fAdd (sVar 2) (sC (.int 1))))) (sC (.str "\n")))) (sNot (sTest (sCall 1 F_is_name (sCons (sSl (sVar 0) (some (sVar 1)) (some (sVar 2))) sNil)))) [some (.str (T t)), some (.int (p : Nat)), some (.int ((p + nmlen (t.drop p) : Nat) : Int))] h =
      .ok (!decide (((t.drop p).drop (nmlen (t.drop p))).take 1 = [10]) || !isNm ((t.drop p).take (nmlen (t.drop p)))) h := by
    refine k_or (q_test (q_op (q_sl2 (d := .str (T (((t.drop p).drop (nmlen (t.drop p))).take 1))) q_var q_var (q_op q_var q_c (f_addN (b := 1))) ?_) q_c (by rw [s_nl]; exact f_ne))) fun _ => q_not (q_test (q_call (q_one (sl0 _ rfl)) (e_is_name g (by
      rw [List.length_take]
      have := nm_small (t.drop p)
      omega))))
    rw [f_sl2 (by omega), List.drop_drop, show p + nmlen (t.drop p) + 1 - (p + nmlen (t.drop p)) = 1 by omega]
  refine run_rt (q_seq (q_set q_var) (q_seq (na_loop (n := 4096) ht (by omega)) ?_))
  by_cases hc : ((t.drop p).drop (nmlen (t.drop p))).take 1 ≠ [10] ∨ isNm ((t.drop p).take (nmlen (t.drop p))) = false
  · have e : mend (t.drop p) = (nmlen (t.drop p), none) := if_pos hc
    rw [e]
    exact q_seqR (q_sifT (c1.trans (congrArg (fun b => R.ok b h) (by simpa using hc))) (q_ret (q_tup (q_cons q_var (q_one q_c)))))
  · have e : mend (t.drop p) = (nmlen (t.drop p) + 1, some ((t.drop p).take (nmlen (t.drop p)))) := if_neg hc
    rw [e]
    exact q_seq (q_sifF (c1.trans (congrArg (fun b => R.ok b h) (by simpa using hc))) rfl) (q_ret (q_tup (q_cons (q_op q_var q_c (f_addN (b := 1))) (q_one (sl0 _ rfl)))))
/-! ### line_end -/
def lend (u : List Nat) : Nat × Option (List D) := match wend u words 0 with
  | (a, none) => (a, none)
  | (a, some w) => match nend (u.drop a) (if w = wLeft then 10 else 32) with
    | (b, none) => (a + b, none)
    | (b, some n) => if w = wLeft then (a + b, some [.str (T w), .int n]) else match mend ((u.drop a).drop b) with
      | (c, none) => (a + b + c, none)
      | (c, some m) => (a + b + c, some [.str (T w), .int n, .str (T m)])
def optR : Option (List D) → D
  | some r => .tup r
  | none => .non
theorem e_line_end {t : List Nat} {p : Nat} {h : Sto} (g : Good h) (ht : t.length ≤ 16776000) : F_line_end [.str (T t), .int (p : Nat)] h = .ok (.tup [.int ((p + (lend (t.drop p)).1 : Nat) : Int), optR (lend (t.drop p)).2]) h := by
  refine run_rt (q_seq (q_unp (q_call (q_cons q_var (q_one q_var)) (e_word_end ht))) ?_)
  unfold lend
  generalize wend (t.drop p) words 0 = W
  obtain ⟨a, ow⟩ := W
  cases ow with
  | none => exact q_seqR (q_sifT (q_test (q_op q_var q_c rfl)) (q_ret (q_tup (q_cons q_var (q_one q_c)))))
  | some w =>
    refine q_seq (q_sifF (q_test (q_op q_var q_c rfl)) rfl) ?_
    have cl : ∀ (d2 : D) (o4 o5 : Option D), sTest (sOp fEq (sVar 3) (sC (.str "left"))) [some (.str (T t)), some (.int (p : Nat)), some d2, some (.str (T w)), o4, o5] h = .ok (decide (w = wLeft)) h := fun d2 o4 o5 => q_test (q_op q_var q_c (by rw [s_left]; exact f_eq))
    have hz : sIfE (sTest (sOp fEq (sVar 3) (sC (.str "left")))) (sC (.str "\n")) (sC (.str " ")) [some (.str (T t)), some (.int (p : Nat)), some (.int ((p + a : Nat) : Int)), some (.str (T w)), none, none] h = .ok (.str (T [if w = wLeft then 10 else 32])) h := by
      by_cases hw : w = wLeft
      · rw [if_pos hw]
        exact q_ifT ((cl _ _ _).trans (congrArg (fun b => R.ok b h) (decide_eq_true hw))) (by rw [s_nl]; exact q_c)
      · rw [if_neg hw]
        exact q_ifF ((cl _ _ _).trans (congrArg (fun b => R.ok b h) (decide_eq_false hw))) (by rw [s_sp]; exact q_c)
    refine q_seq (q_unp (q_call (q_cons q_var (q_cons q_var (q_one hz))) (e_number_end ht))) ?_
    have ed : t.drop (p + a) = (t.drop p).drop a := List.drop_drop.symm
    rw [ed]
    generalize hN : nend ((t.drop p).drop a) (if w = wLeft then 10 else 32) = N
    obtain ⟨b, on⟩ := N
    simp only [hN]
    cases on with
    | none =>
      refine q_seqR (q_sifT (k_or (p := true) (q := false) (q_test (q_op q_var q_c rfl)) fun z => by cases z) (q_ret (q_tup (q_cons q_var (q_one (q_ifT (q_test (q_op q_var q_c rfl)) q_c))))))  |>.trans ?_
      simp only [Nat.add_assoc]
      rfl
    | some n =>
      have c2 := k_or (p := false) (q := decide (w = wLeft)) (a := sTest (sOp fIs (sVar 4) (sC .non))) (e := [some (.str (T t)), some (.int (p : Nat)), some (.int ((p + a + b : Nat) : Int)), some (.str (T w)), some (.int n), none]) (h := h) (q_test (q_op q_var q_c rfl)) fun _ => cl _ _ _
      by_cases hw : w = wLeft
      · simp only [if_pos hw]
        refine (q_seqR (q_sifT (c2.trans (congrArg (fun b => R.ok b h) (by rw [decide_eq_true hw]; rfl))) (q_ret (q_tup (q_cons q_var (q_one (q_ifF (q_test (q_op q_var q_c rfl)) (q_tup (q_cons q_var (q_one q_var)))))))))).trans ?_
        simp only [Nat.add_assoc]
        rfl
      · simp only [if_neg hw]
        refine q_seq (q_sifF (c2.trans (congrArg (fun b => R.ok b h) (by rw [decide_eq_false hw]; rfl))) rfl) (q_seq (q_unp (q_call (q_cons q_var (q_one q_var)) (e_name_end g ht))) ?_)
        have ed2 : t.drop (p + a + b) = ((t.drop p).drop a).drop b := by rw [List.drop_drop, List.drop_drop, Nat.add_assoc]
        rw [ed2]
        generalize mend (((t.drop p).drop a).drop b) = M
        obtain ⟨c, om⟩ := M
        cases om with
        | none =>
          refine (q_ret (q_tup (q_cons q_var (q_one (q_ifT (q_test (q_op q_var q_c rfl)) q_c))))).trans ?_
          simp only [Nat.add_assoc]
          rfl
        | some m =>
          refine (q_ret (q_tup (q_cons q_var (q_one (q_ifF (q_test (q_op q_var q_c rfl)) (q_tup (q_cons q_var (q_cons q_var (q_one q_var))))))))).trans ?_
          simp only [Nat.add_assoc]
          rfl
end K52
end
section
set_option maxHeartbeats 1000000
namespace K52
open PySem PySem.Spec PyProof.Rows L2 MR MX
theorem wend_some {u : List Nat} {a : Nat} {w : List Nat} : ∀ {ws : List (List Nat)} {best : Nat}, wend u ws best = (a, some w) → w ∈ ws ∧ lcp u (w ++ [32]) = w.length + 1 ∧ a = w.length + 1
  | [], best, e => by cases e
  | x :: ws, best, e => by
    unfold wend at e
    split at e
    · rename_i hx
      cases e
      exact ⟨List.mem_cons_self, hx, hx⟩
    · obtain ⟨h1, h2⟩ := wend_some e
      exact ⟨List.mem_cons_of_mem _ h1, h2⟩
theorem lend_some {u : List Nat} {a : Nat} {r : List D} (e : lend u = (a, some r)) : 1 ≤ a ∧ D.blw 0 (.tup r) = true := by
  unfold lend at e
  split at e
  · cases e
  · rename_i a0 w hw
    obtain ⟨_, _, ha⟩ := wend_some hw
    split at e
    · cases e
    · split at e
      · cases e
        exact ⟨by omega, rfl⟩
      · split at e
        · cases e
        · cases e
          exact ⟨by omega, rfl⟩
def pgo : Nat → List Nat → List D → Nat → List D × Nat
  | 0, _, f, p => (f, p)
  | n + 1, u, f, p => if u = [] then (f, p) else match lend u with
    | (a, none) => (f, p + a)
    | (a, some r) => pgo n (u.drop a) (f ++ [.tup r]) (p + a)
def pgC : SB := (sAnd (sTest (sOp fIsNot (sVar 3) (sC .non))) (sTest (sOp fLt (sVar 2) (sFn fLen (sCons (sVar 0) sNil)))))
def pgB : SS := (sSeq (sUnp [2, 3] (sCall 2 F_line_end (sCons (sVar 0) (sCons (sVar 2) sNil))))
  (sIf (sTest (sOp fIsNot (sVar 3) (sC .non))) (sExpr (sApp' (sVar 1) (sVar 3))) sNext))
theorem q_app {o a : SE} {e : MR.Env} {h : Sto} {n : Nat} {y : D} {l : List D} (ho : o e h = .ok (.ref n) h) (ha : a e h = .ok y h) (hn : h[n]? = some (.L l)) (hl : l.length < 16777216) : sApp' o a e h = .ok .non (h.set n (.L (l ++ [y]))) := by
  unfold sApp'
  rw [ho, ev_bind_ok]
  have c : isCellL h (.ref n) = true := by
    simp only [isCellL, hn]
  rw [if_pos c, ha, ev_bind_ok]
  simp only [hn]
  rw [if_pos (show l.length < LN from hl)]
theorem pg_c {t : List Nat} {p : Nat} {d1 d3 : D} {h : Sto} (ht : t.length ≤ 16776000) : pgC [some (.str (T t)), some d1, some (.int (p : Nat)), some d3] h = .ok (!isNon d3 && decide (p < t.length)) h :=
  k_and (q_test (q_op q_var q_c rfl)) fun _ => q_test (q_op q_var (q_fn (q_one q_var) (f_len (by omega))) f_ltN)
theorem pg_b {t : List Nat} {p : Nat} {d3 : D} {h : Sto} {f : List D} (g : Good h) (ht : t.length ≤ 16776000) (hf : D.blws 0 f = true) (hl : f.length < 16777216) :
    pgB [some (.str (T t)), some (.ref h.length), some (.int (p : Nat)), some d3] (h ++ [.L f]) = .ok (.nx [some (.str (T t)), some (.ref h.length), some (.int ((p + (lend (t.drop p)).1 : Nat) : Int)), some (optR (lend (t.drop p)).2)]) (h ++ [.L (match (lend (t.drop p)).2 with | some r => f ++ [.tup r] | none => f)]) := by
  have g2 : Good (h ++ [Cell.L f]) := g.snoc (blws_mono (Nat.zero_le _) _ hf)
  refine q_seq (q_unp (q_call (q_cons q_var (q_one q_var)) (e_line_end g2 ht))) ?_
  cases q : (lend (t.drop p)).2 with
  | none => exact q_sifF (q_test (q_op q_var q_c rfl)) rfl
  | some r =>
    refine (q_sifT (q_test (q_op q_var q_c rfl)) (q_expr (q_app (n := h.length) q_var q_var (by simp) hl))).trans ?_
    simp
    rfl
theorem pg_loop {t : List Nat} {h : Sto} (g : Good h) (ht : t.length ≤ 16776000) : ∀ (n N p : Nat) (f : List D) (d3 : D), (t.drop p).length ≤ n → n + 2 ≤ N → isNon d3 = false → D.blws 0 f = true → f.length + n < 16777000 →
    ∃ d4, sWhile pgC pgB N [some (.str (T t)), some (.ref h.length), some (.int (p : Nat)), some d3] (h ++ [.L f]) = .ok (.nx [some (.str (T t)), some (.ref h.length), some (.int ((pgo (n + 1) (t.drop p) f p).2 : Nat)), some d4]) (h ++ [.L (pgo (n + 1) (t.drop p) f p).1]) ∧ D.blws 0 (pgo (n + 1) (t.drop p) f p).1 = true := by
  intro n
  induction n with
  | zero =>
    intro N p f d3 hn hN hd hf hl
    obtain ⟨N', rfl⟩ : ∃ N', N = N' + 1 := ⟨N - 1, by omega⟩
    have hu : t.drop p = [] := List.eq_nil_of_length_eq_zero (by omega)
    have hp : ¬ p < t.length := by
      intro z
      rw [List.drop_eq_getElem_cons z] at hu
      cases hu
    refine ⟨d3, ?_, ?_⟩
    · rw [q_whF ((pg_c ht).trans (congrArg (fun b => R.ok b _) (by rw [decide_eq_false hp, Bool.and_false]))), hu]
      rfl
    · rw [hu]
      exact hf
  | succ n ih =>
    intro N p f d3 hn hN hd hf hl
    obtain ⟨N', rfl⟩ : ∃ N', N = N' + 1 := ⟨N - 1, by omega⟩
    by_cases hp : p < t.length
    · have hu : t.drop p ≠ [] := by
        rw [List.drop_eq_getElem_cons hp]
        exact List.cons_ne_nil _ _
      have cc : pgC [some (.str (T t)), some (.ref h.length), some (.int (p : Nat)), some d3] (h ++ [.L f]) = .ok true (h ++ [.L f]) := by
        rw [pg_c ht, hd, decide_eq_true hp]
        rfl
      have bb := pg_b (d3 := d3) (p := p) g ht hf (by omega)
      have st := q_whT (n := N') cc bb
      rw [st]
      have e0 : pgo (n + 1 + 1) (t.drop p) f p = (match lend (t.drop p) with
        | (a, none) => (f, p + a)
        | (a, some r) => pgo (n + 1) ((t.drop p).drop a) (f ++ [.tup r]) (p + a)) := by
        show (if t.drop p = [] then (f, p) else _) = _
        rw [if_neg hu]
      rw [e0]
      generalize hL : lend (t.drop p) = L
      obtain ⟨a, o⟩ := L
      cases o with
      | none =>
        obtain ⟨N'', rfl⟩ : ∃ N'', N' = N'' + 1 := ⟨N' - 1, by omega⟩
        refine ⟨.non, ?_, hf⟩
        exact q_whF ((pg_c ht).trans (congrArg (fun b => R.ok b _) rfl))
      | some r =>
        obtain ⟨h1, h2⟩ := lend_some hL
        have hlen := hn
        have ed : (t.drop p).drop a = t.drop (p + a) := List.drop_drop
        simp only [ed]
        refine ih N' (p + a) (f ++ [.tup r]) (.tup r) ?_ (by omega) rfl (blws_app hf (by simp only [D.blws, Bool.and_true]; exact h2)) (by simp; omega)
        rw [List.length_drop] at hlen ⊢
        omega
    · have hu : t.drop p = [] := List.drop_eq_nil_of_le (by omega)
      refine ⟨d3, ?_, ?_⟩
      · rw [q_whF ((pg_c ht).trans (congrArg (fun b => R.ok b _) (by rw [decide_eq_false hp, Bool.and_false]))), hu]
        rfl
      · rw [hu]
        exact hf
/-- a def's function whose last cell is its own -/
theorem run_cut {N : Nat} {m : SS} {ds : List D} {h : Sto} {c : Cell} {d : D} (q : m (ds.map some ++ List.replicate (N - ds.length) none) h = .ok (.rt d) (h ++ [c])) (g : Good h) (hd : D.blw 0 d = true) : runB N m ds h = .ok d h := by
  unfold runB
  rw [q]
  have tk : (h ++ [c]).take h.length = h := by simp
  simp only [fin, tk]
  rw [if_pos]
  rw [blw_mono (Nat.zero_le _) _ hd, Bool.true_and]
  exact g
theorem e_gone {t : List Nat} {h : Sto} (g : Good h) (ht : t.length ≤ 4000) : F_gone_over [.str (T t)] h = .ok (.tup [.tup (pgo (t.length + 1) t [] 0).1, .int ((pgo (t.length + 1) t [] 0).2 : Nat)]) h ∧ D.blws 0 (pgo (t.length + 1) t [] 0).1 = true := by
  obtain ⟨d4, h1, h2⟩ := pg_loop g (t := t) (by omega) t.length 4096 0 [] (.tup []) (by simp) (by omega) rfl rfl (by simp; omega)
  rw [List.drop_zero] at h1 h2
  refine ⟨run_cut (c := .L (pgo (t.length + 1) t [] 0).1) (q_seq (q_par3 (q_cons (q_lstC q_nil) (q_cons q_c (q_one (q_tup q_nil))))) (q_seq h1 (q_ret (q_tup (q_cons (q_fn (q_one q_var) ?_) (q_one q_var)))))) g ?_, h2⟩
  · show (seqOf _ (D.ref h.length)).map D.tup = _
    simp [seqOf, res]
  · simp only [D.blw, D.blws, Bool.and_true]
    exact h2
end K52
end
section
set_option maxHeartbeats 1000000
namespace K52
open PySem PySem.Spec PyProof.Rows L2 MR MX
/-- a line's end: nothing, or a new line's sign ahead of more -/
def Tail (tl : List Nat) : Prop := tl = [] ∨ ∃ v, tl = 10 :: v
/-! ### parts -/
theorem spl_cons2 {c : Nat} : ∀ {l p q : List Nat} {r : List (List Nat)}, spl c l = p :: q :: r → ∃ y, l = p ++ c :: y ∧ spl c y = q :: r ∧ c ∉ p
  | [], p, q, r, e => by simp [spl] at e
  | x :: l, p, q, r, e => by
    unfold spl at e
    split at e
    · rename_i hx
      simp only [List.cons.injEq] at e
      obtain ⟨rfl, e2⟩ := e
      exact ⟨l, by rw [hx]; rfl, e2, by simp⟩
    · rename_i hx
      split at e
      · rename_i p' ps' e'
        simp only [List.cons.injEq] at e
        obtain ⟨rfl, rfl⟩ := e
        obtain ⟨y, h1, h2, h3⟩ := spl_cons2 e'
        exact ⟨y, by rw [h1]; rfl, h2, by simp [h3, Ne.symm hx]⟩
      · cases e
theorem spl_single {c : Nat} : ∀ {l p : List Nat}, spl c l = [p] → l = p ∧ c ∉ p
  | [], p, e => by
    simp [spl] at e
    subst e
    exact ⟨rfl, by simp⟩
  | x :: l, p, e => by
    unfold spl at e
    split at e
    · obtain ⟨a, b, z⟩ := spl_ne c l
      rw [z] at e
      cases e
    · rename_i hx
      split at e
      · rename_i p' ps' e'
        simp only [List.cons.injEq] at e
        obtain ⟨rfl, rfl⟩ := e
        obtain ⟨h1, h2⟩ := spl_single e'
        exact ⟨by rw [h1], by simp [h2, Ne.symm hx]⟩
      · rename_i e'
        obtain ⟨a, b, z⟩ := spl_ne c l
        rw [z] at e'
        cases e'
/-! ### alike -/
theorem lcp_le1 : ∀ u w : List Nat, lcp u w ≤ u.length
  | [], w => by simp [lcp_nil]
  | a :: x, [] => by simp [lcp]
  | a :: x, b :: y => by
    unfold lcp
    split
    · have := lcp_le1 x y
      simp
      omega
    · omega
theorem lcp_le2 : ∀ u w : List Nat, lcp u w ≤ w.length
  | [], w => by simp [lcp_nil]
  | a :: x, [] => by simp [lcp]
  | a :: x, b :: y => by
    unfold lcp
    split
    · have := lcp_le2 x y
      simp
      omega
    · omega
theorem lcp_take : ∀ u w : List Nat, u.take (lcp u w) = w.take (lcp u w)
  | [], w => by simp [lcp_nil]
  | a :: x, [] => by simp [lcp]
  | a :: x, b :: y => by
    unfold lcp
    split
    · rename_i h
      rw [List.take_succ_cons, List.take_succ_cons, h, lcp_take x y]
    · rfl
theorem lcp_ge : ∀ {u w : List Nat} {k : Nat}, k ≤ u.length → k ≤ w.length → u.take k = w.take k → k ≤ lcp u w
  | _, _, 0, _, _, _ => Nat.zero_le _
  | [], _, k + 1, h, _, _ => by simp at h
  | _ :: _, [], k + 1, _, h, _ => by simp at h
  | a :: x, b :: y, k + 1, h1, h2, e => by
    rw [List.take_succ_cons, List.take_succ_cons] at e
    simp only [List.cons.injEq] at e
    unfold lcp
    rw [if_pos e.1]
    simp only [List.length_cons] at h1 h2
    have := lcp_ge (by omega) (by omega) e.2
    omega
theorem lcp_app {tl : List Nat} (ht : Tail tl) : ∀ {s w : List Nat}, 10 ∉ w → lcp (s ++ tl) w = lcp s w
  | [], w, hw => by
    rw [List.nil_append, lcp_nil]
    rcases ht with rfl | ⟨v, rfl⟩
    · exact lcp_nil w
    · cases w with
      | nil => rfl
      | cons b y =>
        unfold lcp
        rw [if_neg (fun e => hw (by simp [e]))]
  | a :: x, [], _ => rfl
  | a :: x, b :: y, hw => by
    show (if a = b then lcp (x ++ tl) y + 1 else 0) = (if a = b then lcp x y + 1 else 0)
    rw [lcp_app ht (fun h => hw (by simp [h]))]
theorem lcp_full {u w : List Nat} (h : lcp u w = w.length) : ∃ y, u = w ++ y := by
  have e := lcp_take u w
  rw [h, List.take_length] at e
  exact ⟨u.drop w.length, (List.take_append_drop w.length u).symm.trans (by rw [e])⟩
theorem lcp_pre (w y : List Nat) : lcp (w ++ y) w = w.length := by
  have h1 := lcp_le2 (w ++ y) w
  have h2 : w.length ≤ lcp (w ++ y) w := lcp_ge (by simp) (Nat.le_refl _) (by simp)
  omega
theorem words_plain : ∀ w ∈ words, 32 ∉ w ∧ 10 ∉ w := by decide +kernel
theorem wend_none {u : List Nat} {m : Nat} : ∀ {ws : List (List Nat)} {b : Nat}, wend u ws b = (m, none) → (∀ w ∈ ws, lcp u (w ++ [32]) ≠ w.length + 1) ∧ b ≤ m ∧ (∀ w ∈ ws, lcp u (w ++ [32]) ≤ m) ∧ (m = b ∨ ∃ w ∈ ws, m = lcp u (w ++ [32]))
  | [], b, e => by
    cases e
    exact ⟨fun w h => (by cases h), Nat.le_refl _, fun w h => (by cases h), .inl rfl⟩
  | x :: ws, b, e => by
    unfold wend at e
    split at e
    · cases e
    · rename_i hx
      obtain ⟨h1, h2, h3, h4⟩ := wend_none e
      refine ⟨fun w hw => ?_, by omega, fun w hw => ?_, ?_⟩
      · rcases List.mem_cons.mp hw with rfl | hw
        · exact hx
        · exact h1 w hw
      · rcases List.mem_cons.mp hw with rfl | hw
        · omega
        · exact h3 w hw
      · rcases h4 with h4 | ⟨w, hw, h4⟩
        · by_cases hb : b ≤ lcp u (x ++ [32])
          · exact .inr ⟨x, List.mem_cons_self, by omega⟩
          · exact .inl (by omega)
        · exact .inr ⟨w, List.mem_cons_of_mem _ hw, h4⟩
theorem take_pre {s x : List Nat} {k : Nat} (hx : s.take k = x) (hk : k ≤ s.length) : x.length = k := by
  rw [← hx, List.length_take]
  omega
/-- the first word is not complete -/
theorem case1 {s tl : List Nat} {m : Nat} (ht : Tail tl) (e : wend (s ++ tl) words 0 = (m, none)) : mx s = m ∧ recL s = none := by
  obtain ⟨h1, _, h3, h4⟩ := wend_none e
  have no10 : ∀ w ∈ words, 10 ∉ w ++ [32] := fun w hw h => by
    rcases List.mem_append.mp h with h | h
    · exact (words_plain w hw).2 h
    · simp at h
  have full : ∀ w ∈ words, ∀ y, s ≠ w ++ 32 :: y := fun w hw y e => by
    refine h1 w hw ?_
    rw [lcp_app ht (no10 w hw), e, show w ++ 32 :: y = (w ++ [32]) ++ y by simp, lcp_pre]
    simp
  constructor
  · refine gr_eq (P := fun k => canL (s.take k)) (by simpa using can_nil) ?_ ?_ ?_
    · rcases h4 with h4 | ⟨w, hw, h4⟩
      · omega
      · rw [h4, lcp_app ht (no10 w hw)]
        exact lcp_le1 _ _
    · rcases h4 with h4 | ⟨w, hw, h4⟩
      · rw [h4]
        simpa using can_nil
      · rw [lcp_app ht (no10 w hw)] at h4
        have hle : m ≤ w.length := by
          have q1 := lcp_le2 s (w ++ [32])
          have q2 := h1 w hw
          rw [lcp_app ht (no10 w hw)] at q2
          simp at q1
          omega
        have et : s.take m = w.take m := by
          rw [h4, lcp_take, List.take_append_of_le_length (by omega)]
        show canL (s.take m) = true
        rw [et]
        unfold canL
        rw [spl_free (fun h => (words_plain w hw).1 (List.mem_of_mem_take h))]
        exact List.any_eq_true.mpr ⟨w, hw, List.isPrefixOf_iff_prefix.mpr (List.take_prefix _ _)⟩
    · intro k hk hks
      cases hc : canL (s.take k) with
      | false => rfl
      | true =>
        exfalso
        unfold canL at hc
        obtain ⟨p, ps, hp⟩ := spl_ne 32 (s.take k)
        rw [hp] at hc
        cases ps with
        | nil =>
          obtain ⟨w, hw, hpre⟩ := List.any_eq_true.mp hc
          obtain ⟨e1, _⟩ := spl_single hp
          have hpw := List.isPrefixOf_iff_prefix.mp hpre
          have hl := take_pre e1 hks
          have q : k ≤ lcp s (w ++ [32]) := lcp_ge hks (by have := hpw.length_le; simp; omega) (by
            rw [e1, List.take_append_of_le_length (by have := hpw.length_le; omega), ← hl]
            exact List.prefix_iff_eq_take.mp hpw)
          have := h3 w hw
          rw [lcp_app ht (no10 w hw)] at this
          omega
        | cons q r =>
          obtain ⟨y, e1, _, _⟩ := spl_cons2 hp
          simp only [canP, Bool.and_eq_true, decide_eq_true_eq] at hc
          exact full p hc.1.1 (y ++ s.drop k) ((List.take_append_drop k s).symm.trans (by rw [e1]; simp))
  · cases hr : recL s with
    | none => rfl
    | some r =>
      exfalso
      unfold recL at hr
      obtain ⟨p, ps, hp⟩ := spl_ne 32 s
      rw [hp] at hr
      cases ps with
      | nil => cases hr
      | cons q r' =>
        obtain ⟨y, e1, _, _⟩ := spl_cons2 hp
        have hw : p ∈ words := by
          match r', hr with
          | [], hr =>
            simp only [recP] at hr
            split at hr
            · rename_i hc
              simp only [Bool.and_eq_true, decide_eq_true_eq] at hc
              exact hc.1.1
            · cases hr
          | [_], hr =>
            simp only [recP] at hr
            split at hr
            · rename_i hc
              simp only [Bool.and_eq_true, decide_eq_true_eq] at hc
              exact hc.1.1.1
            · cases hr
          | _ :: _ :: _, hr => cases hr
        exact full p hw y e1
end K52
end
section
set_option maxHeartbeats 1000000
namespace K52
open PySem PySem.Spec PyProof.Rows L2 MR MX
theorem dig10 : dig 10 = false := by decide
theorem dig32 : dig 32 = false := by decide
theorem an10 : an 10 = false := by decide
theorem an32 : an 32 = false := by decide
theorem lt10 : lt 10 = false := by decide
theorem nlen_app {tl : List Nat} (ht : Tail tl) : ∀ s : List Nat, nlen (s ++ tl) = nlen s
  | [] => by
    rcases ht with rfl | ⟨v, rfl⟩
    · rfl
    · show nlen (10 :: v) = 0
      rw [nlen_cons, dig10]
      rfl
  | [c] => by
    rcases ht with rfl | ⟨v, rfl⟩
    · rfl
    · show nlen (c :: 10 :: v) = nlen [c]
      rw [nlen_cons, nlen_cons]
      simp [dig10]
  | c :: d :: r => rfl
theorem nlen_le : ∀ x : List Nat, nlen x ≤ x.length
  | [] => Nat.le_refl _
  | [c] => by
    rw [nlen_cons]
    split
    · split <;> simp
    · simp
  | c :: d :: r => by
    rw [nlen_cons]
    simp only [List.length_cons]
    split
    · split
      · omega
      · show (if dig d = true then 2 else 1) ≤ _
        split <;> omega
    · omega
theorem nlen_take : ∀ {x : List Nat} {j : Nat}, nlen x ≤ j → nlen (x.take j) = nlen x
  | [], j, _ => by simp
  | [c], 0, h => by
    have e : nlen [c] = 0 := by omega
    rw [e]
    rfl
  | [c], j + 1, h => by simp
  | c :: d :: r, 0, h => by
    have e : nlen (c :: d :: r) = 0 := by omega
    rw [e]
    rfl
  | c :: d :: r, 1, h => by
    show nlen [c] = _
    rw [nlen_cons] at h
    rw [nlen_cons, nlen_cons]
    revert h
    by_cases h1 : dig c = true
    · by_cases h2 : c = 48
      · simp [h1, h2]
      · by_cases h3 : dig d = true
        · simp [h1, h2, h3]
        · simp [h1, h2, h3]
    · simp [h1]
  | c :: d :: r, j + 2, h => rfl
/-- a number that stands first -/
theorem num_first {x n : List Nat} {r : List (List Nat)} (e : spl 32 x = n :: r) (hn : isNum n = true) : nlen x = n.length ∧ ∃ y, x = n ++ y ∧ (r = [] → y = []) ∧ (r ≠ [] → ∃ y', y = 32 :: y' ∧ spl 32 y' = r) := by
  have hx : ∃ y, x = n ++ y ∧ (y = [] ∨ ∃ y', y = 32 :: y') ∧ (r = [] → y = []) ∧ (r ≠ [] → ∃ y', y = 32 :: y' ∧ spl 32 y' = r) := by
    cases r with
    | nil =>
      obtain ⟨e1, _⟩ := spl_single e
      exact ⟨[], by simp [e1], .inl rfl, fun _ => rfl, fun z => absurd rfl z⟩
    | cons q r' =>
      obtain ⟨y, e1, e2, _⟩ := spl_cons2 e
      exact ⟨32 :: y, e1, .inr ⟨y, rfl⟩, (fun z => by cases z), fun _ => ⟨y, rfl, e2⟩⟩
  obtain ⟨y, rfl, hy, h1, h2⟩ := hx
  refine ⟨?_, y, rfl, h1, h2⟩
  simp only [isNum, Bool.and_eq_true, decide_eq_true_eq, Bool.or_eq_true, Bool.not_eq_true', decide_eq_false_iff_not] at hn
  obtain ⟨⟨n1, n2⟩, n3, n4⟩ := hn
  match n, n1, n2, n3, n4 with
  | [a], _, n2, _, n4 =>
    have ha : dig a = true := by simpa using n2
    show nlen (a :: y) = 1
    rw [nlen_cons, if_pos ha]
    by_cases h48 : a = 48
    · rw [if_pos h48]
    · rw [if_neg h48]
      rcases hy with rfl | ⟨y', rfl⟩
      · rfl
      · simp [dig32]
  | [a, b], _, n2, _, n4 =>
    simp only [List.all_cons, List.all_nil, Bool.and_true, Bool.and_eq_true] at n2
    have h48 : a ≠ 48 := fun z => by
      subst z
      simp at n4
    show nlen (a :: b :: y) = 2
    rw [nlen_cons, if_pos n2.1, if_neg h48]
    simp [n2.2]
  | a :: b :: c :: r', _, _, n3, _ =>
    simp only [List.length_cons] at n3
    omega
/-- behind a complete word -/
def canW (w s1 : List Nat) (j : Nat) : Bool := canP (w :: spl 32 (s1.take j))
theorem mx_at {w s1 : List Nat} {m : Nat} (hw : w ∈ words) (hm : m ≤ s1.length) (h1 : canW w s1 m = true) (h2 : ∀ j, m < j → j ≤ s1.length → canW w s1 j = false) : mx (w ++ 32 :: s1) = w.length + 1 + m := by
  have tk : ∀ j, (w ++ 32 :: s1).take (w.length + 1 + j) = w ++ 32 :: s1.take j := fun j => by
    rw [Nat.add_assoc, List.take_length_add_append, Nat.add_comm 1 j]
    rfl
  have cl : ∀ j, canL ((w ++ 32 :: s1).take (w.length + 1 + j)) = canW w s1 j := fun j => by
    rw [tk]
    unfold canL canW
    rw [spl_app (words_plain w hw).1]
  refine gr_eq (P := fun k => canL ((w ++ 32 :: s1).take k)) (by simpa using can_nil) (by simp; omega) ?_ fun k hk hks => ?_
  · show canL _ = true
    rw [cl]
    exact h1
  · simp only [List.length_append, List.length_cons] at hks
    show canL _ = false
    rw [show k = w.length + 1 + (k - (w.length + 1)) by omega, cl]
    exact h2 _ (by omega) (by omega)
theorem numCan {w s1 : List Nat} {j : Nat} (h : canW w s1 j = true) (hj : nlen s1 < j) (hjs : j ≤ s1.length) : nlen s1 ≠ 0 ∧ ∃ y', s1.drop (nlen s1) = 32 :: y' ∧ w ≠ wLeft ∧ ∃ m, spl 32 (y'.take (j - nlen s1 - 1)) = [m] ∧ begun m = true := by
  unfold canW at h
  obtain ⟨n, r, e⟩ := spl_ne 32 (s1.take j)
  rw [e] at h
  simp only [canP, Bool.and_eq_true, Bool.or_eq_true, decide_eq_true_eq] at h
  obtain ⟨⟨hw, hn⟩, ht⟩ := h
  have hnum : isNum n = true := by
    rcases hn with ⟨hn, hr⟩ | hn
    · subst hn hr
      obtain ⟨e1, _⟩ := spl_single e
      have := take_pre e1 hjs
      simp at this
      omega
    · exact hn
  obtain ⟨q1, y, q2, q3, q4⟩ := num_first e hnum
  rw [nlen_take (by omega)] at q1
  have hn0 : nlen s1 ≠ 0 := fun z => by
    rw [z] at q1
    have : n = [] := List.eq_nil_of_length_eq_zero q1.symm
    subst this
    simp [isNum] at hnum
  have hy : s1.drop (nlen s1) = y ++ s1.drop j := by
    have e1 : s1 = n ++ (y ++ s1.drop j) := (List.take_append_drop j s1).symm.trans (by rw [q2, List.append_assoc])
    rw [q1]
    exact (congrArg (List.drop n.length) e1).trans (by simp)
  have hl : n.length + y.length = j := by
    have := take_pre q2 hjs
    simpa using this
  have hr : r ≠ [] := fun z => by
    have := q3 z
    subst this
    simp at hl
    omega
  obtain ⟨y', ey, es⟩ := q4 hr
  subst ey
  refine ⟨hn0, y' ++ s1.drop j, hy, ?_⟩
  match r, ht, es with
  | [m], ht, es =>
    simp only [canT, Bool.and_eq_true, Bool.not_eq_true', decide_eq_false_iff_not] at ht
    refine ⟨ht.1, m, ?_, ht.2⟩
    simp only [List.length_cons] at hl
    rw [List.take_append_of_le_length (by omega), List.take_of_length_le (by omega)]
    exact es
  | [], _, _ => exact absurd rfl hr
  | _ :: _ :: _, ht, _ => simp [canT] at ht
theorem canW_num {w s1 : List Nat} (hw : w ∈ words) : canW w s1 (nlen s1) = true := by
  unfold canW
  by_cases h0 : nlen s1 = 0
  · rw [h0]
    show canP [w, []] = true
    simp [canP, canT, hw]
  · have hd := nlen_num s1 h0
    have h32 : 32 ∉ s1.take (nlen s1) := fun h => by
      simp only [isNum, Bool.and_eq_true, List.all_eq_true] at hd
      have := hd.1.2 32 h
      rw [dig32] at this
      cases this
    rw [spl_free h32]
    simp [canP, canT, hw, hd]
/-- what a record's first parts ask -/
theorem recW {w s1 : List Nat} {r : List D} (hw : w ∈ words) (h : recL (w ++ 32 :: s1) = some r) : nlen s1 ≠ 0 ∧ ((w = wLeft ∧ s1 = s1.take (nlen s1)) ∨ (w ≠ wLeft ∧ ∃ m, s1 = s1.take (nlen s1) ++ 32 :: m ∧ spl 32 m = [m] ∧ nameL m = true)) := by
  unfold recL at h
  rw [spl_app (words_plain w hw).1] at h
  obtain ⟨n, rr, e⟩ := spl_ne 32 s1
  rw [e] at h
  match rr, h, e with
  | [], h, e =>
    simp only [recP] at h
    split at h
    · rename_i hc
      simp only [Bool.and_eq_true, decide_eq_true_eq] at hc
      obtain ⟨q1, y, q2, q3, _⟩ := num_first e hc.1.2
      have := q3 rfl
      subst this
      have e1 : s1.take (nlen s1) = n := by
        rw [q1, q2]
        simp
      refine ⟨fun z => ?_, .inl ⟨hc.2, by rw [e1, q2]; simp⟩⟩
      rw [z] at q1
      have : n = [] := List.eq_nil_of_length_eq_zero q1.symm
      rw [this] at hc
      simp [isNum] at hc
    · cases h
  | [m], h, e =>
    simp only [recP] at h
    split at h
    · rename_i hc
      simp only [Bool.and_eq_true, decide_eq_true_eq, Bool.not_eq_true', decide_eq_false_iff_not] at hc
      obtain ⟨q1, y, q2, _, q4⟩ := num_first e hc.1.1.2
      obtain ⟨y', ey, es⟩ := q4 (by simp)
      have em : y' = m := (spl_single es).1
      subst em ey
      have e1 : s1.take (nlen s1) = n := by
        rw [q1, q2]
        simp
      refine ⟨fun z => ?_, .inr ⟨hc.1.2, y', by rw [e1, ← q2], es, hc.2⟩⟩
      rw [z] at q1
      have : n = [] := List.eq_nil_of_length_eq_zero q1.symm
      rw [this] at hc
      simp [isNum] at hc
    · cases h
  | _ :: _ :: _, h, _ => cases h
/-! ### names -/
theorem tw_app {tl : List Nat} (ht : Tail tl) : ∀ (r : List Nat) (n : Nat), ((r ++ tl).take n).takeWhile an = (r.take n).takeWhile an
  | _, 0 => by simp
  | [], n + 1 => by
    rcases ht with rfl | ⟨v, rfl⟩
    · rfl
    · show ((10 :: v).take (n + 1)).takeWhile an = []
      rw [List.take_succ_cons, List.takeWhile_cons_of_neg (by rw [an10]; simp)]
  | c :: r, n + 1 => by
    show (((c :: (r ++ tl))).take (n + 1)).takeWhile an = _
    rw [List.take_succ_cons, List.take_succ_cons]
    by_cases h : an c = true
    · rw [List.takeWhile_cons_of_pos h, List.takeWhile_cons_of_pos h, tw_app ht r n]
    · rw [List.takeWhile_cons_of_neg h, List.takeWhile_cons_of_neg h]
theorem nm_cons (c : Nat) (r : List Nat) : nmlen (c :: r) = if lt c = true then 1 + ((r.take 11).takeWhile an).length else 0 := rfl
theorem nm_app {tl : List Nat} (ht : Tail tl) : ∀ s : List Nat, nmlen (s ++ tl) = nmlen s
  | [] => by
    rcases ht with rfl | ⟨v, rfl⟩
    · rfl
    · show nmlen (10 :: v) = 0
      rw [nm_cons, lt10]
      rfl
  | c :: r => by
    show nmlen (c :: (r ++ tl)) = _
    rw [nm_cons, nm_cons, tw_app ht]
theorem nm_le : ∀ x : List Nat, nmlen x ≤ x.length
  | [] => Nat.le_refl _
  | c :: r => by
    rw [nm_cons]
    split
    · have h1 := (List.takeWhile_prefix (l := r.take 11) an).length_le
      rw [List.length_take] at h1
      simp
      omega
    · omega
theorem lt_an {c : Nat} (h : lt c = true) : an c = true := by
  unfold lt at h
  unfold an
  rw [decide_eq_true_eq] at h ⊢
  exact List.mem_append_left _ h
theorem nm_take (c : Nat) (r : List Nat) (h : lt c = true) : (c :: r).take (nmlen (c :: r)) = c :: (r.take 11).takeWhile an := by
  rw [nm_cons, if_pos h, Nat.add_comm, List.take_succ_cons]
  congr 1
  have hp := (List.takeWhile_prefix (l := r.take 11) an).trans (List.take_prefix 11 r)
  exact (List.prefix_iff_eq_take.mp hp).symm
theorem begun_nm : ∀ x : List Nat, begun (x.take (nmlen x)) = true
  | [] => rfl
  | c :: r => by
    by_cases h : lt c = true
    · rw [nm_take c r h]
      have h1 := (List.takeWhile_prefix (l := r.take 11) an).length_le
      rw [List.length_take] at h1
      simp only [begun, Bool.and_eq_true, decide_eq_true_eq, Bool.or_eq_true, List.all_cons, List.length_cons]
      refine ⟨by omega, ⟨lt_an h, ?_⟩, .inr ?_⟩
      · exact List.all_takeWhile
      · simp [h]
    · rw [nm_cons, if_neg h]
      rfl
theorem tw_most : ∀ {m y : List Nat}, m <+: y → m.all an = true → m.length ≤ (y.takeWhile an).length
  | [], _, _, _ => Nat.zero_le _
  | c :: m, y, hp, ha => by
    obtain ⟨z, rfl⟩ := hp
    simp only [List.all_cons, Bool.and_eq_true] at ha
    show (c :: m).length ≤ ((c :: (m ++ z)).takeWhile an).length
    rw [List.takeWhile_cons_of_pos ha.1]
    have := tw_most (List.prefix_append m z) ha.2
    simp
    exact this
theorem nm_most {m x : List Nat} (hb : begun m = true) (hp : m <+: x) : m.length ≤ nmlen x := by
  simp only [begun, Bool.and_eq_true, decide_eq_true_eq, Bool.or_eq_true] at hb
  obtain ⟨h1, h2, h3⟩ := hb
  match m, h1, h2, h3, hp with
  | [], _, _, _, _ => exact Nat.zero_le _
  | c :: m', h1, h2, h3, hp =>
    obtain ⟨z, rfl⟩ := hp
    have hc : lt c = true := by
      rcases h3 with h3 | h3
      · cases h3
      · simpa using h3
    show (c :: m').length ≤ nmlen (c :: (m' ++ z))
    rw [nm_cons, if_pos hc]
    simp only [List.all_cons, Bool.and_eq_true] at h2
    simp only [List.length_cons] at h1 ⊢
    have hp2 : m' <+: (m' ++ z).take 11 := by
      rw [List.prefix_take_iff]
      exact ⟨List.prefix_append _ _, by omega⟩
    have := tw_most hp2 h2.2
    omega
theorem nameL_isNm (l : List Nat) : nameL l = isNm l := by
  unfold nameL isNm begun
  cases l with
  | nil => rfl
  | cons c r =>
    simp only [List.length_cons, List.all_cons]
    by_cases h : r.length + 1 < 13
    · rw [decide_eq_true h, decide_eq_true (show r.length + 1 ≤ 12 by omega), decide_eq_true (show 0 < r.length + 1 by omega)]
      simp
      cases an c <;> cases r.all an <;> cases lt c <;> cases decide (c :: r ∈ noNames) <;> simp
    · rw [decide_eq_false h, decide_eq_false (show ¬ r.length + 1 ≤ 12 by omega)]
      simp
end K52
end
section
set_option maxHeartbeats 1000000
namespace K52
open PySem PySem.Spec PyProof.Rows L2 MR MX
/-- what a line gives, by the judge's words -/
def want (s tl : List Nat) : Nat × Option (List D) := if tl = [] then (mx s, none) else match recL s with
  | some r => (s.length + 1, some r)
  | none => (mx s, none)
theorem want_none {s tl : List Nat} {m : Nat} (h : mx s = m) (h2 : tl ≠ [] → recL s = none) : want s tl = (m, none) := by
  unfold want
  split
  · rw [h]
  · rename_i q
    rw [h2 q, h]
theorem want_some {s tl : List Nat} {r : List D} (ht : tl ≠ []) (h : recL s = some r) : want s tl = (s.length + 1, some r) := by
  unfold want
  rw [if_neg ht, h]
theorem tail_take {tl : List Nat} (ht : Tail tl) {c : Nat} (h : tl.take 1 = [c]) : c = 10 ∧ tl ≠ [] := by
  rcases ht with rfl | ⟨v, rfl⟩
  · cases h
  · simp at h
    exact ⟨h.symm, by simp⟩
theorem tail_ten {tl : List Nat} (ht : Tail tl) (h : tl ≠ []) : tl.take 1 = [10] := by
  rcases ht with rfl | ⟨v, rfl⟩
  · exact absurd rfl h
  · rfl
theorem take_mid {d s2 : List Nat} {K j : Nat} (h : d.length = K) : (d ++ 32 :: s2).take (K + 1 + j) = d ++ 32 :: s2.take j := by
  subst h
  rw [Nat.add_assoc, List.take_length_add_append, Nat.add_comm 1 j]
  rfl
theorem lend_spec {s tl : List Nat} (hs : 10 ∉ s) (ht : Tail tl) : lend (s ++ tl) = want s tl := by
  unfold lend
  generalize hW : wend (s ++ tl) words 0 = W
  obtain ⟨a, ow⟩ := W
  cases ow with
  | none =>
    obtain ⟨h1, h2⟩ := case1 ht hW
    exact (want_none h1 fun _ => h2).symm
  | some w =>
    obtain ⟨hw, hl, ha⟩ := wend_some hW
    rw [lcp_app ht (fun h => by
      rcases List.mem_append.mp h with h | h
      · exact (words_plain w hw).2 h
      · simp at h)] at hl
    obtain ⟨s1, rfl⟩ := lcp_full (u := s) (w := w ++ [32]) (by rw [hl]; simp)
    have es : w ++ [32] ++ s1 = w ++ 32 :: s1 := by simp
    have hs1 : 10 ∉ s1 := fun h => hs (by simp [h])
    have ed : (w ++ [32] ++ s1 ++ tl).drop a = s1 ++ tl := by
      rw [ha, List.append_assoc]
      exact List.drop_left' (by simp)
    simp only [ed]
    rw [es]
    have hk := nlen_app ht s1
    have dk : (s1 ++ tl).drop (nlen s1) = s1.drop (nlen s1) ++ tl := List.drop_append_of_le_length (nlen_le s1)
    have tkk : (s1 ++ tl).take (nlen s1) = s1.take (nlen s1) := List.take_append_of_le_length (nlen_le s1)
    by_cases hf : nlen s1 = 0 ∨ (s1.drop (nlen s1) ++ tl).take 1 ≠ [if w = wLeft then 10 else 32]
    · have en : nend (s1 ++ tl) (if w = wLeft then 10 else 32) = (nlen s1, none) := by
        unfold nend
        rw [hk, dk, if_pos hf]
      rw [en]
      simp only
      refine (want_none ?_ fun htl => ?_).symm
      · rw [ha]
        refine mx_at hw (nlen_le s1) (canW_num hw) fun j hj hjs => ?_
        cases hc : canW w s1 j with
        | false => rfl
        | true =>
          exfalso
          obtain ⟨n0, y', hd, hwl, _⟩ := numCan hc hj hjs
          rcases hf with hf | hf
          · exact n0 hf
          · exact hf (by rw [hd, if_neg hwl]; rfl)
      · cases hr : recL (w ++ 32 :: s1) with
        | none => rfl
        | some r =>
          exfalso
          obtain ⟨n0, hh⟩ := recW hw hr
          rcases hf with hf | hf
          · exact n0 hf
          · rcases hh with ⟨h1, h2⟩ | ⟨h1, m, h2, _⟩
            · have e0 : s1.drop (nlen s1) = [] := by
                have := List.take_append_drop (nlen s1) s1
                rw [← h2] at this
                simpa using this
              exact hf (by rw [e0, if_pos h1, List.nil_append]; exact tail_ten ht htl)
            · have e0 : s1.drop (nlen s1) = 32 :: m := by
                have := List.take_append_drop (nlen s1) s1
                have q := this.trans h2
                exact List.append_cancel_left q
              exact hf (by rw [e0, if_neg h1]; rfl)
    · have hn0 : nlen s1 ≠ 0 := fun z => hf (.inl z)
      have hz : (s1.drop (nlen s1) ++ tl).take 1 = [if w = wLeft then 10 else 32] := Classical.byContradiction fun z => hf (.inr z)
      have en : nend (s1 ++ tl) (if w = wLeft then 10 else 32) = (nlen s1 + 1, some (numV (s1.take (nlen s1)))) := by
        unfold nend
        rw [hk, dk, tkk, if_neg hf]
      rw [en]
      simp only
      have hd := nlen_num s1 hn0
      have d32 : 32 ∉ s1.take (nlen s1) := fun h => by
        simp only [isNum, Bool.and_eq_true, List.all_eq_true] at hd
        have := hd.1.2 32 h
        rw [dig32] at this
        cases this
      by_cases hwl : w = wLeft
      · rw [if_pos hwl] at hz ⊢
        have e0 : s1.drop (nlen s1) = [] := by
          cases q : s1.drop (nlen s1) with
          | nil => rfl
          | cons c r =>
            rw [q] at hz
            simp at hz
            exact absurd (List.mem_of_mem_drop (by rw [q, hz]; exact List.mem_cons_self)) hs1
        rw [e0, List.nil_append] at hz
        have htl := (tail_take ht hz).2
        have e1 : s1.take (nlen s1) = s1 := by
          have := List.take_append_drop (nlen s1) s1
          rw [e0, List.append_nil] at this
          exact this
        have el : nlen s1 = s1.length := by
          have := congrArg List.length e1
          rw [List.length_take] at this
          have := nlen_le s1
          omega
        have er : recL (w ++ 32 :: s1) = some [.str (T w), .int (numV s1)] := by
          unfold recL
          rw [spl_app (words_plain w hw).1, spl_free (e1 ▸ d32)]
          rw [e1] at hd
          simp [recP, hw, hd, hwl, show wLeft ∈ words from by decide]
        rw [want_some htl er, e1, ha, el]
        simp
        omega
      · rw [if_neg hwl] at hz ⊢
        obtain ⟨s2, e0⟩ : ∃ s2, s1.drop (nlen s1) = 32 :: s2 := by
          cases q : s1.drop (nlen s1) with
          | nil =>
            rw [q, List.nil_append] at hz
            have := (tail_take ht hz).1
            omega
          | cons c r =>
            rw [q] at hz
            simp at hz
            exact ⟨r, by rw [hz]⟩
        have e1 : s1 = s1.take (nlen s1) ++ 32 :: s2 := (List.take_append_drop (nlen s1) s1).symm.trans (by rw [e0])
        have hlen : s1.length = nlen s1 + 1 + s2.length := by
          have := congrArg List.length e0
          rw [List.length_drop] at this
          have q := nlen_le s1
          simp at this
          omega
        have hs2 : 10 ∉ s2 := fun h => hs1 (by rw [e1]; simp [h])
        have ed2 : (s1 ++ tl).drop (nlen s1 + 1) = s2 ++ tl := by
          rw [← List.drop_drop, dk, e0]
          rfl
        rw [ed2]
        have k3 := nm_app ht s2
        have dk3 : (s2 ++ tl).drop (nmlen s2) = s2.drop (nmlen s2) ++ tl := List.drop_append_of_le_length (nm_le s2)
        have tk3 : (s2 ++ tl).take (nmlen s2) = s2.take (nmlen s2) := List.take_append_of_le_length (nm_le s2)
        -- what stands behind the number
        have cj : ∀ j, canW w s1 (nlen s1 + 1 + j) = canT w (spl 32 (s2.take j)) := fun j => by
          unfold canW
          have et : s1.take (nlen s1 + 1 + j) = s1.take (nlen s1) ++ 32 :: s2.take j := by
            have hl0 : (s1.take (nlen s1)).length = nlen s1 := by
              rw [List.length_take]
              have := nlen_le s1
              omega
            exact (congrArg (List.take (nlen s1 + 1 + j)) e1).trans (take_mid hl0)
          rw [et, spl_app d32]
          obtain ⟨p, ps, q⟩ := spl_ne 32 (s2.take j)
          rw [q]
          simp [canP, hw, hd]
        have an32' : ∀ l : List Nat, l.all an = true → 32 ∉ l := fun l h z => by
          rw [List.all_eq_true] at h
          have := h 32 z
          rw [an32] at this
          cases this
        by_cases hg : (s2.drop (nmlen s2) ++ tl).take 1 ≠ [10] ∨ isNm (s2.take (nmlen s2)) = false
        · have em : mend (s2 ++ tl) = (nmlen s2, none) := by
            unfold mend
            rw [k3, dk3, tk3, if_pos hg]
          rw [em]
          simp only
          refine (want_none ?_ fun htl => ?_).symm
          · rw [ha, Nat.add_assoc (w.length + 1)]
            refine mx_at hw (by have := nm_le s2; omega) ?_ fun j hj hjs => ?_
            · rw [cj]
              have hb := begun_nm s2
              have ha := hb
              simp only [begun, Bool.and_eq_true] at ha
              rw [spl_free (an32' _ ha.2.1)]
              simp [canT, hwl, hb]
            · rw [show j = nlen s1 + 1 + (j - (nlen s1 + 1)) by omega, cj]
              generalize hj' : j - (nlen s1 + 1) = j'
              have q1 : nmlen s2 < j' := by omega
              have q2 : j' ≤ s2.length := by omega
              obtain ⟨p, ps, q⟩ := spl_ne 32 (s2.take j')
              rw [q]
              cases ps with
              | nil =>
                obtain ⟨e2, _⟩ := spl_single q
                cases hc : canT w [p] with
                | false => rfl
                | true =>
                  exfalso
                  simp only [canT, Bool.and_eq_true] at hc
                  have l1 := nm_most hc.2 (x := s2) (by rw [← e2]; exact List.take_prefix _ _)
                  have l2 := take_pre e2 q2
                  omega
              | cons p2 ps => rfl
          · cases hr : recL (w ++ 32 :: s1) with
            | none => rfl
            | some r =>
              exfalso
              obtain ⟨_, hh⟩ := recW hw hr
              rcases hh with ⟨h1, _⟩ | ⟨_, m, h2, h3, h4⟩
              · exact hwl h1
              · have e2 : 32 :: s2 = 32 :: m := List.append_cancel_left (e1.symm.trans h2)
                simp only [List.cons.injEq, true_and] at e2
                subst e2
                have hb : begun s2 = true := by
                  simp only [nameL, Bool.and_eq_true] at h4
                  exact h4.2.1
                have l1 := nm_most hb (List.prefix_refl s2)
                have l2 := nm_le s2
                have e3 : nmlen s2 = s2.length := by omega
                rw [e3, List.drop_length, List.take_length, List.nil_append] at hg
                rcases hg with hg | hg
                · exact hg (tail_ten ht htl)
                · rw [nameL_isNm, hg] at h4
                  cases h4
        · have h10 : (s2.drop (nmlen s2) ++ tl).take 1 = [10] := Classical.byContradiction fun z => hg (.inl z)
          have hnm : isNm (s2.take (nmlen s2)) = true := by
            cases q : isNm (s2.take (nmlen s2)) with
            | true => rfl
            | false => exact absurd (.inr q) hg
          have em : mend (s2 ++ tl) = (nmlen s2 + 1, some (s2.take (nmlen s2))) := by
            unfold mend
            rw [k3, dk3, tk3, if_neg hg]
          rw [em]
          simp only
          have e2 : s2.drop (nmlen s2) = [] := by
            cases q : s2.drop (nmlen s2) with
            | nil => rfl
            | cons c r =>
              rw [q] at h10
              simp at h10
              exact absurd (List.mem_of_mem_drop (by rw [q, h10]; exact List.mem_cons_self)) hs2
          rw [e2, List.nil_append] at h10
          have htl := (tail_take ht h10).2
          have e3 : s2.take (nmlen s2) = s2 := by
            have := List.take_append_drop (nmlen s2) s2
            rw [e2, List.append_nil] at this
            exact this
          have el : nmlen s2 = s2.length := by
            have := congrArg List.length e3
            rw [List.length_take] at this
            have := nm_le s2
            omega
          rw [e3] at hnm
          have hall : s2.all an = true := by
            simp only [isNm, Bool.and_eq_true] at hnm
            exact hnm.2.2.2
          have er : recL (w ++ 32 :: s1) = some [.str (T w), .int (numV (s1.take (nlen s1))), .str (T s2)] := by
            unfold recL
            rw [spl_app (words_plain w hw).1]
            rw [show spl 32 s1 = [s1.take (nlen s1), s2] from (congrArg (spl 32) e1).trans (by rw [spl_app d32, spl_free (an32' _ hall)])]
            simp [recP, hw, hd, hwl, nameL_isNm, hnm]
          rw [want_some htl er, e3, ha, el]
          simp
          omega
end K52
end
section
set_option maxHeartbeats 1000000
namespace K52
open PySem PySem.Spec PyProof.Rows L2 MR MX
theorem mx_le (s : List Nat) : mx s ≤ s.length := gr_le _ _
theorem go_same : ∀ (n : Nat) (u : List Nat) (f : List D) (p : Nat), u.length ≤ n → pgo (n + 1) u f p = lgo (spl 10 u) f p ∧ (pgo (n + 1) u f p).2 ≤ p + u.length := by
  intro n
  induction n with
  | zero =>
    intro u f p hu
    have : u = [] := List.eq_nil_of_length_eq_zero (by omega)
    subst this
    exact ⟨rfl, Nat.le_refl _⟩
  | succ n ih =>
    intro u f p hu
    by_cases h0 : u = []
    · subst h0
      exact ⟨rfl, Nat.le_refl _⟩
    · obtain ⟨s, ps, hP⟩ := spl_ne 10 u
      rw [hP]
      have e0 : pgo (n + 1 + 1) u f p = (match lend u with
        | (a, none) => (f, p + a)
        | (a, some r) => pgo (n + 1) (u.drop a) (f ++ [.tup r]) (p + a)) := if_neg h0
      rw [e0]
      cases ps with
      | nil =>
        obtain ⟨e1, h10⟩ := spl_single hP
        subst e1
        have hl := lend_spec (tl := []) h10 (.inl rfl)
        rw [List.append_nil] at hl
        rw [hl, want_none rfl (fun z => absurd rfl z)]
        exact ⟨rfl, Nat.add_le_add_left (mx_le _) _⟩
      | cons t r =>
        obtain ⟨y, e1, e2, h10⟩ := spl_cons2 hP
        subst e1
        have hl := lend_spec (tl := 10 :: y) h10 (.inr ⟨y, rfl⟩)
        cases hr : recL s with
        | none =>
          rw [hl, want_none rfl (fun _ => hr)]
          simp only [lgo, hr]
          have := mx_le s
          exact ⟨trivial, by simp; omega⟩
        | some rec =>
          rw [hl, want_some (by simp) hr]
          simp only [lgo, hr]
          have ed : (s ++ 10 :: y).drop (s.length + 1) = y := by
            rw [show s ++ 10 :: y = (s ++ [10]) ++ y by simp]
            exact List.drop_left' (by simp)
          rw [ed, ← e2]
          simp only [List.length_append, List.length_cons] at hu ⊢
          obtain ⟨h1, h2⟩ := ih y (f ++ [.tup rec]) (p + (s.length + 1)) (by omega)
          exact ⟨h1, by omega⟩
end K52
end
section
set_option maxHeartbeats 1000000
namespace K52
open PySem PySem.Spec PyProof.Rows L2 MR MX
/-- data that can be shown, of k floors, no heavier than W -/
structure Nc (k W : Nat) (d : D) : Prop where
  flat : D.flat k d = true
  sh : PyData.showable d.py = true
  lv : PyData.leavesShort 13 d.py = true
  wt : d.py.weight ≤ W
  nr : D.blw 0 d = true
theorem Nc.mono {k W W' : Nat} {d : D} (n : Nc k W d) (h : W ≤ W') : Nc k W' d := ⟨n.flat, n.sh, n.lv, Nat.le_trans n.wt h, n.nr⟩
theorem nc_int {k : Nat} {i : Int} (h : i.natAbs < 10000) : Nc k 15 (.int i) := by
  have hl : i.natAbs.log2 < 14 := by
    by_cases h0 : i.natAbs = 0
    · rw [h0]
      decide
    · exact (Nat.log2_lt h0).mpr (by omega)
  refine ⟨by cases k <;> rfl, ?_, ?_, ?_, rfl⟩
  · show decide (i.natAbs.log2 < 1920) = true
    exact decide_eq_true (by omega)
  · show decide ((PyData.shown (.int i)).length ≤ 13) = true
    exact decide_eq_true (PyData.shown_int_le (by omega))
  · show (if i == 0 then 0 else i.natAbs.log2 + 1) ≤ 15
    split <;> omega
theorem nc_str {k : Nat} {l : List Nat} (h : ∀ c ∈ l, c < 128) : Nc k l.length (.str (T l)) := by
  refine ⟨by cases k <;> exact strOk_T h, rfl, ?_, ?_, rfl⟩
  · show (T l).cps.toList.all (fun c => decide (c < 16 ^ 8)) = true
    rw [T_cps, List.all_eq_true]
    intro c hc
    have := h c hc
    exact decide_eq_true (by omega)
  · show (T l).length ≤ _
    rw [T_len]
    exact Nat.le_refl _
theorem nc_seq {k W : Nat} : ∀ {l : List D}, (∀ x ∈ l, Nc k W x) → l.all (D.flat k) = true ∧ PyData.showableAll (D.pys l) = true ∧ PyData.leavesShortAll 13 (D.pys l) = true ∧ PyData.weightAll (D.pys l) ≤ l.length * (W + 1) ∧ D.blws 0 l = true
  | [], _ => ⟨rfl, by simp [D.pys, PyData.showableAll], by simp [D.pys, PyData.leavesShortAll], by simp [D.pys, PyData.weightAll], rfl⟩
  | d :: l, h => by
    obtain ⟨a1, a2, a3, a4, a5⟩ := nc_seq (l := l) fun x hx => h x (List.mem_cons_of_mem _ hx)
    have n := h d (by simp)
    refine ⟨?_, ?_, ?_, ?_, ?_⟩
    · rw [List.all_cons, n.flat, a1]
      rfl
    · simp only [D.pys, PyData.showableAll, n.sh, a2]
      rfl
    · simp only [D.pys, PyData.leavesShortAll, n.lv, a3]
      rfl
    · simp only [D.pys, PyData.weightAll, List.length_cons]
      have := n.wt
      rw [Nat.add_mul]
      omega
    · simp only [D.blws, n.nr, a5]
      rfl
theorem nc_lst {k W V : Nat} {l : List D} (h : ∀ x ∈ l, Nc k W x) (hv : l.length * (W + 1) ≤ V) : Nc (k + 1) V (.lst l) := by
  obtain ⟨a1, a2, a3, a4, a5⟩ := nc_seq h
  exact ⟨a1, by simpa only [D.py, PyData.showable] using a2, by simpa only [D.py, PyData.leavesShort] using a3, by simp only [D.py, PyData.weight]; omega, by simpa only [D.blw] using a5⟩
theorem nc_tup {k W V : Nat} {l : List D} (h : ∀ x ∈ l, Nc k W x) (hv : l.length * (W + 1) ≤ V) : Nc (k + 1) V (.tup l) := by
  obtain ⟨a1, a2, a3, a4, a5⟩ := nc_seq h
  exact ⟨a1, by simpa only [D.py, PyData.showable] using a2, by simpa only [D.py, PyData.leavesShort] using a3, by simp only [D.py, PyData.weight]; omega, by simpa only [D.blw] using a5⟩
theorem res_nr {h : Sto} {d : D} (hd : D.blw 0 d = true) : res h d = d := by
  cases d <;> first | rfl | (simp [D.blw] at hd)
theorem f_repr {h : Sto} {d : D} (n : Nc 60 1000000 d) : fRepr h [d] = some (.str (PyData.shown d.py)) := by
  have hl : (PyData.shown d.py).length ≤ LN := by
    have := PyData.shown_le 13 (by decide) d.py n.lv
    have := n.wt
    show _ ≤ 16777216
    omega
  show (if (D.flat 60 (res h d) && PyData.showable (res h d).py && decide ((PyData.shown (res h d).py).length ≤ LN)) = true then some (D.str (PyData.shown (res h d).py)) else none) = _
  rw [res_nr n.nr, n.flat, n.sh, decide_eq_true hl]
  rfl
/-! ### records -/
def RecD (d : D) : Prop := ∃ (w n : List Nat), w ∈ words ∧ isNum n = true ∧ (d = .tup [.str (T w), .int (numV n)] ∨ ∃ m : List Nat, (∀ c ∈ m, c < 128) ∧ m.length ≤ 12 ∧ d = .tup [.str (T w), .int (numV n), .str (T m)])
theorem recL_rec {l : List Nat} {r : List D} (hl : ∀ c ∈ l, c < 128) (h : recL l = some r) : RecD (.tup r) := by
  unfold recL at h
  have hsub : ∀ p ∈ spl 32 l, ∀ c ∈ p, c < 128 := fun p hp c hc => hl c (spl_sub hp c hc)
  revert h hsub
  generalize spl 32 l = P
  intro h hsub
  match P, h, hsub with
  | [w, n], h, hsub =>
    simp only [recP] at h
    split at h
    · rename_i hc
      simp only [Bool.and_eq_true, decide_eq_true_eq] at hc
      cases h
      exact ⟨w, n, hc.1.1, hc.1.2, .inl rfl⟩
    · cases h
  | [w, n, m], h, hsub =>
    simp only [recP] at h
    split at h
    · rename_i hc
      simp only [Bool.and_eq_true, decide_eq_true_eq] at hc
      cases h
      refine ⟨w, n, hc.1.1.1, hc.1.1.2, .inr ⟨m, hsub m (by simp), ?_, rfl⟩⟩
      have := hc.2
      simp only [nameL, begun, Bool.and_eq_true, decide_eq_true_eq] at this
      have := this.2.1.1
      omega
    · cases h
  | [], h, _ => cases h
  | [_], h, _ => cases h
  | _ :: _ :: _ :: _ :: _, h, _ => cases h
theorem numV_small {n : List Nat} (h : isNum n = true) : (numV n).natAbs < 100 := by
  simp only [isNum, Bool.and_eq_true, decide_eq_true_eq] at h
  obtain ⟨⟨h1, h2⟩, h3, _⟩ := h
  match n, h1, h2, h3 with
  | [a], _, h2, _ =>
    simp only [List.all_cons, List.all_nil, Bool.and_true, dig, decide_eq_true_eq] at h2
    show ((NumText.digitsVal [a] : Nat) : Int).natAbs < 100
    simp [NumText.digitsVal]
    omega
  | [a, b], _, h2, _ =>
    simp only [List.all_cons, List.all_nil, Bool.and_true, dig, Bool.and_eq_true, decide_eq_true_eq] at h2
    show ((NumText.digitsVal [a, b] : Nat) : Int).natAbs < 100
    simp [NumText.digitsVal]
    omega
  | _ :: _ :: _ :: _, _, _, h3 =>
    simp only [List.length_cons] at h3
    omega
theorem words_short : ∀ w ∈ words, w.length ≤ 6 := by decide +kernel
theorem rec_nc {k : Nat} {d : D} (h : RecD d) : Nc (k + 1) 60 d := by
  obtain ⟨w, n, hw, hn, e | ⟨m, hm, hl, e⟩⟩ := h
  · subst e
    refine nc_tup (W := 15) (fun x hx => ?_) (by simp)
    simp only [List.mem_cons, List.not_mem_nil, or_false] at hx
    rcases hx with rfl | rfl
    · exact (nc_str (words_ascii w hw)).mono (by have := words_short w hw; omega)
    · exact nc_int (by have := numV_small hn; omega)
  · subst e
    refine nc_tup (W := 15) (fun x hx => ?_) (by simp)
    simp only [List.mem_cons, List.not_mem_nil, or_false] at hx
    rcases hx with rfl | rfl | rfl
    · exact (nc_str (words_ascii w hw)).mono (by have := words_short w hw; omega)
    · exact nc_int (by have := numV_small hn; omega)
    · exact (nc_str hm).mono (by omega)
theorem lgo_recs : ∀ (lines : List (List Nat)) (f : List D) (p : Nat), (∀ s ∈ lines, ∀ c ∈ s, c < 128) → (∀ d ∈ f, RecD d) → (∀ d ∈ (lgo lines f p).1, RecD d) ∧ (lgo lines f p).1.length ≤ f.length + lines.length
  | [], f, p, _, hf => ⟨hf, by simp [lgo]⟩
  | [s], f, p, _, hf => ⟨hf, by simp [lgo]⟩
  | s :: t :: r, f, p, hl, hf => by
    cases hr : recL s with
    | none =>
      have e : lgo (s :: t :: r) f p = (f, p + mx s) := by
        simp only [lgo, hr]
      rw [e]
      exact ⟨hf, by simp⟩
    | some rec =>
      have e : lgo (s :: t :: r) f p = lgo (t :: r) (f ++ [.tup rec]) (p + s.length + 1) := by
        simp only [lgo, hr]
      rw [e]
      obtain ⟨h1, h2⟩ := lgo_recs (t :: r) (f ++ [.tup rec]) (p + s.length + 1) (fun x hx => hl x (List.mem_cons_of_mem _ hx)) fun d hd => by
        rcases List.mem_append.mp hd with hd | hd
        · exact hf d hd
        · simp only [List.mem_singleton] at hd
          subst hd
          exact recL_rec (hl s (by simp)) hr
      refine ⟨h1, ?_⟩
      simp only [List.length_append, List.length_cons, List.length_nil] at h2 ⊢
      omega
/-- what is found in a text, and how far one comes -/
def fnd (t : List Nat) : List D := (lgo (spl 10 t) [] 0).1
def plc (t : List Nat) : Nat := (lgo (spl 10 t) [] 0).2
theorem fnd_ok {t : List Nat} (ht : ∀ c ∈ t, c < 128) : (∀ d ∈ fnd t, RecD d) ∧ (fnd t).length ≤ t.length + 1 := by
  obtain ⟨h1, h2⟩ := lgo_recs (spl 10 t) [] 0 (fun s hs c hc => ht c (spl_sub hs c hc)) (fun d hd => by cases hd)
  refine ⟨h1, ?_⟩
  have := spl_many (c := 10) t
  simp at h2
  exact Nat.le_trans h2 this
theorem plc_le (t : List Nat) : plc t ≤ t.length := by
  obtain ⟨h1, h2⟩ := go_same t.length t [] 0 (Nat.le_refl _)
  rw [h1] at h2
  simpa [plc] using h2
theorem e_gone2 {t : List Nat} {h : Sto} (g : Good h) (ht : t.length ≤ 4000) : F_gone_over [.str (T t)] h = .ok (.tup [.tup (fnd t), .int (plc t : Nat)]) h := by
  obtain ⟨h1, _⟩ := e_gone g ht
  rw [h1, (go_same t.length t [] 0 (Nat.le_refl _)).1]
  rfl
end K52
end
section
set_option maxHeartbeats 1000000
namespace K52
open PySem PySem.Spec PyProof.Rows L2 MR MX
theorem e_copied {i : Int} {h : Sto} : F_copied [.int i] h = .ok (.int i) h :=
  run_rt (q_seq (q_sifF (q_test (q_isi (S' := "int") q_var rfl (by decide +kernel))) rfl) (q_seq (q_sifF (q_test (q_isi (S' := "int") q_var rfl (by decide +kernel))) rfl) (q_seq (q_sifF (q_test (q_isi (S' := "int") q_var rfl (by decide +kernel))) rfl) (q_ret q_var))))
theorem q_raise {ma : SA} {e : MR.Env} {h : Sto} {i : Int} (hm : ma e h = .ok [.int i] h) : sRaise "BadText" "place" mI_BadText mI_BadText ma e h = .err (.own "BadText" "place" (.int i)) e h := by
  have m : mI_BadText [none, some (.int i), none] h = .ok (.int i) h := q_call (q_one q_var) e_copied
  simp only [sRaise, hm, ev_in_ok, ev_bind_ok, m]
theorem run_err {N : Nat} {m : SS} {ds : List D} {h : Sto} {c f : Str} {d : D} {e : MR.Env} (q : m (ds.map some ++ List.replicate (N - ds.length) none) h = .err (.own c f d) e h) : runB N m ds h = .err (.own c f d) [] h := by
  unfold runB
  rw [q]
  simp only [fin]
  split
  · rw [List.take_length]
  · rfl
def nl (t : List Nat) : Bool := decide (t.getLast? = some 10)
theorem e_last {t : List Nat} {h : Sto} {e : MR.Env} (ht : t.length ≤ 4000) (h0 : t ≠ []) (he : e[0]? = some (some (.str (T t)))) : sOp fNe (sOp fIx (sVar 0) (sUn fNeg (sC (.int 1)))) (sC (.str "\n")) e h = .ok (.bl (!nl t)) h := by
  obtain ⟨l, c, rfl⟩ : ∃ l c, t = l ++ [c] := ⟨t.dropLast, t.getLast h0, (List.dropLast_concat_getLast h0).symm⟩
  refine q_op (q_op (q_var he) (q_neg q_c) (f_ixm (by simp at ht; omega))) q_c ?_
  rw [s_nl, f_ne]
  simp [nl]
theorem e_lastE {t : List Nat} {h : Sto} {e : MR.Env} (ht : t.length ≤ 4000) (h0 : t ≠ []) (he : e[0]? = some (some (.str (T t)))) : sOp fEq (sOp fIx (sVar 0) (sUn fNeg (sC (.int 1)))) (sC (.str "\n")) e h = .ok (.bl (nl t)) h := by
  obtain ⟨l, c, rfl⟩ : ∃ l c, t = l ++ [c] := ⟨t.dropLast, t.getLast h0, (List.dropLast_concat_getLast h0).symm⟩
  refine q_op (q_op (q_var he) (q_neg q_c) (f_ixm (by simp at ht; omega))) q_c ?_
  rw [s_nl, f_eq]
  simp [nl]
theorem isi_str {t : List Nat} {h : Sto} {e : MR.Env} (he : e[0]? = some (some (.str (T t)))) : sNot (sTest (sIsi "str" (sVar 0))) e h = .ok false h :=
  q_not (p := true) (q_test (q_isi (S := "str") (S' := "str") (q_var he) rfl (by decide +kernel)))
/-- read_journal -/
theorem e_read {t : List Nat} {h : Sto} (g : Good h) (ht : t.length ≤ 4000) : F_read_journal [.str (T t)] h = if (decide (plc t < t.length) || (!decide (t = []) && !nl t)) = true then .err (.own "BadText" "place" (.int (plc t : Nat))) [] h else .ok (.tup (fnd t)) h := by
  have c1 : sOr (sTest (sOp fLt (sVar 2) (sFn fLen (sCons (sVar 0) sNil)))) (sAnd (sTest (sOp fNe (sVar 0) (sC (.str "")))) (sTest (sOp fNe (sOp fIx (sVar 0) (sUn fNeg (sC (.int 1)))) (sC (.str "\n"))))) [some (.str (T t)), some (.tup (fnd t)), some (.int (plc t : Nat))] h =
      .ok (decide (plc t < t.length) || (!decide (t = []) && !nl t)) h :=
    k_or (q_test (q_op q_var (q_fn (q_one q_var) (f_len (by omega))) f_ltN)) fun _ => k_and (q_test (q_op q_var q_c (by rw [s0]; exact f_ne))) fun h1 => q_test (e_last ht (by simpa using h1) rfl)
  by_cases hc : (decide (plc t < t.length) || (!decide (t = []) && !nl t)) = true
  · rw [if_pos hc]
    exact run_err (q_seq (q_sifF (isi_str rfl) rfl) (q_seq (q_unp (q_call (q_one q_var) (e_gone2 g ht))) (q_seqE (q_sifT (c1.trans (congrArg (fun b => R.ok b h) hc)) (q_raise (q_one q_var))))))
  · rw [if_neg hc]
    simp only [Bool.not_eq_true] at hc
    exact run_rt (q_seq (q_sifF (isi_str rfl) rfl) (q_seq (q_unp (q_call (q_one q_var) (e_gone2 g ht))) (q_seq (q_sifF (c1.trans (congrArg (fun b => R.ok b h) hc)) rfl) (q_ret q_var))))
theorem e_whole {t : List Nat} {h : Sto} (g : Good h) (ht : t.length ≤ 4000) : F_whole_of [.str (T t)] h = if plc t < t.length then .err (.own "BadText" "place" (.int (plc t : Nat))) [] h else .ok (.tup (fnd t)) h := by
  have c1 : sTest (sOp fLt (sVar 2) (sFn fLen (sCons (sVar 0) sNil))) [some (.str (T t)), some (.tup (fnd t)), some (.int (plc t : Nat))] h = .ok (decide (plc t < t.length)) h :=
    q_test (q_op q_var (q_fn (q_one q_var) (f_len (by omega))) f_ltN)
  by_cases hc : plc t < t.length
  · rw [if_pos hc]
    exact run_err (q_seq (q_sifF (isi_str rfl) rfl) (q_seq (q_unp (q_call (q_one q_var) (e_gone2 g ht))) (q_seqE (q_sifT (c1.trans (congrArg (fun b => R.ok b h) (decide_eq_true hc))) (q_raise (q_one q_var))))))
  · rw [if_neg hc]
    exact run_rt (q_seq (q_sifF (isi_str rfl) rfl) (q_seq (q_unp (q_call (q_one q_var) (e_gone2 g ht))) (q_seq (q_sifF (c1.trans (congrArg (fun b => R.ok b h) (decide_eq_false hc))) rfl) (q_ret q_var))))
/-! ### told -/
theorem q_callE {F : List D → Sto → R D} {k : Nat} {m : SA} {e e' : MR.Env} {h h1 h2 : Sto} {ds : List D} {z : Exn} (hm : m e h = .ok ds h1) (hf : F ds h1 = .err z e' h2) (hl : ds.length = k := by rfl) : sCall k F m e h = .err z e h2 := by
  simp only [sCall, hm, ev_bind_ok, hl, if_true, hf, MR.inE]
theorem told_ok {e : MR.Env} {h : Sto} {a : SE} {d : D} (ha : a e h = .ok d h) : sTryF 2 "BadText" "place" (sRet (sLst (sCons a sNil))) e h = .ok (.rt (.lst [d])) h := by
  have q : sRet (sLst (sCons a sNil)) e h = .ok (.rt (.lst [d])) h := q_ret (q_lst (q_one ha))
  simp only [sTryF, q]
theorem told_err {x y w : Option D} {h : Sto} {a : SE} {d : D} {e' : MR.Env} (ha : a [x, y, w] h = .err (.own "BadText" "place" d) e' h) : sTryF 2 "BadText" "place" (sRet (sLst (sCons a sNil))) [x, y, w] h = .ok (.rt d) h := by
  have q : sRet (sLst (sCons a sNil)) [x, y, w] h = .err (.own "BadText" "place" d) [x, y, w] h := by
    simp only [sRet, sLst, sCons, ha, R.bind, MR.inE]
  simp [sTryF, q]
theorem ifT_any {c : SB} {a b : SE} {e : MR.Env} {h h1 : Sto} {r : R D} (hc : c e h = .ok true h1) (ha : a e h1 = r) : sIfE c a b e h = r := by
  simp only [sIfE, hc, ev_bind_ok, if_true, ha]
theorem ifF_any {c : SB} {a b : SE} {e : MR.Env} {h h1 : Sto} {r : R D} (hc : c e h = .ok false h1) (ha : b e h1 = r) : sIfE c a b e h = r := by
  simp only [sIfE, hc, ev_bind_ok, Bool.false_eq_true, if_false, ha]
def whD (t : List Nat) : D := if (decide (plc t = t.length) && (decide (t = []) || nl t)) = true then .lst [.tup (fnd t)] else .int (plc t : Nat)
def toD (t : List Nat) : D := if decide (plc t = t.length) = true then .lst [.tup (fnd t)] else .int (plc t : Nat)
theorem e_told_f {t : List Nat} {h : Sto} (g : Good h) (ht : t.length ≤ 4000) : F__law_told [.str (T t), .bl false] h = .ok (whD t) h := by
  have hle := plc_le t
  have hb : (decide (plc t < t.length) || (!decide (t = []) && !nl t)) = !(decide (plc t = t.length) && (decide (t = []) || nl t)) := by
    have q1 : decide (plc t < t.length) = !decide (plc t = t.length) := by
      rw [← decide_not, decide_eq_decide]
      omega
    rw [q1, Bool.not_and, Bool.not_or]
  refine run_rt ?_
  unfold whD
  by_cases hc : (decide (plc t = t.length) && (decide (t = []) || nl t)) = true
  · rw [if_pos hc]
    refine told_ok (ifF_any (q_test q_var) (q_call (q_one q_var) ((e_read g ht).trans ?_)))
    rw [hb, hc]
    rfl
  · rw [if_neg hc]
    simp only [Bool.not_eq_true] at hc
    refine told_err (ifF_any (q_test q_var) (q_callE (e' := []) (q_one q_var) ((e_read g ht).trans ?_)))
    rw [hb, hc]
    rfl
theorem e_told_t {t : List Nat} {h : Sto} (g : Good h) (ht : t.length ≤ 4000) : F__law_told [.str (T t), .bl true] h = .ok (toD t) h := by
  have hle := plc_le t
  refine run_rt ?_
  unfold toD
  by_cases hc : plc t = t.length
  · rw [if_pos (decide_eq_true hc)]
    refine told_ok (ifT_any (q_test q_var) (q_call (q_one q_var) ((e_whole g ht).trans (if_neg (by omega)))))
  · rw [if_neg (by simpa using hc)]
    exact told_err (ifT_any (q_test q_var) (q_callE (q_one q_var) ((e_whole g ht).trans (if_pos (by omega)))))
/-- what is no text -/
theorem e_told_odd {d : D} {b : Bool} {h : Sto} {S : String} (hn : tyName h d = some S) (hk : L2.kitB S "str" = some false) : F__law_told [d, .bl b] h = .ok (.int 0) h := by
  have c0 : ∀ o1 o2, sNot (sTest (sIsi "str" (sVar 0))) [some d, o1, o2] h = .ok true h := fun o1 o2 => q_not (q_test (q_isi q_var hn hk))
  have r1 : F_read_journal [d] h = .err (.own "BadText" "place" (.int 0)) [] h := run_err (q_seqE (q_sifT (c0 _ _) (q_raise (q_one q_c))))
  have w1 : F_whole_of [d] h = .err (.own "BadText" "place" (.int 0)) [] h := run_err (q_seqE (q_sifT (c0 _ _) (q_raise (q_one q_c))))
  refine run_rt ?_
  cases b with
  | true => exact told_err (ifT_any (q_test q_var) (q_callE (q_one q_var) w1))
  | false => exact told_err (ifF_any (q_test q_var) (q_callE (q_one q_var) r1))
/-! ### the judge's question -/
theorem nc_found {t : List Nat} (ha : ∀ c ∈ t, c < 128) (ht : t.length ≤ 4000) (b : Bool) : Nc 59 400000 (if b = true then .lst [.tup (fnd t)] else .int (plc t : Nat)) := by
  obtain ⟨h1, h2⟩ := fnd_ok ha
  have := plc_le t
  cases b with
  | false => exact (nc_int (by omega)).mono (by omega)
  | true =>
    refine nc_lst (W := 390000) (fun x hx => ?_) (by simp)
    simp only [List.mem_singleton] at hx
    subst hx
    refine nc_tup (W := 60) (fun x hx => rec_nc (h1 x hx)) ?_
    have : (fnd t).length ≤ 4001 := by omega
    omega
theorem e_right {t : List Nat} {h : Sto} (g : Good h) (ha : ∀ c ∈ t, c < 128) (ht : t.length ≤ 4000) : F__law_read_right [.str (T t)] h = .ok (.bl true) h := by
  have w0 : ∀ (e : MR.Env), e[4]? = some (some (.int (plc t : Nat))) → e[0]? = some (some (.str (T t))) → sTest (sOp fEq (sVar 4) (sFn fLen (sCons (sVar 0) sNil))) e h = .ok (decide (plc t = t.length)) h := fun e h4 h0 =>
    q_test (q_op (q_var h4) (q_fn (q_one (q_var h0)) (f_len (by omega))) f_eqN)
  have N1 := nc_found ha ht (decide (plc t = t.length) && (decide (t = []) || nl t))
  have N2 := nc_found ha ht (decide (plc t = t.length))
  have NN : Nc 60 1000000 (.lst [whD t, toD t]) := nc_lst (W := 400000) (fun x hx => by
    simp only [List.mem_cons, List.not_mem_nil, or_false] at hx
    rcases hx with rfl | rfl
    · exact N1
    · exact N2) (by simp)
  refine run_rt (q_seq (q_unp (q_call (q_one q_var) (e_law_gone g ha (by omega)))) (q_seq (q_set (d := whD t) (k_ifE (k_and (w0 _ rfl rfl) fun _ => k_or (q_test (q_op q_var q_c (by rw [s0]; exact f_eq))) fun h1 => q_test (e_lastE ht (by simpa using h1) rfl)) (fun _ => q_lst (q_one q_var)) fun _ => q_var)) (q_seq (q_set (d := toD t) (k_ifE (w0 _ rfl rfl) (fun _ => q_lst (q_one q_var)) fun _ => q_var))
    (q_ret (q_op (q_fn (q_one (q_lst (q_cons (q_call (q_cons q_var (q_one q_c)) (e_told_f g ht)) (q_one (q_call (q_cons q_var (q_one q_c)) (e_told_t g ht)))))) (f_repr NN)) (q_fn (q_one (q_lst (q_cons q_var (q_one q_var)))) (f_repr NN)) ?_)))))
  show some (D.bl (decide _)) = _
  rw [decide_eq_true rfl]
end K52
end
section
set_option maxHeartbeats 1000000
namespace K52
open PySem PySem.Spec PyProof.Rows L2 MR MX
/-! ### the source of the draws -/
abbrev kC : Str := Str.ofString "cells"
abbrev kL : Str := Str.ofString "left"
abbrev kM : Str := Str.ofString "mixed"
abbrev kT : Str := Str.ofString "turn"
theorem kCL : (Sum.inr kC : Key) ≠ Sum.inr kL := by decide +kernel
theorem kCM : (Sum.inr kC : Key) ≠ Sum.inr kM := by decide +kernel
theorem kCT : (Sum.inr kC : Key) ≠ Sum.inr kT := by decide +kernel
theorem kLM : (Sum.inr kL : Key) ≠ Sum.inr kM := by decide +kernel
theorem kLT : (Sum.inr kL : Key) ≠ Sum.inr kT := by decide +kernel
theorem kMT : (Sum.inr kM : Key) ≠ Sum.inr kT := by decide +kernel
def srcK (a b c : Int) : List (Key × D) := [(.inr kC, .ref 1), (.inr kL, .int a), (.inr kM, .int b), (.inr kT, .int c)]
def Sr (a b c : Int) (cs : List Int) (rest : Sto) : Sto := .M (srcK a b c) :: .L (cs.map D.int) :: rest
theorem g_cells {a b c : Int} {cs : List Int} {rest : Sto} : fDGet (Sr a b c cs rest) (.ref 0) (.str kC) = some (.ref 1) := by
  show valM (srcK a b c) (.inr kC) = _
  simp [srcK, valM]
theorem g_left {a b c : Int} {cs : List Int} {rest : Sto} : fDGet (Sr a b c cs rest) (.ref 0) (.str kL) = some (.int a) := by
  show valM (srcK a b c) (.inr kL) = _
  simp only [srcK, valM, if_neg kCL, if_true]
theorem g_mixed {a b c : Int} {cs : List Int} {rest : Sto} : fDGet (Sr a b c cs rest) (.ref 0) (.str kM) = some (.int b) := by
  show valM (srcK a b c) (.inr kM) = _
  simp only [srcK, valM, if_neg kCM, if_neg kLM, if_true]
theorem g_turn {a b c : Int} {cs : List Int} {rest : Sto} : fDGet (Sr a b c cs rest) (.ref 0) (.str kT) = some (.int c) := by
  show valM (srcK a b c) (.inr kT) = _
  simp only [srcK, valM, if_neg kCT, if_neg kLT, if_neg kMT, if_true]
theorem p_left {a b c x : Int} : putM (srcK a b c) (.inr kL) (.int x) = srcK x b c := by
  unfold putM
  rw [if_pos (by simp [srcK])]
  simp only [srcK, List.map_cons, List.map_nil, if_neg kCL, if_neg kLM.symm, if_neg kLT.symm, if_true]
theorem p_turn {a b c x : Int} : putM (srcK a b c) (.inr kT) (.int x) = srcK a b x := by
  unfold putM
  rw [if_pos (by simp [srcK])]
  simp only [srcK, List.map_cons, List.map_nil, if_neg kCT, if_neg kLT, if_neg kMT, if_true]
theorem q_dput {mo mi mv : SE} {e : MR.Env} {h h1 : Sto} {v : D} {n : Nat} {k : Key} {y : D} {kvs : List (Key × D)} (hv : mv e h = .ok v h1) (ho : mo e h1 = .ok (.ref n) h1) (hi : mi e h1 = .ok y h1) (hn : h1[n]? = some (.M kvs)) (hk : keyOf y = some k) (hl : kvs.length < 4096) :
    sStm (sDPutE mo mi mv) e h = .ok (.nx e) (h1.set n (.M (putM kvs k v))) := by
  have q : sDPutE mo mi mv e h = .ok .non (h1.set n (.M (putM kvs k v))) := by
    simp only [sDPutE, hv, ho, hi, ev_bind_ok, hn, hk]
    rw [if_pos hl]
  simp only [sStm, q, ev_in_ok, ev_bind_ok]
theorem put_left {e : MR.Env} {h : Sto} {mv : SE} {a b c x : Int} {cs : List Int} {rest : Sto} (h0 : e[0]? = some (some (.ref 0))) (hv : mv e h = .ok (.int x) (Sr a b c cs rest)) : sStm (sDPutE (sVar 0) (sC (.str "left")) mv) e h = .ok (.nx e) (Sr x b c cs rest) := by
  have q := q_dput (mi := sC (.str "left")) (n := 0) (kvs := srcK a b c) (k := .inr kL) hv (q_var (i := 0) h0) q_c rfl rfl (by simp [srcK])
  rw [q, p_left]
  rfl
theorem put_turn {e : MR.Env} {h : Sto} {mv : SE} {a b c x : Int} {cs : List Int} {rest : Sto} (h0 : e[0]? = some (some (.ref 0))) (hv : mv e h = .ok (.int x) (Sr a b c cs rest)) : sStm (sDPutE (sVar 0) (sC (.str "turn")) mv) e h = .ok (.nx e) (Sr a b x cs rest) := by
  have q := q_dput (mi := sC (.str "turn")) (n := 0) (kvs := srcK a b c) (k := .inr kT) hv (q_var (i := 0) h0) q_c rfl rfl (by simp [srcK])
  rw [q, p_turn]
  rfl
def pkC : SB := sAnd (sTest (sOp fLt (sOp fDGet (sVar 0) (sC (.str "left"))) (sC (.int 2)))) (sTest (sOp fGt (sFn fLen (sCons (sVar 2) sNil)) (sC (.int 0))))
def pkB : SS := sStm (sDPutE (sVar 0) (sC (.str "left")) (sPop (sVar 2)))
theorem pop_ints {e : MR.Env} {a b c x : Int} {cs : List Int} {rest : Sto} (h2 : e[2]? = some (some (.ref 1))) : sPop (sVar 2) e (Sr a b c (cs ++ [x]) rest) = .ok (.int x) (Sr a b c cs rest) := by
  unfold sPop
  rw [q_var h2, ev_bind_ok]
  have g : (Sr a b c (cs ++ [x]) rest)[1]? = some (.L ((cs ++ [x]).map D.int)) := rfl
  simp only [g]
  have l : ((cs ++ [x]).map D.int)[((cs ++ [x]).map D.int).length - 1]? = some (.int x) := by
    simp
  simp only [l]
  congr 1
  show Cell.M (srcK a b c) :: Cell.L ((cs ++ [x]).map D.int).dropLast :: rest = _
  rw [List.map_append, List.map_singleton, List.dropLast_concat]
  rfl
theorem pk_c {m a b c : Int} {cs : List Int} {rest : Sto} : pkC [some (.ref 0), some (.int m), some (.ref 1), none, none, none] (Sr a b c cs rest) = .ok (decide (a < 2) && decide (0 < cs.length)) (Sr a b c cs rest) := by
  refine k_and (q_test (q_op (q_op q_var q_c g_left) q_c rfl)) fun _ => q_test (q_op (q_fn (q_one q_var) (show fLen _ [.ref 1] = some (.int (cs.length : Nat)) from ?_)) q_c ?_)
  · show some (D.int ((cs.map D.int).length : Nat)) = _
    rw [List.length_map]
  · show some (D.bl (decide ((0 : Int) < (cs.length : Nat)))) = _
    congr 2
    rw [decide_eq_decide]
    omega
theorem pk_loop {m : Int} {rest : Sto} : ∀ (k : Nat) (N : Nat) (cs : List Int) (a b c : Int), cs.length = k → k < N → ∃ a' cs', sWhile pkC pkB N [some (.ref 0), some (.int m), some (.ref 1), none, none, none] (Sr a b c cs rest) = .ok (.nx [some (.ref 0), some (.int m), some (.ref 1), none, none, none]) (Sr a' b c cs' rest) ∧ cs'.length ≤ cs.length
  | k, 0, cs, a, b, c, _, hN => by omega
  | 0, N + 1, cs, a, b, c, hk, _ => ⟨a, cs, q_whF (pk_c.trans (congrArg (fun b => R.ok b _) (by rw [hk]; simp))), Nat.le_refl _⟩
  | k + 1, N + 1, cs, a, b, c, hk, hN => by
    by_cases ha : a < 2
    · obtain ⟨init, x, rfl⟩ : ∃ init x, cs = init ++ [x] := by
        have hne : cs ≠ [] := fun z => by
          subst z
          cases hk
        exact ⟨cs.dropLast, cs.getLast hne, (List.dropLast_concat_getLast hne).symm⟩
      have hk' : init.length = k := by simpa using hk
      obtain ⟨a', cs', h1, h2⟩ := pk_loop (m := m) (rest := rest) k N init x b c hk' (by omega)
      refine ⟨a', cs', ?_, by simp; omega⟩
      exact (q_whT (c := pkC) (b := pkB) (pk_c.trans (congrArg (fun b => R.ok b _) (by rw [decide_eq_true ha]; simp))) (put_left rfl (pop_ints rfl))).trans h1
    · exact ⟨a, cs, q_whF (pk_c.trans (congrArg (fun b => R.ok b _) (by rw [decide_eq_false ha]; rfl))), Nat.le_refl _⟩
theorem run_any {N : Nat} {m : SS} {ds : List D} {h h' : Sto} {d : D} (q : m (ds.map some ++ List.replicate (N - ds.length) none) h = .ok (.rt d) h') (hl : h'.length = h.length) : runB N m ds h = .ok d h' := by
  unfold runB
  rw [q, ← hl]
  exact fin_ok
theorem fmod_nat {x : Int} {m : Nat} (hm : 0 < m) : ∃ r : Nat, x.fmod (m : Int) = (r : Int) ∧ r < m := by
  have h1 : 0 ≤ x.fmod (m : Int) := Int.fmod_nonneg_of_pos x (by omega)
  have h2 : x.fmod (m : Int) < m := Int.fmod_lt_of_pos x (by omega)
  exact ⟨(x.fmod (m : Int)).toNat, by omega, by omega⟩
theorem small_lt {x : Int} (h1 : 0 ≤ x) (h2 : x < 4294967296) : small x = true := by
  unfold small
  rw [decide_eq_true_eq]
  have e : (2 : Int) ^ 64 = 18446744073709551616 := by decide +kernel
  rw [e]
  omega
theorem f_mulS {h : Sto} {x y : Int} (hs : (small x || small y) = true) : fMul h (.int x) (.int y) = some (.int (x * y)) := if_pos hs
theorem f_fdiv {h : Sto} {x y : Int} (hy : y ≠ 0) (hs : y.natAbs < 1073741824) : fFdiv h (.int x) (.int y) = some (.int (x.fdiv y)) := if_pos ⟨hy, hs⟩
/-- a draw: a number below m, or 0 -/
theorem e_pick {a b c : Int} {cs : List Int} {rest : Sto} {m : Nat} (hm : m < 100000) (hcs : cs.length ≤ 1000) : ∃ (r : Nat) (a' c' : Int) (cs' : List Int), F__law_pick [.ref 0, .int (m : Nat)] (Sr a b c cs rest) = .ok (.int (r : Nat)) (Sr a' b c' cs' rest) ∧ cs'.length ≤ 1000 ∧ (r < m ∨ (m = 0 ∧ r = 0)) := by
  have c0 : ∀ o1 o2 o3 o4, sTest (sOp fLt (sVar 1) (sC (.int 2))) [some (.ref 0), some (.int (m : Nat)), o1, o2, o3, o4] (Sr a b c cs rest) = .ok (decide (m < 2)) (Sr a b c cs rest) := fun o1 o2 o3 o4 => q_test (q_op q_var q_c (f_ltN (b := 2)))
  by_cases h2 : m < 2
  · refine ⟨0, a, c, cs, run_any (q_seqR (q_sifT ((c0 _ _ _ _).trans (congrArg (fun b => R.ok b _) (decide_eq_true h2))) (q_ret q_c))) rfl, hcs, by omega⟩
  · obtain ⟨a1, cs1, w1, w2⟩ := pk_loop (m := (m : Nat)) (rest := rest) cs.length 4096 cs a b c rfl (by omega)
    have pre : ∀ {t : SS} {r : R Fl}, t [some (.ref 0), some (.int (m : Nat)), some (.ref 1), some (.int a1), none, none] (Sr a1 b c cs1 rest) = r →
        sSeq (sIf (sTest (sOp fLt (sVar 1) (sC (.int 2)))) (sRet (sC (.int 0))) sNext) (sSeq (sSet 2 (sOp fDGet (sVar 0) (sC (.str "cells")))) (sSeq (sWhile pkC pkB 4096) (sSeq (sSet 3 (sOp fDGet (sVar 0) (sC (.str "left")))) t))) [some (.ref 0), some (.int (m : Nat)), none, none, none, none] (Sr a b c cs rest) = r := fun {t r} ht =>
      q_seq (q_sifF ((c0 _ _ _ _).trans (congrArg (fun b => R.ok b _) (decide_eq_false h2))) rfl) (q_seq (q_set (q_op q_var q_c g_cells)) (q_seq w1 (q_seq (q_set (q_op q_var q_c g_left)) ht)))
    have hmN : (m : Int) ≠ 0 := by omega
    have fm : ∀ (h : Sto) (x : Int), fMod h (.int x) (.int (m : Nat)) = some (.int (x.fmod (m : Int))) := fun h x => if_pos hmN
    by_cases ha : 1 < a1
    · obtain ⟨r, hr, hr2⟩ := fmod_nat (x := a1) (m := m) (by omega)
      refine ⟨r, a1.fdiv m, c, cs1, run_any (pre (q_seqR (q_sifT (q_test (q_op q_var q_c (show _ = some (D.bl true) from ?_))) (q_seq (put_left rfl (q_op q_var q_var (f_fdiv hmN (by omega)))) (q_ret (q_op (q_fn (q_one q_var) rfl) q_var ((fm _ _).trans (by rw [hr])))))))) rfl, by omega, .inl hr2⟩
      · show some (D.bl (decide ((1 : Int) < a1))) = _
        rw [decide_eq_true ha]
    · have st1 : ∀ (h : Sto) (x y : Int), y ≠ 0 → fMod h (.int x) (.int y) = some (.int (x.fmod y)) := fun h x y hy => if_pos hy
      obtain ⟨s1, hs1, hs2⟩ := fmod_nat (x := b + (c + 1) * 104729) (m := 998244353) (by omega)
      obtain ⟨s3, hs3, hs4⟩ := fmod_nat (x := (s1 : Int) * (s1 : Int) + (c + 1) * 17) (m := 2147483647) (by omega)
      obtain ⟨r, hr, hr2⟩ := fmod_nat (x := ((s3 : Int)).fdiv 16) (m := m) (by omega)
      refine ⟨r, a1, c + 1, cs1, run_any (pre (q_seq (q_sifF (q_test (q_op q_var q_c (show _ = some (D.bl false) from ?_))) rfl) (q_seq (put_turn rfl (q_op (q_op q_var q_c g_turn) q_c f_addI)) (q_seq (q_set (q_op q_var q_c g_turn)) (q_seq (q_set (d := .int (s1 : Nat)) (q_op (q_fn (q_one (q_op (q_op q_var q_c g_mixed) (q_op q_var q_c (f_mulS ?_)) f_addI)) rfl) q_c ((st1 _ _ _ (by decide)).trans (congrArg (fun i => some (D.int i)) hs1))))
        (q_seq (q_set (d := .int (s3 : Nat)) (q_op (q_fn (q_one (q_op (q_op q_var q_var (f_mulS ?_)) (q_op q_var q_c (f_mulS ?_)) f_addI)) rfl) q_c ((st1 _ _ _ (by decide)).trans (congrArg (fun i => some (D.int i)) hs3)))) (q_ret (q_op (q_fn (q_one (q_op q_var q_c (f_fdiv (by decide) (by decide)))) rfl) q_var ((fm _ _).trans (by rw [hr])))))))))) rfl, by omega, .inl hr2⟩
      · show some (D.bl (decide ((1 : Int) < a1))) = _
        rw [decide_eq_false ha]
      · rw [small_lt (x := 104729) (by decide) (by decide), Bool.or_true]
      · rw [small_lt (x := (s1 : Int)) (by omega) (by omega), Bool.or_true]
      · rw [small_lt (x := 17) (by decide) (by decide), Bool.or_true]
end K52
end
section
set_option maxHeartbeats 1000000
namespace K52
open PySem PySem.Spec PyProof.Rows L2 MR MX
def St (h rest : Sto) : Prop := ∃ (a b c : Int) (cs : List Int), h = Sr a b c cs rest ∧ cs.length ≤ 1000
theorem St.len {h rest : Sto} (s : St h rest) : h.length = rest.length + 2 := by
  obtain ⟨a, b, c, cs, rfl, _⟩ := s
  simp [Sr]
theorem pick_st {h rest : Sto} {m : Nat} (s : St h rest) (hm : m < 100000) : ∃ (r : Nat) (h' : Sto), F__law_pick [.ref 0, .int (m : Nat)] h = .ok (.int (r : Nat)) h' ∧ St h' rest ∧ (r < m ∨ (m = 0 ∧ r = 0)) := by
  obtain ⟨a, b, c, cs, rfl, hc⟩ := s
  obtain ⟨r, a', c', cs', h1, h2, h3⟩ := e_pick (a := a) (b := b) (c := c) (cs := cs) (rest := rest) hm hc
  exact ⟨r, _, h1, ⟨a', b, c', cs', rfl, h2⟩, h3⟩
theorem of_st {h rest : Sto} {l : List D} (s : St h rest) (h0 : l ≠ []) (hl : l.length < 100000) : ∃ (d : D) (h' : Sto), F__law_of [.ref 0, .lst l] h = .ok d h' ∧ St h' rest ∧ d ∈ l := by
  obtain ⟨r, h', h1, h2, h3⟩ := pick_st (m := l.length) s hl
  have hp : 0 < l.length := List.length_pos_iff.mpr h0
  have hr : r < l.length := by omega
  refine ⟨l[r], h', run_any (q_ret (q_op q_var (q_call (q_cons q_var (q_one (q_fn (q_one q_var) f_lenL))) h1) (f_ixL (List.getElem?_eq_getElem hr)))) (by rw [h2.len, s.len]), h2, List.getElem_mem hr⟩
/-! ### records that are drawn -/
def dg (i : Int) : List Nat := if i = 0 then [48] else if i = 1 then [49] else if i = 4 then [52] else if i = 9 then [57] else if i = 10 then [49, 48] else if i = 37 then [51, 55] else [57, 57]
def runs : List Int := [0, 1, 4, 9, 10, 37, 99]
def nms : List (List Nat) := [[97], [112, 97, 121], [120, 49], [112, 108, 97, 110, 49], [117, 110, 100, 111, 110, 101], [115, 117, 114, 101, 100], [122, 122, 122, 122, 122, 122, 122, 122, 122, 122, 122, 122], [114, 111, 119, 115], wLeft, wTry, [101, 48]]
theorem n_a : Str.ofString "a" = T [97] := by decide +kernel
theorem n_pay : Str.ofString "pay" = T [112, 97, 121] := by decide +kernel
theorem n_x1 : Str.ofString "x1" = T [120, 49] := by decide +kernel
theorem n_plan1 : Str.ofString "plan1" = T [112, 108, 97, 110, 49] := by decide +kernel
theorem n_sured : Str.ofString "sured" = T [115, 117, 114, 101, 100] := by decide +kernel
theorem n_z : fMul h (.str (Str.ofString "z")) (.int 12) = some (.str (T [122, 122, 122, 122, 122, 122, 122, 122, 122, 122, 122, 122])) := by
  show (if (0 : Int) ≤ 12 ∧ (12 : Int) ≤ 64 ∧ (Str.ofString "z").length ≤ 64 then some (D.str (Txt.mul (Str.ofString "z") 12)) else none) = _
  rw [if_pos ⟨by decide, by decide, by decide +kernel⟩, show Txt.mul (Str.ofString "z") 12 = T [122, 122, 122, 122, 122, 122, 122, 122, 122, 122, 122, 122] by decide +kernel]
theorem n_rows : Str.ofString "rows" = T [114, 111, 119, 115] := by decide +kernel
theorem n_e0 : Str.ofString "e0" = T [101, 48] := by decide +kernel
abbrev Rc := List Nat × Int × Option (List Nat)
def rcF : Rc → List D
  | (w, i, none) => [.str (T w), .int i]
  | (w, i, some m) => [.str (T w), .int i, .str (T m)]
def rcD (r : Rc) : D := .tup (rcF r)
def rcL : Rc → List Nat
  | (w, i, none) => w ++ 32 :: dg i
  | (w, i, some m) => w ++ 32 :: (dg i ++ 32 :: m)
def OkRc : Rc → Prop
  | (w, i, none) => w = wLeft ∧ i ∈ runs
  | (w, i, some m) => w ∈ words ∧ w ≠ wLeft ∧ i ∈ runs ∧ m ∈ nms
theorem any_st {h rest : Sto} (s : St h rest) : ∃ (r : Rc) (h' : Sto), F__law_any_record [.ref 0] h = .ok (rcD r) h' ∧ St h' rest ∧ OkRc r := by
  obtain ⟨d1, h1, a1, s1, m1⟩ := of_st (l := words.map lineD) s (by decide) (by decide)
  obtain ⟨d2, h2, a2, s2, m2⟩ := of_st (l := runs.map D.int) s1 (by decide) (by decide)
  obtain ⟨d3, h3, a3, s3, m3⟩ := of_st (l := nms.map lineD) s2 (by decide) (by decide)
  obtain ⟨w, hw, rfl⟩ := List.mem_map.mp m1
  obtain ⟨i, hi, rfl⟩ := List.mem_map.mp m2
  obtain ⟨m, hm, rfl⟩ := List.mem_map.mp m3
  have pre : ∀ {t : SS} {r : R Fl}, t [some (.ref 0), some (lineD m), some (lineD w), some (.int i)] h3 = r →
      sSeq (sPar 2 3 (sCons (sCall 2 F__law_of (sCons (sVar 0) (sCons (sCall 0 F__law_words sNil) sNil))) (sCons (sCall 2 F__law_of (sCons (sVar 0) (sCons (sLst (sCons (sC (.int 0)) (sCons (sC (.int 1)) (sCons (sC (.int 4)) (sCons (sC (.int 9)) (sCons (sC (.int 10)) (sCons (sC (.int 37)) (sCons (sC (.int 99)) sNil)))))))) sNil))) sNil)))
        (sSeq (sSet 1 (sCall 2 F__law_of (sCons (sVar 0) (sCons (sLst (sCons (sC (.str "a")) (sCons (sC (.str "pay")) (sCons (sC (.str "x1")) (sCons (sC (.str "plan1")) (sCons (sC (.str "undone")) (sCons (sC (.str "sured")) (sCons (sOp fMul (sC (.str "z")) (sC (.int 12))) (sCons (sC (.str "rows")) (sCons (sC (.str "left")) (sCons (sC (.str "try")) (sCons (sC (.str "e0")) sNil)))))))))))) sNil)))) t) [some (.ref 0), none, none, none] h = r := fun {t r} ht => by
    refine q_seq (q_par (q_cons (q_call (q_cons q_var (q_one (q_call q_nil e_words))) a1) (q_one (q_call (q_cons q_var (q_one (q_lst (q_cons q_c (q_cons q_c (q_cons q_c (q_cons q_c (q_cons q_c (q_cons q_c (q_one q_c)))))))))) a2)))) (q_seq (q_set (q_call (q_cons q_var (q_one (q_lst ?_ (by decide)))) a3)) ht)
    rw [n_a, n_pay, n_x1, n_plan1, s_undone, n_sured, n_rows, s_left, s_try, n_e0]
    exact q_cons q_c (q_cons q_c (q_cons q_c (q_cons q_c (q_cons q_c (q_cons q_c (q_cons (q_op q_c q_c n_z) (q_cons q_c (q_cons q_c (q_cons q_c (q_one q_c))))))))))
  have cl : sTest (sOp fEq (sVar 2) (sC (.str "left"))) [some (.ref 0), some (lineD m), some (lineD w), some (.int i)] h3 = .ok (decide (w = wLeft)) h3 := q_test (q_op q_var q_c (by rw [s_left]; exact f_eq))
  have hl : h3.length = h.length := by rw [s3.len, s.len]
  by_cases hwl : w = wLeft
  · refine ⟨(wLeft, i, none), h3, run_any (pre (q_ret (q_ifT (cl.trans (congrArg (fun b => R.ok b _) (decide_eq_true hwl))) (q_tup (q_cons (by rw [s_left]; exact q_c) (q_one q_var)) (by simp [rcF]))))) hl, s3, rfl, hi⟩
  · exact ⟨(w, i, some m), h3, run_any (pre (q_ret (q_ifF (cl.trans (congrArg (fun b => R.ok b _) (decide_eq_false hwl))) (q_tup (q_cons q_var (q_cons q_var (q_one q_var))) (by simp [rcF]))))) hl, s3, hw, hwl, hi, hm⟩
/-! ### lines -/
theorem num_text : ∀ i ∈ runs, Str.ofString (toString i) = T (dg i) := by decide +kernel
theorem runs_small : ∀ i ∈ runs, i.natAbs < 100 := by decide +kernel
theorem f_str {h : Sto} {i : Int} (hi : i ∈ runs) : fStr h [.int i] = some (.str (T (dg i))) := by
  have n := (nc_int (k := 0) (i := i) (by have := runs_small i hi; omega)).sh
  have n2 : i.natAbs.log2 < 1920 := by simpa only [D.py, PyData.showable, decide_eq_true_eq] using n
  show (if i.natAbs.log2 < 1920 then some (D.str (Str.ofString (toString i))) else none) = _
  rw [if_pos n2, num_text i hi]
theorem f_reprI {h : Sto} {i : Int} (hi : i ∈ runs) : fRepr h [.int i] = some (.str (T (dg i))) := by
  rw [f_repr ((nc_int (by have := runs_small i hi; omega)).mono (by omega))]
  show some (D.str (PyData.shown (.int i))) = _
  rw [PyData.shown_int, num_text i hi]
theorem glued_T (s : List Nat) (l : List (List Nat)) : Txt.join (T s) (l.map T) = T (jn s l) := by
  show Builtin.Str.glued (T s) (l.map T) = _
  rw [StrLaws.glued_eq_join, jn_T]
theorem f_joinL {h : Sto} {s : List Nat} {l : List (List Nat)} (hz : (l.map List.length).sum + l.length * s.length ≤ 16777216) : fJoin h (T s) [.lst (l.map lineD)] = some (.str (T (jn s l))) := by
  show ((seqOf h (.lst (l.map lineD))).bind strsOf).bind (fun ys => if (ys.map (·.length)).sum + ys.length * (T s).length ≤ 16777216 then some (D.str (Txt.join (T s) ys)) else none) = _
  show (strsOf (l.map fun s => D.str (T s))).bind _ = _
  rw [strsOf_T, Option.bind_some, if_pos, glued_T]
  have e : ((l.map T).map (·.length)) = l.map List.length := by
    rw [List.map_map]
    exact List.map_congr_left fun x _ => T_len x
  rw [e, List.length_map, T_len]
  exact hz
theorem dg_len : ∀ i ∈ runs, (dg i).length ≤ 2 := by decide +kernel
theorem nms_len : ∀ m ∈ nms, m.length ≤ 12 := by decide +kernel
theorem words_len : ∀ w ∈ words, w.length ≤ 6 := by decide +kernel
theorem jn_nil : ∀ l : List (List Nat), jn [] l = l.flatten
  | [] => rfl
  | [p] => by simp [jn]
  | p :: q :: r => by
    show p ++ [] ++ jn [] (q :: r) = _
    rw [jn_nil (q :: r)]
    simp
theorem okRc_w {w : List Nat} {i : Int} {o : Option (List Nat)} (h : OkRc (w, i, o)) : w ∈ words ∧ i ∈ runs ∧ ∀ m, o = some m → m ∈ nms := by
  cases o with
  | none => exact ⟨by rw [h.1]; decide, h.2, fun m z => by cases z⟩
  | some m => exact ⟨h.1, h.2.2.1, fun m' z => by cases z; exact h.2.2.2⟩
theorem e_law_line {r : Rc} {h : Sto} (g : Good h) (ok : OkRc r) : F__law_line [rcD r] h = .ok (lineD (rcL r ++ [10])) h := by
  obtain ⟨w, i, o⟩ := r
  obtain ⟨hw, hi, hm⟩ := okRc_w ok
  have l1 := words_len w hw
  have l2 := dg_len i hi
  cases o with
  | none =>
    refine run_rt (q_ret (q_op (q_op (q_op (q_op (q_op q_var q_c (f_ixTu (i := 0) rfl)) q_c (by rw [s_sp]; exact f_add (by simp; omega))) (q_fn (q_one (q_op q_var q_c (f_ixTu (i := 1) rfl))) (f_reprI hi)) (f_add (by simp; omega))) (q_m1 (by rw [s0]; exact q_c) (q_lc0 id (q_itemsT (l := []) (q_slFrom q_var q_c rfl)) g (fun d hd => by cases hd) (by simp)) (f_joinL (l := []) (by simp))) (f_add (by simp [jn]; omega))) q_c ?_))
    rw [s_nl, f_add (by simp [jn]; omega)]
    simp [rcL, jn, lineD]
  | some m =>
    have l3 := nms_len m (hm m rfl)
    refine run_rt (q_ret (q_op (q_op (q_op (q_op (q_op q_var q_c (f_ixTu (i := 0) rfl)) q_c (by rw [s_sp]; exact f_add (by simp; omega))) (q_fn (q_one (q_op q_var q_c (f_ixTu (i := 1) rfl))) (f_reprI hi)) (f_add (by simp; omega))) (q_m1 (by rw [s0]; exact q_c) (q_lc0 (fun _ => lineD (32 :: m)) (q_itemsT (l := [lineD m]) (q_slFrom q_var q_c rfl)) g (fun d hd => ?_) (by simp)) (f_joinL (l := [32 :: m]) (by simp; omega))) (f_add (by simp [jn]; omega))) q_c ?_))
    · simp only [List.mem_singleton] at hd
      subst hd
      exact ⟨_, rfl, rfl, fun acc' g' => q_op q_c q_var (by rw [s_sp]; exact f_add (by simp; omega))⟩
    · rw [s_nl, f_add (by simp [jn]; omega)]
      simp [rcL, jn, lineD]
theorem e_rec_line {r : Rc} {h : Sto} (g : Good h) (ok : OkRc r) : F_record_line [rcD r] h = .ok (lineD (rcL r ++ [10])) h := by
  obtain ⟨w, i, o⟩ := r
  obtain ⟨hw, hi, hm⟩ := okRc_w ok
  have l1 := words_len w hw
  have l2 := dg_len i hi
  have step : ∀ d ∈ rcF (w, i, o), ∃ e1, gN 1 d (wipeE [some (rcD (w, i, o)), none] [1]) = some e1 ∧ D.blw 0 ((fun d => match d with | .int i => lineD (dg i) | d => d) d) = true ∧ ∀ acc' : List D, Good (h ++ [.L acc']) → sFn fStr (sCons (sVar 1) sNil) e1 (h ++ [.L acc']) = .ok ((fun d => match d with | .int i => lineD (dg i) | d => d) d) (h ++ [.L acc']) := fun d hd => by
    refine ⟨_, rfl, ?_⟩
    cases o with
    | none =>
      simp only [rcF, List.mem_cons, List.not_mem_nil, or_false] at hd
      rcases hd with rfl | rfl
      · exact ⟨rfl, fun acc' _ => q_fn (q_one q_var) rfl⟩
      · exact ⟨rfl, fun acc' _ => q_fn (q_one q_var) (f_str hi)⟩
    | some m =>
      simp only [rcF, List.mem_cons, List.not_mem_nil, or_false] at hd
      rcases hd with rfl | rfl | rfl
      · exact ⟨rfl, fun acc' _ => q_fn (q_one q_var) rfl⟩
      · exact ⟨rfl, fun acc' _ => q_fn (q_one q_var) (f_str hi)⟩
      · exact ⟨rfl, fun acc' _ => q_fn (q_one q_var) rfl⟩
  cases o with
  | none =>
    refine run_rt (q_ret (q_op (q_m1 (by rw [s_sp]; exact q_c) (q_lc0 _ (q_itemsT (l := rcF (w, i, none)) q_var) g step (by simp [rcF])) (f_joinL (l := [w, dg i]) (by simp; omega))) q_c ?_))
    rw [s_nl, f_add (by simp [jn]; omega)]
    simp [rcL, jn, lineD]
  | some m =>
    have l3 := nms_len m (hm m rfl)
    refine run_rt (q_ret (q_op (q_m1 (by rw [s_sp]; exact q_c) (q_lc0 _ (q_itemsT (l := rcF (w, i, some m)) q_var) g step (by simp [rcF])) (f_joinL (l := [w, dg i, m]) (by simp; omega))) q_c ?_))
    rw [s_nl, f_add (by simp [jn]; omega)]
    simp [rcL, jn, lineD]
end K52
end
section
set_option maxHeartbeats 1000000
namespace K52
open PySem PySem.Spec PyProof.Rows L2 MR MX
/-! ### a drawn journal -/
def linesT (J : List Rc) : List (List Nat) := J.map fun r => rcL r ++ [10]
def textT (J : List Rc) : List Nat := (linesT J).flatten
theorem dg_facts : ∀ i ∈ runs, isNum (dg i) = true ∧ numV (dg i) = i ∧ 32 ∉ dg i ∧ 10 ∉ dg i ∧ (∀ c ∈ dg i, c < 128) := by decide +kernel
theorem nms_facts : ∀ m ∈ nms, nameL m = true ∧ 32 ∉ m ∧ 10 ∉ m ∧ (∀ c ∈ m, c < 128) := by decide +kernel
theorem rcL_facts {r : Rc} (ok : OkRc r) : recL (rcL r) = some (rcF r) ∧ 10 ∉ rcL r ∧ (∀ c ∈ rcL r, c < 128) ∧ (rcL r).length ≤ 22 := by
  obtain ⟨w, i, o⟩ := r
  obtain ⟨hw, hi, hm⟩ := okRc_w ok
  obtain ⟨n1, n2, n3, n4, n5⟩ := dg_facts i hi
  obtain ⟨w1, w2⟩ := words_plain w hw
  have w3 := words_ascii w hw
  have l1 := words_len w hw
  have l2 := dg_len i hi
  cases o with
  | none =>
    have e : w = wLeft := ok.1
    refine ⟨?_, ?_, ?_, ?_⟩
    · show recP (spl 32 (w ++ 32 :: dg i)) = _
      rw [spl_app w1, spl_free n3]
      simp only [recP, rcF, n1, n2, decide_eq_true hw, decide_eq_true e]
      rfl
    · intro h
      simp only [rcL, List.mem_append, List.mem_cons] at h
      rcases h with h | h | h
      · exact w2 h
      · cases h
      · exact n4 h
    · intro c h
      simp only [rcL, List.mem_append, List.mem_cons] at h
      rcases h with h | h | h
      · exact w3 c h
      · omega
      · exact n5 c h
    · simp [rcL]
      omega
  | some m =>
    have e : w ≠ wLeft := ok.2.1
    obtain ⟨m1, m2, m3, m4⟩ := nms_facts m (hm m rfl)
    have l3 := nms_len m (hm m rfl)
    refine ⟨?_, ?_, ?_, ?_⟩
    · show recP (spl 32 (w ++ 32 :: (dg i ++ 32 :: m))) = _
      rw [spl_app w1, spl_app n3, spl_free m2]
      simp only [recP, rcF, n1, n2, m1, decide_eq_true hw, decide_eq_false e]
      rfl
    · intro h
      simp only [rcL, List.mem_append, List.mem_cons] at h
      rcases h with h | h | h | h | h
      · exact w2 h
      · cases h
      · exact n4 h
      · cases h
      · exact m3 h
    · intro c h
      simp only [rcL, List.mem_append, List.mem_cons] at h
      rcases h with h | h | h | h | h
      · exact w3 c h
      · omega
      · exact n5 c h
      · omega
      · exact m4 c h
    · simp [rcL]
      omega
theorem text_cons (r : Rc) (J : List Rc) : textT (r :: J) = rcL r ++ 10 :: textT J := by
  simp [textT, linesT]
theorem text_spl : ∀ {J : List Rc}, (∀ r ∈ J, OkRc r) → spl 10 (textT J) = J.map rcL ++ [[]]
  | [], _ => rfl
  | r :: J, ok => by
    rw [text_cons, spl_app (rcL_facts (ok r (by simp))).2.1, text_spl fun x hx => ok x (List.mem_cons_of_mem _ hx)]
    rfl
theorem text_lgo : ∀ {J : List Rc} (f : List D) (p : Nat), (∀ r ∈ J, OkRc r) → lgo (J.map rcL ++ [[]]) f p = (f ++ J.map rcD, p + (textT J).length)
  | [], f, p, _ => by simp [lgo, textT, linesT, mx, gr]
  | r :: J, f, p, ok => by
    have h := rcL_facts (ok r (by simp))
    have ih := text_lgo (J := J) (f ++ [rcD r]) (p + (rcL r).length + 1) fun x hx => ok x (List.mem_cons_of_mem _ hx)
    obtain ⟨t, ts, e⟩ : ∃ t ts, J.map rcL ++ [[]] = t :: ts := by
      cases J with
      | nil => exact ⟨_, _, rfl⟩
      | cons a b => exact ⟨_, _, rfl⟩
    rw [e] at ih
    show lgo (rcL r :: (J.map rcL ++ [[]])) f p = _
    rw [e]
    have e2 : lgo (rcL r :: t :: ts) f p = lgo (t :: ts) (f ++ [rcD r]) (p + (rcL r).length + 1) := by
      simp only [lgo, h.1]
      rfl
    rw [e2, ih, text_cons]
    simp
    omega
theorem text_fnd {J : List Rc} (ok : ∀ r ∈ J, OkRc r) : fnd (textT J) = J.map rcD ∧ plc (textT J) = (textT J).length := by
  unfold fnd plc
  rw [text_spl ok, text_lgo [] 0 ok]
  simp
theorem text_ascii : ∀ {J : List Rc}, (∀ r ∈ J, OkRc r) → (∀ c ∈ textT J, c < 128) ∧ (textT J).length ≤ J.length * 23
  | [], _ => ⟨fun c h => (by cases h), by simp [textT, linesT]⟩
  | r :: J, ok => by
    obtain ⟨h1, h2⟩ := text_ascii (J := J) fun x hx => ok x (List.mem_cons_of_mem _ hx)
    obtain ⟨_, _, h3, h4⟩ := rcL_facts (ok r (by simp))
    rw [text_cons]
    refine ⟨fun c hc => ?_, ?_⟩
    · simp only [List.mem_append, List.mem_cons] at hc
      rcases hc with hc | hc | hc
      · exact h3 c hc
      · omega
      · exact h1 c hc
    · simp
      omega
theorem text_nl : ∀ {J : List Rc}, textT J = [] ∨ nl (textT J) = true
  | [] => .inl rfl
  | r :: J => by
    refine .inr ?_
    rw [text_cons]
    rcases text_nl (J := J) with h | h
    · rw [h]
      simp [nl]
    · unfold nl at h ⊢
      rw [decide_eq_true_eq] at h ⊢
      rw [List.getLast?_append, List.getLast?_cons, h]
      rfl
theorem e_read_text {J : List Rc} {h : Sto} (g : Good h) (ok : ∀ r ∈ J, OkRc r) (hJ : J.length ≤ 100) : F_read_journal [.str (T (textT J))] h = .ok (.tup (J.map rcD)) h := by
  obtain ⟨h1, h2⟩ := text_fnd ok
  have h3 := (text_ascii ok).2
  rw [e_read g (by omega), h1, h2, if_neg]
  rw [decide_eq_false (by omega), Bool.false_or]
  rcases text_nl (J := J) with h | h
  · rw [decide_eq_true h]
    simp
  · rw [h]
    simp
theorem rcD_rec {r : Rc} (ok : OkRc r) : RecD (rcD r) := recL_rec (rcL_facts ok).2.2.1 (rcL_facts ok).1
theorem e_lines {J : List Rc} {h : Sto} {F : List D → Sto → R D} {it : SA} {e : MR.Env} {k : Nat} {own : List Nat} (g : Good h) (ok : ∀ r ∈ J, OkRc r) (hJ : J.length ≤ 100) (hit : it e h = .ok (J.map rcD) h) (hk : ∀ d, (((wipeE e own).set k (some d)))[k]? = some (some d))
    (hF : ∀ (r : Rc) (h' : Sto), Good h' → OkRc r → F [rcD r] h' = .ok (lineD (rcL r ++ [10])) h') : sLc own it (gN k) sYes (sCall 1 F (sCons (sVar k) sNil)) e h = .ok (.lst ((linesT J).map lineD)) h := by
  have inj : ∀ d ∈ J.map rcD, ∃ r, OkRc r ∧ d = rcD r := fun d hd => by
    obtain ⟨r, hr, rfl⟩ := List.mem_map.mp hd
    exact ⟨r, ok r hr, rfl⟩
  have q := q_lc0 (own := own) (it := it) (f := gN k) (m := sCall 1 F (sCons (sVar k) sNil)) (e := e) (h := h) (ds := J.map rcD) (fun d => match F [d] [] with | .ok v _ => v | _ => .non) hit g (fun d hd => by
    obtain ⟨r, hr, rfl⟩ := inj d hd
    have e0 := hF r [] rfl hr
    refine ⟨_, rfl, ?_, fun acc' g' => ?_⟩
    · simp only [e0]
      rfl
    · simp only [e0]
      exact q_call (q_one (q_var (hk _))) (hF r _ g' hr)) (by simp; omega)
  rw [q]
  congr 2
  unfold linesT
  rw [List.map_map, List.map_map]
  refine List.map_congr_left fun r hr => ?_
  have e0 := hF r [] rfl (ok r hr)
  simp only [Function.comp_def, e0]
theorem lines_len {J : List Rc} (ok : ∀ r ∈ J, OkRc r) : ((linesT J).map List.length).sum = (textT J).length := by
  simp [textT, List.length_flatten]
theorem e_join_lines {J : List Rc} {h : Sto} (ok : ∀ r ∈ J, OkRc r) (hJ : J.length ≤ 100) : fJoin h (T []) [.lst ((linesT J).map lineD)] = some (.str (T (textT J))) := by
  rw [f_joinL, jn_nil]
  · rfl
  · rw [lines_len ok]
    have := (text_ascii ok).2
    simp
    omega
theorem e_jtext {J : List Rc} {h : Sto} (g : Good h) (ok : ∀ r ∈ J, OkRc r) (hJ : J.length ≤ 100) : F_journal_text [.tup (J.map rcD)] h = .ok (.str (T (textT J))) h :=
  run_rt (q_ret (q_m1 (by rw [s0]; exact q_c) (e_lines g ok hJ (q_itemsT q_var) (fun d => rfl) fun r h' g' o => e_rec_line g' o) (e_join_lines ok hJ)))
end K52
end
section
set_option maxHeartbeats 1000000
namespace K52
open PySem PySem.Spec PyProof.Rows L2 MR MX
def bsg : List (List Nat) := [[32], [10], [48], [49], [97], [101], [116], [45], [65], [95], [9], [100], [117], [108], [57]]
theorem b_1 : Str.ofString "1" = T [49] := by decide +kernel
theorem b_e : Str.ofString "e" = T [101] := by decide +kernel
theorem b_t : Str.ofString "t" = T [116] := by decide +kernel
theorem b_m : Str.ofString "-" = T [45] := by decide +kernel
theorem b_A : Str.ofString "A" = T [65] := by decide +kernel
theorem b_u : Str.ofString "_" = T [95] := by decide +kernel
theorem b_tab : Str.ofString "\t" = T [9] := by decide +kernel
theorem b_d : Str.ofString "d" = T [100] := by decide +kernel
theorem b_uu : Str.ofString "u" = T [117] := by decide +kernel
theorem b_l : Str.ofString "l" = T [108] := by decide +kernel
theorem b_9 : Str.ofString "9" = T [57] := by decide +kernel
theorem bsg_ok : ∀ s ∈ bsg, s.length = 1 ∧ ∀ c ∈ s, c < 128 := by decide +kernel
theorem bent_st {h rest : Sto} {t : List Nat} (s : St h rest) (ha : ∀ c ∈ t, c < 128) (ht : t.length ≤ 3000) : ∃ (t' : List Nat) (h' : Sto), F__law_bent [.ref 0, .str (T t)] h = .ok (.str (T t')) h' ∧ St h' rest ∧ (∀ c ∈ t', c < 128) ∧ t'.length ≤ t.length + 1 := by
  obtain ⟨k, h1, a1, s1, r1⟩ := pick_st (m := t.length + 1) s (by omega)
  obtain ⟨road, h2, a2, s2, r2⟩ := pick_st (m := 4) s1 (by omega)
  obtain ⟨d3, h3, a3, s3, m3⟩ := of_st (l := bsg.map lineD) s2 (by decide) (by decide)
  obtain ⟨sg, hsg, rfl⟩ := List.mem_map.mp m3
  obtain ⟨g1, g2⟩ := bsg_ok sg hsg
  have hroad : road < 4 := by omega
  let cs : List (List Nat) := [t.take k, t.take k ++ sg ++ t.drop k, t.take k ++ sg ++ t.drop (k + 1), t.take k ++ t.drop (k + 1)]
  have hl : cs.length = 4 := rfl
  have hg : ∃ t', cs[road]? = some t' := ⟨cs[road], List.getElem?_eq_getElem (by omega)⟩
  obtain ⟨t', ht'⟩ := hg
  have hmem : t' ∈ cs := List.mem_of_getElem? ht'
  have tk : (t.take k).length ≤ t.length := by
    rw [List.length_take]
    omega
  have dr : ∀ j, (t.drop j).length ≤ t.length := fun j => by
    rw [List.length_drop]
    omega
  have tkd : (t.take k).length + (t.drop k).length = t.length := by
    rw [List.length_take, List.length_drop]
    omega
  have tkd2 : (t.take k).length + (t.drop (k + 1)).length ≤ t.length := by
    rw [List.length_take, List.length_drop]
    omega
  refine ⟨t', h3, run_any (q_seq (q_par (q_cons (q_call (q_cons q_var (q_one (q_op (q_fn (q_one q_var) (f_len (by omega))) q_c (f_addN (b := 1))))) a1) (q_one (q_call (q_cons q_var (q_one q_c)) a2)))) (q_seq (q_set (q_call (q_cons q_var (q_one (q_lst (ds := bsg.map lineD) ?_ (by decide)))) a3)) (q_ret (q_op (q_lst (ds := cs.map lineD) (q_cons (q_slTo q_var q_var (f_slTo (by omega))) (q_cons (q_op (q_op (q_slTo q_var q_var (f_slTo (by omega))) q_var (f_add (by omega))) (q_slFrom q_var q_var (f_slFrom (by omega))) (f_add (by simp; omega))) (q_cons (q_op (q_op (q_slTo q_var q_var (f_slTo (by omega))) q_var (f_add (by omega))) (q_slFrom q_var (q_op q_var q_c (f_addN (b := 1))) (f_slFrom (by omega))) (f_add (by simp; omega))) (q_one (q_op (q_slTo q_var q_var (f_slTo (by omega))) (q_slFrom q_var (q_op q_var q_c (f_addN (b := 1))) (f_slFrom (by omega))) (f_add (by omega))))))) (by simp; omega)) q_var (f_ixL (by rw [List.getElem?_map, ht']; rfl)))))) (by rw [s3.len, s.len]), s3, ?_, ?_⟩
  · rw [s_sp, s_nl, s_0, b_1, n_a, b_e, b_t, b_m, b_A, b_u, b_tab, b_d, b_uu, b_l, b_9]
    exact q_cons q_c (q_cons q_c (q_cons q_c (q_cons q_c (q_cons q_c (q_cons q_c (q_cons q_c (q_cons q_c (q_cons q_c (q_cons q_c (q_cons q_c (q_cons q_c (q_cons q_c (q_cons q_c (q_one q_c))))))))))))))
  · have tka : ∀ c ∈ t.take k, c < 128 := fun c hc => ha c (List.mem_of_mem_take hc)
    have dra : ∀ j, ∀ c ∈ t.drop j, c < 128 := fun j c hc => ha c (List.mem_of_mem_drop hc)
    simp only [cs, List.mem_cons, List.not_mem_nil, or_false] at hmem
    intro c hc
    rcases hmem with e | e | e | e
    · subst e
      exact tka c hc
    · subst e
      simp only [List.mem_append] at hc
      rcases hc with (hc | hc) | hc
      · exact tka c hc
      · exact g2 c hc
      · exact dra _ c hc
    · subst e
      simp only [List.mem_append] at hc
      rcases hc with (hc | hc) | hc
      · exact tka c hc
      · exact g2 c hc
      · exact dra _ c hc
    · subst e
      simp only [List.mem_append] at hc
      rcases hc with hc | hc
      · exact tka c hc
      · exact dra _ c hc
  · simp only [cs, List.mem_cons, List.not_mem_nil, or_false] at hmem
    rcases hmem with e | e | e | e
    · subst e
      omega
    · subst e
      simp only [List.length_append]
      omega
    · subst e
      simp only [List.length_append]
      omega
    · subst e
      simp only [List.length_append]
      omega
/-! ### the source is made -/
theorem f_modI {h : Sto} {x y : Int} (hy : y ≠ 0) : fMod h (.int x) (.int y) = some (.int (x.fmod y)) := if_pos hy
def ocB : SS := sSet 1 (sOp fMod (sFn fInt (sCons (sOp fAdd (sOp fAdd (sOp fMul (sVar 1) (sC (.int 69069))) (sOp fMul (sVar 2) (sC (.int 31)))) (sC (.int 5))) sNil)) (sC (.int 2147483629)))
theorem oc_loop {d0 : D} : ∀ (ns : List Int) (s : Int) (o2 : Option D), ∃ s' o2', forL (gN 2) ocB (ns.map D.int) [some d0, some (.int s), o2, none] [] = .ok (.nx [some d0, some (.int s'), o2', none]) []
  | [], s, o2 => ⟨s, o2, rfl⟩
  | n :: ns, s, o2 => by
    obtain ⟨s', o2', h⟩ := oc_loop (d0 := d0) ns ((s * 69069 + n * 31 + 5).fmod 2147483629) (some (.int n))
    refine ⟨s', o2', ?_⟩
    have b : ocB [some d0, some (.int s), some (.int n), none] [] = .ok (.nx [some d0, some (.int ((s * 69069 + n * 31 + 5).fmod 2147483629)), some (.int n), none]) [] :=
      q_set (q_op (q_fn (q_one (q_op (q_op (q_op q_var q_c (f_mulS (by rw [small_lt (x := 69069) (by decide) (by decide), Bool.or_true]))) (q_op q_var q_c (f_mulS (by rw [small_lt (x := 31) (by decide) (by decide), Bool.or_true]))) f_addI) q_c f_addI)) rfl) q_c (f_modI (by decide)))
    show (R.bind (ocB [some d0, some (.int s), some (.int n), none] []) _) = _
    rw [b]
    exact h
def absI (i : Int) : Int := if i < 0 then -i else i
theorem q_revC {a : SE} {e : MR.Env} {h h1 : Sto} {l : List D} (ha : a e h = .ok (.lst l) h1) : sRevC a e h = .ok (.ref h1.length) (h1 ++ [.L l.reverse]) := by
  simp only [sRevC, ha, ev_bind_ok, res]
theorem open_st (ns : List Int) (hn : ns.length ≤ 63) : ∃ h, F__law_open_cells [.lst (ns.map D.int)] [] = .ok (.ref 0) h ∧ St h [] := by
  obtain ⟨s', o2', hl⟩ := oc_loop (d0 := .lst (ns.map D.int)) ns 11 none
  have comp : sLc [2] (sItems (sVar 0)) (gN 2) sYes (sFn fAbs (sCons (sVar 2) sNil)) [some (.lst (ns.map D.int)), some (.int s'), o2', none] [] = .ok (.lst ((ns.map absI).map D.int)) [] := by
    have q := q_lc0 (own := [2]) (f := gN 2) (m := sFn fAbs (sCons (sVar 2) sNil)) (e := [some (.lst (ns.map D.int)), some (.int s'), o2', none]) (h := []) (fun d => match d with
      | .int i => .int (absI i)
      | d => d) (q_items (l := ns.map D.int) (q_var (i := 0))) rfl (fun d hd => by
        obtain ⟨i, hi, rfl⟩ := List.mem_map.mp hd
        exact ⟨_, rfl, rfl, fun acc' g' => q_fn (q_one q_var) rfl⟩) (by simp; omega)
    rw [q]
    congr 2
    rw [List.map_map, List.map_map]
    rfl
  refine ⟨Sr 1 s' 0 (ns.map absI).reverse [], ?_, ⟨1, s', 0, _, rfl, by simp; omega⟩⟩
  have disp : ∀ e : MR.Env, e[3]? = some (some (.lst ((ns.map absI).map D.int))) → e[1]? = some (some (.int s')) → sDisp [.inr "cells", .inr "left", .inr "mixed", .inr "turn"] (sCons (sRevC (sVar 3)) (sCons (sC (.int 1)) (sCons (sVar 1) (sCons (sC (.int 0)) sNil)))) e [] = .ok (.ref 0) (Sr 1 s' 0 (ns.map absI).reverse []) := fun e h3 h1 => by
    have m : sCons (sRevC (sVar 3)) (sCons (sC (.int 1)) (sCons (sVar 1) (sCons (sC (.int 0)) sNil))) e [Cell.M []] = .ok [.ref 1, .int 1, .int s', .int 0] [Cell.M [], .L ((ns.map absI).map D.int).reverse] :=
      q_cons (q_revC (q_var h3)) (q_cons q_c (q_cons (q_var h1) (q_one q_c)))
    unfold sDisp
    show R.bind (sCons (sRevC (sVar 3)) (sCons (sC (.int 1)) (sCons (sVar 1) (sCons (sC (.int 0)) sNil))) e [Cell.M []]) _ = _
    rw [m]
    unfold Sr
    rw [List.map_reverse]
    rfl
  unfold F__law_open_cells runB
  have body : m__law_open_cells [some (.lst (ns.map D.int)), none, none, none] [] = .ok (.rt (.ref 0)) (Sr 1 s' 0 (ns.map absI).reverse []) :=
    q_seq (q_set q_c) (q_seq ((q_for (q_items q_var)).trans hl) (q_seq (q_set comp) (q_ret (disp _ rfl rfl))))
  show fin 0 (match m__law_open_cells [some (.lst (ns.map D.int)), none, none, none] [] with
    | .ok (.rt d) h' => .ok d h'
    | .ok (.nx _) h' => .ok .non h'
    | .ok _ _ => .bad
    | .err x e h' => .err x e h'
    | .bad => .bad) = _
  rw [body]
  rfl
end K52
end
section
set_option maxHeartbeats 1000000
namespace K52
open PySem PySem.Spec PyProof.Rows L2 MR MX
def lwI : SS := (sSeq (sSet 9 (sCall 2 F__law_bent (sCons (sVar 1) (sCons (sVar 7) sNil))))
  (sSeq (sSet 9 (sIfE (sTest (sOp fEq (sCall 2 F__law_pick (sCons (sVar 1) (sCons (sC (.int 2)) sNil))) (sC (.int 0)))) (sCall 2 F__law_bent (sCons (sVar 1) (sCons (sVar 9) sNil))) (sVar 9)))
  (sIf (sNot (sTest (sCall 1 F__law_read_right (sCons (sVar 9) sNil)))) (sRet (sC (.bl false))) sNext)))
def lwO : SS := (sSeq (sSet 6 (sFn fTuple (sCons (sLc [11] (sRange1 (sCons (sCall 2 F__law_pick (sCons (sVar 1) (sCons (sOp fIx (sLst (sCons (sC (.int 4)) (sCons (sC (.int 9)) (sCons (sC (.int 41)) sNil)))) (sVar 2)) sNil))) sNil)) (gN 11) sYes (sCall 1 F__law_any_record (sCons (sVar 1) sNil))) sNil)))
  (sSeq (sSet 7 (sM1 fJoin (sC (.str "")) (sLc [12] (sItems (sVar 6)) (gN 12) sYes (sCall 1 F__law_line (sCons (sVar 12) sNil)))))
  (sSeq (sIf (sTest (sOp fNe (sLc [12] (sItems (sVar 6)) (gN 12) sYes (sCall 1 F_record_line (sCons (sVar 12) sNil))) (sLc [12] (sItems (sVar 6)) (gN 12) sYes (sCall 1 F__law_line (sCons (sVar 12) sNil))))) (sRet (sC (.bl false))) sNext)
  (sSeq (sIf (sOr (sTest (sOp fNe (sCall 1 F_journal_text (sCons (sVar 6) sNil)) (sVar 7))) (sTest (sOp fNe (sFn fRepr (sCons (sCall 1 F_read_journal (sCons (sVar 7) sNil)) sNil)) (sFn fRepr (sCons (sVar 6) sNil))))) (sRet (sC (.bl false))) sNext)
  (sFor (sRange1 (sCons (sC (.int 8)) sNil)) (gN 8) (sSeq (sSet 9 (sCall 2 F__law_bent (sCons (sVar 1) (sCons (sVar 7) sNil))))
  (sSeq (sSet 9 (sIfE (sTest (sOp fEq (sCall 2 F__law_pick (sCons (sVar 1) (sCons (sC (.int 2)) sNil))) (sC (.int 0)))) (sCall 2 F__law_bent (sCons (sVar 1) (sCons (sVar 9) sNil))) (sVar 9)))
  (sIf (sNot (sTest (sCall 1 F__law_read_right (sCons (sVar 9) sNil)))) (sRet (sC (.bl false))) sNext))))))))
theorem blws_ints {n : Nat} (cs : List Int) : D.blws n (cs.map D.int) = true := blws0 fun d hd => by
  obtain ⟨i, _, rfl⟩ := List.mem_map.mp hd
  rfl
theorem sr_blw (a b c : Int) (cs : List Int) (n : Nat) (hn : 2 ≤ n) : Cell.blw n (.M (srcK a b c)) = true ∧ Cell.blw n (.L (cs.map D.int)) = true := by
  refine ⟨?_, blws_ints cs⟩
  simp only [Cell.blw, srcK, List.map_cons, List.map_nil, D.blws, D.blw]
  rw [decide_eq_true (by omega)]
  rfl
theorem St.good {h : Sto} (s : St h []) : Good h := by
  obtain ⟨a, b, c, cs, rfl, _⟩ := s
  obtain ⟨h1, h2⟩ := sr_blw a b c cs 2 (by omega)
  show ([Cell.M (srcK a b c), .L (cs.map D.int)].all (Cell.blw 2)) = true
  simp only [List.all_cons, List.all_nil, h1, h2]
  rfl
mutual
theorem eqv_refl : ∀ d : D, PyData.eqv d.py d.py = true
  | .non => rfl
  | .bl b => by simp [D.py, PyData.eqv]
  | .int i => by simp [D.py, PyData.eqv]
  | .str s => by simp [D.py, PyData.eqv]
  | .ref n => rfl
  | .tup l => by
    simp only [D.py, PyData.eqv]
    exact eqvs_refl l
  | .lst l => by
    simp only [D.py, PyData.eqv]
    exact eqvs_refl l
theorem eqvs_refl : ∀ l : List D, PyData.eqvAll (D.pys l) (D.pys l) = true
  | [] => by simp [D.pys, PyData.eqvAll]
  | d :: l => by
    simp only [D.pys, PyData.eqvAll, Bool.and_eq_true]
    exact ⟨eqv_refl d, eqvs_refl l⟩
end
theorem f_neSame {h : Sto} {l : List D} (n : Nc 60 1000000 (.lst l)) : fNe h (.lst l) (.lst l) = some (.bl false) := by
  show (if (D.flat 60 (.lst l) && D.flat 60 (.lst l)) = true then some (D.bl (!deq (.lst l) (.lst l))) else none) = _
  rw [if_pos (by rw [n.flat]; rfl), show deq (.lst l) (.lst l) = true from eqv_refl _]
  rfl
theorem f_eqSame {h : Sto} {l : List D} (n : Nc 60 1000000 (.lst l)) : fEq h (.lst l) (.lst l) = some (.bl true) := by
  show (if (D.flat 60 (.lst l) && D.flat 60 (.lst l)) = true then some (D.bl (deq (.lst l) (.lst l))) else none) = _
  rw [if_pos (by rw [n.flat]; rfl), show deq (.lst l) (.lst l) = true from eqv_refl _]
/-! ### the looks -/
theorem look_st {t : List Nat} (ha : ∀ c ∈ t, c < 128) (ht : t.length ≤ 2000) : ∀ (ds : List D) (h : Sto) (e : MR.Env), St h [] → e.length = 13 → e[1]? = some (some (.ref 0)) → e[7]? = some (some (.str (T t))) →
    ∃ e' h', forL (gN 8) lwI ds e h = .ok (.nx e') h' ∧ St h' [] ∧ e'.length = 13 ∧ e'[1]? = some (some (.ref 0))
  | [], h, e, s, h13, h1, h7 => ⟨e, h, rfl, s, h13, h1⟩
  | d :: ds, h, e, s, h13, h1, h7 => by
    obtain ⟨t1, g1, a1, s1, p1, q1⟩ := bent_st s ha (by omega)
    obtain ⟨r, g2, a2, s2, p2⟩ := pick_st (m := 2) s1 (by omega)
    have e1 : ∀ x : Option D, ((e.set 8 (some d)).set 9 x)[1]? = some (some (.ref 0)) := fun x => by
      rw [List.getElem?_set_ne (by decide), List.getElem?_set_ne (by decide)]
      exact h1
    have e7 : ∀ x : Option D, ((e.set 8 (some d)).set 9 x)[7]? = some (some (.str (T t))) := fun x => by
      rw [List.getElem?_set_ne (by decide), List.getElem?_set_ne (by decide)]
      exact h7
    have e9 : ∀ x : Option D, ((e.set 8 (some d)).set 9 x)[9]? = some x := fun x => by
      rw [List.getElem?_set_self (by simp [h13])]
    have b1 : sSet 9 (sCall 2 F__law_bent (sCons (sVar 1) (sCons (sVar 7) sNil))) (e.set 8 (some d)) h = .ok (.nx ((e.set 8 (some d)).set 9 (some (.str (T t1))))) g1 :=
      q_set (q_call (q_cons (q_var (by rw [List.getElem?_set_ne (by decide)]; exact h1)) (q_one (q_var (by rw [List.getElem?_set_ne (by decide)]; exact h7)))) a1)
    have step : ∃ (t2 : List Nat) (g3 : Sto), (∀ c ∈ t2, c < 128) ∧ t2.length ≤ 4000 ∧ St g3 [] ∧ sIfE (sTest (sOp fEq (sCall 2 F__law_pick (sCons (sVar 1) (sCons (sC (.int 2)) sNil))) (sC (.int 0)))) (sCall 2 F__law_bent (sCons (sVar 1) (sCons (sVar 9) sNil))) (sVar 9) ((e.set 8 (some d)).set 9 (some (.str (T t1)))) g1 = .ok (.str (T t2)) g3 := by
      have c1 : sTest (sOp fEq (sCall 2 F__law_pick (sCons (sVar 1) (sCons (sC (.int 2)) sNil))) (sC (.int 0))) ((e.set 8 (some d)).set 9 (some (.str (T t1)))) g1 = .ok (decide (r = 0)) g2 :=
        q_test (q_op (q_call (q_cons (q_var (e1 _)) (q_one q_c)) a2) q_c (f_eqN (b := 0)))
      by_cases hr : r = 0
      · obtain ⟨t2, g3, a3, s3, p3, q3⟩ := bent_st s2 p1 (by omega)
        exact ⟨t2, g3, p3, by omega, s3, q_ifT (c1.trans (congrArg (fun b => R.ok b _) (decide_eq_true hr))) (q_call (q_cons (q_var (e1 _)) (q_one (q_var (e9 _)))) a3)⟩
      · exact ⟨t1, g2, p1, by omega, s2, q_ifF (c1.trans (congrArg (fun b => R.ok b _) (decide_eq_false hr))) (q_var (e9 _))⟩
    obtain ⟨t2, g3, p3, q3, s3, st⟩ := step
    have body : lwI (e.set 8 (some d)) h = .ok (.nx (((e.set 8 (some d)).set 9 (some (.str (T t1)))).set 9 (some (.str (T t2))))) g3 :=
      q_seq b1 (q_seq (q_set st) (q_sifF (q_not (p := true) (q_test (q_call (q_one (q_var (by rw [List.getElem?_set_self (by simp [h13])]))) (e_right s3.good p3 q3)))) rfl))
    obtain ⟨e', h', r1, r2, r3, r4⟩ := look_st ha ht ds g3 (((e.set 8 (some d)).set 9 (some (.str (T t1)))).set 9 (some (.str (T t2)))) s3 (by simp [h13]) (by rw [List.getElem?_set_ne (by decide)]; exact e1 _) (by rw [List.getElem?_set_ne (by decide)]; exact e7 _)
    refine ⟨e', h', ?_, r2, r3, r4⟩
    show (R.bind (lwI (e.set 8 (some d)) h) _) = _
    rw [body]
    exact r1
/-! ### a journal is drawn -/
theorem draw_st {e0 : MR.Env} (h1 : e0[1]? = some (some (.ref 0))) : ∀ (ds : List D) (h : Sto) (J0 : List Rc), St h [.L (J0.map rcD)] → (∀ r ∈ J0, OkRc r) → J0.length + ds.length ≤ 1000 →
    ∃ (J : List Rc) (h' : Sto), lcL (gN 11) sYes (sCall 1 F__law_any_record (sCons (sVar 1) sNil)) 2 e0 ds h = .ok () h' ∧ St h' [.L (J.map rcD)] ∧ (∀ r ∈ J, OkRc r) ∧ J.length = J0.length + ds.length
  | [], h, J0, s, ok, _ => ⟨J0, h, rfl, s, ok, rfl⟩
  | d :: ds, h, J0, s, ok, hl => by
    obtain ⟨r, g, a, s1, o⟩ := any_st s
    have c : sCall 1 F__law_any_record (sCons (sVar 1) sNil) (e0.set 11 (some d)) h = .ok (rcD r) g := q_call (q_one (q_var (by rw [List.getElem?_set_ne (by decide)]; exact h1))) a
    obtain ⟨x, y, z, cs, rfl, hcs⟩ := s1
    simp only [List.length_cons] at hl
    obtain ⟨J, h', r1, r2, r3, r4⟩ := draw_st h1 ds (Sr x y z cs [.L ((J0 ++ [r]).map rcD)]) (J0 ++ [r]) ⟨x, y, z, cs, rfl, hcs⟩ (fun q hq => by
      rcases List.mem_append.mp hq with hq | hq
      · exact ok q hq
      · simp only [List.mem_singleton] at hq
        subst hq
        exact o) (by simp; omega)
    refine ⟨J, h', ?_, r2, r3, by simp at r4 ⊢; omega⟩
    simp only [lcL, gN, sYes, ev_bind_ok, if_true, c]
    have gg : (Sr x y z cs [.L (J0.map rcD)])[2]? = some (.L (J0.map rcD)) := rfl
    simp only [gg]
    rw [if_pos (show (J0.map rcD).length < LN by show _ < 16777216; rw [List.length_map]; omega)]
    have e2 : (Sr x y z cs [.L (J0.map rcD)]).set 2 (.L (J0.map rcD ++ [rcD r])) = Sr x y z cs [.L ((J0 ++ [r]).map rcD)] := by
      show Cell.M (srcK x y z) :: Cell.L (cs.map D.int) :: [Cell.L (J0.map rcD ++ [rcD r])] = Cell.M (srcK x y z) :: Cell.L (cs.map D.int) :: [Cell.L ((J0 ++ [r]).map rcD)]
      rw [List.map_append]
      rfl
    rw [e2]
    exact r1
theorem rcD_nor {r : Rc} : D.blw 0 (rcD r) = true := by
  obtain ⟨w, i, o⟩ := r
  cases o <;> rfl
theorem journal_st {it : SA} {e : MR.Env} {h h1 : Sto} {ds : List D} (hi : it e h = .ok ds h1) (s : St h1 []) (he : e[1]? = some (some (.ref 0))) (hl : ds.length ≤ 100) :
    ∃ (J : List Rc) (h' : Sto), sLc [11] it (gN 11) sYes (sCall 1 F__law_any_record (sCons (sVar 1) sNil)) e h = .ok (.lst (J.map rcD)) h' ∧ St h' [] ∧ (∀ r ∈ J, OkRc r) ∧ J.length = ds.length := by
  obtain ⟨a, b, c, cs, rfl, hcs⟩ := s
  obtain ⟨J, h', r1, r2, r3, r4⟩ := draw_st (e0 := wipeE e [11]) (by
    show (e.set 11 none)[1]? = _
    rw [List.getElem?_set_ne (by decide)]
    exact he) ds (Sr a b c cs [.L []]) [] ⟨a, b, c, cs, rfl, hcs⟩ (fun q hq => by cases hq) (by simp; omega)
  obtain ⟨x, y, z, cs', rfl, hcs'⟩ := r2
  refine ⟨J, Sr x y z cs' [], ?_, ⟨x, y, z, cs', rfl, hcs'⟩, r3, by simpa using r4⟩
  unfold sLc
  rw [hi, ev_bind_ok]
  show lcFin 2 (lcL (gN 11) sYes (sCall 1 F__law_any_record (sCons (sVar 1) sNil)) 2 (wipeE e [11]) ds (Sr a b c cs [.L []])) = _
  rw [r1]
  show (if (D.blws 2 (J.map rcD) && ([Cell.M (srcK x y z), .L (cs'.map D.int)].all (Cell.blw 2))) = true then R.ok (D.lst (J.map rcD)) [Cell.M (srcK x y z), .L (cs'.map D.int)] else .bad) = _
  rw [if_pos]
  · rfl
  · obtain ⟨q1, q2⟩ := sr_blw x y z cs' 2 (by omega)
    rw [blws0 (fun d hd => by
      obtain ⟨r, _, rfl⟩ := List.mem_map.mp hd
      exact rcD_nor)]
    simp only [List.all_cons, List.all_nil, q1, q2]
    rfl
end K52
end
section
set_option maxHeartbeats 1000000
namespace K52
open PySem PySem.Spec PyProof.Rows L2 MR MX
theorem lapK {lap : Nat} (h : lap < 3) : ∃ k : Nat, k ≤ 41 ∧ ∀ hh : Sto, fIx hh (.lst [.int 4, .int 9, .int 41]) (.int (lap : Nat)) = some (.int (k : Nat)) := by
  match lap, h with
  | 0, _ => exact ⟨4, by omega, fun hh => rfl⟩
  | 1, _ => exact ⟨9, by omega, fun hh => rfl⟩
  | 2, _ => exact ⟨41, by omega, fun hh => rfl⟩
theorem nc_lines {J : List Rc} (ok : ∀ r ∈ J, OkRc r) (hJ : J.length ≤ 100) : Nc 60 1000000 (.lst ((linesT J).map lineD)) := by
  refine nc_lst (k := 59) (W := 100) (fun x hx => ?_) ?_
  · obtain ⟨l, hl, rfl⟩ := List.mem_map.mp hx
    obtain ⟨r, hr, rfl⟩ := List.mem_map.mp hl
    obtain ⟨_, _, h3, h4⟩ := rcL_facts (ok r hr)
    refine (nc_str (fun c hc => ?_)).mono (by simp; omega)
    rcases List.mem_append.mp hc with hc | hc
    · exact h3 c hc
    · simp only [List.mem_singleton] at hc
      omega
  · simp [linesT]
    omega
theorem nc_journal {J : List Rc} (ok : ∀ r ∈ J, OkRc r) (hJ : J.length ≤ 100) : Nc 60 1000000 (.tup (J.map rcD)) := by
  refine nc_tup (k := 59) (W := 60) (fun x hx => ?_) ?_
  · obtain ⟨r, hr, rfl⟩ := List.mem_map.mp hx
    exact rec_nc (rcD_rec (ok r hr))
  · simp
    omega
theorem lap_st {lap : Nat} {h : Sto} {e : MR.Env} (hlap : lap < 3) (s : St h []) (h13 : e.length = 13) (h1 : e[1]? = some (some (.ref 0))) (h2 : e[2]? = some (some (.int (lap : Nat)))) :
    ∃ e' h', lwO e h = .ok (.nx e') h' ∧ St h' [] ∧ e'.length = 13 ∧ e'[1]? = some (some (.ref 0)) := by
  obtain ⟨k, hk, fk⟩ := lapK hlap
  obtain ⟨r, g1, a1, s1, p1⟩ := pick_st (m := k) s (by omega)
  have it : sRange1 (sCons (sCall 2 F__law_pick (sCons (sVar 1) (sCons (sOp fIx (sLst (sCons (sC (.int 4)) (sCons (sC (.int 9)) (sCons (sC (.int 41)) sNil)))) (sVar 2)) sNil))) sNil) e h = .ok ((List.range r).map fun i => .int (i : Nat)) g1 :=
    q_range1 (q_one (q_call (q_cons (q_var h1) (q_one (q_op (q_lst (q_cons q_c (q_cons q_c (q_one q_c)))) (q_var h2) (fk _)))) a1)) (by omega)
  obtain ⟨J, g2, a2, s2, ok, hJ⟩ := journal_st it s1 h1 (by simp; omega)
  have hJ2 : J.length ≤ 100 := by
    rw [hJ]
    simp
    omega
  have gd := s2.good
  obtain ⟨ta, tl⟩ := text_ascii ok
  have hJ3 : J.length ≤ 41 := by
    rw [hJ]
    simp
    omega
  -- journal, text
  let e6 := e.set 6 (some (.tup (J.map rcD)))
  let e7 := e6.set 7 (some (.str (T (textT J))))
  have l6 : e6.length = 13 := by simp [e6, h13]
  have l7 : e7.length = 13 := by simp [e7, l6]
  have e66 : e6[6]? = some (some (.tup (J.map rcD))) := List.getElem?_set_self (by omega)
  have e76 : e7[6]? = some (some (.tup (J.map rcD))) := (List.getElem?_set_ne (by decide)).trans e66
  have e77 : e7[7]? = some (some (.str (T (textT J)))) := List.getElem?_set_self (by omega)
  have e71 : e7[1]? = some (some (.ref 0)) := (List.getElem?_set_ne (by decide)).trans ((List.getElem?_set_ne (by decide)).trans h1)
  have wk : ∀ (ee : MR.Env), ee.length = 13 → ∀ d, ((wipeE ee [12]).set 12 (some d))[12]? = some (some d) := fun ee hl d => List.getElem?_set_self (by simp [wipeE, hl])
  have lawC : ∀ ee : MR.Env, ee.length = 13 → ee[6]? = some (some (.tup (J.map rcD))) → sLc [12] (sItems (sVar 6)) (gN 12) sYes (sCall 1 F__law_line (sCons (sVar 12) sNil)) ee g2 = .ok (.lst ((linesT J).map lineD)) g2 := fun ee hl h6 =>
    e_lines gd ok hJ2 (q_itemsT (q_var h6)) (wk ee hl) fun r h' g' o => e_law_line g' o
  have recC : ∀ ee : MR.Env, ee.length = 13 → ee[6]? = some (some (.tup (J.map rcD))) → sLc [12] (sItems (sVar 6)) (gN 12) sYes (sCall 1 F_record_line (sCons (sVar 12) sNil)) ee g2 = .ok (.lst ((linesT J).map lineD)) g2 := fun ee hl h6 =>
    e_lines gd ok hJ2 (q_itemsT (q_var h6)) (wk ee hl) fun r h' g' o => e_rec_line g' o
  have st6 := q_set (i := 6) (q_fn (q_one a2) (show fTuple g2 [.lst (J.map rcD)] = some (.tup (J.map rcD)) from rfl))
  have st7 : sSet 7 (sM1 fJoin (sC (.str "")) (sLc [12] (sItems (sVar 6)) (gN 12) sYes (sCall 1 F__law_line (sCons (sVar 12) sNil)))) e6 g2 = .ok (.nx e7) g2 :=
    q_set (q_m1 (by rw [s0]; exact q_c) (lawC e6 l6 e66) (e_join_lines ok hJ2))
  have t1 : sTest (sOp fNe (sLc [12] (sItems (sVar 6)) (gN 12) sYes (sCall 1 F_record_line (sCons (sVar 12) sNil))) (sLc [12] (sItems (sVar 6)) (gN 12) sYes (sCall 1 F__law_line (sCons (sVar 12) sNil)))) e7 g2 = .ok false g2 :=
    q_test (q_op (recC e7 l7 e76) (lawC e7 l7 e76) (f_neSame (nc_lines ok hJ2)))
  have t2 : sOr (sTest (sOp fNe (sCall 1 F_journal_text (sCons (sVar 6) sNil)) (sVar 7))) (sTest (sOp fNe (sFn fRepr (sCons (sCall 1 F_read_journal (sCons (sVar 7) sNil)) sNil)) (sFn fRepr (sCons (sVar 6) sNil)))) e7 g2 = .ok (false || false) g2 :=
    k_or (q_test (q_op (q_call (q_one (q_var e76)) (e_jtext gd ok hJ2)) (q_var e77) (by rw [f_ne, decide_eq_true rfl]; rfl))) fun _ => q_test (q_op (q_fn (q_one (q_call (q_one (q_var e77)) (e_read_text gd ok hJ2))) (f_repr (nc_journal ok hJ2))) (q_fn (q_one (q_var e76)) (f_repr (nc_journal ok hJ2))) (by
      show some (D.bl (!decide _)) = _
      rw [decide_eq_true rfl]
      rfl))
  obtain ⟨e', h', r1, r2, r3, r4⟩ := look_st ta (by omega) ((List.range 8).map fun i => .int (i : Nat)) g2 e7 s2 l7 e71 e77
  exact ⟨e', h', q_seq st6 (q_seq st7 (q_seq (q_sifF t1 rfl) (q_seq (q_sifF t2 rfl) ((q_for (q_range1 (j := 8) (q_one q_c) (by decide))).trans r1)))), r2, r3, r4⟩
theorem laps_st : ∀ (ls : List Nat) (h : Sto) (e : MR.Env), (∀ l ∈ ls, l < 3) → St h [] → e.length = 13 → e[1]? = some (some (.ref 0)) → ∃ e' h', forL (gN 2) lwO (ls.map fun i => .int (i : Nat)) e h = .ok (.nx e') h' ∧ St h' [] ∧ e'.length = 13
  | [], h, e, _, s, h13, h1 => ⟨e, h, rfl, s, h13⟩
  | l :: ls, h, e, hl, s, h13, h1 => by
    obtain ⟨e1, g1, a1, s1, l1, r1⟩ := lap_st (e := e.set 2 (some (.int (l : Nat)))) (hl l (by simp)) s (by simp [h13]) (by rw [List.getElem?_set_ne (by decide)]; exact h1) (by rw [List.getElem?_set_self (by omega)])
    obtain ⟨e', h', b1, b2, b3⟩ := laps_st ls g1 e1 (fun x hx => hl x (List.mem_cons_of_mem _ hx)) s1 l1 r1
    refine ⟨e', h', ?_, b2, b3⟩
    show (R.bind (lwO (e.set 2 (some (.int (l : Nat)))) h) _) = _
    rw [a1]
    exact b1
/-! ### the texts that are written -/
theorem e_rightS {s : Str} {h : Sto} (g : Good h) (hs : (s.cps.toList.all (fun c => decide (c < 128)) && decide (s.cps.toList.length ≤ 4000)) = true) : F__law_read_right [.str s] h = .ok (.bl true) h := by
  simp only [Bool.and_eq_true, List.all_eq_true, decide_eq_true_eq] at hs
  rw [T_of s]
  exact e_right g hs.1 hs.2
def aaa : Str := Str.ofString "try 0 " ++ Txt.mul (Str.ofString "a") 13
def some1 : List Str := [Str.ofString "undo 0 plan\n", Str.ofString "undo 0 plan", Str.ofString "left 1 a\n", Str.ofString "left 01\n", Str.ofString "left 100\n", aaa]
def some2 : List Str := [Str.ofString "done 3 1a\n", Str.ofString "\n", Str.ofString "undone 0 sure\nleft", Str.ofString "failed  0 a\n", Str.ofString "Try 0 a\n", Str.ofString "left 0\n\n"]
def some3 : List Str := [Str.ofString "left 0\nleft 0", Str.ofString "try 0 a \n", Str.ofString "doneleft"]
theorem some_ok : ∀ s ∈ some1 ++ some2 ++ some3, (s.cps.toList.all (fun c => decide (c < 128)) && decide (s.cps.toList.length ≤ 4000)) = true := by decide +kernel
theorem f_aaa {h : Sto} : fAdd h (.str (Str.ofString "try 0 ")) (.str (Txt.mul (Str.ofString "a") 13)) = some (.str aaa) := by
  show (if (Str.ofString "try 0 ").length + (Txt.mul (Str.ofString "a") 13).length ≤ LN then some (D.str aaa) else none) = _
  rw [if_pos (by decide +kernel)]
theorem f_mula {h : Sto} : fMul h (.str (Str.ofString "a")) (.int 13) = some (.str (Txt.mul (Str.ofString "a") 13)) := by
  show (if (0 : Int) ≤ 13 ∧ (13 : Int) ≤ 64 ∧ (Str.ofString "a").length ≤ 64 then some (D.str (Txt.mul (Str.ofString "a") 13)) else none) = _
  rw [if_pos ⟨by decide, by decide, by decide +kernel⟩]
theorem e_some1 {e : MR.Env} {h : Sto} : sLst (sCons (sC (.str "undo 0 plan\n")) (sCons (sC (.str "undo 0 plan")) (sCons (sC (.str "left 1 a\n")) (sCons (sC (.str "left 01\n")) (sCons (sC (.str "left 100\n")) (sCons (sOp fAdd (sC (.str "try 0 ")) (sOp fMul (sC (.str "a")) (sC (.int 13)))) sNil)))))) e h = .ok (.lst (some1.map D.str)) h :=
  q_lst (q_cons q_c (q_cons q_c (q_cons q_c (q_cons q_c (q_cons q_c (q_one (q_op q_c (q_op q_c q_c f_mula) f_aaa))))))) (by decide)
theorem e_some2 {e : MR.Env} {h : Sto} : sLst (sCons (sC (.str "done 3 1a\n")) (sCons (sC (.str "\n")) (sCons (sC (.str "undone 0 sure\nleft")) (sCons (sC (.str "failed  0 a\n")) (sCons (sC (.str "Try 0 a\n")) (sCons (sC (.str "left 0\n\n")) sNil)))))) e h = .ok (.lst (some2.map D.str)) h :=
  q_lst (q_cons q_c (q_cons q_c (q_cons q_c (q_cons q_c (q_cons q_c (q_one q_c)))))) (by decide)
theorem e_some3 {e : MR.Env} {h : Sto} : sLst (sCons (sC (.str "left 0\nleft 0")) (sCons (sC (.str "try 0 a \n")) (sCons (sC (.str "doneleft")) sNil))) e h = .ok (.lst (some3.map D.str)) h :=
  q_lst (q_cons q_c (q_cons q_c (q_one q_c))) (by decide)
def oddD (n : Nat) : List D := [.non, .int 0, .bl true, .lst [.str "left 0\n"], .tup [.str "left", .int 0], .ref n]
theorem odd_told {n : Nat} {b : Bool} {h : Sto} (hn : h[n]? = some (Cell.M [])) : ∀ d ∈ oddD n, F__law_told [d, .bl b] h = .ok (.int 0) h := fun d hd => by
  simp only [oddD, List.mem_cons, List.not_mem_nil, or_false] at hd
  rcases hd with rfl | rfl | rfl | rfl | rfl | rfl
  · exact e_told_odd (S := "NoneType") rfl (by decide +kernel)
  · exact e_told_odd (S := "int") rfl (by decide +kernel)
  · exact e_told_odd (S := "bool") rfl (by decide +kernel)
  · exact e_told_odd (S := "list") rfl (by decide +kernel)
  · exact e_told_odd (S := "tuple") rfl (by decide +kernel)
  · exact e_told_odd (S := "dict") (by simp only [tyName, hn]) (by decide +kernel)
theorem run_end {N : Nat} {m : SS} {ds : List D} {h' : Sto} {b : Bool} (q : m (ds.map some ++ List.replicate (N - ds.length) none) [] = .ok (.rt (.bl b)) h') : ∃ h, runB N m ds [] = .ok (.bl b) h := by
  unfold runB
  rw [q]
  simp only [fin]
  split
  · exact ⟨_, rfl⟩
  · exact ⟨_, rfl⟩
theorem law_true (ns : List Int) (hn : ns.length ≤ 63) : ∃ h, F_law [.lst (ns.map D.int)] [] = .ok (.bl true) h := by
  obtain ⟨h0, a0, s0'⟩ := open_st ns hn
  let e1 : MR.Env := [some (.lst (ns.map D.int)), some (.ref 0), none, none, none, none, none, none, none, none, none, none, none]
  obtain ⟨e2, h2, a2, s2, l2⟩ := laps_st (List.range 3) h0 e1 (by decide) s0' rfl rfl
  have gd := s2.good
  let S1 := some1.map D.str
  let S12 := (some1 ++ some2).map D.str
  let S := (some1 ++ some2 ++ some3).map D.str
  let e3 := e2.set 3 (some (.lst S1))
  let e4 := e3.set 3 (some (.lst S12))
  let e5 := e4.set 3 (some (.lst S))
  have l3 : e3.length = 13 := by simp [e3, l2]
  have l4 : e4.length = 13 := by simp [e4, l3]
  have l5 : e5.length = 13 := by simp [e5, l4]
  have v3 : e3[3]? = some (some (.lst S1)) := List.getElem?_set_self (by omega)
  have v4 : e4[3]? = some (some (.lst S12)) := List.getElem?_set_self (by omega)
  have v5 : e5[3]? = some (some (.lst S)) := List.getElem?_set_self (by omega)
  have st3 : sSet 3 (sLst (sCons (sC (.str "undo 0 plan\n")) (sCons (sC (.str "undo 0 plan")) (sCons (sC (.str "left 1 a\n")) (sCons (sC (.str "left 01\n")) (sCons (sC (.str "left 100\n")) (sCons (sOp fAdd (sC (.str "try 0 ")) (sOp fMul (sC (.str "a")) (sC (.int 13)))) sNil))))))) e2 h2 = .ok (.nx e3) h2 := q_set e_some1
  have st4 : sSet 3 (sOp fAdd (sVar 3) (sLst (sCons (sC (.str "done 3 1a\n")) (sCons (sC (.str "\n")) (sCons (sC (.str "undone 0 sure\nleft")) (sCons (sC (.str "failed  0 a\n")) (sCons (sC (.str "Try 0 a\n")) (sCons (sC (.str "left 0\n\n")) sNil)))))))) e3 h2 = .ok (.nx e4) h2 :=
    q_set (q_op (q_var v3) e_some2 ((f_addL (by decide)).trans (by rw [← List.map_append])))
  have st5 : sSet 3 (sOp fAdd (sVar 3) (sLst (sCons (sC (.str "left 0\nleft 0")) (sCons (sC (.str "try 0 a \n")) (sCons (sC (.str "doneleft")) sNil))))) e4 h2 = .ok (.nx e5) h2 :=
    q_set (q_op (q_var v4) e_some3 ((f_addL (by decide)).trans (by rw [← List.map_append])))
  have all5 : sNot (sTest (sFn fAll (sCons (sLc [7] (sItems (sVar 3)) (gN 7) sYes (sCall 1 F__law_read_right (sCons (sVar 7) sNil))) sNil))) e5 h2 = .ok false h2 := by
    refine q_not (p := true) (q_test (q_fn (q_one (q_lc0 (fun _ => .bl true) (q_items (q_var v5)) gd (fun d hd => ?_) (by decide))) ?_))
    · obtain ⟨s, hs, rfl⟩ := List.mem_map.mp hd
      exact ⟨_, rfl, rfl, fun acc' g' => q_call (q_one (q_var (List.getElem?_set_self (by simp [wipeE, l5])))) (e_rightS g' (some_ok s hs))⟩
    · show fAll h2 [.lst (S.map fun _ => .bl true)] = _
      rw [show fAll h2 [.lst (S.map fun _ => D.bl ((fun _ : D => true) D.non))] = some (.bl (S.all fun _ => true)) from f_allB (g := fun _ : D => true)]
      simp
  -- what is no text
  let h3 := h2 ++ [Cell.M []]
  have hM : h3[h2.length]? = some (Cell.M []) := by simp [h3]
  have g3 : Good h3 := by
    show ((h2 ++ [Cell.M []]).all (Cell.blw (h2 ++ [Cell.M []]).length)) = true
    rw [List.all_append, Bool.and_eq_true]
    refine ⟨List.all_eq_true.mpr fun c hc => cblw_mono (by simp) c (List.all_eq_true.mp gd c hc), rfl⟩
  let e6 := e5.set 4 (some (.lst (oddD h2.length)))
  have l6 : e6.length = 13 := by simp [e6, l5]
  have v6 : e6[4]? = some (some (.lst (oddD h2.length))) := List.getElem?_set_self (by omega)
  have st6 : sSet 4 (sLst (sCons (sC .non) (sCons (sC (.int 0)) (sCons (sC (.bl true)) (sCons (sLst (sCons (sC (.str "left 0\n")) sNil)) (sCons (sTup (sCons (sC (.str "left")) (sCons (sC (.int 0)) sNil))) (sCons sDNew sNil))))))) e5 h2 = .ok (.nx e6) h3 :=
    q_set (q_lst (q_cons q_c (q_cons q_c (q_cons q_c (q_cons (q_lst (q_one q_c)) (q_cons (q_tup (q_cons q_c (q_one q_c))) (q_one (show sDNew e5 h2 = .ok (.ref h2.length) h3 from rfl))))))) (by simp [oddD]))
  have told : ∀ b : Bool, sLc [10] (sItems (sVar 4)) (gN 10) sYes (sCall 2 F__law_told (sCons (sVar 10) (sCons (sC (.bl b)) sNil))) e6 h3 = .ok (.lst ((oddD h2.length).map fun _ => .int 0)) h3 := fun b =>
    q_lc0 (fun _ => .int 0) (q_items (q_var v6)) g3 (fun d hd => ⟨_, rfl, rfl, fun acc' g' => q_call (q_cons (q_var (List.getElem?_set_self (by simp [wipeE, l6]))) (q_one q_c)) (odd_told (n := h2.length) (by
      rw [List.getElem?_append_left (by simp [h3])]
      exact hM) d hd)⟩) (by simp [oddD])
  let z6 : List D := [.int 0, .int 0, .int 0, .int 0, .int 0, .int 0]
  let e7 := e6.set 5 (some (.lst (z6 ++ z6)))
  have l7 : e7.length = 13 := by simp [e7, l6]
  have v7 : e7[5]? = some (some (.lst (z6 ++ z6))) := List.getElem?_set_self (by omega)
  have st7 : sSet 5 (sOp fAdd (sLc [10] (sItems (sVar 4)) (gN 10) sYes (sCall 2 F__law_told (sCons (sVar 10) (sCons (sC (.bl false)) sNil)))) (sLc [10] (sItems (sVar 4)) (gN 10) sYes (sCall 2 F__law_told (sCons (sVar 10) (sCons (sC (.bl true)) sNil))))) e6 h3 = .ok (.nx e7) h3 :=
    q_set (q_op (told false) (told true) (f_addL (by simp [oddD])))
  have rep : sRep (sCons (sC (.int 0)) sNil) (sC (.int 12)) e7 h3 = .ok (.lst (z6 ++ z6)) h3 := rfl
  have n12 : Nc 60 1000000 (.lst (z6 ++ z6)) := nc_lst (k := 59) (W := 15) (fun x hx => by
    simp only [z6, List.cons_append, List.nil_append, List.mem_cons, List.not_mem_nil, or_false, or_self] at hx
    subst hx
    exact nc_int (by decide)) (by decide)
  have jt : sCall 1 F_journal_text (sCons (sTup sNil) sNil) e7 h3 = .ok (.str (T [])) h3 := q_call (q_one (q_tup q_nil)) (e_jtext (J := []) g3 (fun r hr => by cases hr) (by decide))
  have last : sRet (sAndV (sOp fEq (sVar 5) (sRep (sCons (sC (.int 0)) sNil) (sC (.int 12)))) (sOp fEq (sCall 1 F_journal_text (sCons (sTup sNil) sNil)) (sC (.str "")))) e7 h3 = .ok (.rt (.bl (true && true))) h3 :=
    q_ret (k_andV (q_op (q_var v7) rep (f_eqSame n12)) fun _ => q_op jt q_c (by rw [s0, f_eq]; rfl))
  exact run_end (b := true) (q_seq (q_set (q_call (q_one q_var) a0)) (q_seq ((q_for (q_range1 (j := 3) (q_one q_c) (by decide))).trans a2) (q_seq st3 (q_seq st4 (q_seq st5 (q_seq (q_sifF all5 rfl) (q_seq st6 (q_seq st7 last))))))))
end K52
end
section
namespace K52
open PySem PySem.Spec PyProof.Rows L2 MR
set_option maxHeartbeats 0
theorem all_mk {w : World} {K : PySem.W.Frag} {h : Heap} {mg : PySem.Str → Option Value} {fa : Addr} (X : K.In h) (G : h.Ns mainGlobals mg) (hfa : mg "law" = some (.ref fa))
    {f_copied : Addr} {od_copied an_copied : Option Addr} {sl_copied : Array (Option Value)} {oc_copied kV_copied dc_copied pm_copied cd_copied ct_copied : Value}
    {f_is_name : Addr} {od_is_name an_is_name : Option Addr} {sl_is_name : Array (Option Value)} {oc_is_name kV_is_name dc_is_name pm_is_name cd_is_name ct_is_name : Value}
    {f_record_line : Addr} {od_record_line an_record_line : Option Addr} {sl_record_line : Array (Option Value)} {oc_record_line kV_record_line dc_record_line pm_record_line cd_record_line ct_record_line : Value}
    {f_journal_text : Addr} {od_journal_text an_journal_text : Option Addr} {sl_journal_text : Array (Option Value)} {oc_journal_text kV_journal_text dc_journal_text pm_journal_text cd_journal_text ct_journal_text : Value}
    {f_alike_signs : Addr} {od_alike_signs an_alike_signs : Option Addr} {sl_alike_signs : Array (Option Value)} {oc_alike_signs kV_alike_signs dc_alike_signs pm_alike_signs cd_alike_signs ct_alike_signs : Value}
    {f_word_end : Addr} {od_word_end an_word_end : Option Addr} {sl_word_end : Array (Option Value)} {oc_word_end kV_word_end dc_word_end pm_word_end cd_word_end ct_word_end : Value}
    {f_number_end : Addr} {od_number_end an_number_end : Option Addr} {sl_number_end : Array (Option Value)} {oc_number_end kV_number_end dc_number_end pm_number_end cd_number_end ct_number_end : Value}
    {f_name_end : Addr} {od_name_end an_name_end : Option Addr} {sl_name_end : Array (Option Value)} {oc_name_end kV_name_end dc_name_end pm_name_end cd_name_end ct_name_end : Value}
    {f_line_end : Addr} {od_line_end an_line_end : Option Addr} {sl_line_end : Array (Option Value)} {oc_line_end kV_line_end dc_line_end pm_line_end cd_line_end ct_line_end : Value}
    {f_gone_over : Addr} {od_gone_over an_gone_over : Option Addr} {sl_gone_over : Array (Option Value)} {oc_gone_over kV_gone_over dc_gone_over pm_gone_over cd_gone_over ct_gone_over : Value}
    {f_read_journal : Addr} {od_read_journal an_read_journal : Option Addr} {sl_read_journal : Array (Option Value)} {oc_read_journal kV_read_journal dc_read_journal pm_read_journal cd_read_journal ct_read_journal : Value}
    {f_whole_of : Addr} {od_whole_of an_whole_of : Option Addr} {sl_whole_of : Array (Option Value)} {oc_whole_of kV_whole_of dc_whole_of pm_whole_of cd_whole_of ct_whole_of : Value}
    {f__law_open_cells : Addr} {od__law_open_cells an__law_open_cells : Option Addr} {sl__law_open_cells : Array (Option Value)} {oc__law_open_cells kV__law_open_cells dc__law_open_cells pm__law_open_cells cd__law_open_cells ct__law_open_cells : Value}
    {f__law_pick : Addr} {od__law_pick an__law_pick : Option Addr} {sl__law_pick : Array (Option Value)} {oc__law_pick kV__law_pick dc__law_pick pm__law_pick cd__law_pick ct__law_pick : Value}
    {f__law_of : Addr} {od__law_of an__law_of : Option Addr} {sl__law_of : Array (Option Value)} {oc__law_of kV__law_of dc__law_of pm__law_of cd__law_of ct__law_of : Value}
    {f__law_words : Addr} {od__law_words an__law_words : Option Addr} {sl__law_words : Array (Option Value)} {oc__law_words kV__law_words dc__law_words pm__law_words cd__law_words ct__law_words : Value}
    {f__law_line : Addr} {od__law_line an__law_line : Option Addr} {sl__law_line : Array (Option Value)} {oc__law_line kV__law_line dc__law_line pm__law_line cd__law_line ct__law_line : Value}
    {f__law_is_number : Addr} {od__law_is_number an__law_is_number : Option Addr} {sl__law_is_number : Array (Option Value)} {oc__law_is_number kV__law_is_number dc__law_is_number pm__law_is_number cd__law_is_number ct__law_is_number : Value}
    {f__law_is_begun : Addr} {od__law_is_begun an__law_is_begun : Option Addr} {sl__law_is_begun : Array (Option Value)} {oc__law_is_begun kV__law_is_begun dc__law_is_begun pm__law_is_begun cd__law_is_begun ct__law_is_begun : Value}
    {f__law_is_name : Addr} {od__law_is_name an__law_is_name : Option Addr} {sl__law_is_name : Array (Option Value)} {oc__law_is_name kV__law_is_name dc__law_is_name pm__law_is_name cd__law_is_name ct__law_is_name : Value}
    {f__law_record : Addr} {od__law_record an__law_record : Option Addr} {sl__law_record : Array (Option Value)} {oc__law_record kV__law_record dc__law_record pm__law_record cd__law_record ct__law_record : Value}
    {f__law_can_be : Addr} {od__law_can_be an__law_can_be : Option Addr} {sl__law_can_be : Array (Option Value)} {oc__law_can_be kV__law_can_be dc__law_can_be pm__law_can_be cd__law_can_be ct__law_can_be : Value}
    {f__law_gone_over : Addr} {od__law_gone_over an__law_gone_over : Option Addr} {sl__law_gone_over : Array (Option Value)} {oc__law_gone_over kV__law_gone_over dc__law_gone_over pm__law_gone_over cd__law_gone_over ct__law_gone_over : Value}
    {f__law_told : Addr} {od__law_told an__law_told : Option Addr} {sl__law_told : Array (Option Value)} {oc__law_told kV__law_told dc__law_told pm__law_told cd__law_told ct__law_told : Value}
    {f__law_read_right : Addr} {od__law_read_right an__law_read_right : Option Addr} {sl__law_read_right : Array (Option Value)} {oc__law_read_right kV__law_read_right dc__law_read_right pm__law_read_right cd__law_read_right ct__law_read_right : Value}
    {f__law_any_record : Addr} {od__law_any_record an__law_any_record : Option Addr} {sl__law_any_record : Array (Option Value)} {oc__law_any_record kV__law_any_record dc__law_any_record pm__law_any_record cd__law_any_record ct__law_any_record : Value}
    {f__law_bent : Addr} {od__law_bent an__law_bent : Option Addr} {sl__law_bent : Array (Option Value)} {oc__law_bent kV__law_bent dc__law_bent pm__law_bent cd__law_bent ct__law_bent : Value}
    {f_law : Addr} {od_law an_law : Option Addr} {sl_law : Array (Option Value)} {oc_law kV_law dc_law pm_law cd_law ct_law : Value}
    {t_MOST_LETTERS : Tok}
    {q_WORDS_checks n_WORDS_checks : Nat} {o_WORDS_checks : Obj} {i_WORDS_checks : Array Value}
    {t_LETTERS_checks : Tok}
    {t_DIGITS_checks : Tok}
    {q_WORDS_journaltexts n_WORDS_journaltexts : Nat} {o_WORDS_journaltexts : Obj} {i_WORDS_journaltexts : Array Value}
    {t_DIGITS_journaltexts : Tok}
    {t_LONGEST : Tok}
    {t_LETTERS_journaltexts : Tok}
    {X_BadText f_BadText cc_BadText cda_BadText N_BadText : Addr} {nm_BadText qn_BadText fl_BadText : PySem.Str} {bs_BadText bm_BadText sub_BadText : List Value} {sn_BadText : List PySem.Str} {ab_BadText : Bool} {col_BadText : Option Bool} {dd_BadText an_BadText od_BadText : Option Addr} {m0_BadText m1_BadText m2_BadText m3_BadText m5_BadText : Option Value} {oc_BadText kV_BadText dc_BadText pm_BadText ct_BadText : Value} {sl_BadText : Array (Option Value)} {co_BadText ce_BadText : Obj} {vs_BadText : Array Value} {tf_BadText : Tok}
    (a_copied : PySem.W.nsIn K mainGlobals "copied" = some (some (.ref f_copied)))
    (l_copied : K.lookup f_copied = some ⟨oc_copied, od_copied, .func (PySem.W.fnOf "copied" "copied" (defArgs st_copied) (defBody st_copied) (defScope st_copied) .none kV_copied dc_copied pm_copied an_copied cd_copied ct_copied), sl_copied⟩)
    (c_copied : PySem.W.codeIn K cd_copied "copied" = true)
    (k_copied : PySem.W.keepIn K (.ref f_copied) = true)
    (a_is_name : PySem.W.nsIn K mainGlobals "is_name" = some (some (.ref f_is_name)))
    (l_is_name : K.lookup f_is_name = some ⟨oc_is_name, od_is_name, .func (PySem.W.fnOf "is_name" "is_name" (defArgs st_is_name) (defBody st_is_name) (defScope st_is_name) .none kV_is_name dc_is_name pm_is_name an_is_name cd_is_name ct_is_name), sl_is_name⟩)
    (c_is_name : PySem.W.codeIn K cd_is_name "is_name" = true)
    (k_is_name : PySem.W.keepIn K (.ref f_is_name) = true)
    (a_record_line : PySem.W.nsIn K mainGlobals "record_line" = some (some (.ref f_record_line)))
    (l_record_line : K.lookup f_record_line = some ⟨oc_record_line, od_record_line, .func (PySem.W.fnOf "record_line" "record_line" (defArgs st_record_line) (defBody st_record_line) (defScope st_record_line) .none kV_record_line dc_record_line pm_record_line an_record_line cd_record_line ct_record_line), sl_record_line⟩)
    (c_record_line : PySem.W.codeIn K cd_record_line "record_line" = true)
    (k_record_line : PySem.W.keepIn K (.ref f_record_line) = true)
    (a_journal_text : PySem.W.nsIn K mainGlobals "journal_text" = some (some (.ref f_journal_text)))
    (l_journal_text : K.lookup f_journal_text = some ⟨oc_journal_text, od_journal_text, .func (PySem.W.fnOf "journal_text" "journal_text" (defArgs st_journal_text) (defBody st_journal_text) (defScope st_journal_text) .none kV_journal_text dc_journal_text pm_journal_text an_journal_text cd_journal_text ct_journal_text), sl_journal_text⟩)
    (c_journal_text : PySem.W.codeIn K cd_journal_text "journal_text" = true)
    (k_journal_text : PySem.W.keepIn K (.ref f_journal_text) = true)
    (a_alike_signs : PySem.W.nsIn K mainGlobals "alike_signs" = some (some (.ref f_alike_signs)))
    (l_alike_signs : K.lookup f_alike_signs = some ⟨oc_alike_signs, od_alike_signs, .func (PySem.W.fnOf "alike_signs" "alike_signs" (defArgs st_alike_signs) (defBody st_alike_signs) (defScope st_alike_signs) .none kV_alike_signs dc_alike_signs pm_alike_signs an_alike_signs cd_alike_signs ct_alike_signs), sl_alike_signs⟩)
    (c_alike_signs : PySem.W.codeIn K cd_alike_signs "alike_signs" = true)
    (k_alike_signs : PySem.W.keepIn K (.ref f_alike_signs) = true)
    (a_word_end : PySem.W.nsIn K mainGlobals "word_end" = some (some (.ref f_word_end)))
    (l_word_end : K.lookup f_word_end = some ⟨oc_word_end, od_word_end, .func (PySem.W.fnOf "word_end" "word_end" (defArgs st_word_end) (defBody st_word_end) (defScope st_word_end) .none kV_word_end dc_word_end pm_word_end an_word_end cd_word_end ct_word_end), sl_word_end⟩)
    (c_word_end : PySem.W.codeIn K cd_word_end "word_end" = true)
    (k_word_end : PySem.W.keepIn K (.ref f_word_end) = true)
    (a_number_end : PySem.W.nsIn K mainGlobals "number_end" = some (some (.ref f_number_end)))
    (l_number_end : K.lookup f_number_end = some ⟨oc_number_end, od_number_end, .func (PySem.W.fnOf "number_end" "number_end" (defArgs st_number_end) (defBody st_number_end) (defScope st_number_end) .none kV_number_end dc_number_end pm_number_end an_number_end cd_number_end ct_number_end), sl_number_end⟩)
    (c_number_end : PySem.W.codeIn K cd_number_end "number_end" = true)
    (k_number_end : PySem.W.keepIn K (.ref f_number_end) = true)
    (a_name_end : PySem.W.nsIn K mainGlobals "name_end" = some (some (.ref f_name_end)))
    (l_name_end : K.lookup f_name_end = some ⟨oc_name_end, od_name_end, .func (PySem.W.fnOf "name_end" "name_end" (defArgs st_name_end) (defBody st_name_end) (defScope st_name_end) .none kV_name_end dc_name_end pm_name_end an_name_end cd_name_end ct_name_end), sl_name_end⟩)
    (c_name_end : PySem.W.codeIn K cd_name_end "name_end" = true)
    (k_name_end : PySem.W.keepIn K (.ref f_name_end) = true)
    (a_line_end : PySem.W.nsIn K mainGlobals "line_end" = some (some (.ref f_line_end)))
    (l_line_end : K.lookup f_line_end = some ⟨oc_line_end, od_line_end, .func (PySem.W.fnOf "line_end" "line_end" (defArgs st_line_end) (defBody st_line_end) (defScope st_line_end) .none kV_line_end dc_line_end pm_line_end an_line_end cd_line_end ct_line_end), sl_line_end⟩)
    (c_line_end : PySem.W.codeIn K cd_line_end "line_end" = true)
    (k_line_end : PySem.W.keepIn K (.ref f_line_end) = true)
    (a_gone_over : PySem.W.nsIn K mainGlobals "gone_over" = some (some (.ref f_gone_over)))
    (l_gone_over : K.lookup f_gone_over = some ⟨oc_gone_over, od_gone_over, .func (PySem.W.fnOf "gone_over" "gone_over" (defArgs st_gone_over) (defBody st_gone_over) (defScope st_gone_over) .none kV_gone_over dc_gone_over pm_gone_over an_gone_over cd_gone_over ct_gone_over), sl_gone_over⟩)
    (c_gone_over : PySem.W.codeIn K cd_gone_over "gone_over" = true)
    (k_gone_over : PySem.W.keepIn K (.ref f_gone_over) = true)
    (a_read_journal : PySem.W.nsIn K mainGlobals "read_journal" = some (some (.ref f_read_journal)))
    (l_read_journal : K.lookup f_read_journal = some ⟨oc_read_journal, od_read_journal, .func (PySem.W.fnOf "read_journal" "read_journal" (defArgs st_read_journal) (defBody st_read_journal) (defScope st_read_journal) .none kV_read_journal dc_read_journal pm_read_journal an_read_journal cd_read_journal ct_read_journal), sl_read_journal⟩)
    (c_read_journal : PySem.W.codeIn K cd_read_journal "read_journal" = true)
    (k_read_journal : PySem.W.keepIn K (.ref f_read_journal) = true)
    (a_whole_of : PySem.W.nsIn K mainGlobals "whole_of" = some (some (.ref f_whole_of)))
    (l_whole_of : K.lookup f_whole_of = some ⟨oc_whole_of, od_whole_of, .func (PySem.W.fnOf "whole_of" "whole_of" (defArgs st_whole_of) (defBody st_whole_of) (defScope st_whole_of) .none kV_whole_of dc_whole_of pm_whole_of an_whole_of cd_whole_of ct_whole_of), sl_whole_of⟩)
    (c_whole_of : PySem.W.codeIn K cd_whole_of "whole_of" = true)
    (k_whole_of : PySem.W.keepIn K (.ref f_whole_of) = true)
    (a__law_open_cells : PySem.W.nsIn K mainGlobals "_law_open_cells" = some (some (.ref f__law_open_cells)))
    (l__law_open_cells : K.lookup f__law_open_cells = some ⟨oc__law_open_cells, od__law_open_cells, .func (PySem.W.fnOf "_law_open_cells" "_law_open_cells" (defArgs st__law_open_cells) (defBody st__law_open_cells) (defScope st__law_open_cells) .none kV__law_open_cells dc__law_open_cells pm__law_open_cells an__law_open_cells cd__law_open_cells ct__law_open_cells), sl__law_open_cells⟩)
    (c__law_open_cells : PySem.W.codeIn K cd__law_open_cells "_law_open_cells" = true)
    (k__law_open_cells : PySem.W.keepIn K (.ref f__law_open_cells) = true)
    (a__law_pick : PySem.W.nsIn K mainGlobals "_law_pick" = some (some (.ref f__law_pick)))
    (l__law_pick : K.lookup f__law_pick = some ⟨oc__law_pick, od__law_pick, .func (PySem.W.fnOf "_law_pick" "_law_pick" (defArgs st__law_pick) (defBody st__law_pick) (defScope st__law_pick) .none kV__law_pick dc__law_pick pm__law_pick an__law_pick cd__law_pick ct__law_pick), sl__law_pick⟩)
    (c__law_pick : PySem.W.codeIn K cd__law_pick "_law_pick" = true)
    (k__law_pick : PySem.W.keepIn K (.ref f__law_pick) = true)
    (a__law_of : PySem.W.nsIn K mainGlobals "_law_of" = some (some (.ref f__law_of)))
    (l__law_of : K.lookup f__law_of = some ⟨oc__law_of, od__law_of, .func (PySem.W.fnOf "_law_of" "_law_of" (defArgs st__law_of) (defBody st__law_of) (defScope st__law_of) .none kV__law_of dc__law_of pm__law_of an__law_of cd__law_of ct__law_of), sl__law_of⟩)
    (c__law_of : PySem.W.codeIn K cd__law_of "_law_of" = true)
    (k__law_of : PySem.W.keepIn K (.ref f__law_of) = true)
    (a__law_words : PySem.W.nsIn K mainGlobals "_law_words" = some (some (.ref f__law_words)))
    (l__law_words : K.lookup f__law_words = some ⟨oc__law_words, od__law_words, .func (PySem.W.fnOf "_law_words" "_law_words" (defArgs st__law_words) (defBody st__law_words) (defScope st__law_words) .none kV__law_words dc__law_words pm__law_words an__law_words cd__law_words ct__law_words), sl__law_words⟩)
    (c__law_words : PySem.W.codeIn K cd__law_words "_law_words" = true)
    (k__law_words : PySem.W.keepIn K (.ref f__law_words) = true)
    (a__law_line : PySem.W.nsIn K mainGlobals "_law_line" = some (some (.ref f__law_line)))
    (l__law_line : K.lookup f__law_line = some ⟨oc__law_line, od__law_line, .func (PySem.W.fnOf "_law_line" "_law_line" (defArgs st__law_line) (defBody st__law_line) (defScope st__law_line) .none kV__law_line dc__law_line pm__law_line an__law_line cd__law_line ct__law_line), sl__law_line⟩)
    (c__law_line : PySem.W.codeIn K cd__law_line "_law_line" = true)
    (k__law_line : PySem.W.keepIn K (.ref f__law_line) = true)
    (a__law_is_number : PySem.W.nsIn K mainGlobals "_law_is_number" = some (some (.ref f__law_is_number)))
    (l__law_is_number : K.lookup f__law_is_number = some ⟨oc__law_is_number, od__law_is_number, .func (PySem.W.fnOf "_law_is_number" "_law_is_number" (defArgs st__law_is_number) (defBody st__law_is_number) (defScope st__law_is_number) .none kV__law_is_number dc__law_is_number pm__law_is_number an__law_is_number cd__law_is_number ct__law_is_number), sl__law_is_number⟩)
    (c__law_is_number : PySem.W.codeIn K cd__law_is_number "_law_is_number" = true)
    (k__law_is_number : PySem.W.keepIn K (.ref f__law_is_number) = true)
    (a__law_is_begun : PySem.W.nsIn K mainGlobals "_law_is_begun" = some (some (.ref f__law_is_begun)))
    (l__law_is_begun : K.lookup f__law_is_begun = some ⟨oc__law_is_begun, od__law_is_begun, .func (PySem.W.fnOf "_law_is_begun" "_law_is_begun" (defArgs st__law_is_begun) (defBody st__law_is_begun) (defScope st__law_is_begun) .none kV__law_is_begun dc__law_is_begun pm__law_is_begun an__law_is_begun cd__law_is_begun ct__law_is_begun), sl__law_is_begun⟩)
    (c__law_is_begun : PySem.W.codeIn K cd__law_is_begun "_law_is_begun" = true)
    (k__law_is_begun : PySem.W.keepIn K (.ref f__law_is_begun) = true)
    (a__law_is_name : PySem.W.nsIn K mainGlobals "_law_is_name" = some (some (.ref f__law_is_name)))
    (l__law_is_name : K.lookup f__law_is_name = some ⟨oc__law_is_name, od__law_is_name, .func (PySem.W.fnOf "_law_is_name" "_law_is_name" (defArgs st__law_is_name) (defBody st__law_is_name) (defScope st__law_is_name) .none kV__law_is_name dc__law_is_name pm__law_is_name an__law_is_name cd__law_is_name ct__law_is_name), sl__law_is_name⟩)
    (c__law_is_name : PySem.W.codeIn K cd__law_is_name "_law_is_name" = true)
    (k__law_is_name : PySem.W.keepIn K (.ref f__law_is_name) = true)
    (a__law_record : PySem.W.nsIn K mainGlobals "_law_record" = some (some (.ref f__law_record)))
    (l__law_record : K.lookup f__law_record = some ⟨oc__law_record, od__law_record, .func (PySem.W.fnOf "_law_record" "_law_record" (defArgs st__law_record) (defBody st__law_record) (defScope st__law_record) .none kV__law_record dc__law_record pm__law_record an__law_record cd__law_record ct__law_record), sl__law_record⟩)
    (c__law_record : PySem.W.codeIn K cd__law_record "_law_record" = true)
    (k__law_record : PySem.W.keepIn K (.ref f__law_record) = true)
    (a__law_can_be : PySem.W.nsIn K mainGlobals "_law_can_be" = some (some (.ref f__law_can_be)))
    (l__law_can_be : K.lookup f__law_can_be = some ⟨oc__law_can_be, od__law_can_be, .func (PySem.W.fnOf "_law_can_be" "_law_can_be" (defArgs st__law_can_be) (defBody st__law_can_be) (defScope st__law_can_be) .none kV__law_can_be dc__law_can_be pm__law_can_be an__law_can_be cd__law_can_be ct__law_can_be), sl__law_can_be⟩)
    (c__law_can_be : PySem.W.codeIn K cd__law_can_be "_law_can_be" = true)
    (k__law_can_be : PySem.W.keepIn K (.ref f__law_can_be) = true)
    (a__law_gone_over : PySem.W.nsIn K mainGlobals "_law_gone_over" = some (some (.ref f__law_gone_over)))
    (l__law_gone_over : K.lookup f__law_gone_over = some ⟨oc__law_gone_over, od__law_gone_over, .func (PySem.W.fnOf "_law_gone_over" "_law_gone_over" (defArgs st__law_gone_over) (defBody st__law_gone_over) (defScope st__law_gone_over) .none kV__law_gone_over dc__law_gone_over pm__law_gone_over an__law_gone_over cd__law_gone_over ct__law_gone_over), sl__law_gone_over⟩)
    (c__law_gone_over : PySem.W.codeIn K cd__law_gone_over "_law_gone_over" = true)
    (k__law_gone_over : PySem.W.keepIn K (.ref f__law_gone_over) = true)
    (a__law_told : PySem.W.nsIn K mainGlobals "_law_told" = some (some (.ref f__law_told)))
    (l__law_told : K.lookup f__law_told = some ⟨oc__law_told, od__law_told, .func (PySem.W.fnOf "_law_told" "_law_told" (defArgs st__law_told) (defBody st__law_told) (defScope st__law_told) .none kV__law_told dc__law_told pm__law_told an__law_told cd__law_told ct__law_told), sl__law_told⟩)
    (c__law_told : PySem.W.codeIn K cd__law_told "_law_told" = true)
    (k__law_told : PySem.W.keepIn K (.ref f__law_told) = true)
    (a__law_read_right : PySem.W.nsIn K mainGlobals "_law_read_right" = some (some (.ref f__law_read_right)))
    (l__law_read_right : K.lookup f__law_read_right = some ⟨oc__law_read_right, od__law_read_right, .func (PySem.W.fnOf "_law_read_right" "_law_read_right" (defArgs st__law_read_right) (defBody st__law_read_right) (defScope st__law_read_right) .none kV__law_read_right dc__law_read_right pm__law_read_right an__law_read_right cd__law_read_right ct__law_read_right), sl__law_read_right⟩)
    (c__law_read_right : PySem.W.codeIn K cd__law_read_right "_law_read_right" = true)
    (k__law_read_right : PySem.W.keepIn K (.ref f__law_read_right) = true)
    (a__law_any_record : PySem.W.nsIn K mainGlobals "_law_any_record" = some (some (.ref f__law_any_record)))
    (l__law_any_record : K.lookup f__law_any_record = some ⟨oc__law_any_record, od__law_any_record, .func (PySem.W.fnOf "_law_any_record" "_law_any_record" (defArgs st__law_any_record) (defBody st__law_any_record) (defScope st__law_any_record) .none kV__law_any_record dc__law_any_record pm__law_any_record an__law_any_record cd__law_any_record ct__law_any_record), sl__law_any_record⟩)
    (c__law_any_record : PySem.W.codeIn K cd__law_any_record "_law_any_record" = true)
    (k__law_any_record : PySem.W.keepIn K (.ref f__law_any_record) = true)
    (a__law_bent : PySem.W.nsIn K mainGlobals "_law_bent" = some (some (.ref f__law_bent)))
    (l__law_bent : K.lookup f__law_bent = some ⟨oc__law_bent, od__law_bent, .func (PySem.W.fnOf "_law_bent" "_law_bent" (defArgs st__law_bent) (defBody st__law_bent) (defScope st__law_bent) .none kV__law_bent dc__law_bent pm__law_bent an__law_bent cd__law_bent ct__law_bent), sl__law_bent⟩)
    (c__law_bent : PySem.W.codeIn K cd__law_bent "_law_bent" = true)
    (k__law_bent : PySem.W.keepIn K (.ref f__law_bent) = true)
    (a_law : PySem.W.nsIn K mainGlobals "law" = some (some (.ref f_law)))
    (l_law : K.lookup f_law = some ⟨oc_law, od_law, .func (PySem.W.fnOf "law" "law" (defArgs st_law) (defBody st_law) (defScope st_law) .none kV_law dc_law pm_law an_law cd_law ct_law), sl_law⟩)
    (c_law : PySem.W.codeIn K cd_law "law" = true)
    (k_law : PySem.W.keepIn K (.ref f_law) = true)
    (z_isinstance : PySem.W.nsIn K mainGlobals "isinstance" = some none)
    (z_list : PySem.W.nsIn K mainGlobals "list" = some none)
    (z_tuple : PySem.W.nsIn K mainGlobals "tuple" = some none)
    (z_dict : PySem.W.nsIn K mainGlobals "dict" = some none)
    (z_str : PySem.W.nsIn K mainGlobals "str" = some none)
    (z_len : PySem.W.nsIn K mainGlobals "len" = some none)
    (z_all : PySem.W.nsIn K mainGlobals "all" = some none)
    (z_max : PySem.W.nsIn K mainGlobals "max" = some none)
    (z_int : PySem.W.nsIn K mainGlobals "int" = some none)
    (z_abs : PySem.W.nsIn K mainGlobals "abs" = some none)
    (z_repr : PySem.W.nsIn K mainGlobals "repr" = some none)
    (z_any : PySem.W.nsIn K mainGlobals "any" = some none)
    (z_enumerate : PySem.W.nsIn K mainGlobals "enumerate" = some none)
    (z_range : PySem.W.nsIn K mainGlobals "range" = some none)
    (g_MOST_LETTERS : PySem.W.nsIn K mainGlobals "MOST_LETTERS" = some (some (.int 12 t_MOST_LETTERS)))
    (g_WORDS_checks : PySem.W.nsIn K mainGlobals "WORDS_checks" = some (some (.ref q_WORDS_checks)))
    (h_WORDS_checks : K.lookup q_WORDS_checks = some o_WORDS_checks)
    (v_WORDS_checks : o_WORDS_checks.cls = .type "tuple" ∧ o_WORDS_checks.data = .seq i_WORDS_checks n_WORDS_checks)
    (w_WORDS_checks : i_WORDS_checks.size ≤ 4096 ∧ strsB i_WORDS_checks.toList k_WORDS_checks = true)
    (g_LETTERS_checks : PySem.W.nsIn K mainGlobals "LETTERS_checks" = some (some (.str "abcdefghijklmnopqrstuvwxyz" t_LETTERS_checks)))
    (g_DIGITS_checks : PySem.W.nsIn K mainGlobals "DIGITS_checks" = some (some (.str "0123456789" t_DIGITS_checks)))
    (g_WORDS_journaltexts : PySem.W.nsIn K mainGlobals "WORDS_journaltexts" = some (some (.ref q_WORDS_journaltexts)))
    (h_WORDS_journaltexts : K.lookup q_WORDS_journaltexts = some o_WORDS_journaltexts)
    (v_WORDS_journaltexts : o_WORDS_journaltexts.cls = .type "tuple" ∧ o_WORDS_journaltexts.data = .seq i_WORDS_journaltexts n_WORDS_journaltexts)
    (w_WORDS_journaltexts : i_WORDS_journaltexts.size ≤ 4096 ∧ strsB i_WORDS_journaltexts.toList k_WORDS_journaltexts = true)
    (g_DIGITS_journaltexts : PySem.W.nsIn K mainGlobals "DIGITS_journaltexts" = some (some (.str "0123456789" t_DIGITS_journaltexts)))
    (g_LONGEST : PySem.W.nsIn K mainGlobals "LONGEST" = some (some (.int 12 t_LONGEST)))
    (g_LETTERS_journaltexts : PySem.W.nsIn K mainGlobals "LETTERS_journaltexts" = some (some (.str "abcdefghijklmnopqrstuvwxyz" t_LETTERS_journaltexts)))
    (aC_BadText : PySem.W.nsIn K mainGlobals "BadText" = some (some (.ref X_BadText)))
    (xL_BadText : K.lookup X_BadText = some (excClassObj nm_BadText qn_BadText X_BadText N_BadText bs_BadText bm_BadText true sn_BadText sub_BadText ab_BadText col_BadText dd_BadText m0_BadText m1_BadText m2_BadText m3_BadText m5_BadText "ValueError.__new__"))
    (bmh_BadText : PySem.HandSPX.refsVE bm_BadText = true)
    (sa_BadText : PySem.W.findIn K (.ref X_BadText) "__setattr__" = some (some (.builtin "object.__setattr__")))
    (ga_BadText : PySem.W.findIn K (.ref X_BadText) "__getattribute__" = some (some (.builtin "BaseException.__getattribute__")))
    (gg_BadText : PySem.W.findIn K (.ref X_BadText) "__getattr__" = some none)
    (nf_BadText : PySem.W.findIn K (.ref X_BadText) "place" = some none)
    (iC_BadText : PySem.W.findIn K (.ref X_BadText) "__init__" = some (some (.ref f_BadText)))
    (tI_BadText : PySem.W.typeIn K (.ref f_BadText) = some (.type "function"))
    (lI_BadText : K.lookup f_BadText = some ⟨oc_BadText, od_BadText, .func (PySem.W.ksFn "__init__" "BadText.__init__" (defArgs st_iBadText) (defBody st_iBadText) (defScope st_iBadText) .none kV_BadText dc_BadText pm_BadText an_BadText (.ref cda_BadText) ct_BadText cc_BadText), sl_BadText⟩)
    (cI_BadText : PySem.W.codeIn K (.ref cda_BadText) "BadText.__init__" = true)
    (oD_BadText : K.lookup cda_BadText = some co_BadText)
    (oE_BadText : co_BadText.data = .fields vs_BadText ∧ vs_BadText[2]? = some (.str fl_BadText tf_BadText))
    (oF_BadText : ((PySem.Challenge.pw_togethersafe_k52_texts_of_journals.main.file : PySem.Str) == fl_BadText) = true)
    (ceh_BadText : K.lookup cc_BadText = some ce_BadText)
    (cv_BadText : ce_BadText.data = .cell (some (.ref X_BadText)))
    (mr_BadText : PySem.W.mroIn K X_BadText (.ref X_BadText) = some true)
    (na_BadText : PySem.W.nsIn K cStatics "thirdparty.any" = some none)
    (su_BadText : PySem.W.ks_superIn K X_BadText X_BadText "__init__" = some (some (.builtin "ValueError.__init__")))
    (ve_BadText : PySem.W.subIn K (.ref X_BadText) (.type "ValueError") = some true)
    (kC_BadText : PySem.W.keepIn K (.ref X_BadText) = true)
    (eC_BadText : PySem.W.subIn K (.ref X_BadText) (.type "BaseException") = some true)
    (tC_BadText : PySem.W.typeIn K (.ref X_BadText) = some (.type "type"))
    (hC_BadText : PySem.W.hasDictIn K X_BadText = true)
    (jC_BadText : PySem.W.isClsIn K X_BadText = true)
    (sC_BadText : PySem.W.subIn K (.ref X_BadText) (.ref X_BadText) = some true)
    (z_super : PySem.W.nsIn K mainGlobals "super" = some none) :
    ∃ fd : FuncData, (∀ (s : Shared) (u : Value), BindsTo s fd ⟨[u], []⟩ [("script", u)]) ∧ ∀ base : Heap, K.In base → base.Ns mainGlobals mg → FnG PySem.Challenge.pw_togethersafe_k52_texts_of_journals w K mg base 8 fa fd ["script"] F_law := by
  have e := hfa.symm.trans (PySem.W.mg_of X G a_law)
  obtain rfl : f_law = fa := by
    cases e
    rfl
  have D_copied : Dfn K mg "copied" st_copied ["value"] f_copied (PySem.W.fnOf "copied" "copied" (defArgs st_copied) (defBody st_copied) (defScope st_copied) .none kV_copied dc_copied pm_copied an_copied cd_copied ct_copied) := ⟨fun_mk l_copied c_copied k_copied, PySem.W.mg_of X G a_copied, (fun_mk l_copied c_copied k_copied).binds fun _ _ _ _ _ _ us hl => match us, hl with | [_], _ => rfl⟩
  have D_is_name : Dfn K mg "is_name" st_is_name ["value"] f_is_name (PySem.W.fnOf "is_name" "is_name" (defArgs st_is_name) (defBody st_is_name) (defScope st_is_name) .none kV_is_name dc_is_name pm_is_name an_is_name cd_is_name ct_is_name) := ⟨fun_mk l_is_name c_is_name k_is_name, PySem.W.mg_of X G a_is_name, (fun_mk l_is_name c_is_name k_is_name).binds fun _ _ _ _ _ _ us hl => match us, hl with | [_], _ => rfl⟩
  have D_record_line : Dfn K mg "record_line" st_record_line ["record"] f_record_line (PySem.W.fnOf "record_line" "record_line" (defArgs st_record_line) (defBody st_record_line) (defScope st_record_line) .none kV_record_line dc_record_line pm_record_line an_record_line cd_record_line ct_record_line) := ⟨fun_mk l_record_line c_record_line k_record_line, PySem.W.mg_of X G a_record_line, (fun_mk l_record_line c_record_line k_record_line).binds fun _ _ _ _ _ _ us hl => match us, hl with | [_], _ => rfl⟩
  have D_journal_text : Dfn K mg "journal_text" st_journal_text ["journal"] f_journal_text (PySem.W.fnOf "journal_text" "journal_text" (defArgs st_journal_text) (defBody st_journal_text) (defScope st_journal_text) .none kV_journal_text dc_journal_text pm_journal_text an_journal_text cd_journal_text ct_journal_text) := ⟨fun_mk l_journal_text c_journal_text k_journal_text, PySem.W.mg_of X G a_journal_text, (fun_mk l_journal_text c_journal_text k_journal_text).binds fun _ _ _ _ _ _ us hl => match us, hl with | [_], _ => rfl⟩
  have D_alike_signs : Dfn K mg "alike_signs" st_alike_signs ["text", "place", "word"] f_alike_signs (PySem.W.fnOf "alike_signs" "alike_signs" (defArgs st_alike_signs) (defBody st_alike_signs) (defScope st_alike_signs) .none kV_alike_signs dc_alike_signs pm_alike_signs an_alike_signs cd_alike_signs ct_alike_signs) := ⟨fun_mk l_alike_signs c_alike_signs k_alike_signs, PySem.W.mg_of X G a_alike_signs, (fun_mk l_alike_signs c_alike_signs k_alike_signs).binds fun _ _ _ _ _ _ us hl => match us, hl with | [_, _, _], _ => rfl⟩
  have D_word_end : Dfn K mg "word_end" st_word_end ["text", "place"] f_word_end (PySem.W.fnOf "word_end" "word_end" (defArgs st_word_end) (defBody st_word_end) (defScope st_word_end) .none kV_word_end dc_word_end pm_word_end an_word_end cd_word_end ct_word_end) := ⟨fun_mk l_word_end c_word_end k_word_end, PySem.W.mg_of X G a_word_end, (fun_mk l_word_end c_word_end k_word_end).binds fun _ _ _ _ _ _ us hl => match us, hl with | [_, _], _ => rfl⟩
  have D_number_end : Dfn K mg "number_end" st_number_end ["text", "place", "last"] f_number_end (PySem.W.fnOf "number_end" "number_end" (defArgs st_number_end) (defBody st_number_end) (defScope st_number_end) .none kV_number_end dc_number_end pm_number_end an_number_end cd_number_end ct_number_end) := ⟨fun_mk l_number_end c_number_end k_number_end, PySem.W.mg_of X G a_number_end, (fun_mk l_number_end c_number_end k_number_end).binds fun _ _ _ _ _ _ us hl => match us, hl with | [_, _, _], _ => rfl⟩
  have D_name_end : Dfn K mg "name_end" st_name_end ["text", "place"] f_name_end (PySem.W.fnOf "name_end" "name_end" (defArgs st_name_end) (defBody st_name_end) (defScope st_name_end) .none kV_name_end dc_name_end pm_name_end an_name_end cd_name_end ct_name_end) := ⟨fun_mk l_name_end c_name_end k_name_end, PySem.W.mg_of X G a_name_end, (fun_mk l_name_end c_name_end k_name_end).binds fun _ _ _ _ _ _ us hl => match us, hl with | [_, _], _ => rfl⟩
  have D_line_end : Dfn K mg "line_end" st_line_end ["text", "place"] f_line_end (PySem.W.fnOf "line_end" "line_end" (defArgs st_line_end) (defBody st_line_end) (defScope st_line_end) .none kV_line_end dc_line_end pm_line_end an_line_end cd_line_end ct_line_end) := ⟨fun_mk l_line_end c_line_end k_line_end, PySem.W.mg_of X G a_line_end, (fun_mk l_line_end c_line_end k_line_end).binds fun _ _ _ _ _ _ us hl => match us, hl with | [_, _], _ => rfl⟩
  have D_gone_over : Dfn K mg "gone_over" st_gone_over ["text"] f_gone_over (PySem.W.fnOf "gone_over" "gone_over" (defArgs st_gone_over) (defBody st_gone_over) (defScope st_gone_over) .none kV_gone_over dc_gone_over pm_gone_over an_gone_over cd_gone_over ct_gone_over) := ⟨fun_mk l_gone_over c_gone_over k_gone_over, PySem.W.mg_of X G a_gone_over, (fun_mk l_gone_over c_gone_over k_gone_over).binds fun _ _ _ _ _ _ us hl => match us, hl with | [_], _ => rfl⟩
  have D_read_journal : Dfn K mg "read_journal" st_read_journal ["text"] f_read_journal (PySem.W.fnOf "read_journal" "read_journal" (defArgs st_read_journal) (defBody st_read_journal) (defScope st_read_journal) .none kV_read_journal dc_read_journal pm_read_journal an_read_journal cd_read_journal ct_read_journal) := ⟨fun_mk l_read_journal c_read_journal k_read_journal, PySem.W.mg_of X G a_read_journal, (fun_mk l_read_journal c_read_journal k_read_journal).binds fun _ _ _ _ _ _ us hl => match us, hl with | [_], _ => rfl⟩
  have D_whole_of : Dfn K mg "whole_of" st_whole_of ["text"] f_whole_of (PySem.W.fnOf "whole_of" "whole_of" (defArgs st_whole_of) (defBody st_whole_of) (defScope st_whole_of) .none kV_whole_of dc_whole_of pm_whole_of an_whole_of cd_whole_of ct_whole_of) := ⟨fun_mk l_whole_of c_whole_of k_whole_of, PySem.W.mg_of X G a_whole_of, (fun_mk l_whole_of c_whole_of k_whole_of).binds fun _ _ _ _ _ _ us hl => match us, hl with | [_], _ => rfl⟩
  have D__law_open_cells : Dfn K mg "_law_open_cells" st__law_open_cells ["script"] f__law_open_cells (PySem.W.fnOf "_law_open_cells" "_law_open_cells" (defArgs st__law_open_cells) (defBody st__law_open_cells) (defScope st__law_open_cells) .none kV__law_open_cells dc__law_open_cells pm__law_open_cells an__law_open_cells cd__law_open_cells ct__law_open_cells) := ⟨fun_mk l__law_open_cells c__law_open_cells k__law_open_cells, PySem.W.mg_of X G a__law_open_cells, (fun_mk l__law_open_cells c__law_open_cells k__law_open_cells).binds fun _ _ _ _ _ _ us hl => match us, hl with | [_], _ => rfl⟩
  have D__law_pick : Dfn K mg "_law_pick" st__law_pick ["source", "most"] f__law_pick (PySem.W.fnOf "_law_pick" "_law_pick" (defArgs st__law_pick) (defBody st__law_pick) (defScope st__law_pick) .none kV__law_pick dc__law_pick pm__law_pick an__law_pick cd__law_pick ct__law_pick) := ⟨fun_mk l__law_pick c__law_pick k__law_pick, PySem.W.mg_of X G a__law_pick, (fun_mk l__law_pick c__law_pick k__law_pick).binds fun _ _ _ _ _ _ us hl => match us, hl with | [_, _], _ => rfl⟩
  have D__law_of : Dfn K mg "_law_of" st__law_of ["source", "some"] f__law_of (PySem.W.fnOf "_law_of" "_law_of" (defArgs st__law_of) (defBody st__law_of) (defScope st__law_of) .none kV__law_of dc__law_of pm__law_of an__law_of cd__law_of ct__law_of) := ⟨fun_mk l__law_of c__law_of k__law_of, PySem.W.mg_of X G a__law_of, (fun_mk l__law_of c__law_of k__law_of).binds fun _ _ _ _ _ _ us hl => match us, hl with | [_, _], _ => rfl⟩
  have D__law_words : Dfn K mg "_law_words" st__law_words [] f__law_words (PySem.W.fnOf "_law_words" "_law_words" (defArgs st__law_words) (defBody st__law_words) (defScope st__law_words) .none kV__law_words dc__law_words pm__law_words an__law_words cd__law_words ct__law_words) := ⟨fun_mk l__law_words c__law_words k__law_words, PySem.W.mg_of X G a__law_words, (fun_mk l__law_words c__law_words k__law_words).binds fun _ _ _ _ _ _ us hl => match us, hl with | [], _ => rfl⟩
  have D__law_line : Dfn K mg "_law_line" st__law_line ["record"] f__law_line (PySem.W.fnOf "_law_line" "_law_line" (defArgs st__law_line) (defBody st__law_line) (defScope st__law_line) .none kV__law_line dc__law_line pm__law_line an__law_line cd__law_line ct__law_line) := ⟨fun_mk l__law_line c__law_line k__law_line, PySem.W.mg_of X G a__law_line, (fun_mk l__law_line c__law_line k__law_line).binds fun _ _ _ _ _ _ us hl => match us, hl with | [_], _ => rfl⟩
  have D__law_is_number : Dfn K mg "_law_is_number" st__law_is_number ["text"] f__law_is_number (PySem.W.fnOf "_law_is_number" "_law_is_number" (defArgs st__law_is_number) (defBody st__law_is_number) (defScope st__law_is_number) .none kV__law_is_number dc__law_is_number pm__law_is_number an__law_is_number cd__law_is_number ct__law_is_number) := ⟨fun_mk l__law_is_number c__law_is_number k__law_is_number, PySem.W.mg_of X G a__law_is_number, (fun_mk l__law_is_number c__law_is_number k__law_is_number).binds fun _ _ _ _ _ _ us hl => match us, hl with | [_], _ => rfl⟩
  have D__law_is_begun : Dfn K mg "_law_is_begun" st__law_is_begun ["text"] f__law_is_begun (PySem.W.fnOf "_law_is_begun" "_law_is_begun" (defArgs st__law_is_begun) (defBody st__law_is_begun) (defScope st__law_is_begun) .none kV__law_is_begun dc__law_is_begun pm__law_is_begun an__law_is_begun cd__law_is_begun ct__law_is_begun) := ⟨fun_mk l__law_is_begun c__law_is_begun k__law_is_begun, PySem.W.mg_of X G a__law_is_begun, (fun_mk l__law_is_begun c__law_is_begun k__law_is_begun).binds fun _ _ _ _ _ _ us hl => match us, hl with | [_], _ => rfl⟩
  have D__law_is_name : Dfn K mg "_law_is_name" st__law_is_name ["text"] f__law_is_name (PySem.W.fnOf "_law_is_name" "_law_is_name" (defArgs st__law_is_name) (defBody st__law_is_name) (defScope st__law_is_name) .none kV__law_is_name dc__law_is_name pm__law_is_name an__law_is_name cd__law_is_name ct__law_is_name) := ⟨fun_mk l__law_is_name c__law_is_name k__law_is_name, PySem.W.mg_of X G a__law_is_name, (fun_mk l__law_is_name c__law_is_name k__law_is_name).binds fun _ _ _ _ _ _ us hl => match us, hl with | [_], _ => rfl⟩
  have D__law_record : Dfn K mg "_law_record" st__law_record ["line"] f__law_record (PySem.W.fnOf "_law_record" "_law_record" (defArgs st__law_record) (defBody st__law_record) (defScope st__law_record) .none kV__law_record dc__law_record pm__law_record an__law_record cd__law_record ct__law_record) := ⟨fun_mk l__law_record c__law_record k__law_record, PySem.W.mg_of X G a__law_record, (fun_mk l__law_record c__law_record k__law_record).binds fun _ _ _ _ _ _ us hl => match us, hl with | [_], _ => rfl⟩
  have D__law_can_be : Dfn K mg "_law_can_be" st__law_can_be ["line"] f__law_can_be (PySem.W.fnOf "_law_can_be" "_law_can_be" (defArgs st__law_can_be) (defBody st__law_can_be) (defScope st__law_can_be) .none kV__law_can_be dc__law_can_be pm__law_can_be an__law_can_be cd__law_can_be ct__law_can_be) := ⟨fun_mk l__law_can_be c__law_can_be k__law_can_be, PySem.W.mg_of X G a__law_can_be, (fun_mk l__law_can_be c__law_can_be k__law_can_be).binds fun _ _ _ _ _ _ us hl => match us, hl with | [_], _ => rfl⟩
  have D__law_gone_over : Dfn K mg "_law_gone_over" st__law_gone_over ["text"] f__law_gone_over (PySem.W.fnOf "_law_gone_over" "_law_gone_over" (defArgs st__law_gone_over) (defBody st__law_gone_over) (defScope st__law_gone_over) .none kV__law_gone_over dc__law_gone_over pm__law_gone_over an__law_gone_over cd__law_gone_over ct__law_gone_over) := ⟨fun_mk l__law_gone_over c__law_gone_over k__law_gone_over, PySem.W.mg_of X G a__law_gone_over, (fun_mk l__law_gone_over c__law_gone_over k__law_gone_over).binds fun _ _ _ _ _ _ us hl => match us, hl with | [_], _ => rfl⟩
  have D__law_told : Dfn K mg "_law_told" st__law_told ["text", "is_torn"] f__law_told (PySem.W.fnOf "_law_told" "_law_told" (defArgs st__law_told) (defBody st__law_told) (defScope st__law_told) .none kV__law_told dc__law_told pm__law_told an__law_told cd__law_told ct__law_told) := ⟨fun_mk l__law_told c__law_told k__law_told, PySem.W.mg_of X G a__law_told, (fun_mk l__law_told c__law_told k__law_told).binds fun _ _ _ _ _ _ us hl => match us, hl with | [_, _], _ => rfl⟩
  have D__law_read_right : Dfn K mg "_law_read_right" st__law_read_right ["text"] f__law_read_right (PySem.W.fnOf "_law_read_right" "_law_read_right" (defArgs st__law_read_right) (defBody st__law_read_right) (defScope st__law_read_right) .none kV__law_read_right dc__law_read_right pm__law_read_right an__law_read_right cd__law_read_right ct__law_read_right) := ⟨fun_mk l__law_read_right c__law_read_right k__law_read_right, PySem.W.mg_of X G a__law_read_right, (fun_mk l__law_read_right c__law_read_right k__law_read_right).binds fun _ _ _ _ _ _ us hl => match us, hl with | [_], _ => rfl⟩
  have D__law_any_record : Dfn K mg "_law_any_record" st__law_any_record ["source"] f__law_any_record (PySem.W.fnOf "_law_any_record" "_law_any_record" (defArgs st__law_any_record) (defBody st__law_any_record) (defScope st__law_any_record) .none kV__law_any_record dc__law_any_record pm__law_any_record an__law_any_record cd__law_any_record ct__law_any_record) := ⟨fun_mk l__law_any_record c__law_any_record k__law_any_record, PySem.W.mg_of X G a__law_any_record, (fun_mk l__law_any_record c__law_any_record k__law_any_record).binds fun _ _ _ _ _ _ us hl => match us, hl with | [_], _ => rfl⟩
  have D__law_bent : Dfn K mg "_law_bent" st__law_bent ["source", "text"] f__law_bent (PySem.W.fnOf "_law_bent" "_law_bent" (defArgs st__law_bent) (defBody st__law_bent) (defScope st__law_bent) .none kV__law_bent dc__law_bent pm__law_bent an__law_bent cd__law_bent ct__law_bent) := ⟨fun_mk l__law_bent c__law_bent k__law_bent, PySem.W.mg_of X G a__law_bent, (fun_mk l__law_bent c__law_bent k__law_bent).binds fun _ _ _ _ _ _ us hl => match us, hl with | [_, _], _ => rfl⟩
  have D_law : Dfn K mg "law" st_law ["script"] f_law (PySem.W.fnOf "law" "law" (defArgs st_law) (defBody st_law) (defScope st_law) .none kV_law dc_law pm_law an_law cd_law ct_law) := ⟨fun_mk l_law c_law k_law, PySem.W.mg_of X G a_law, (fun_mk l_law c_law k_law).binds fun _ _ _ _ _ _ us hl => match us, hl with | [_], _ => rfl⟩
  have I_BadText : IniF PySem.Challenge.pw_togethersafe_k52_texts_of_journals K mg "BadText" X_BadText f_BadText cc_BadText cda_BadText "place" _ "__init__" "BadText.__init__" (defArgs st_iBadText) (defBody st_iBadText) (defScope st_iBadText) := ⟨⟨⟨nm_BadText, qn_BadText, N_BadText, bs_BadText, bm_BadText, sn_BadText, sub_BadText, ab_BadText, col_BadText, dd_BadText, m0_BadText, m1_BadText, m2_BadText, m3_BadText, m5_BadText, xL_BadText, bmh_BadText⟩, sa_BadText, eC_BadText, tC_BadText, kC_BadText⟩, PySem.W.mg_of X G aC_BadText, ⟨_, _, _, _, _, _, _, _, rfl, lI_BadText⟩, cI_BadText, ⟨co_BadText, vs_BadText, fl_BadText, tf_BadText, oD_BadText, oE_BadText.1, oE_BadText.2, oF_BadText⟩, ⟨ce_BadText, ceh_BadText, cv_BadText⟩, mr_BadText, PySem.W.mg_none_of X G z_super, na_BadText, su_BadText, ve_BadText, by rfl, nf_BadText, iC_BadText, tI_BadText⟩
  have Q_BadText : FldF K X_BadText "place" := ⟨ga_BadText, gg_BadText, nf_BadText, eC_BadText, hC_BadText, exm_selfM eC_BadText jC_BadText tC_BadText sC_BadText⟩
  refine ⟨(PySem.W.fnOf "law" "law" (defArgs st_law) (defBody st_law) (defScope st_law) .none kV_law dc_law pm_law an_law cd_law ct_law), fun s v => .of_eq rfl, fun base _ _ => ?_⟩
  have T : Md PySem.Challenge.pw_togethersafe_k52_texts_of_journals K mg ⟨f_copied, (PySem.W.fnOf "copied" "copied" (defArgs st_copied) (defBody st_copied) (defScope st_copied) .none kV_copied dc_copied pm_copied an_copied cd_copied ct_copied), f_is_name, (PySem.W.fnOf "is_name" "is_name" (defArgs st_is_name) (defBody st_is_name) (defScope st_is_name) .none kV_is_name dc_is_name pm_is_name an_is_name cd_is_name ct_is_name), f_record_line, (PySem.W.fnOf "record_line" "record_line" (defArgs st_record_line) (defBody st_record_line) (defScope st_record_line) .none kV_record_line dc_record_line pm_record_line an_record_line cd_record_line ct_record_line), f_journal_text, (PySem.W.fnOf "journal_text" "journal_text" (defArgs st_journal_text) (defBody st_journal_text) (defScope st_journal_text) .none kV_journal_text dc_journal_text pm_journal_text an_journal_text cd_journal_text ct_journal_text), f_alike_signs, (PySem.W.fnOf "alike_signs" "alike_signs" (defArgs st_alike_signs) (defBody st_alike_signs) (defScope st_alike_signs) .none kV_alike_signs dc_alike_signs pm_alike_signs an_alike_signs cd_alike_signs ct_alike_signs), f_word_end, (PySem.W.fnOf "word_end" "word_end" (defArgs st_word_end) (defBody st_word_end) (defScope st_word_end) .none kV_word_end dc_word_end pm_word_end an_word_end cd_word_end ct_word_end), f_number_end, (PySem.W.fnOf "number_end" "number_end" (defArgs st_number_end) (defBody st_number_end) (defScope st_number_end) .none kV_number_end dc_number_end pm_number_end an_number_end cd_number_end ct_number_end), f_name_end, (PySem.W.fnOf "name_end" "name_end" (defArgs st_name_end) (defBody st_name_end) (defScope st_name_end) .none kV_name_end dc_name_end pm_name_end an_name_end cd_name_end ct_name_end), f_line_end, (PySem.W.fnOf "line_end" "line_end" (defArgs st_line_end) (defBody st_line_end) (defScope st_line_end) .none kV_line_end dc_line_end pm_line_end an_line_end cd_line_end ct_line_end), f_gone_over, (PySem.W.fnOf "gone_over" "gone_over" (defArgs st_gone_over) (defBody st_gone_over) (defScope st_gone_over) .none kV_gone_over dc_gone_over pm_gone_over an_gone_over cd_gone_over ct_gone_over), f_read_journal, (PySem.W.fnOf "read_journal" "read_journal" (defArgs st_read_journal) (defBody st_read_journal) (defScope st_read_journal) .none kV_read_journal dc_read_journal pm_read_journal an_read_journal cd_read_journal ct_read_journal), f_whole_of, (PySem.W.fnOf "whole_of" "whole_of" (defArgs st_whole_of) (defBody st_whole_of) (defScope st_whole_of) .none kV_whole_of dc_whole_of pm_whole_of an_whole_of cd_whole_of ct_whole_of), f__law_open_cells, (PySem.W.fnOf "_law_open_cells" "_law_open_cells" (defArgs st__law_open_cells) (defBody st__law_open_cells) (defScope st__law_open_cells) .none kV__law_open_cells dc__law_open_cells pm__law_open_cells an__law_open_cells cd__law_open_cells ct__law_open_cells), f__law_pick, (PySem.W.fnOf "_law_pick" "_law_pick" (defArgs st__law_pick) (defBody st__law_pick) (defScope st__law_pick) .none kV__law_pick dc__law_pick pm__law_pick an__law_pick cd__law_pick ct__law_pick), f__law_of, (PySem.W.fnOf "_law_of" "_law_of" (defArgs st__law_of) (defBody st__law_of) (defScope st__law_of) .none kV__law_of dc__law_of pm__law_of an__law_of cd__law_of ct__law_of), f__law_words, (PySem.W.fnOf "_law_words" "_law_words" (defArgs st__law_words) (defBody st__law_words) (defScope st__law_words) .none kV__law_words dc__law_words pm__law_words an__law_words cd__law_words ct__law_words), f__law_line, (PySem.W.fnOf "_law_line" "_law_line" (defArgs st__law_line) (defBody st__law_line) (defScope st__law_line) .none kV__law_line dc__law_line pm__law_line an__law_line cd__law_line ct__law_line), f__law_is_number, (PySem.W.fnOf "_law_is_number" "_law_is_number" (defArgs st__law_is_number) (defBody st__law_is_number) (defScope st__law_is_number) .none kV__law_is_number dc__law_is_number pm__law_is_number an__law_is_number cd__law_is_number ct__law_is_number), f__law_is_begun, (PySem.W.fnOf "_law_is_begun" "_law_is_begun" (defArgs st__law_is_begun) (defBody st__law_is_begun) (defScope st__law_is_begun) .none kV__law_is_begun dc__law_is_begun pm__law_is_begun an__law_is_begun cd__law_is_begun ct__law_is_begun), f__law_is_name, (PySem.W.fnOf "_law_is_name" "_law_is_name" (defArgs st__law_is_name) (defBody st__law_is_name) (defScope st__law_is_name) .none kV__law_is_name dc__law_is_name pm__law_is_name an__law_is_name cd__law_is_name ct__law_is_name), f__law_record, (PySem.W.fnOf "_law_record" "_law_record" (defArgs st__law_record) (defBody st__law_record) (defScope st__law_record) .none kV__law_record dc__law_record pm__law_record an__law_record cd__law_record ct__law_record), f__law_can_be, (PySem.W.fnOf "_law_can_be" "_law_can_be" (defArgs st__law_can_be) (defBody st__law_can_be) (defScope st__law_can_be) .none kV__law_can_be dc__law_can_be pm__law_can_be an__law_can_be cd__law_can_be ct__law_can_be), f__law_gone_over, (PySem.W.fnOf "_law_gone_over" "_law_gone_over" (defArgs st__law_gone_over) (defBody st__law_gone_over) (defScope st__law_gone_over) .none kV__law_gone_over dc__law_gone_over pm__law_gone_over an__law_gone_over cd__law_gone_over ct__law_gone_over), f__law_told, (PySem.W.fnOf "_law_told" "_law_told" (defArgs st__law_told) (defBody st__law_told) (defScope st__law_told) .none kV__law_told dc__law_told pm__law_told an__law_told cd__law_told ct__law_told), f__law_read_right, (PySem.W.fnOf "_law_read_right" "_law_read_right" (defArgs st__law_read_right) (defBody st__law_read_right) (defScope st__law_read_right) .none kV__law_read_right dc__law_read_right pm__law_read_right an__law_read_right cd__law_read_right ct__law_read_right), f__law_any_record, (PySem.W.fnOf "_law_any_record" "_law_any_record" (defArgs st__law_any_record) (defBody st__law_any_record) (defScope st__law_any_record) .none kV__law_any_record dc__law_any_record pm__law_any_record an__law_any_record cd__law_any_record ct__law_any_record), f__law_bent, (PySem.W.fnOf "_law_bent" "_law_bent" (defArgs st__law_bent) (defBody st__law_bent) (defScope st__law_bent) .none kV__law_bent dc__law_bent pm__law_bent an__law_bent cd__law_bent ct__law_bent), f_law, (PySem.W.fnOf "law" "law" (defArgs st_law) (defBody st_law) (defScope st_law) .none kV_law dc_law pm_law an_law cd_law ct_law), X_BadText, f_BadText, cc_BadText, cda_BadText, _⟩ := {
    d_copied := D_copied
    d_is_name := D_is_name
    d_record_line := D_record_line
    d_journal_text := D_journal_text
    d_alike_signs := D_alike_signs
    d_word_end := D_word_end
    d_number_end := D_number_end
    d_name_end := D_name_end
    d_line_end := D_line_end
    d_gone_over := D_gone_over
    d_read_journal := D_read_journal
    d_whole_of := D_whole_of
    d__law_open_cells := D__law_open_cells
    d__law_pick := D__law_pick
    d__law_of := D__law_of
    d__law_words := D__law_words
    d__law_line := D__law_line
    d__law_is_number := D__law_is_number
    d__law_is_begun := D__law_is_begun
    d__law_is_name := D__law_is_name
    d__law_record := D__law_record
    d__law_can_be := D__law_can_be
    d__law_gone_over := D__law_gone_over
    d__law_told := D__law_told
    d__law_read_right := D__law_read_right
    d__law_any_record := D__law_any_record
    d__law_bent := D__law_bent
    d_law := D_law
    b_isinstance := PySem.W.mg_none_of X G z_isinstance
    b_list := PySem.W.mg_none_of X G z_list
    b_tuple := PySem.W.mg_none_of X G z_tuple
    b_dict := PySem.W.mg_none_of X G z_dict
    b_str := PySem.W.mg_none_of X G z_str
    b_len := PySem.W.mg_none_of X G z_len
    b_all := PySem.W.mg_none_of X G z_all
    b_max := PySem.W.mg_none_of X G z_max
    b_int := PySem.W.mg_none_of X G z_int
    b_abs := PySem.W.mg_none_of X G z_abs
    b_repr := PySem.W.mg_none_of X G z_repr
    b_any := PySem.W.mg_none_of X G z_any
    b_enumerate := PySem.W.mg_none_of X G z_enumerate
    b_range := PySem.W.mg_none_of X G z_range
    c_MOST_LETTERS := ⟨t_MOST_LETTERS, PySem.W.mg_of X G g_MOST_LETTERS⟩
    c_WORDS_checks := ⟨q_WORDS_checks, o_WORDS_checks, i_WORDS_checks, n_WORDS_checks, PySem.W.mg_of X G g_WORDS_checks, h_WORDS_checks, v_WORDS_checks.1, v_WORDS_checks.2, w_WORDS_checks.1, strsK_of w_WORDS_checks.2⟩
    c_LETTERS_checks := ⟨t_LETTERS_checks, PySem.W.mg_of X G g_LETTERS_checks⟩
    c_DIGITS_checks := ⟨t_DIGITS_checks, PySem.W.mg_of X G g_DIGITS_checks⟩
    c_WORDS_journaltexts := ⟨q_WORDS_journaltexts, o_WORDS_journaltexts, i_WORDS_journaltexts, n_WORDS_journaltexts, PySem.W.mg_of X G g_WORDS_journaltexts, h_WORDS_journaltexts, v_WORDS_journaltexts.1, v_WORDS_journaltexts.2, w_WORDS_journaltexts.1, strsK_of w_WORDS_journaltexts.2⟩
    c_DIGITS_journaltexts := ⟨t_DIGITS_journaltexts, PySem.W.mg_of X G g_DIGITS_journaltexts⟩
    c_LONGEST := ⟨t_LONGEST, PySem.W.mg_of X G g_LONGEST⟩
    c_LETTERS_journaltexts := ⟨t_LETTERS_journaltexts, PySem.W.mg_of X G g_LETTERS_journaltexts⟩
    x_BadText := I_BadText
    f_BadText := Q_BadText }
  exact G_law T
end K52
open PySem PySem.W PyProof.Rows
set_option maxHeartbeats 0 in
theorem PySem.Challenge.cw_togethersafe_k52_texts_of_journals_holds : PySem.Challenge.rw_togethersafe_k52_texts_of_journals.Holds := by
  w_on; o_law; k_head; (case hw => w_witness2)
  k_fill
  refine MR.walk_ofG (l := PySem.Challenge.rw_togethersafe_k52_texts_of_journals) (n := 63) (k := 8) (x := "script") (F := K52.F_law) rfl (by decide) rfl ⟨rfl, by decide, by decide⟩ (fun w h Y => PySem.W.kIn_of Y) ?F K52.law_true
  case F =>
    intro w mg fa h KX G hmg
    refine' K52.all_mk KX G hmg ?a_copied ?l_copied ?c_copied ?k_copied ?a_is_name ?l_is_name ?c_is_name ?k_is_name ?a_record_line ?l_record_line ?c_record_line ?k_record_line ?a_journal_text ?l_journal_text ?c_journal_text ?k_journal_text ?a_alike_signs ?l_alike_signs ?c_alike_signs ?k_alike_signs ?a_word_end ?l_word_end ?c_word_end ?k_word_end ?a_number_end ?l_number_end ?c_number_end ?k_number_end ?a_name_end ?l_name_end ?c_name_end ?k_name_end ?a_line_end ?l_line_end ?c_line_end ?k_line_end ?a_gone_over ?l_gone_over ?c_gone_over ?k_gone_over ?a_read_journal ?l_read_journal ?c_read_journal ?k_read_journal ?a_whole_of ?l_whole_of ?c_whole_of ?k_whole_of ?a__law_open_cells ?l__law_open_cells ?c__law_open_cells ?k__law_open_cells ?a__law_pick ?l__law_pick ?c__law_pick ?k__law_pick ?a__law_of ?l__law_of ?c__law_of ?k__law_of ?a__law_words ?l__law_words ?c__law_words ?k__law_words ?a__law_line ?l__law_line ?c__law_line ?k__law_line ?a__law_is_number ?l__law_is_number ?c__law_is_number ?k__law_is_number ?a__law_is_begun ?l__law_is_begun ?c__law_is_begun ?k__law_is_begun ?a__law_is_name ?l__law_is_name ?c__law_is_name ?k__law_is_name ?a__law_record ?l__law_record ?c__law_record ?k__law_record ?a__law_can_be ?l__law_can_be ?c__law_can_be ?k__law_can_be ?a__law_gone_over ?l__law_gone_over ?c__law_gone_over ?k__law_gone_over ?a__law_told ?l__law_told ?c__law_told ?k__law_told ?a__law_read_right ?l__law_read_right ?c__law_read_right ?k__law_read_right ?a__law_any_record ?l__law_any_record ?c__law_any_record ?k__law_any_record ?a__law_bent ?l__law_bent ?c__law_bent ?k__law_bent ?a_law ?l_law ?c_law ?k_law ?z_isinstance ?z_list ?z_tuple ?z_dict ?z_str ?z_len ?z_all ?z_max ?z_int ?z_abs ?z_repr ?z_any ?z_enumerate ?z_range ?g_MOST_LETTERS ?g_WORDS_checks ?h_WORDS_checks ?v_WORDS_checks ?w_WORDS_checks ?g_LETTERS_checks ?g_DIGITS_checks ?g_WORDS_journaltexts ?h_WORDS_journaltexts ?v_WORDS_journaltexts ?w_WORDS_journaltexts ?g_DIGITS_journaltexts ?g_LONGEST ?g_LETTERS_journaltexts ?aC_BadText ?xL_BadText ?bmh_BadText ?sa_BadText ?ga_BadText ?gg_BadText ?nf_BadText ?iC_BadText ?tI_BadText ?lI_BadText ?cI_BadText ?oD_BadText ?oE_BadText ?oF_BadText ?ceh_BadText ?cv_BadText ?mr_BadText ?na_BadText ?su_BadText ?ve_BadText ?kC_BadText ?eC_BadText ?tC_BadText ?hC_BadText ?jC_BadText ?sC_BadText ?z_super
    (case a_copied => k_is)
    (case l_copied => k_is)
    (case c_copied => k_is)
    (case k_copied => k_is)
    (case a_is_name => k_is)
    (case l_is_name => k_is)
    (case c_is_name => k_is)
    (case k_is_name => k_is)
    (case a_record_line => k_is)
    (case l_record_line => k_is)
    (case c_record_line => k_is)
    (case k_record_line => k_is)
    (case a_journal_text => k_is)
    (case l_journal_text => k_is)
    (case c_journal_text => k_is)
    (case k_journal_text => k_is)
    (case a_alike_signs => k_is)
    (case l_alike_signs => k_is)
    (case c_alike_signs => k_is)
    (case k_alike_signs => k_is)
    (case a_word_end => k_is)
    (case l_word_end => k_is)
    (case c_word_end => k_is)
    (case k_word_end => k_is)
    (case a_number_end => k_is)
    (case l_number_end => k_is)
    (case c_number_end => k_is)
    (case k_number_end => k_is)
    (case a_name_end => k_is)
    (case l_name_end => k_is)
    (case c_name_end => k_is)
    (case k_name_end => k_is)
    (case a_line_end => k_is)
    (case l_line_end => k_is)
    (case c_line_end => k_is)
    (case k_line_end => k_is)
    (case a_gone_over => k_is)
    (case l_gone_over => k_is)
    (case c_gone_over => k_is)
    (case k_gone_over => k_is)
    (case a_read_journal => k_is)
    (case l_read_journal => k_is)
    (case c_read_journal => k_is)
    (case k_read_journal => k_is)
    (case a_whole_of => k_is)
    (case l_whole_of => k_is)
    (case c_whole_of => k_is)
    (case k_whole_of => k_is)
    (case a__law_open_cells => k_is)
    (case l__law_open_cells => k_is)
    (case c__law_open_cells => k_is)
    (case k__law_open_cells => k_is)
    (case a__law_pick => k_is)
    (case l__law_pick => k_is)
    (case c__law_pick => k_is)
    (case k__law_pick => k_is)
    (case a__law_of => k_is)
    (case l__law_of => k_is)
    (case c__law_of => k_is)
    (case k__law_of => k_is)
    (case a__law_words => k_is)
    (case l__law_words => k_is)
    (case c__law_words => k_is)
    (case k__law_words => k_is)
    (case a__law_line => k_is)
    (case l__law_line => k_is)
    (case c__law_line => k_is)
    (case k__law_line => k_is)
    (case a__law_is_number => k_is)
    (case l__law_is_number => k_is)
    (case c__law_is_number => k_is)
    (case k__law_is_number => k_is)
    (case a__law_is_begun => k_is)
    (case l__law_is_begun => k_is)
    (case c__law_is_begun => k_is)
    (case k__law_is_begun => k_is)
    (case a__law_is_name => k_is)
    (case l__law_is_name => k_is)
    (case c__law_is_name => k_is)
    (case k__law_is_name => k_is)
    (case a__law_record => k_is)
    (case l__law_record => k_is)
    (case c__law_record => k_is)
    (case k__law_record => k_is)
    (case a__law_can_be => k_is)
    (case l__law_can_be => k_is)
    (case c__law_can_be => k_is)
    (case k__law_can_be => k_is)
    (case a__law_gone_over => k_is)
    (case l__law_gone_over => k_is)
    (case c__law_gone_over => k_is)
    (case k__law_gone_over => k_is)
    (case a__law_told => k_is)
    (case l__law_told => k_is)
    (case c__law_told => k_is)
    (case k__law_told => k_is)
    (case a__law_read_right => k_is)
    (case l__law_read_right => k_is)
    (case c__law_read_right => k_is)
    (case k__law_read_right => k_is)
    (case a__law_any_record => k_is)
    (case l__law_any_record => k_is)
    (case c__law_any_record => k_is)
    (case k__law_any_record => k_is)
    (case a__law_bent => k_is)
    (case l__law_bent => k_is)
    (case c__law_bent => k_is)
    (case k__law_bent => k_is)
    (case a_law => k_is)
    (case l_law => k_is)
    (case c_law => k_is)
    (case k_law => k_is)
    (case z_isinstance => k_is)
    (case z_list => k_is)
    (case z_tuple => k_is)
    (case z_dict => k_is)
    (case z_str => k_is)
    (case z_len => k_is)
    (case z_all => k_is)
    (case z_max => k_is)
    (case z_int => k_is)
    (case z_abs => k_is)
    (case z_repr => k_is)
    (case z_any => k_is)
    (case z_enumerate => k_is)
    (case z_range => k_is)
    (case g_MOST_LETTERS => k_is)
    (case g_WORDS_checks => k_is)
    (case h_WORDS_checks => k_is)
    (case v_WORDS_checks => exact ⟨rfl, rfl⟩)
    (case w_WORDS_checks => exact ⟨by decide, rfl⟩)
    (case g_LETTERS_checks => k_is)
    (case g_DIGITS_checks => k_is)
    (case g_WORDS_journaltexts => k_is)
    (case h_WORDS_journaltexts => k_is)
    (case v_WORDS_journaltexts => exact ⟨rfl, rfl⟩)
    (case w_WORDS_journaltexts => exact ⟨by decide, rfl⟩)
    (case g_DIGITS_journaltexts => k_is)
    (case g_LONGEST => k_is)
    (case g_LETTERS_journaltexts => k_is)
    (case aC_BadText => k_is)
    (case xL_BadText => k_is)
    (case bmh_BadText => rfl)
    (case sa_BadText => k_is)
    (case ga_BadText => k_is)
    (case gg_BadText => k_is)
    (case nf_BadText => k_is)
    (case iC_BadText => k_is)
    (case tI_BadText => k_is)
    (case lI_BadText => k_is)
    (case cI_BadText => k_is)
    (case oD_BadText => k_is)
    (case oE_BadText => exact ⟨rfl, rfl⟩)
    (case oF_BadText => first | rfl | decide +kernel)
    (case ceh_BadText => k_is)
    (case cv_BadText => rfl)
    (case mr_BadText => k_is)
    (case na_BadText => k_is)
    (case su_BadText => ks_is)
    (case ve_BadText => k_is)
    (case kC_BadText => k_is)
    (case eC_BadText => k_is)
    (case tC_BadText => k_is)
    (case hC_BadText => k_is)
    (case jC_BadText => k_is)
    (case sC_BadText => first | rfl | k_is)
    (case z_super => k_is)
end
