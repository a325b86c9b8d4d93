import PyProof.Rows.All
import Wide.All
import OpenK.AllK
import Wide.FinOn
import HandS.ForMost
import HandS.IsInst
import HandS.Flow
import HandS.SortInts
import HandS.More
import HandS.Text
import HandS.Walk
import HandS.Conv
import HandS.TupSets
import HandS.Deep
import PySem.Challenge.RW_wrapnets_k21_whole_what_filters_let_by
set_option Elab.async false
set_option maxRecDepth 100000
set_option linter.all false
namespace Wn
open PySem L2

/-- what a caller knows of a def: that it keeps a promise, and where it stands -/
def Cd (P : Program) (w : World) (K : PySem.W.Frag) (mg : Str → Option Value) (base : Heap) (k : Nat) (name : Str) (ps : List Str) (sp : Sp) : Prop :=
  ∃ (f : Addr) (fd : FuncData), FnOk P w K mg base CX0 k f fd ps sp ∧ mg name = some (.ref f) ∧ PySem.W.keepIn K (.ref f) = true ∧ Binds K fd ps []
/-- what a caller knows of a method -/
def Md (P : Program) (w : World) (K : PySem.W.Frag) (mg : Str → Option Value) (base : Heap) (k : Nat) (C : Addr) (name : Str) (ps : List Str) (sp : Sp) : Prop :=
  ∃ (f : Addr) (fd : FuncData), FnOk P w K mg base CX0 k f fd ps sp ∧ Meth K C name f ∧ Binds K fd ps []

/-- all but some addresses stay -/
def Kp (M : List Addr) (H H' : Hp) : Prop := ∀ b o, b ∉ M → H b = some o → H' b = some o
theorem Kp.refl (M : List Addr) (H : Hp) : Kp M H H := fun _ _ _ h => h
theorem Kp.trans {M : List Addr} {H H1 H2 : Hp} (a : Kp M H H1) (b : Kp M H1 H2) : Kp M H H2 := fun c o hc h => b c o hc (a c o hc h)
theorem Kp.mono {M M' : List Addr} {H H1 : Hp} (a : Kp M H H1) (h : ∀ x ∈ M, x ∈ M') : Kp M' H H1 := fun c o hc q => a c o (fun z => hc (h c z)) q
theorem Kp.of {M : List Addr} {H H1 : Hp} (a : Same H H1) : Kp M H H1 := fun c o _ q => a c o q
theorem Kp.new {M : List Addr} {H H1 : Hp} {p : Addr} {o : HO} (a : Kp M H H1) (hp : H1 p = none) : Kp M H (upd H1 p o) := fun c u hc q => by
  rw [upd_ne (ne_of_none (a c u hc q) hp)]
  exact a c u hc q
theorem Kp.wr {M : List Addr} {H H1 : Hp} {p : Addr} {o : HO} (a : Kp M H H1) (hp : p ∈ M) : Kp M H (upd H1 p o) := fun c u hc q => by
  rw [upd_ne (show c ≠ p from fun z => hc (by rw [z]; exact hp))]
  exact a c u hc q
/-- a write to what wasn't there at first -/
theorem Kp.wrn {M : List Addr} {H H1 : Hp} {p : Addr} {o : HO} (a : Kp M H H1) (hp : H p = none) : Kp M H (upd H1 p o) := fun c u hc q => by
  rw [upd_ne (ne_of_none q hp)]
  exact a c u hc q
theorem _root_.L2.Same.new {H H1 : Hp} {p : Addr} {o : HO} (a : Same H H1) (hp : H1 p = none) : Same H (upd H1 p o) := fun c u q => by
  rw [upd_ne (ne_of_none (a c u q) hp)]
  exact a c u q
theorem _root_.L2.Same.wrn {H H1 : Hp} {p : Addr} {o : HO} (a : Same H H1) (hp : H p = none) : Same H (upd H1 p o) := fun c u q => by
  rw [upd_ne (ne_of_none q hp)]
  exact a c u q

/-- a while by a word and a measure -/
theorem while_m {c : TT} {tb : TS} {D : Ends} {σ : L2.St} {H : Hp} (Pv : L2.St → Hp → Prop) (μ : L2.St → Hp → Nat) (h0 : Pv σ H)
    (hs : ∀ m σ H, m = μ σ H → Pv σ H → c σ H fun b H1 => if b = true then ∃ N : L2.St → Hp → Prop, (∀ σ' H', N σ' H' → ∃ m', m' < m ∧ (m' = μ σ' H' ∧ Pv σ' H')) ∧ tb { D with nx := N, ct := N, bk := D.nx } σ H1 else D.nx σ H1) : tWhile c tb D σ H :=
  ⟨fun m σ H => m = μ σ H ∧ Pv σ H, ⟨_, rfl, h0⟩, fun m σ H ⟨e, p⟩ => hs m σ H e p⟩

/-! ### the deck -/
def spMixed : Sp := fun vs H Q _ => ∃ (c a : Int), vs = [.int c, .int a] ∧ -1 ≤ a ∧ a < 2 ^ 60 ∧ ∀ r : Int, Q (.int r) H
/-- a deck at d, of which n draws were taken at most -/
def Deck (H : Hp) (d f : Addr) (n : Int) : Prop :=
  ∃ (a wh : Int) (xs : List Int), H d = some (.lst [.int a, .int wh, .ref f]) ∧ H f = some (.lst (xs.map V.int)) ∧ 0 ≤ a ∧ a ≤ n ∧ xs.length ≤ 100000
def spNext : Sp := fun vs H Q _ => ∃ (d f : Addr) (m n : Int), vs = [.ref d, .int m] ∧ 0 < m ∧ n < 2 ^ 60 ∧ Deck H d f n ∧
  ∀ (r : Int) (H' : Hp), 0 ≤ r → r < m → Kp [d] H H' → Deck H' d f (n + 1) → Q (.int r) H'
def spDeck (K : PySem.W.Frag) : Sp := fun vs H Q _ => ∃ (a : Addr) (ns : List Int), vs = [.ref a] ∧ SqL K H a (ns.map V.int) ∧ ns.length ≤ 63 ∧
  ∀ (H' : Hp) (d f : Addr), H d = none → H f = none → Same H H' → Deck H' d f 0 → Q (.ref d) H'
end Wn

namespace Wn
open PySem L2
/-! ### tuples stay, whatever is called -/
def TK (H H' : Hp) : Prop := (∀ b xs, H b = some (.tup xs) → H' b = some (.tup xs)) ∧ (∀ b o u, H b = some (.frz o u) → H' b = some (.frz o u))
theorem TK.refl (H : Hp) : TK H H := ⟨fun _ _ h => h, fun _ _ _ h => h⟩
theorem TK.trans {H H1 H2 : Hp} (a : TK H H1) (b : TK H1 H2) : TK H H2 := ⟨fun c o h => b.1 c o (a.1 c o h), fun c o u h => b.2 c o u (a.2 c o u h)⟩
theorem TK.of {H H1 : Hp} (a : Same H H1) : TK H H1 := ⟨fun c o h => a _ _ h, fun c o u h => a _ _ h⟩
theorem TK.new {H H1 : Hp} {p : Addr} {o : HO} (a : TK H H1) (hp : H1 p = none) : TK H (upd H1 p o) :=
  ⟨fun c u q => by rw [upd_ne (ne_of_none (a.1 c u q) hp)]; exact a.1 c u q, fun c u z q => by rw [upd_ne (ne_of_none (a.2 c u z q) hp)]; exact a.2 c u z q⟩
/-- what is neither a tuple nor locked may be written -/
def Wrt : HO → Bool
  | .tup _ => false
  | .frz _ _ => false
  | _ => true
theorem TK.wr {H H1 : Hp} {p : Addr} {o u : HO} (a : TK H H1) (hp : H1 p = some u) (hu : Wrt u = true) : TK H (upd H1 p o) :=
  ⟨fun c v q => by
    have h1 := a.1 c v q
    rw [upd_ne (ne_of h1 hp (fun z => by rw [← z] at hu; cases hu))]
    exact h1, fun c v z q => by
    have h1 := a.2 c v z q
    rw [upd_ne (ne_of h1 hp (fun z => by rw [← z] at hu; cases hu))]
    exact h1⟩
theorem _root_.L2.FnOk.tk {P : Program} {w : World} {K : PySem.W.Frag} {mg : Str → Option Value} {base : Heap} {k : Nat} {f : Addr} {fd : FuncData} {ps : List Str} {sp : Sp} (F : FnOk P w K mg base CX0 k f fd ps sp) :
    FnOk P w K mg base CX0 k f fd ps (fun vs H Q E => sp vs H (fun v H' => TK H H' → Q v H') E) := by
  refine ⟨fun vs H Q E q => F.len vs H _ E q, fun A outer s H args us vs Q E hr he hb hv hs => ?_⟩
  refine codeAny_mono (F.run A outer s H args us vs _ E hr he hb hv hs) fun r s' h => ?_
  cases r with
  | ok fl =>
    cases fl with
    | ret u =>
      obtain ⟨v, H', e1, e2, e3, e4, e5, q⟩ := h
      exact ⟨v, H', e1, e2, e3, e4, e5, q ⟨e3.tups, e3.frzs⟩⟩
    | _ => exact h
  | error e => exact h
/-- a promise, tuples kept besides -/
def Tk (sp : Sp) : Sp := fun vs H Q E => sp vs H (fun v H' => TK H H' → Q v H') E
theorem Cd.tk {P : Program} {w : World} {K : PySem.W.Frag} {mg : Str → Option Value} {base : Heap} {k : Nat} {name : Str} {ps : List Str} {sp : Sp} (h : Cd P w K mg base k name ps sp) : Cd P w K mg base k name ps (Tk sp) := by
  obtain ⟨f, fd, G, a, b, c⟩ := h
  exact ⟨f, fd, G.tk, a, b, c⟩
theorem Md.tk {P : Program} {w : World} {K : PySem.W.Frag} {mg : Str → Option Value} {base : Heap} {k : Nat} {C : Addr} {name : Str} {ps : List Str} {sp : Sp} (h : Md P w K mg base k C name ps sp) : Md P w K mg base k C name ps (Tk sp) := by
  obtain ⟨f, fd, G, a, b⟩ := h
  exact ⟨f, fd, G.tk, a, b⟩

/-! ### data: None, truths, ints, texts, tuples of these -/
mutual
def Rp (K : PySem.W.Frag) (H : Hp) : PyData → V → Prop
  | .none, v => v = .non
  | .bool b, v => v = .bl b
  | .int i, v => v = .int i
  | .str s, v => v = .str s
  | .tuple ds, v => ∃ a xs, v = .ref a ∧ SqT K H a xs ∧ RpL K H ds xs
  | .list _, _ => False
  | .dict _, _ => False
def RpL (K : PySem.W.Frag) (H : Hp) : List PyData → List V → Prop
  | [], xs => xs = []
  | d :: ds, xs => ∃ v r, xs = v :: r ∧ Rp K H d v ∧ RpL K H ds r
end
mutual
def dep : PyData → Nat
  | .tuple xs => deps xs + 1
  | _ => 0
def deps : List PyData → Nat
  | [] => 0
  | x :: xs => max (dep x) (deps xs)
end
mutual
def sz : PyData → Nat
  | .tuple xs => szs xs + 1
  | _ => 1
def szs : List PyData → Nat
  | [] => 0
  | x :: xs => sz x + szs xs
end
theorem SqT.tk {K : PySem.W.Frag} {H H' : Hp} {a : Addr} {xs : List V} (h : SqT K H a xs) (e : TK H H') : SqT K H' a xs := by
  rcases h with (h | ⟨o, h⟩) | h
  · exact .inl (.inl (e.1 _ _ h))
  · exact .inl (.inr ⟨o, e.2 _ _ _ h⟩)
  · exact .inr h
mutual
theorem Rp.tk {K : PySem.W.Frag} {H H' : Hp} (e : TK H H') : ∀ (d : PyData) (v : V), Rp K H d v → Rp K H' d v
  | .none, _, h => h
  | .bool _, _, h => h
  | .int _, _, h => h
  | .str _, _, h => h
  | .tuple ds, v, h => by
    unfold Rp at h ⊢
    obtain ⟨a, xs, rfl, hs, hl⟩ := h
    exact ⟨a, xs, rfl, SqT.tk hs e, RpL.tk e ds xs hl⟩
  | .list _, _, h => h
  | .dict _, _, h => h
theorem RpL.tk {K : PySem.W.Frag} {H H' : Hp} (e : TK H H') : ∀ (ds : List PyData) (xs : List V), RpL K H ds xs → RpL K H' ds xs
  | [], _, h => h
  | d :: ds, xs, h => by
    unfold RpL at h ⊢
    obtain ⟨v, r, rfl, h1, h2⟩ := h
    exact ⟨v, r, rfl, Rp.tk e d v h1, RpL.tk e ds r h2⟩
end
theorem RpL.len {K : PySem.W.Frag} {H : Hp} : ∀ (ds : List PyData) (xs : List V), RpL K H ds xs → xs.length = ds.length
  | [], xs, h => by
    unfold RpL at h
    rw [h]
    rfl
  | d :: ds, xs, h => by
    unfold RpL at h
    obtain ⟨v, r, rfl, h1, h2⟩ := h
    rw [List.length_cons, List.length_cons, RpL.len ds r h2]
theorem RpL.get {K : PySem.W.Frag} {H : Hp} : ∀ (ds : List PyData) (xs : List V), RpL K H ds xs → ∀ (i : Nat) (d : PyData), ds[i]? = some d → ∃ v, xs[i]? = some v ∧ Rp K H d v
  | [], xs, h, i, d, e => by cases e
  | d :: ds, xs, h, i, d', e => by
    unfold RpL at h
    obtain ⟨v, r, rfl, h1, h2⟩ := h
    cases i with
    | zero =>
      simp only [List.getElem?_cons_zero, Option.some.injEq] at e
      exact ⟨v, rfl, e ▸ h1⟩
    | succ i =>
      simp only [List.getElem?_cons_succ] at e ⊢
      exact RpL.get ds r h2 i d' e
theorem RpL.of {K : PySem.W.Frag} {H : Hp} : ∀ (ds : List PyData) (xs : List V), xs.length = ds.length → (∀ (i : Nat) (d : PyData) (v : V), ds[i]? = some d → xs[i]? = some v → Rp K H d v) → RpL K H ds xs
  | [], xs, h, _ => by
    unfold RpL
    exact List.length_eq_zero_iff.mp h
  | d :: ds, [], h, _ => by cases h
  | d :: ds, v :: r, h, k => by
    unfold RpL
    refine ⟨v, r, rfl, k 0 d v rfl rfl, RpL.of ds r (by simpa using h) fun i d' v' h1 h2 => k (i + 1) d' v' ?_ ?_⟩
    · simpa using h1
    · simpa using h2
theorem RpL.snoc {K : PySem.W.Frag} {H : Hp} {d : PyData} {v : V} (h : Rp K H d v) : ∀ (ds : List PyData) (xs : List V), RpL K H ds xs → RpL K H (ds ++ [d]) (xs ++ [v])
  | [], xs, q => by
    unfold RpL at q
    subst q
    show RpL K H [d] [v]
    unfold RpL
    exact ⟨v, [], rfl, h, by unfold RpL; rfl⟩
  | d' :: ds, xs, q => by
    unfold RpL at q
    obtain ⟨v', r, rfl, h1, h2⟩ := q
    show RpL K H (d' :: (ds ++ [d])) (v' :: (r ++ [v]))
    unfold RpL
    exact ⟨_, _, rfl, h1, RpL.snoc h ds r h2⟩
theorem dep_get : ∀ (ds : List PyData) (i : Nat) (d : PyData), ds[i]? = some d → dep d ≤ deps ds
  | [], i, d, e => by cases e
  | x :: xs, 0, d, e => by
    simp only [List.getElem?_cons_zero, Option.some.injEq] at e
    unfold deps
    rw [e]
    exact Nat.le_max_left _ _
  | x :: xs, i + 1, d, e => by
    simp only [List.getElem?_cons_succ] at e
    unfold deps
    exact Nat.le_trans (dep_get xs i d e) (Nat.le_max_right _ _)
theorem sz_get : ∀ (ds : List PyData) (i : Nat) (d : PyData), ds[i]? = some d → sz d ≤ szs ds
  | [], i, d, e => by cases e
  | x :: xs, 0, d, e => by
    simp only [List.getElem?_cons_zero, Option.some.injEq] at e
    unfold szs
    rw [e]
    exact Nat.le_add_right _ _
  | x :: xs, i + 1, d, e => by
    simp only [List.getElem?_cons_succ] at e
    unfold szs
    exact Nat.le_trans (sz_get xs i d e) (Nat.le_add_left _ _)
theorem sz_pos : ∀ d : PyData, 1 ≤ sz d
  | .tuple xs => by unfold sz; omega
  | .none | .bool _ | .int _ | .str _ | .list _ | .dict _ => by unfold sz; exact Nat.le_refl _
theorem szs_len : ∀ ds : List PyData, ds.length ≤ szs ds
  | [] => Nat.zero_le _
  | x :: xs => by
    have := szs_len xs
    have := sz_pos x
    unfold szs
    rw [List.length_cons]
    omega
/-- the type of such a thing -/
theorem ty_tup {K : PySem.W.Frag} {H : Hp} {a : Addr} {xs : List V} (h : SqT K H a xs) : TyX K H (.ref a) (.type "tuple") := by
  rcases h with (h | ⟨o, h⟩) | ⟨o, its, n, h, c, _⟩
  · exact .base (.tup h)
  · exact .fTuple h
  · exact .kTuple h c
/-- the same data handed in twice, of depth below n: True -/
def spSame (K : PySem.W.Frag) (n : Nat) : Sp := fun vs H Q _ => ∃ (x y : V) (d : PyData), vs = [x, y] ∧ Rp K H d x ∧ Rp K H d y ∧ dep d < n ∧ sz d ≤ 1000000 ∧ ∀ H', Same H H' → Q (.bl true) H'
end Wn

namespace Wn
open PySem L2
theorem fld1 {f : Str} {v : V} : ([(f, v)] : List (Str × V)).lookup f = some v := by
  show (match f == f with | true => some v | false => _) = some v
  rw [beq_self_eq_true]
theorem fld1_ne {f g : Str} {v : V} (h : (g == f) = false) : ([(f, v)] : List (Str × V)).lookup g = none := by
  show (match g == f with | true => some v | false => _) = none
  rw [h]
  rfl
theorem putF1 {f : Str} {v u : V} : putF f u [(f, v)] = [(f, u)] := by
  show (if f = f then (f, u) :: [] else _) = _
  rw [if_pos rfl]
/-! ### dicts by whole numbers, their values data -/
section
variable {α : Type}
def lookA (m : List (Int × α)) (k : Int) : Option α := (m.find? fun p => decide (p.1 = k)).map (·.2)
def putA (m : List (Int × α)) (k : Int) (v : α) : List (Int × α) :=
  if (m.any fun kv => decide (kv.1 = k)) = true then m.map (fun kv => if kv.1 = k then (kv.1, v) else kv) else m ++ [(k, v)]
def dropA (m : List (Int × α)) (k : Int) : List (Int × α) := m.filter fun kv => decide (kv.1 ≠ k)
theorem putA_len (m : List (Int × α)) (k : Int) (v : α) : (putA m k v).length ≤ m.length + 1 := by
  unfold putA
  split
  · rw [List.length_map]
    omega
  · rw [List.length_append, List.length_singleton]
    exact Nat.le_refl _
theorem dropA_len (m : List (Int × α)) (k : Int) : (dropA m k).length ≤ m.length := List.length_filter_le _ _
def RpD (enc : α → PyData) (K : PySem.W.Frag) (H : Hp) : List (Int × α) → List (Key × V) → Prop
  | [], kvs => kvs = []
  | p :: m, kvs => ∃ v r, kvs = (Sum.inl p.1, v) :: r ∧ Rp K H (enc p.2) v ∧ RpD enc K H m r
variable {enc : α → PyData} {K : PySem.W.Frag} {H H' : Hp}
theorem RpD.tk (e : TK H H') : ∀ {m : List (Int × α)} {kvs : List (Key × V)}, RpD enc K H m kvs → RpD enc K H' m kvs
  | [], _, h => h
  | p :: m, kvs, h => by
    obtain ⟨v, r, rfl, h1, h2⟩ := h
    exact ⟨v, r, rfl, Rp.tk e _ _ h1, RpD.tk e h2⟩
theorem RpD.len : ∀ {m : List (Int × α)} {kvs : List (Key × V)}, RpD enc K H m kvs → kvs.length = m.length
  | [], kvs, h => by rw [show kvs = [] from h]; rfl
  | p :: m, kvs, h => by
    obtain ⟨v, r, rfl, h1, h2⟩ := h
    rw [List.length_cons, List.length_cons, RpD.len h2]
theorem RpD.keys : ∀ {m : List (Int × α)} {kvs : List (Key × V)}, RpD enc K H m kvs → (kvs.map fun kv => kV kv.1) = (m.map (·.1)).map V.int
  | [], kvs, h => by rw [show kvs = [] from h]; rfl
  | p :: m, kvs, h => by
    obtain ⟨v, r, rfl, h1, h2⟩ := h
    rw [List.map_cons, List.map_cons, List.map_cons, RpD.keys h2]
    rfl
theorem inl_iff {a b : Int} : ((Sum.inl a : Key) = Sum.inl b) ↔ a = b := ⟨fun h => by cases h; rfl, fun h => by rw [h]⟩
theorem RpD.val {k : Int} : ∀ {m : List (Int × α)} {kvs : List (Key × V)}, RpD enc K H m kvs → (lookA m k = none ∧ valV kvs (Sum.inl k) = none) ∨ ∃ x v, lookA m k = some x ∧ valV kvs (Sum.inl k) = some v ∧ Rp K H (enc x) v
  | [], kvs, h => by
    rw [show kvs = [] from h]
    exact .inl ⟨rfl, rfl⟩
  | p :: m, kvs, h => by
    obtain ⟨v, r, rfl, h1, h2⟩ := h
    by_cases e : p.1 = k
    · refine .inr ⟨p.2, v, ?_, valV_pos (by rw [e]), h1⟩
      simp [lookA, List.find?_cons, e]
    · have e1 : lookA (p :: m) k = lookA m k := by simp [lookA, List.find?_cons, e]
      rw [e1, valV_neg (p := (Sum.inl p.1, v)) (fun z => e (inl_iff.mp z))]
      exact RpD.val h2
theorem RpD.any {k : Int} : ∀ {m : List (Int × α)} {kvs : List (Key × V)}, RpD enc K H m kvs → (kvs.any fun kv => decide (kv.1 = Sum.inl k)) = (m.any fun kv => decide (kv.1 = k))
  | [], kvs, h => by rw [show kvs = [] from h]; rfl
  | p :: m, kvs, h => by
    obtain ⟨v, r, rfl, h1, h2⟩ := h
    rw [List.any_cons, List.any_cons, RpD.any h2]
    congr 1
    exact decide_eq_decide.mpr inl_iff
theorem RpD.snoc {k : Int} {x : α} {v : V} (hv : Rp K H (enc x) v) : ∀ {m : List (Int × α)} {kvs : List (Key × V)}, RpD enc K H m kvs → RpD enc K H (m ++ [(k, x)]) (kvs ++ [(Sum.inl k, v)])
  | [], kvs, h => by
    rw [show kvs = [] from h]
    exact ⟨v, [], rfl, hv, rfl⟩
  | p :: m, kvs, h => by
    obtain ⟨u, r, rfl, h1, h2⟩ := h
    exact ⟨u, _, rfl, h1, RpD.snoc hv h2⟩
theorem RpD.map {k : Int} {x : α} {v : V} (hv : Rp K H (enc x) v) : ∀ {m : List (Int × α)} {kvs : List (Key × V)}, RpD enc K H m kvs → RpD enc K H (m.map fun kv => if kv.1 = k then (kv.1, x) else kv) (kvs.map fun kv => if kv.1 = Sum.inl k then (kv.1, v) else kv)
  | [], kvs, h => by rw [show kvs = [] from h]; rfl
  | p :: m, kvs, h => by
    obtain ⟨u, r, rfl, h1, h2⟩ := h
    have h3 := RpD.map (k := k) hv h2
    rw [List.map_cons, List.map_cons]
    by_cases e : p.1 = k
    · rw [if_pos e, if_pos (inl_iff.mpr e)]
      exact ⟨v, _, rfl, hv, h3⟩
    · rw [if_neg e, if_neg (fun z => e (inl_iff.mp z))]
      exact ⟨u, _, rfl, h1, h3⟩
theorem RpD.put {k : Int} {x : α} {v : V} {m : List (Int × α)} {kvs : List (Key × V)} (h : RpD enc K H m kvs) (hv : Rp K H (enc x) v) : RpD enc K H (putA m k x) (putK kvs (Sum.inl k) v) := by
  unfold putA putK
  rw [h.any]
  split
  · exact h.map hv
  · exact h.snoc hv
theorem RpD.drop {k : Int} : ∀ {m : List (Int × α)} {kvs : List (Key × V)}, RpD enc K H m kvs → RpD enc K H (dropA m k) (dropK kvs (Sum.inl k))
  | [], kvs, h => by rw [show kvs = [] from h]; rfl
  | p :: m, kvs, h => by
    obtain ⟨u, r, rfl, h1, h2⟩ := h
    have h3 := RpD.drop (k := k) h2
    unfold dropA dropK at *
    by_cases e : p.1 = k
    · rw [List.filter_cons_of_neg (by simp [e]), List.filter_cons_of_neg (by simp [e])]
      exact h3
    · rw [List.filter_cons_of_pos (by simp [e]), List.filter_cons_of_pos (by simp [inl_iff, e])]
      exact ⟨u, _, rfl, h1, h3⟩
/-- a dict at q that stands for m -/
def DictAt (enc : α → PyData) (K : PySem.W.Frag) (H : Hp) (q : Addr) (m : List (Int × α)) : Prop := ∃ kvs, H q = some (.dK kvs) ∧ RpD enc K H m kvs
theorem DictAt.kp {M : List Addr} {q : Addr} {m : List (Int × α)} (h : DictAt enc K H q m) (k : Kp M H H') (t : TK H H') (n : q ∉ M) : DictAt enc K H' q m := by
  obtain ⟨kvs, a, b⟩ := h
  exact ⟨kvs, k _ _ n a, b.tk t⟩
def sortI (ns : List Int) : List Int := ns.mergeSort (fun a b => decide (a ≤ b))
theorem sortI_perm (ns : List Int) : (sortI ns).Perm ns := List.mergeSort_perm _ _
theorem sortI_sorted (ns : List Int) : (sortI ns).Pairwise (· ≤ ·) := by
  have h := List.pairwise_mergeSort (le := fun a b : Int => decide (a ≤ b)) (fun a b c h1 h2 => by simp only [decide_eq_true_eq] at *; omega) (fun a b => by simp only [Bool.or_eq_true, decide_eq_true_eq]; omega) ns
  exact h.imp fun h => of_decide_eq_true h
theorem sortI_eq {ns ms : List Int} (p : ms.Perm ns) (s : ms.Pairwise (· ≤ ·)) : ms = sortI ns :=
  PySem.W.ksm_same (p.trans (sortI_perm ns).symm) s (sortI_sorted ns)
/-- rows by hands: (hand,) and what stands there -/
def rowsD (encL : α → List PyData) (m : List (Int × α)) : PyData := .tuple ((sortI (m.map (·.1))).map fun k => .tuple (.int k :: ((lookA m k).map encL).getD []))
theorem lookA_mem {m : List (Int × α)} {k : Int} (h : k ∈ m.map (·.1)) : ∃ x, lookA m k = some x ∧ (k, x) ∈ m := by
  obtain ⟨p, hp, rfl⟩ := List.mem_map.mp h
  unfold lookA
  cases e : m.find? fun q => decide (q.1 = p.1) with
  | none =>
    have := List.find?_eq_none.mp e p hp
    simp at this
  | some q =>
    have h1 := List.find?_some e
    have h2 := List.mem_of_find?_eq_some e
    simp only [decide_eq_true_eq] at h1
    exact ⟨q.2, rfl, by rw [← h1]; exact h2⟩
theorem szs_map_le {β : Type} {f : β → PyData} {c : Nat} : ∀ (l : List β), (∀ x ∈ l, sz (f x) ≤ c) → szs (l.map f) ≤ c * l.length
  | [], _ => Nat.zero_le _
  | x :: l, h => by
    have h1 := szs_map_le l fun y hy => h y (List.mem_cons_of_mem _ hy)
    have h2 := h x List.mem_cons_self
    rw [List.map_cons, List.length_cons]
    unfold szs
    rw [Nat.mul_succ]
    omega
theorem deps_map_le {β : Type} {f : β → PyData} {c : Nat} : ∀ (l : List β), (∀ x ∈ l, dep (f x) ≤ c) → deps (l.map f) ≤ c
  | [], _ => Nat.zero_le _
  | x :: l, h => by
    have h1 := deps_map_le l fun y hy => h y (List.mem_cons_of_mem _ hy)
    have h2 := h x List.mem_cons_self
    rw [List.map_cons]
    unfold deps
    omega
theorem Rp.tup {ds : List PyData} {a : Addr} {xs : List V} (h : H a = some (.tup xs)) (r : RpL K H ds xs) : Rp K H (.tuple ds) (.ref a) := by
  unfold Rp
  exact ⟨a, xs, rfl, SqT.of h, r⟩
theorem Rp.tupS {ds : List PyData} {a : Addr} {xs : List V} (h : SqT K H a xs) (r : RpL K H ds xs) : Rp K H (.tuple ds) (.ref a) := by
  unfold Rp
  exact ⟨a, xs, rfl, h, r⟩
theorem RpL.cons {d : PyData} {ds : List PyData} {v : V} {xs : List V} (h : Rp K H d v) (r : RpL K H ds xs) : RpL K H (d :: ds) (v :: xs) := by
  unfold RpL
  exact ⟨v, xs, rfl, h, r⟩
theorem RpL.nil : RpL K H [] [] := by
  unfold RpL
  rfl
theorem Rp.int {i : Int} : Rp K H (.int i) (.int i) := by
  unfold Rp
  rfl
theorem Rp.none : Rp K H .none .non := by
  unfold Rp
  rfl
theorem Rp.str {z : Str} : Rp K H (.str z) (.str z) := by
  unfold Rp
  rfl
end
end Wn

namespace Wn
open PySem L2
theorem tYes_t {σ : L2.St} {H : Hp} {F : Bool → Hp → Prop} (h : F true H) : tYes σ H F := h
theorem rows_lc {α : Type} {encL : α → List PyData} {K : PySem.W.Frag} {td : TE} {i : Nat} {σ : L2.St} {H2 : Hp} {S D q : Addr} {ns : List Int} {m : List (Int × α)} {kvs : List (Key × V)} {Qd : Hp → Prop}
    (hS : H2 S = some (.lst (ns.map V.int))) (hq : H2 q = some (.dK kvs)) (hm : RpD (fun x => .tuple (encL x)) K H2 m kvs) (hns : ∀ k ∈ ns, k ∈ m.map (·.1)) (hz : ∀ x, (encL x).length ≤ 100) (hln : ns.length ≤ 1000000)
    (htd : ∀ (σ' : L2.St) (H' : Hp) (Q : VK), wipe σ' [i] = wipe σ [i] → Same H2 H' → Q (.ref q) H' → td σ' H' Q) (hD : H2 D = none) (hσ : i < σ.length)
    (hd : ∀ (H' : Hp) (xs : List V), Same H2 H' → H' D = some (.lst xs) → RpL K H' (ns.map fun k => .tuple (.int k :: ((lookA m k).map encL).getD [])) xs → Qd H') :
    ∃ W : Nat → Nat → Hp → Prop, (∃ m, W 0 m (upd H2 D (.lst []))) ∧ ∀ j m H, W j m H →
      ((Itl K S).stop j H ∧ Qd H) ∨ ((Itl K S).go j H ∧ ∃ Nx : Hp → Prop, (∀ H', Nx H' → ∃ m', m' < m ∧ W (j + 1) m' H') ∧ ∀ x H', (Itl K S).yld j H x H' → gName i x (wipe σ [i]) H' fun σ2 H2 => wipe σ2 [i] = wipe σ [i] ∧ tYes σ2 H2 fun b H3 =>
        if b = true then tOp (rCatT K) (tTup (tCons (tVar i) tNil)) (tDGet td (tVar i)) σ2 H3 fun y H4 => ∃ acc, H4 D = some (.lst acc) ∧ acc.length < sizeLine ∧ Nx (upd H4 D (.lst (acc ++ [y]))) else Nx H3) := by
  have nSD : S ≠ D := ne_of_none hS hD
  refine lc_list (K := K) (a := S) (xs := ns.map V.int) (fun j H => ∃ xs, Same H2 H ∧ H D = some (.lst xs) ∧ RpL K H ((ns.take j).map fun k => .tuple (.int k :: ((lookA m k).map encL).getD [])) xs)
    ⟨[], (L2.Same.refl H2).new hD, upd_same, RpL.nil⟩ (fun j H _ ⟨xs, s, _, _⟩ => SqL.of (s _ _ hS)) ?_ ?_
  · rintro j x H3 hx ⟨xs, s3, hD3, hr⟩
    have hj : j < ns.length := by
      have q := (List.getElem?_eq_some_iff.mp hx).1
      rw [List.length_map] at q
      exact q
    obtain rfl : x = V.int ns[j] := by
      rw [List.getElem?_map, List.getElem?_eq_getElem hj] at hx
      exact (Option.some.inj hx).symm
    have hmem : ns[j] ∈ m.map (·.1) := hns _ (List.getElem_mem hj)
    have eσ : (((wipe σ [i]).set i (some (V.int ns[j]))))[i]? = some (some (V.int ns[j])) := by
      rw [List.getElem?_set_self]
      rw [wipe_length]
      exact hσ
    have ew : wipe ((wipe σ [i]).set i (some (V.int ns[j]))) [i] = wipe σ [i] := by
      show ((σ.set i none).set i (some (V.int ns[j]))).set i none = σ.set i none
      rw [List.set_set, List.set_set]
    refine ⟨ew, ?_⟩
    refine tYes_t (iteT ?_)
    have hlx : xs.length < sizeLine := by
      have := RpL.len _ _ hr
      rw [List.length_map, List.length_take] at this
      exact Nat.lt_of_le_of_lt (show xs.length ≤ 1000000 by omega) (by decide)
    refine ⟨_, eσ, (by show 1 ≤ sizeLine; decide), fun t ht => ?_⟩
    have s4 := s3.new (o := .tup [V.int ns[j]]) ht
    have t4 := TK.of s4
    refine htd _ _ _ ew s4 ⟨_, eσ, ?_⟩
    rcases hm.val (k := ns[j]) with ⟨e1, e2⟩ | ⟨y, v, e1, e2, r⟩
    · obtain ⟨z, e3, _⟩ := lookA_mem hmem
      rw [e1] at e3
      cases e3
    · have r4 := Rp.tk t4 _ _ r
      unfold Rp at r4
      obtain ⟨b, ys, rfl, hb, hl⟩ := r4
      have hly := RpL.len _ _ hl
      refine ⟨q, .ref b, rfl, by rw [← e2]; exact DGet.k (k := Sum.inl ns[j]) (s4 _ _ hq), ?_⟩
      have hD4 : (upd H3 t (.tup [V.int ns[j]])) D = some (.lst xs) := by
        rw [upd_ne (ne_of_none hD3 ht)]
        exact hD3
      have etk : (ns.take (j + 1)).map (fun k => PyData.tuple (.int k :: ((lookA m k).map encL).getD [])) = (ns.take j).map (fun k => PyData.tuple (.int k :: ((lookA m k).map encL).getD [])) ++ [PyData.tuple (.int ns[j] :: encL y)] := by
        rw [List.take_succ_eq_append_getElem hj, List.map_append, List.map_singleton, e1]
        rfl
      have s34 : TK H3 (upd H3 t (.tup [V.int ns[j]])) := (TK.refl _).new ht
      refine ⟨t, b, _, ys, rfl, rfl, SqT.of upd_same, hb, List.cons_ne_nil _ _, ?_, fun ey => ?_, fun _ p hp => ?_⟩
      · have := hz y
        rw [hly, List.length_singleton]
        exact Nat.le_trans (show 1 + (encL y).length ≤ 1000 by omega) (by decide)
      · refine ⟨xs, hD4, hlx, _, s4.wrn hD, upd_same, ?_⟩
        rw [etk]
        have tE : TK (upd H3 t (.tup [V.int ns[j]])) (upd (upd H3 t (.tup [V.int ns[j]])) D (.lst (xs ++ [V.ref t]))) := (TK.refl _).wr hD4 rfl
        refine RpL.snoc (Rp.tk tE _ _ (Rp.tup upd_same ?_)) _ _ (RpL.tk (s34.trans tE) _ _ hr)
        have e0 : encL y = [] := List.length_eq_zero_iff.mp (by rw [← hly, ey]; rfl)
        rw [e0]
        exact RpL.cons Rp.int RpL.nil
      · have s5 := s4.new (o := .tup ([V.int ns[j]] ++ ys)) hp
        have hD5 : upd (upd H3 t (.tup [V.int ns[j]])) p (.tup ([V.int ns[j]] ++ ys)) D = some (.lst xs) := by
          rw [upd_ne (ne_of_none hD4 hp)]
          exact hD4
        have tE : TK (upd (upd H3 t (.tup [V.int ns[j]])) p (.tup ([V.int ns[j]] ++ ys))) (upd (upd (upd H3 t (.tup [V.int ns[j]])) p (.tup ([V.int ns[j]] ++ ys))) D (.lst (xs ++ [V.ref p]))) := (TK.refl _).wr hD5 rfl
        have s45 : TK (upd H3 t (.tup [V.int ns[j]])) (upd (upd H3 t (.tup [V.int ns[j]])) p (.tup ([V.int ns[j]] ++ ys))) := (TK.refl _).new hp
        refine ⟨xs, hD5, hlx, _, s5.wrn hD, upd_same, ?_⟩
        rw [etk]
        refine RpL.snoc (Rp.tk tE _ _ (Rp.tup upd_same ?_)) _ _ (RpL.tk ((s34.trans s45).trans tE) _ _ hr)
        exact RpL.cons Rp.int (RpL.tk s45 _ _ hl)
  · rintro H3 ⟨xs, s3, hD3, hr⟩
    rw [List.length_map, List.take_length] at hr
    exact hd H3 xs s3 hD3 hr
end Wn

namespace Wn
open PySem L2
section
variable {X : Cx} {K : PySem.W.Frag}
theorem ixL (hK : X.K = K) : IxR X (rIxL K) := hK ▸ ix_list
theorem ixT (hK : X.K = K) : IxR X (rIxT K) := hK ▸ ix_tup
theorem opCatT (hK : X.K = K) : OpR X (binaryOp .Add) (rCatT K) := hK ▸ op_catT
theorem slL (hK : X.K = K) : SlR X (rSlL K) := hK ▸ sl_list
theorem slT (hK : X.K = K) : SlR X (rSlT K) := hK ▸ sl_tup
theorem fldK {e : Expr} {ta : TE} {f : Str} {pos : Pos} (hK : X.K = K) (he : PE X e ta) (hb : attributeBase e f X.env (eval e X.env) = eval e X.env) : PE X (.Attribute e f pos) (tFld K ta f) := hK ▸ pe_fld he hb
theorem lenK (hK : X.K = K) : CallR X (.builtin "len") (fun xs H Q => ∃ x n, xs = [x] ∧ LenV K x H n ∧ Q (.int n) H) := hK ▸ call_len
theorem crMaxK (hK : X.K = K) (hc : X.calm = true) : CallR X (.builtin "max") (rMax K) := hK ▸ cr_max hc
theorem crMinK (hK : X.K = K) (hc : X.calm = true) : CallR X (.builtin "min") (rMin K) := hK ▸ cr_min hc
theorem crAllK (hK : X.K = K) (hc : X.calm = true) : CallR X (.builtin "all") (rAll K) := hK ▸ cr_all hc
theorem crAnyK (hK : X.K = K) (hc : X.calm = true) : CallR X (.builtin "any") (rAny K) := hK ▸ cr_any hc
theorem isiK (hK : X.K = K) : CallR X (.builtin "isinstance") (rIsi K) := hK ▸ call_isi
theorem tupOfK (hK : X.K = K) : CallR X (.type "tuple") (fun xs H Q => ∃ p ys, xs = [.ref p] ∧ ((SqL K H p ys ∧ ∀ l, H l = none → Q (.ref l) (upd H l (.tup ys))) ∨ (SqT K H p ys ∧ Q (.ref p) H))) := hK ▸ call_tuple_of
theorem lstOfK (hK : X.K = K) : CallR X (.type "list") (fun xs H Q => ∃ p ys, xs = [.ref p] ∧ (SqL K H p ys ∨ SqT K H p ys) ∧ ∀ l, H l = none → Q (.ref l) (upd H l (.lst ys))) := hK ▸ call_list_of
theorem sortIK (hK : X.K = K) : CallR X (.builtin "sorted") (rSortedI K) := hK ▸ cr_sortedI
theorem inSeqK (hK : X.K = K) : OpR X (compareOp .In) (rIn K false) := hK ▸ op_in_seq
theorem notInSeqK (hK : X.K = K) : OpR X (compareOp .NotIn) (rIn K true) := hK ▸ op_notIn_seq
theorem eqDK (hK : X.K = K) (hu : X.A.units + 64 < cLine) : OpR X (compareOp .Eq) (rEqD K) := hK ▸ op_eqD hu
theorem neDK (hK : X.K = K) (hu : X.A.units + 64 < cLine) : OpR X (compareOp .NotEq) (rNeD K) := hK ▸ op_neD hu
end
end Wn

namespace Wn
open PySem L2
theorem Deck.kp {M : List Addr} {H H' : Hp} {d f : Addr} {n : Int} (h : Deck H d f n) (k : Kp M H H') (n1 : d ∉ M) (n2 : f ∉ M) : Deck H' d f n := by
  obtain ⟨a, wh, xs, h1, h2, h3⟩ := h
  exact ⟨a, wh, xs, k _ _ n1 h1, k _ _ n2 h2, h3⟩
theorem Deck.mono {H : Hp} {d f : Addr} {n m : Int} (h : Deck H d f n) (hm : n ≤ m) : Deck H d f m := by
  obtain ⟨a, wh, xs, h1, h2, h3, h4, h5⟩ := h
  exact ⟨a, wh, xs, h1, h2, h3, by omega, h5⟩
theorem Deck.lst {H : Hp} {d f : Addr} {n : Int} (h : Deck H d f n) : ∃ zs, H d = some (.lst zs) := by
  obtain ⟨a, wh, xs, h1, h2, h3⟩ := h
  exact ⟨_, h1⟩
theorem Deck.lst2 {H : Hp} {d f : Addr} {n : Int} (h : Deck H d f n) : ∃ zs, H f = some (.lst zs) := by
  obtain ⟨a, wh, xs, h1, h2, h3⟩ := h
  exact ⟨_, h2⟩
theorem seq_have {t u : TS} {D : Ends} {σ : L2.St} {H : Hp} (Mid : L2.St → Hp → Prop) (h2 : ∀ σ' H', Mid σ' H' → u D σ' H') (h1 : (∀ σ' H', Mid σ' H' → u D σ' H') → t { D with nx := u D } σ H) : tSeq t u D σ H := h1 h2
theorem seq_if {c : TT} {t1 t2 u : TS} {D : Ends} {σ : L2.St} {H : Hp} (Mid : L2.St → Hp → Prop) (h2 : ∀ σ' H', Mid σ' H' → u D σ' H') (h1 : (∀ σ' H', Mid σ' H' → u D σ' H') → tIfS c t1 t2 { D with nx := u D } σ H) : tSeq (tIfS c t1 t2) u D σ H := h1 h2
theorem nin1 {a b : Addr} (h : a ≠ b) : a ∉ [b] := fun z => h (List.mem_singleton.mp z)
theorem nin2 {a b c : Addr} (h : a ≠ b) (h' : a ≠ c) : a ∉ [b, c] := fun z => by
  rcases List.mem_cons.mp z with z | z
  · exact h z
  · exact h' (List.mem_singleton.mp z)
section
variable {α : Type}
/-- an object at p whose dict by_hand stands at q -/
def HoldAt (enc : α → PyData) (K : PySem.W.Frag) (C : Addr) (H : Hp) (p q : Addr) (m : List (Int × α)) : Prop :=
  (∃ dx, H p = some (.ins C dx [("by_hand", .ref q)])) ∧ DictAt enc K H q m
variable {enc : α → PyData} {K : PySem.W.Frag} {C : Addr} {H H' : Hp}
theorem HoldAt.kp {M : List Addr} {p q : Addr} {m : List (Int × α)} (h : HoldAt enc K C H p q m) (k : Kp M H H') (t : TK H H') (n1 : p ∉ M) (n2 : q ∉ M) : HoldAt enc K C H' p q m := by
  obtain ⟨⟨dx, a⟩, b⟩ := h
  exact ⟨⟨dx, k _ _ n1 a⟩, b.kp k t n2⟩
/-- n objects and n dicts, in two lists -/
structure Rack (enc : α → PyData) (K : PySem.W.Frag) (C : Addr) (H : Hp) (L1 L2 : Addr) (n : Nat) (p q md : Nat → Addr) (m m' : Nat → List (Int × α)) : Prop where
  l1 : H L1 = some (.lst ((List.range n).map fun j => V.ref (p j)))
  l2 : H L2 = some (.lst ((List.range n).map fun j => V.ref (md j)))
  ok : ∀ j, j < n → HoldAt enc K C H (p j) (q j) (m j)
  mo : ∀ j, j < n → DictAt enc K H (md j) (m' j)
  dq : ∀ i j, i < n → j < n → i ≠ j → q i ≠ q j
  dm : ∀ i j, i < n → j < n → i ≠ j → md i ≠ md j
  dx : ∀ i j, i < n → j < n → q i ≠ md j
variable {L1 L2 : Addr} {n : Nat} {p q md : Nat → Addr} {m m' : Nat → List (Int × α)}
theorem Rack.kp {M : List Addr} (R : Rack enc K C H L1 L2 n p q md m m') (k : Kp M H H') (t : TK H H') (h : ∀ x ∈ M, x ≠ L1 ∧ x ≠ L2 ∧ ∀ j, j < n → x ≠ p j ∧ x ≠ q j ∧ x ≠ md j) : Rack enc K C H' L1 L2 n p q md m m' where
  l1 := k _ _ (fun z => (h _ z).1 rfl) R.l1
  l2 := k _ _ (fun z => (h _ z).2.1 rfl) R.l2
  ok := fun j hj => (R.ok j hj).kp k t (fun z => ((h _ z).2.2 j hj).1 rfl) (fun z => ((h _ z).2.2 j hj).2.1 rfl)
  mo := fun j hj => (R.mo j hj).kp k t (fun z => ((h _ z).2.2 j hj).2.2 rfl)
  dq := R.dq
  dm := R.dm
  dx := R.dx
/-- a list beside was written -/
theorem Rack.lst {d : Addr} {zs : List V} (R : Rack enc K C H L1 L2 n p q md m m') (k : Kp [d] H H') (t : TK H H') (hd : H d = some (.lst zs)) (n1 : d ≠ L1) (n2 : d ≠ L2) : Rack enc K C H' L1 L2 n p q md m m' :=
  R.kp k t fun x hx => by
    rw [List.mem_singleton] at hx
    subst hx
    refine ⟨n1, n2, fun j hj => ?_⟩
    obtain ⟨⟨dx, a⟩, kvs, b, _⟩ := R.ok j hj
    obtain ⟨kvs', c, _⟩ := R.mo j hj
    exact ⟨ne_of hd a (by intro z; cases z), ne_of hd b (by intro z; cases z), ne_of hd c (by intro z; cases z)⟩
theorem Rack.same (R : Rack enc K C H L1 L2 n p q md m m') (s : Same H H') : Rack enc K C H' L1 L2 n p q md m m' :=
  R.kp (M := []) (Kp.of s) (TK.of s) fun x hx => by cases hx
/-- the k-th object's dict is another one -/
theorem Rack.setq {i : Nat} {mn : List (Int × α)} (R : Rack enc K C H L1 L2 n p q md m m') (hi : i < n) (k : Kp [q i] H H') (t : TK H H') (h : HoldAt enc K C H' (p i) (q i) mn) :
    Rack enc K C H' L1 L2 n p q md (fun j => if j = i then mn else m j) m' := by
  obtain ⟨_, kvq, hq, _⟩ := R.ok i hi
  refine ⟨k _ _ (nin1 (ne_of R.l1 hq (by intro z; cases z))) R.l1, k _ _ (nin1 (ne_of R.l2 hq (by intro z; cases z))) R.l2, fun j hj => ?_, fun j hj => ?_, R.dq, R.dm, R.dx⟩
  · by_cases e : j = i
    · subst e
      simp only [if_true]
      exact h
    · simp only [if_neg e]
      obtain ⟨⟨dx, a⟩, _⟩ := R.ok j hj
      exact (R.ok j hj).kp k t (nin1 (ne_of a hq (by intro z; cases z))) (nin1 (R.dq j i hj hi e))
  · exact (R.mo j hj).kp k t (nin1 (fun z => R.dx i j hi hj z.symm))
theorem Rack.setm {i : Nat} {mn : List (Int × α)} (R : Rack enc K C H L1 L2 n p q md m m') (hi : i < n) (k : Kp [md i] H H') (t : TK H H') (h : DictAt enc K H' (md i) mn) :
    Rack enc K C H' L1 L2 n p q md m (fun j => if j = i then mn else m' j) := by
  obtain ⟨kvq, hq, _⟩ := R.mo i hi
  refine ⟨k _ _ (nin1 (ne_of R.l1 hq (by intro z; cases z))) R.l1, k _ _ (nin1 (ne_of R.l2 hq (by intro z; cases z))) R.l2, fun j hj => ?_, fun j hj => ?_, R.dq, R.dm, R.dx⟩
  · obtain ⟨⟨dx, a⟩, _⟩ := R.ok j hj
    exact (R.ok j hj).kp k t (nin1 (ne_of a hq (by intro z; cases z))) (nin1 (R.dx j i hj hi))
  · by_cases e : j = i
    · subst e
      simp only [if_true]
      exact h
    · simp only [if_neg e]
      exact (R.mo j hj).kp k t (nin1 (R.dm j i hj hi e))
/-- one more -/
theorem Rack.push {pn qn mdn : Addr} {mn : List (Int × α)} (R : Rack enc K C H L1 L2 n p q md m m') (k : Kp [L1, L2] H H') (t : TK H H') (h1 : H' L1 = some (.lst (((List.range n).map fun j => V.ref (p j)) ++ [V.ref pn]))) (h2 : H' L2 = some (.lst (((List.range n).map fun j => V.ref (md j)) ++ [V.ref mdn])))
    (hp : HoldAt enc K C H' pn qn mn) (hm : DictAt enc K H' mdn mn) (nq : H qn = none) (nm : H mdn = none) (nqm : qn ≠ mdn) :
    Rack enc K C H' L1 L2 (n + 1) (fun j => if j = n then pn else p j) (fun j => if j = n then qn else q j) (fun j => if j = n then mdn else md j) (fun j => if j = n then mn else m j) (fun j => if j = n then mn else m' j) := by
  have e1 : ∀ (f : Nat → Addr) (x : Addr), (List.range (n + 1)).map (fun j => V.ref (if j = n then x else f j)) = ((List.range n).map fun j => V.ref (f j)) ++ [V.ref x] := fun f x => by
    rw [List.range_succ, List.map_append, List.map_singleton, if_pos rfl]
    congr 1
    refine List.map_congr_left fun j hj => ?_
    rw [List.mem_range] at hj
    rw [if_neg (by omega)]
  have hq : ∀ j, j < n → q j ≠ qn ∧ q j ≠ mdn := fun j hj => by
    obtain ⟨_, kv, a, _⟩ := R.ok j hj
    exact ⟨ne_of_none a nq, ne_of_none a nm⟩
  have hmd : ∀ j, j < n → md j ≠ qn ∧ md j ≠ mdn := fun j hj => by
    obtain ⟨kv, a, _⟩ := R.mo j hj
    exact ⟨ne_of_none a nq, ne_of_none a nm⟩
  refine ⟨by rw [e1]; exact h1, by rw [e1]; exact h2, fun j hj => ?_, fun j hj => ?_, fun i j hi hj e => ?_, fun i j hi hj e => ?_, fun i j hi hj => ?_⟩
  · by_cases e : j = n
    · simp only [if_pos e]
      exact hp
    · simp only [if_neg e]
      obtain ⟨⟨dx, a⟩, kv, b, _⟩ := R.ok j (by omega)
      exact (R.ok j (by omega)).kp k t (nin2 (ne_of a R.l1 (by intro z; cases z)) (ne_of a R.l2 (by intro z; cases z))) (nin2 (ne_of b R.l1 (by intro z; cases z)) (ne_of b R.l2 (by intro z; cases z)))
  · by_cases e : j = n
    · simp only [if_pos e]
      exact hm
    · simp only [if_neg e]
      obtain ⟨kv, b, _⟩ := R.mo j (by omega)
      exact (R.mo j (by omega)).kp k t (nin2 (ne_of b R.l1 (by intro z; cases z)) (ne_of b R.l2 (by intro z; cases z)))
  · by_cases ei : i = n
    · have ej : ¬ j = n := by omega
      simp only [if_pos ei, if_neg ej]
      exact (hq j (by omega)).1.symm
    · by_cases ej : j = n
      · simp only [if_neg ei, if_pos ej]
        exact (hq i (by omega)).1
      · simp only [if_neg ei, if_neg ej]
        exact R.dq i j (by omega) (by omega) e
  · by_cases ei : i = n
    · have ej : ¬ j = n := by omega
      simp only [if_pos ei, if_neg ej]
      exact (hmd j (by omega)).2.symm
    · by_cases ej : j = n
      · simp only [if_neg ei, if_pos ej]
        exact (hmd i (by omega)).2
      · simp only [if_neg ei, if_neg ej]
        exact R.dm i j (by omega) (by omega) e
  · by_cases ei : i = n
    · by_cases ej : j = n
      · simp only [if_pos ei, if_pos ej]
        exact nqm
      · simp only [if_pos ei, if_neg ej]
        exact (hmd j (by omega)).1.symm
    · by_cases ej : j = n
      · simp only [if_neg ei, if_pos ej]
        exact (hq i (by omega)).2
      · simp only [if_neg ei, if_neg ej]
        exact R.dx i j (by omega) (by omega)
end
section
variable {α : Type} {enc : α → PyData} {K : PySem.W.Frag} {C : Addr} {H H' : Hp}
theorem HoldAt.lst {d p q : Addr} {zs : List V} {m : List (Int × α)} (h : HoldAt enc K C H p q m) (k : Kp [d] H H') (t : TK H H') (hd : H d = some (.lst zs)) : HoldAt enc K C H' p q m := by
  obtain ⟨⟨dx, a⟩, kv, b, _⟩ := id h
  exact h.kp k t (nin1 (ne_of a hd (by intro z; cases z))) (nin1 (ne_of b hd (by intro z; cases z)))
theorem HoldAt.same {p q : Addr} {m : List (Int × α)} (h : HoldAt enc K C H p q m) (s : Same H H') : HoldAt enc K C H' p q m :=
  h.kp (M := []) (Kp.of s) (TK.of s) (by simp) (by simp)
theorem DictAt.lst {d q : Addr} {zs : List V} {m : List (Int × α)} (h : DictAt enc K H q m) (k : Kp [d] H H') (t : TK H H') (hd : H d = some (.lst zs)) : DictAt enc K H' q m := by
  obtain ⟨kv, b, _⟩ := id h
  exact h.kp k t (nin1 (ne_of b hd (by intro z; cases z)))
theorem DictAt.same {q : Addr} {m : List (Int × α)} (h : DictAt enc K H q m) (s : Same H H') : DictAt enc K H' q m :=
  h.kp (M := []) (Kp.of s) (TK.of s) (by simp)
theorem Deck.same {d f : Addr} {n : Int} (h : Deck H d f n) (s : Same H H') : Deck H' d f n := h.kp (M := []) (Kp.of s) (by simp) (by simp)
/-- a dict beside was written -/
theorem Deck.dict {d f q : Addr} {n : Int} {m : List (Int × α)} (h : Deck H d f n) (k : Kp [q] H H') (hq : DictAt enc K H q m) : Deck H' d f n := by
  obtain ⟨kv, b, _⟩ := hq
  obtain ⟨zs, h1⟩ := h.lst
  obtain ⟨zf, h2⟩ := h.lst2
  exact h.kp k (nin1 (ne_of h1 b (by intro z; cases z))) (nin1 (ne_of h2 b (by intro z; cases z)))
variable {La Lb : Addr} {n : Nat} {p q md : Nat → Addr} {m m' : Nat → List (Int × α)}
/-- the k-th object's dict, the k-th dict and a list beside are others -/
theorem Rack.set2 {d : Addr} {zs : List V} {i : Nat} {mn mn' : List (Int × α)} (R : Rack enc K C H La Lb n p q md m m') (hi : i < n) (k : Kp [d, q i, md i] H H') (t : TK H H') (hd : H d = some (.lst zs)) (n1 : d ≠ La) (n2 : d ≠ Lb)
    (h : HoldAt enc K C H' (p i) (q i) mn) (h' : DictAt enc K H' (md i) mn') :
    Rack enc K C H' La Lb n p q md (fun j => if j = i then mn else m j) (fun j => if j = i then mn' else m' j) := by
  obtain ⟨_, kvq, hq, _⟩ := R.ok i hi
  obtain ⟨kvm, hm, _⟩ := R.mo i hi
  have nin : ∀ {x : Addr}, x ≠ d → x ≠ q i → x ≠ md i → x ∉ [d, q i, md i] := fun a b c z => by
    rcases List.mem_cons.mp z with z | z
    · exact a z
    · exact nin2 b c z
  refine ⟨k _ _ (nin n1.symm (ne_of R.l1 hq (by intro z; cases z)) (ne_of R.l1 hm (by intro z; cases z))) R.l1, k _ _ (nin n2.symm (ne_of R.l2 hq (by intro z; cases z)) (ne_of R.l2 hm (by intro z; cases z))) R.l2, fun j hj => ?_, fun j hj => ?_, R.dq, R.dm, R.dx⟩
  · by_cases e : j = i
    · subst e
      simp only [if_true]
      exact h
    · simp only [if_neg e]
      obtain ⟨⟨dx, a⟩, kv, b, _⟩ := R.ok j hj
      exact (R.ok j hj).kp k t (nin (ne_of a hd (by intro z; cases z)) (ne_of a hq (by intro z; cases z)) (ne_of a hm (by intro z; cases z))) (nin (ne_of b hd (by intro z; cases z)) (R.dq j i hj hi e) (R.dx j i hj hi))
  · by_cases e : j = i
    · subst e
      simp only [if_true]
      exact h'
    · simp only [if_neg e]
      obtain ⟨kv, b, _⟩ := R.mo j hj
      exact (R.mo j hj).kp k t (nin (ne_of b hd (by intro z; cases z)) (fun z => R.dx i j hi hj z.symm) (R.dm j i hj hi e))
end
theorem at3 {x y z : V} {r : Int} (h0 : 0 ≤ r) (h1 : r < 3) : ∃ v, atI [x, y, z] r = some v ∧ (v = x ∨ v = y ∨ v = z) := by
  have h : r = 0 ∨ r = 1 ∨ r = 2 := by omega
  rcases h with rfl | rfl | rfl
  · exact ⟨x, rfl, .inl rfl⟩
  · exact ⟨y, rfl, .inr (.inl rfl)⟩
  · exact ⟨z, rfl, .inr (.inr rfl)⟩
theorem at5 {a b c d e : Int} {r : Int} (h0 : 0 ≤ r) (h1 : r < 5) : ∃ v : Int, atI [V.int a, .int b, .int c, .int d, .int e] r = some (.int v) := by
  have h : r = 0 ∨ r = 1 ∨ r = 2 ∨ r = 3 ∨ r = 4 := by omega
  rcases h with rfl | rfl | rfl | rfl | rfl <;> exact ⟨_, rfl⟩
theorem atR {n : Nat} {f : Nat → Addr} {r : Int} (h0 : 0 ≤ r) (h1 : r < n) : atI ((List.range n).map fun j => V.ref (f j)) r = some (.ref (f r.toNat)) := by
  have e : ((r.toNat : Nat) : Int) = r := by omega
  have := atI_nat (xs := (List.range n).map fun j => V.ref (f j)) (j := r.toNat) (v := .ref (f r.toNat)) (by
    rw [List.getElem?_map, List.getElem?_range (by omega)]
    rfl)
  rw [e] at this
  exact this
def spLaw (K : PySem.W.Frag) : Sp := fun vs H Q _ => ∃ (a : Addr) (ns : List Int), vs = [.ref a] ∧ SqL K H a (ns.map V.int) ∧ ns.length ≤ 63 ∧ ∀ H', Q (.bl true) H'
/-! ### lists of data -/
def LstAt (K : PySem.W.Frag) (H : Hp) (a : Addr) (ds : List PyData) : Prop := ∃ xs, H a = some (.lst xs) ∧ RpL K H ds xs
section
variable {K : PySem.W.Frag} {H H' : Hp}
theorem LstAt.kp {M : List Addr} {a : Addr} {ds : List PyData} (h : LstAt K H a ds) (k : Kp M H H') (t : TK H H') (n : a ∉ M) : LstAt K H' a ds := by
  obtain ⟨xs, h1, h2⟩ := h
  exact ⟨xs, k _ _ n h1, RpL.tk t _ _ h2⟩
theorem LstAt.same {a : Addr} {ds : List PyData} (h : LstAt K H a ds) (s : Same H H') : LstAt K H' a ds := h.kp (M := []) (Kp.of s) (TK.of s) (by simp)
theorem LstAt.lst {a : Addr} {ds : List PyData} (h : LstAt K H a ds) : ∃ zs, H a = some (.lst zs) := ⟨_, h.choose_spec.1⟩
theorem RpL.app : ∀ {ds es : List PyData} {xs ys : List V}, RpL K H ds xs → RpL K H es ys → RpL K H (ds ++ es) (xs ++ ys)
  | [], es, xs, ys, h1, h2 => by
    unfold RpL at h1
    subst h1
    exact h2
  | d :: ds, es, xs, ys, h1, h2 => by
    unfold RpL at h1
    obtain ⟨v, r, rfl, a, b⟩ := h1
    show RpL K H (d :: (ds ++ es)) (v :: (r ++ ys))
    exact RpL.cons a (RpL.app b h2)
theorem RpL.take : ∀ (k : Nat) {ds : List PyData} {xs : List V}, RpL K H ds xs → RpL K H (ds.take k) (xs.take k)
  | 0, ds, xs, _ => by
    rw [List.take_zero, List.take_zero]
    exact RpL.nil
  | k + 1, [], xs, h => by
    unfold RpL at h
    subst h
    exact RpL.nil
  | k + 1, d :: ds, xs, h => by
    unfold RpL at h
    obtain ⟨v, r, rfl, a, b⟩ := h
    exact RpL.cons a (RpL.take k b)
theorem RpL.drop : ∀ (k : Nat) {ds : List PyData} {xs : List V}, RpL K H ds xs → RpL K H (ds.drop k) (xs.drop k)
  | 0, ds, xs, h => h
  | k + 1, [], xs, h => by
    unfold RpL at h
    subst h
    exact RpL.nil
  | k + 1, d :: ds, xs, h => by
    unfold RpL at h
    obtain ⟨v, r, rfl, a, b⟩ := h
    exact RpL.drop k b
theorem inV_int {k : Int} : ∀ ns : List Int, inV (.int k) (ns.map V.int) = decide (k ∈ ns)
  | [] => by simp [inV]
  | n :: ns => by
    have h := inV_int (k := k) ns
    unfold inV at h ⊢
    rw [List.map_cons, List.any_cons, h]
    show ((n == k) || _) = _
    by_cases e : n = k
    · simp [e]
    · have e2 : ¬ k = n := fun z => e z.symm
      simp [e, e2]
theorem flat_ints (ns : List Int) : (ns.map V.int).all flatV = true := by
  rw [List.all_eq_true]
  intro x hx
  obtain ⟨n, _, rfl⟩ := List.mem_map.mp hx
  rfl
theorem set_wipe {σ : L2.St} {i : Nat} {x : Option V} : (wipe σ [i]).set i x = σ.set i x := by
  show (σ.set i none).set i x = _
  rw [List.set_set]
theorem wipe_set {σ : L2.St} {i : Nat} {x : Option V} : wipe (σ.set i x) [i] = wipe σ [i] := by
  show (σ.set i x).set i none = σ.set i none
  rw [List.set_set]
/-- [x for x in xs if test] -/
theorem filt_lc {β : Type} {enc : β → PyData} {tt : TT} {i : Nat} {σ : L2.St} {H2 : Hp} {S D : Addr} {xs : List V} {L : List β} {Qd : Hp → Prop} (p : β → Bool) (hS : H2 S = some (.lst xs)) (hr : RpL K H2 (L.map enc) xs) (hD : H2 D = none) (hσ : i < σ.length) (hl : L.length ≤ 1000000)
    (htt : ∀ (b : β) (x : V) (H' : Hp) (Q : Bool → Hp → Prop), b ∈ L → Rp K H' (enc b) x → Same H2 H' → Q (p b) H' → tt (σ.set i (some x)) H' Q)
    (hd : ∀ (H' : Hp) (ys : List V), Same H2 H' → H' D = some (.lst ys) → RpL K H' ((L.filter p).map enc) ys → Qd H') :
    ∃ W : Nat → Nat → Hp → Prop, (∃ m, W 0 m (upd H2 D (.lst []))) ∧ ∀ j m H, W j m H →
      ((Itl K S).stop j H ∧ Qd H) ∨ ((Itl K S).go j H ∧ ∃ Nx : Hp → Prop, (∀ H', Nx H' → ∃ m', m' < m ∧ W (j + 1) m' H') ∧ ∀ x H', (Itl K S).yld j H x H' → gName i x (wipe σ [i]) H' fun σ2 H2 => wipe σ2 [i] = wipe σ [i] ∧ tt σ2 H2 fun b H3 =>
        if b = true then tVar i σ2 H3 fun y H4 => ∃ acc, H4 D = some (.lst acc) ∧ acc.length < sizeLine ∧ Nx (upd H4 D (.lst (acc ++ [y]))) else Nx H3) := by
  refine lc_list (K := K) (a := S) (xs := xs) (fun j H => ∃ ys, Same H2 H ∧ H D = some (.lst ys) ∧ RpL K H (((L.take j).filter p).map enc) ys)
    ⟨[], (L2.Same.refl H2).new hD, upd_same, RpL.nil⟩ (fun j H _ ⟨ys, s, _, _⟩ => SqL.of (s _ _ hS)) ?_ ?_
  · rintro j x H3 hx ⟨ys, s3, hD3, hr3⟩
    have hlen := RpL.len _ _ hr
    have hj : j < L.length := by
      have q := (List.getElem?_eq_some_iff.mp hx).1
      rw [hlen, List.length_map] at q
      exact q
    obtain ⟨v, ev, rv⟩ := RpL.get _ _ hr j (enc L[j]) (by rw [List.getElem?_map, List.getElem?_eq_getElem hj]; rfl)
    have ex : v = x := Option.some.inj (ev.symm.trans hx)
    rw [ex] at rv
    have rx := Rp.tk (TK.of s3) _ _ rv
    show wipe ((wipe σ [i]).set i (some x)) [i] = wipe σ [i] ∧ _
    rw [set_wipe]
    refine ⟨wipe_set, ?_⟩
    have hly : ys.length < sizeLine := by
      have := RpL.len _ _ hr3
      rw [List.length_map] at this
      have h2 := List.length_filter_le p (L.take j)
      rw [List.length_take] at h2
      exact Nat.lt_of_le_of_lt (show ys.length ≤ 1000000 by omega) (by decide)
    refine htt L[j] x H3 _ (List.getElem_mem hj) rx s3 ?_
    have et : L.take (j + 1) = L.take j ++ [L[j]] := List.take_succ_eq_append_getElem hj
    cases e : p L[j] with
    | false =>
      refine iteF ⟨ys, s3, hD3, ?_⟩
      rw [et, List.filter_append, List.filter_cons, e]
      simpa using hr3
    | true =>
      refine iteT ⟨x, ?_, ys, hD3, hly, ys ++ [x], s3.wrn hD, upd_same, ?_⟩
      · rw [List.getElem?_set_self hσ]
      · have tE : TK H3 (upd H3 D (.lst (ys ++ [x]))) := (TK.refl _).wr hD3 rfl
        rw [et, List.filter_append, List.filter_cons, e, List.map_append]
        exact RpL.app (RpL.tk tE _ _ hr3) (RpL.cons (Rp.tk tE _ _ rx) RpL.nil)
  · rintro H3 ⟨ys, s3, hD3, hr3⟩
    have hlen := RpL.len _ _ hr
    rw [hlen, List.length_map, List.take_length] at hr3
    exact hd H3 ys s3 hD3 hr3
/-- [number of x for x in xs] -/
theorem mapI_lc {β : Type} {enc : β → PyData} {te : TE} {i : Nat} {σ : L2.St} {H2 : Hp} {S D : Addr} {xs : List V} {L : List β} {Qd : Hp → Prop} (f : β → Int) (hS : H2 S = some (.lst xs)) (hr : RpL K H2 (L.map enc) xs) (hD : H2 D = none) (hl : L.length ≤ 1000000)
    (hte : ∀ (b : β) (x : V) (H' : Hp) (Q : VK), b ∈ L → Rp K H' (enc b) x → Same H2 H' → Q (.int (f b)) H' → te (σ.set i (some x)) H' Q)
    (hd : ∀ (H' : Hp), Same H2 H' → H' D = some (.lst ((L.map f).map V.int)) → Qd H') :
    ∃ W : Nat → Nat → Hp → Prop, (∃ m, W 0 m (upd H2 D (.lst []))) ∧ ∀ j m H, W j m H →
      ((Itl K S).stop j H ∧ Qd H) ∨ ((Itl K S).go j H ∧ ∃ Nx : Hp → Prop, (∀ H', Nx H' → ∃ m', m' < m ∧ W (j + 1) m' H') ∧ ∀ x H', (Itl K S).yld j H x H' → gName i x (wipe σ [i]) H' fun σ2 H2 => wipe σ2 [i] = wipe σ [i] ∧ tYes σ2 H2 fun b H3 =>
        if b = true then te σ2 H3 fun y H4 => ∃ acc, H4 D = some (.lst acc) ∧ acc.length < sizeLine ∧ Nx (upd H4 D (.lst (acc ++ [y]))) else Nx H3) := by
  refine lc_list (K := K) (a := S) (xs := xs) (fun j H => Same H2 H ∧ H D = some (.lst (((L.take j).map f).map V.int)))
    ⟨(L2.Same.refl H2).new hD, upd_same⟩ (fun j H _ ⟨s, _⟩ => SqL.of (s _ _ hS)) ?_ ?_
  · rintro j x H3 hx ⟨s3, hD3⟩
    have hlen := RpL.len _ _ hr
    have hj : j < L.length := by
      have q := (List.getElem?_eq_some_iff.mp hx).1
      rw [hlen, List.length_map] at q
      exact q
    obtain ⟨v, ev, rv⟩ := RpL.get _ _ hr j (enc L[j]) (by rw [List.getElem?_map, List.getElem?_eq_getElem hj]; rfl)
    have ex : v = x := Option.some.inj (ev.symm.trans hx)
    rw [ex] at rv
    have rx := Rp.tk (TK.of s3) _ _ rv
    show wipe ((wipe σ [i]).set i (some x)) [i] = wipe σ [i] ∧ _
    rw [set_wipe]
    refine ⟨wipe_set, tYes_t (iteT ?_)⟩
    refine hte L[j] x H3 _ (List.getElem_mem hj) rx s3 ⟨_, hD3, ?_, s3.wrn hD, ?_⟩
    · rw [List.length_map, List.length_map, List.length_take]
      exact Nat.lt_of_le_of_lt (show min j L.length ≤ 1000000 by omega) (by decide)
    · rw [upd_same, List.take_succ_eq_append_getElem hj, List.map_append, List.map_append]
      rfl
  · rintro H3 ⟨s3, hD3⟩
    have hlen := RpL.len _ _ hr
    rw [hlen, List.length_map, List.take_length] at hD3
    exact hd H3 s3 hD3
end
section
variable {K : PySem.W.Frag} {H H' : Hp}
/-- [e for x in xs], each e data -/
theorem mapD_it {J : It} {G : Hp → Prop} {β : Type} {enc : β → PyData} {te : TE} {i : Nat} {σ : L2.St} {H2 : Hp} {D : Addr} {xs : List V} {L : List β} {Qd : Hp → Prop} (w : Walk J xs.length G (YAt xs)) (hG : ∀ H', Same H2 H' → G H') (g : β → PyData) (hr : RpL K H2 (L.map enc) xs) (hD : H2 D = none) (hl : L.length ≤ 1000000)
    (hte : ∀ (b : β) (x : V) (H' : Hp) (Q : VK), b ∈ L → Rp K H' (enc b) x → Same H2 H' → (∀ (H'' : Hp) (y : V), Same H' H'' → Rp K H'' (g b) y → Q y H'') → te (σ.set i (some x)) H' Q)
    (hd : ∀ (H' : Hp) (ys : List V), Same H2 H' → H' D = some (.lst ys) → RpL K H' (L.map g) ys → Qd H') :
    ∃ W : Nat → Nat → Hp → Prop, (∃ m, W 0 m (upd H2 D (.lst []))) ∧ ∀ j m H, W j m H →
      (J.stop j H ∧ Qd H) ∨ (J.go j H ∧ ∃ Nx : Hp → Prop, (∀ H', Nx H' → ∃ m', m' < m ∧ W (j + 1) m' H') ∧ ∀ x H', J.yld j H x H' → gName i x (wipe σ [i]) H' fun σ2 H2 => wipe σ2 [i] = wipe σ [i] ∧ tYes σ2 H2 fun b H3 =>
        if b = true then te σ2 H3 fun y H4 => ∃ acc, H4 D = some (.lst acc) ∧ acc.length < sizeLine ∧ Nx (upd H4 D (.lst (acc ++ [y]))) else Nx H3) := by
  refine lc_it w (fun j H => ∃ ys, Same H2 H ∧ H D = some (.lst ys) ∧ RpL K H ((L.take j).map g) ys)
    ⟨[], (L2.Same.refl H2).new hD, upd_same, RpL.nil⟩ (fun j H _ ⟨ys, s, _⟩ => hG H s) ?_ ?_
  · rintro j x H3 H3' hj ⟨ys, s3, hD3, hr3⟩ ⟨rfl, hx⟩
    have hlen := RpL.len _ _ hr
    rw [List.length_map] at hlen
    have hj : j < L.length := by omega
    obtain ⟨v, ev, rv⟩ := RpL.get _ _ hr j (enc L[j]) (by rw [List.getElem?_map, List.getElem?_eq_getElem hj]; rfl)
    have ex : v = x := Option.some.inj (ev.symm.trans hx)
    rw [ex] at rv
    have rx := Rp.tk (TK.of s3) _ _ rv
    show wipe ((wipe σ [i]).set i (some x)) [i] = wipe σ [i] ∧ _
    rw [set_wipe]
    refine ⟨wipe_set, tYes_t (iteT ?_)⟩
    refine hte L[j] x H3' _ (List.getElem_mem hj) rx s3 fun H4 y s4 ry => ⟨ys, s4 _ _ hD3, ?_, ys ++ [y], (s3.trans s4).wrn hD, upd_same, ?_⟩
    · have := RpL.len _ _ hr3
      rw [List.length_map, List.length_take] at this
      exact Nat.lt_of_le_of_lt (show ys.length ≤ 1000000 by omega) (by decide)
    · have tE : TK H4 (upd H4 D (.lst (ys ++ [y]))) := (TK.refl _).wr (s4 _ _ hD3) rfl
      rw [List.take_succ_eq_append_getElem hj, List.map_append]
      exact RpL.app (RpL.tk ((TK.of s4).trans tE) _ _ hr3) (RpL.cons (Rp.tk tE _ _ ry) RpL.nil)
  · rintro H3 ⟨ys, s3, hD3, hr3⟩
    have hlen := RpL.len _ _ hr
    rw [hlen, List.length_map, List.take_length] at hr3
    exact hd H3 ys s3 hD3 hr3
theorem RpL.ints : ∀ {ns : List Int} {ys : List V}, RpL K H (ns.map PyData.int) ys → ys = ns.map V.int
  | [], ys, h => by
    unfold List.map RpL at h
    exact h
  | n :: ns, ys, h => by
    rw [List.map_cons] at h
    unfold RpL at h
    obtain ⟨v, r, rfl, h1, h2⟩ := h
    unfold Rp at h1
    rw [RpL.ints h2, h1]
    rfl
theorem dp_ints : ∀ (ns : List Int), DpAll K H (ns.map V.int) (ns.map PyData.int)
  | [] => .nil
  | n :: ns => .cons (.int n) (dp_ints ns)
theorem LstAt.dict {α : Type} {enc : α → PyData} {a q : Addr} {ds : List PyData} {m : List (Int × α)} (h : LstAt K H a ds) (k : Kp [q] H H') (t : TK H H') (hq : DictAt enc K H q m) : LstAt K H' a ds := by
  obtain ⟨xs, h1, _⟩ := id h
  obtain ⟨kv, h2, _⟩ := hq
  exact h.kp k t (nin1 (ne_of h1 h2 (by intro z; cases z)))
theorem dep_ints (ns : List Int) : dep (.tuple (ns.map PyData.int)) ≤ 1 := by
  unfold dep
  have := deps_map_le (c := 0) (f := PyData.int) ns fun x _ => Nat.le_refl _
  omega
end
section
variable {K : PySem.W.Frag} {H H' : Hp}
/-- [e for i in range(..)], each e data -/
theorem mapR_it {J : It} {n : Nat} {fv : Nat → V} {te : TE} {i : Nat} {σ : L2.St} {H2 : Hp} {D : Addr} {Qd : Hp → Prop} (w : Walk J n (fun _ => True) (YFn fv)) (g : Nat → PyData) (hD : H2 D = none) (hl : n ≤ 1000000)
    (hte : ∀ (j : Nat) (H' : Hp) (Q : VK), j < n → Same H2 H' → (∀ (H'' : Hp) (y : V), Same H' H'' → Rp K H'' (g j) y → Q y H'') → te (σ.set i (some (fv j))) H' Q)
    (hd : ∀ (H' : Hp) (ys : List V), Same H2 H' → H' D = some (.lst ys) → RpL K H' ((List.range n).map g) ys → Qd H') :
    ∃ W : Nat → Nat → Hp → Prop, (∃ m, W 0 m (upd H2 D (.lst []))) ∧ ∀ j m H, W j m H →
      (J.stop j H ∧ Qd H) ∨ (J.go j H ∧ ∃ Nx : Hp → Prop, (∀ H', Nx H' → ∃ m', m' < m ∧ W (j + 1) m' H') ∧ ∀ x H', J.yld j H x H' → gName i x (wipe σ [i]) H' fun σ2 H2 => wipe σ2 [i] = wipe σ [i] ∧ tYes σ2 H2 fun b H3 =>
        if b = true then te σ2 H3 fun y H4 => ∃ acc, H4 D = some (.lst acc) ∧ acc.length < sizeLine ∧ Nx (upd H4 D (.lst (acc ++ [y]))) else Nx H3) := by
  refine lc_it w (fun j H => ∃ ys, Same H2 H ∧ H D = some (.lst ys) ∧ RpL K H ((List.range j).map g) ys)
    ⟨[], (L2.Same.refl H2).new hD, upd_same, RpL.nil⟩ (fun j H _ _ => trivial) ?_ ?_
  · rintro j x H3 H3' hj ⟨ys, s3, hD3, hr3⟩ ⟨rfl, rfl⟩
    show wipe ((wipe σ [i]).set i (some (fv j))) [i] = wipe σ [i] ∧ _
    rw [set_wipe]
    refine ⟨wipe_set, tYes_t (iteT ?_)⟩
    refine hte j H3' _ hj s3 fun H4 y s4 ry => ⟨ys, s4 _ _ hD3, ?_, ys ++ [y], (s3.trans s4).wrn hD, upd_same, ?_⟩
    · have := RpL.len _ _ hr3
      rw [List.length_map, List.length_range] at this
      exact Nat.lt_of_le_of_lt (show ys.length ≤ 1000000 by omega) (by decide)
    · have tE : TK H4 (upd H4 D (.lst (ys ++ [y]))) := (TK.refl _).wr (s4 _ _ hD3) rfl
      rw [List.range_succ, List.map_append]
      exact RpL.app (RpL.tk ((TK.of s4).trans tE) _ _ hr3) (RpL.cons (Rp.tk tE _ _ ry) RpL.nil)
  · rintro H3 ⟨ys, s3, hD3, hr3⟩
    exact hd H3 ys s3 hD3 hr3
end
end Wn

namespace Wn
open PySem L2
def top (i : Nat) : Stmt := PySem.Challenge.pw_wrapnets_k21_whole_what_filters_let_by.main.body.getD i (.Pass ⟨0, 0, 0, 0⟩)
abbrev sMixed : Stmt := top 11
abbrev sDeck : Stmt := top 12
abbrev sNext : Stmt := top 13
section
variable {P : Program} {w : World} {K : PySem.W.Frag} {mg : Str → Option Value} {base : Heap}
theorem scMixed : FnScope ["_law_cell", "_law_at", "_law_one"] ["_law_cell", "_law_at"] (defScope sMixed) := ⟨rfl, rfl, rfl, by decide +kernel, rfl, by decide +kernel, by decide +kernel⟩
theorem ok_mixed {f : Addr} {fd : FuncData} (F : Fun K "_law_mixed" "_law_mixed" sMixed f fd) : FnOk P w K mg base CX0 1 f fd ["_law_cell", "_law_at"] spMixed := by
  refine F.ok scMixed (fun vs H Q E h => ?_) (fun cdv A outer s H vs Q E hr h => ?_)
  · obtain ⟨c, a, rfl, _⟩ := h
    rfl
  · obtain ⟨c, a, rfl, ha, hb, k⟩ := h
    refine ⟨_, pss_cons (ps_set (i := 2) scMixed.nd rfl (Or.inl rfl) (pe_op op_mod (pe_op op_add (pe_op op_add (pe_op op_mul (pe_op op_mod (pv 0) pe_int) pe_int)
      (pe_op op_mul (pe_op op_mul (pe_op op_add (pv 1) pe_int) (pe_op op_add (pv 1) pe_int)) pe_int)) pe_int) pe_int))
      (pss_one (ps_ret (pe_op op_fdiv (pe_op op_mod (pe_op op_mul (pv 2) (pv 2)) pe_int) pe_int))), ?_⟩
    refine ⟨_, rfl, _, _, rfl, rfl, (by show (0 : Int) < 2147483629; decide), _, _, rfl, rfl, .inr ⟨by decide, by decide⟩, _, rfl, _, _, rfl, rfl, _, rfl, _, _, rfl, rfl, _, _, rfl, rfl, .inl ⟨by omega, by omega⟩, _, _, rfl, rfl, .inr ⟨by decide, by decide⟩,
      _, _, rfl, rfl, _, _, rfl, rfl, _, _, rfl, rfl, (by show (0 : Int) < 2147483647; decide), ?_⟩
    refine ⟨_, rfl, _, rfl, _, _, rfl, rfl, .inl ⟨?_, ?_⟩, _, _, rfl, rfl, (by show (0 : Int) < 2147483629; decide), _, _, rfl, rfl, ⟨by decide, by decide⟩, k _⟩
    · have := Int.emod_nonneg (c % 2147483629 * 48271 + (a + 1) * (a + 1) * 7919 + 11) (show (2147483647 : Int) ≠ 0 by decide)
      omega
    · have := Int.emod_lt_of_pos (c % 2147483629 * 48271 + (a + 1) * (a + 1) * 7919 + 11) (show (0 : Int) < 2147483647 by decide)
      omega
theorem scNext : FnScope ["_law_deck_here", "_law_many", "_law_at"] ["_law_deck_here", "_law_many"] (defScope sNext) := ⟨rfl, rfl, rfl, by decide +kernel, rfl, by decide +kernel, by decide +kernel⟩
theorem ok_next {f : Addr} {fd : FuncData} (F : Fun K "_law_next" "_law_next" sNext f fd) (zL : mg "len" = none) (M : Cd P w K mg base 1 "_law_mixed" ["_law_cell", "_law_at"] spMixed) : FnOk P w K mg base CX0 2 f fd ["_law_deck_here", "_law_many"] spNext := by
  obtain ⟨fM, fdM, GM, mM, kM, bM⟩ := M
  refine F.ok scNext (fun vs H Q E h => ?_) (fun cdv A outer s H vs Q E hr h => ?_)
  · obtain ⟨d, f, m, n, rfl, _⟩ := h
    rfl
  · obtain ⟨d, f, m, n, rfl, hm, hn, ⟨a, wh, xs, hd, hf, a0, an, hx⟩, k⟩ := h
    have ndf : f ≠ d := fun z => by
      rw [z, hd] at hf
      have := congrArg (fun o => match o with | some (HO.lst (_ :: _ :: .ref _ :: _)) => true | _ => false) hf
      simp only at this
      cases xs with
      | nil => cases hf
      | cons x xs => cases xs with
        | nil => cases hf
        | cons y xs => cases xs with
          | nil => cases hf
          | cons z xs => cases hf
    refine ⟨_, pss_cons (ps_set (i := 2) scNext.nd rfl (Or.inl rfl) (pe_ix ix_list (pv 0) pe_int (fun _ _ => rfl)))
      (pss_cons (ps_asg (pe_op op_add (pv 2) pe_int) (pg_sub (pv 0) pe_int set_list))
      (pss_cons (ps_if (pt_cmpR op_lt (pv 2) (pe_callB call_len (by rfl) zL PySem.boot_len (pa_cons (pe_ix ix_list (pv 0) pe_int (fun _ _ => rfl)) pa_nil)) (nomark _))
        (pss_one (ps_ret (pe_op op_mod (pe_ix ix_list (pe_ix ix_list (pv 0) pe_int (fun _ _ => rfl)) (pv 2) (fun _ _ => rfl)) (pv 1)))) pss_nil)
      (pss_one (ps_ret (pe_op op_mod (pe_call GM hr rfl mM kM bM .nil pass0 (pa_cons (pe_ix ix_list (pv 0) pe_int (fun _ _ => rfl)) (pa_cons (pv 2) pa_nil))) (pv 1)))))), ?_⟩
    have hd2 : upd H d (.lst [.int (a + 1), .int wh, .ref f]) d = some (.lst [.int (a + 1), .int wh, .ref f]) := upd_same
    have hf2 : upd H d (.lst [.int (a + 1), .int wh, .ref f]) f = some (.lst (xs.map V.int)) := (upd_ne ndf).trans hf
    have hk : Kp [d] H (upd H d (.lst [.int (a + 1), .int wh, .ref f])) := (Kp.refl _ _).wr (List.mem_singleton.mpr rfl)
    have hD : Deck (upd H d (.lst [.int (a + 1), .int wh, .ref f])) d f (n + 1) := ⟨a + 1, wh, xs, hd2, hf2, by omega, by omega, hx⟩
    refine ⟨_, rfl, d, _, _, .int a, rfl, rfl, SqL.of hd, rfl, ?_⟩
    refine ⟨_, rfl, _, _, rfl, rfl, _, rfl, d, _, _, 0, rfl, rfl, hd, rfl, ?_⟩
    refine ⟨_, rfl, _, rfl, d, _, _, .ref f, rfl, rfl, SqL.of hd2, rfl, _, _, rfl, .inl ⟨_, SqL.of hf2, rfl⟩, _, _, rfl, rfl, _, rfl, ?_⟩
    refine ite2 (fun hl => ?_) (fun _ => ?_)
    · have hl := of_decide_eq_true hl
      rw [List.length_map] at hl
      have hj : a.toNat < xs.length := by omega
      have ha : ((a.toNat : Nat) : Int) = a := by omega
      refine ⟨_, rfl, d, _, _, .ref f, rfl, rfl, SqL.of hd2, rfl, _, rfl, f, _, _, .int (xs[a.toNat]), rfl, rfl, SqL.of hf2, ?_, _, rfl, _, _, rfl, rfl, hm, ?_⟩
      · have := atI_nat (xs := xs.map V.int) (j := a.toNat) (v := .int (xs[a.toNat])) (by simp [hj])
        rw [ha] at this
        exact this
      · exact k _ _ (Int.emod_nonneg _ (by omega)) (Int.emod_lt_of_pos _ hm) hk hD
    · refine ⟨_, rfl, d, _, _, .int wh, rfl, rfl, SqL.of hd2, rfl, _, rfl, wh, a, rfl, by omega, by omega, fun r => ?_⟩
      exact ⟨_, rfl, _, _, rfl, rfl, hm, k _ _ (Int.emod_nonneg _ (by omega)) (Int.emod_lt_of_pos _ hm) hk hD⟩
end
end Wn
namespace Wn
open PySem L2
section
variable {P : Program} {w : World} {K : PySem.W.Frag} {mg : Str → Option Value} {base : Heap}
theorem scDeck : FnScope ["_law_script", "_law_found", "_law_whole", "_law_k", "_law_rest", "_law_at"] ["_law_script"] (defScope sDeck) := ⟨rfl, rfl, rfl, by decide +kernel, rfl, by decide +kernel, by decide +kernel⟩
def restOf (σ : L2.St) (_ : Hp) : Nat := match σ[4]? with | some (some (V.int r)) => r.toNat | _ => 0
theorem ok_deck {f : Addr} {fd : FuncData} (F : Fun K "_law_deck" "_law_deck" sDeck f fd) (zL : mg "len" = none) (zR : mg "range" = none) (zM : mg "min" = none) (M : Cd P w K mg base 1 "_law_mixed" ["_law_cell", "_law_at"] spMixed) : FnOk P w K mg base CX0 2 f fd ["_law_script"] (spDeck K) := by
  obtain ⟨fM, fdM, GM, mM, kM, bM⟩ := M
  refine F.ok scDeck (fun vs H Q E h => ?_) (fun cdv A outer s H vs Q E hr h => ?_)
  · obtain ⟨a, ns, rfl, _⟩ := h
    rfl
  · obtain ⟨a, ns, rfl, hS, hlen, k⟩ := h
    refine ⟨_, pss_cons (ps_set (i := 1) scDeck.nd rfl (Or.inl rfl) (pe_lst pa_nil)) (pss_cons (ps_set (i := 2) scDeck.nd rfl (Or.inl rfl) (pe_callB call_len (by rfl) zL PySem.boot_len (pa_cons (pv 0) pa_nil)))
      (pss_cons (ps_for PassesOwn.never rfl (pi_range1 rfl zR (pa_cons (pe_callB (call_min2 rfl) (by rfl) zM (by decide +kernel) (pa_cons (pe_callB call_len (by rfl) zL PySem.boot_len (pa_cons (pv 0) pa_nil)) (pa_cons pe_int pa_nil))) pa_nil)) (pg_name (i := 3) scDeck.nd rfl (Or.inr rfl))
        (pss_cons (ps_set (i := 4) scDeck.nd rfl (Or.inr rfl) (pe_ix ix_list (pv 0) (pv 3) (fun _ _ => rfl)))
        (pss_cons (ps_if (pt_cmpR op_ge (pv 4) (pe_op op_pow pe_int pe_int) (nomark _))
          (pss_one (ps_while PassesOwn.never (PW.pt (pw_and (pt_cmpR op_gt (pv 4) pe_int (nomark _)) (pw_and1 (pt_cmpR op_lt (pe_callB call_len (by rfl) zL PySem.boot_len (pa_cons (pv 1) pa_nil)) pe_int (nomark _)))))
            (pss_cons (ps_expr (pe_bm PySem.F.plainAttrs_list PySem.F.slot_list_append PySem.F.type_list_append mt_append (pv 1) (pa_cons (pe_op op_mod (pv 4) pe_int) pa_nil)))
            (pss_one (ps_set (i := 4) scDeck.nd rfl (Or.inr rfl) (pe_op op_fdiv (pv 4) pe_int))))))
          (pss_one (ps_expr (pe_bm PySem.F.plainAttrs_list PySem.F.slot_list_extend PySem.F.type_list_extend mt_extend (pv 1) (pa_cons
            (pe_lc (own := [("_law_at", 5)]) (g := gName 5) (tt := tYes) rfl scDeck.nd (pi_range1 rfl zR (pa_cons pe_int pa_nil)) (blkOk_by (N := ["_law_script", "_law_found", "_law_whole", "_law_k", "_law_rest", "_law_at"]) (sc := defScope sDeck) (by decide +kernel))
              (fun _ _ _ _ _ => pg_name (i := 5) scDeck.nd rfl (Or.inl rfl)) (fun _ _ _ _ _ => pts_nil)
              (fun _ _ _ _ _ => pe_call GM hr rfl mM kM bM .nil pass0 (pa_cons (pv 4) (pa_cons (pe_op op_add (pe_op op_mul pe_int (pv 3)) (pv 5)) pa_nil)))) pa_nil)))))
        (pss_one (ps_set (i := 2) scDeck.nd rfl (Or.inl rfl) (pe_op op_mod (pe_op op_add (pe_op op_mul (pv 2) pe_int) (pe_ix ix_list (pv 0) (pv 3) (fun _ _ => rfl))) pe_int))))))
      (pss_one (ps_ret (pe_lst (pa_cons pe_int (pa_cons (pv 2) (pa_cons (pv 1) pa_nil)))))))), ?_⟩
    refine ⟨Nat.zero_le _, fun l hl => ?_⟩
    have s0 : Same H (upd H l (.lst [])) := (L2.Same.refl H).new hl
    have hS0 := s0.seq hS
    refine ⟨_, rfl, _, _, rfl, .inl ⟨_, hS0, rfl⟩, ?_⟩
    refine ⟨_, rfl, _, _, rfl, .inl ⟨_, hS0, rfl⟩, _, _, rfl, _, rfl, ?_⟩
    have hn63 : (ns.map V.int).length ≤ 63 := by rw [List.length_map]; exact hlen
    refine ⟨by split <;> omega, by split <;> omega, ?_⟩
    refine for_range (fun i σ H' => ∃ (wh : Int) (v3 v4 v5 : Option V) (xs : List Int), σ = [some (.ref a), some (.ref l), some (.int wh), v3, v4, v5] ∧ Same H H' ∧ H' l = some (.lst (xs.map V.int)) ∧ xs.length ≤ 3000 + 6 * i)
      ⟨_, _, _, _, [], rfl, s0, upd_same, Nat.zero_le _⟩ ?_ ?_
    · rintro i σ H1 hi ⟨wh, v3, v4, v5, xs, rfl, s1, hl1, hxs⟩
      have hi2 : i < ns.length ∧ i < 63 := by
        rw [List.length_map] at hi
        split at hi <;> omega
      have hat : atI (ns.map V.int) (0 + (i : Int)) = some (V.int ns[i]) := by
        rw [Int.zero_add]
        exact atI_nat (by simp [hi2.1])
      have hS1 := s1.seq hS
      -- what is left of a turn
      have fin : ∀ (H2 : Hp) (v4 v5 : Option V) (ys : List Int), Same H H2 → H2 l = some (.lst (ys.map V.int)) → ys.length ≤ 3000 + 6 * (i + 1) → ∃ (wh' : Int) (v3 v4' v5' : Option V) (xs : List Int),
          [some (V.ref a), some (.ref l), some (.int ((wh * 31 + ns[i]) % 2147483647)), some (.int (0 + (i : Int))), v4, v5] = [some (.ref a), some (.ref l), some (.int wh'), v3, v4', v5'] ∧ Same H H2 ∧ H2 l = some (.lst (xs.map V.int)) ∧ xs.length ≤ 3000 + 6 * (i + 1) :=
        fun H2 v4 v5 ys a b c => ⟨_, _, _, _, ys, rfl, a, b, c⟩
      refine ⟨_, rfl, _, rfl, a, _, _, _, rfl, rfl, hS1, hat, ?_⟩
      refine ⟨_, rfl, _, _, rfl, rfl, ⟨by decide, by decide, by decide⟩, _, _, rfl, rfl, _, rfl, ?_⟩
      refine ite2 (fun _ => ?_) (fun _ => ?_)
      · refine while_m (fun σ H' => ∃ (r : Int) (xs : List Int), σ = [some (.ref a), some (.ref l), some (.int wh), some (.int (0 + (i : Int))), some (.int r), v5] ∧ Same H H' ∧ H' l = some (.lst (xs.map V.int)) ∧ xs.length ≤ 3000 + 6 * (i + 1)) restOf
          ⟨_, xs, rfl, s1, hl1, by omega⟩ ?_
        rintro m σ H2 hm ⟨r, ys, rfl, s2, hl2, hys⟩
        have hm' : m = r.toNat := hm
        refine ⟨_, rfl, _, _, rfl, rfl, _, rfl, ?_⟩
        refine ite2 (fun hr0 => ?_) (fun _ => ?_)
        · have hr0 := of_decide_eq_true hr0
          refine ⟨_, rfl, _, _, rfl, .inl ⟨_, SqL.of hl2, rfl⟩, _, _, rfl, rfl, _, rfl, ?_⟩
          refine ite2 (fun hb => ?_) (fun _ => ?_)
          · have hb := of_decide_eq_true hb
            rw [List.length_map] at hb
            refine ⟨fun σ' H' => (∃ (r : Int) (xs : List Int), σ' = [some (.ref a), some (.ref l), some (.int wh), some (.int (0 + (i : Int))), some (.int r), v5] ∧ Same H H' ∧ H' l = some (.lst (xs.map V.int)) ∧ xs.length ≤ 3000 + 6 * (i + 1)) ∧ restOf σ' H' < m, fun σ' H' q => ⟨_, q.2, rfl, q.1⟩, ?_⟩
            refine ⟨_, rfl, .inl ⟨rfl, _, SqL.of hl2⟩, _, rfl, _, _, rfl, rfl, (by show (0 : Int) < 1000000; decide), l, _, _, rfl, rfl, hl2, (by rw [List.length_map]; exact Nat.lt_of_le_of_lt (show ys.length ≤ 3000 by omega) (by decide)), ?_⟩
            refine ⟨_, rfl, _, _, rfl, rfl, ⟨by decide, by decide⟩, ?_⟩
            refine ⟨⟨_, ys ++ [r % 1000000], rfl, s2.wrn hl, ?_, ?_⟩, ?_⟩
            · rw [upd_same, List.map_append]
              rfl
            · rw [List.length_append, List.length_singleton]
              omega
            · show (r / 1000000).toNat < m
              omega
          · exact ⟨_, rfl, _, _, rfl, rfl, .inr ⟨by decide, by decide⟩, _, rfl, _, rfl, a, _, _, _, rfl, rfl, s2.seq hS, hat, _, _, rfl, rfl, _, _, rfl, rfl, (by show (0 : Int) < 2147483647; decide), fin H2 _ _ ys s2 hl2 hys⟩
        · exact ⟨_, rfl, _, _, rfl, rfl, .inr ⟨by decide, by decide⟩, _, rfl, _, rfl, a, _, _, _, rfl, rfl, s2.seq hS, hat, _, _, rfl, rfl, _, _, rfl, rfl, (by show (0 : Int) < 2147483647; decide), fin H2 _ _ ys s2 hl2 hys⟩
      · refine ⟨_, rfl, .inl ⟨rfl, _, SqL.of hl1⟩, 6, rfl, by decide, by decide, fun D hD => ?_⟩
        have nDl : l ≠ D := ne_of_none hl1 hD
        refine lc_range (lo := 0) (n := 6) (fun j H' => ∃ ys : List Int, H' D = some (.lst (ys.map V.int)) ∧ ys.length = j ∧ Same H1 H' ) ⟨[], upd_same, rfl, (L2.Same.refl H1).new hD⟩ ?_ ?_
        · rintro j H2 hj ⟨ys, hD2, hys, s2⟩
          refine ⟨rfl, _, rfl, _, rfl, _, _, rfl, rfl, .inl ⟨by decide, by decide⟩, _, rfl, _, _, rfl, rfl, _, _, rfl, by omega, by omega, fun r => ?_⟩
          refine ⟨_, hD2, by rw [List.length_map, hys]; exact Nat.lt_trans hj (by decide), ys ++ [r], ?_, by rw [List.length_append, hys]; rfl, s2.wrn hD⟩
          rw [upd_same, List.map_append]
          rfl
        · rintro H2 ⟨ys, hD2, hys, s2⟩
          refine ⟨l, D, _, _, rfl, rfl, s2 _ _ hl1, hD2, ?_, ?_⟩
          · rw [List.length_map, List.length_map, hys]
            exact Nat.le_trans (show xs.length + 6 ≤ 6000 by omega) (by decide)
          · refine ⟨_, rfl, _, _, rfl, rfl, .inr ⟨by decide, by decide⟩, _, rfl, _, rfl, a, _, _, _, rfl, rfl, ((s1.trans s2).wrn hl).seq hS, hat, _, _, rfl, rfl, _, _, rfl, rfl, (by show (0 : Int) < 2147483647; decide), fin _ _ _ (xs ++ ys) ((s1.trans s2).wrn hl) ?_ ?_⟩
            · rw [upd_same, List.map_append]
            · rw [List.length_append, hys]
              omega
    · rintro σ H1 ⟨wh, v3, v4, v5, xs, rfl, s1, hl1, hxs⟩
      refine ⟨_, rfl, _, rfl, (by show 3 ≤ sizeLine; decide), fun d hd => ?_⟩
      have hn : ns.length ≤ 63 := hlen
      have hxs' : xs.length ≤ 100000 := by
        rw [List.length_map] at hxs
        split at hxs <;> omega
      refine k _ d l (s1.free hd) hl (s1.new hd) ⟨0, wh, xs, upd_same, ?_, Int.le_refl _, Int.le_refl _, hxs'⟩
      rw [upd_ne (ne_of_none hl1 hd)]
      exact hl1
end
end Wn
namespace Wn
open PySem L2
section
variable {P : Program} {w : World} {K : PySem.W.Frag} {mg : Str → Option Value} {base : Heap}
end
end Wn

namespace Wn
open PySem L2
section
variable {α : Type}
theorem lookA_cons {p : Int × α} {m : List (Int × α)} {k : Int} : lookA (p :: m) k = if p.1 = k then some p.2 else lookA m k := by
  unfold lookA
  rw [List.find?_cons]
  by_cases e : p.1 = k <;> simp [e]
theorem lookA_map (k j : Int) (x : α) : ∀ m : List (Int × α), lookA (m.map fun kv => if kv.1 = k then (kv.1, x) else kv) j = (lookA m j).map fun y => if j = k then x else y
  | [] => rfl
  | p :: m => by
    rw [List.map_cons, lookA_cons, lookA_cons, lookA_map k j x m]
    by_cases e : p.1 = k
    · by_cases f : p.1 = j
      · simp [e, f, show j = k by omega]
      · simp only [e, if_true]
        rw [if_neg (by omega), if_neg (by omega)]
    · by_cases f : p.1 = j
      · simp [e, f, show ¬ j = k by omega]
      · simp [e, f]
theorem lookA_snoc (k j : Int) (x : α) : ∀ m : List (Int × α), lookA (m ++ [(k, x)]) j = match lookA m j with | some y => some y | none => if k = j then some x else none
  | [] => by
    show lookA [(k, x)] j = _
    rw [lookA_cons]
    rfl
  | p :: m => by
    show lookA (p :: (m ++ [(k, x)])) j = _
    rw [lookA_cons, lookA_cons, lookA_snoc k j x m]
    by_cases e : p.1 = j <;> simp [e]
theorem any_lookA (k : Int) : ∀ m : List (Int × α), (m.any fun kv => decide (kv.1 = k)) = (lookA m k).isSome
  | [] => rfl
  | p :: m => by
    rw [List.any_cons, lookA_cons, any_lookA k m]
    by_cases e : p.1 = k <;> simp [e]
theorem lookA_put (m : List (Int × α)) (k j : Int) (x : α) : lookA (putA m k x) j = if j = k then some x else lookA m j := by
  unfold putA
  rw [any_lookA]
  cases e : lookA m k with
  | none =>
    rw [if_neg (by simp), lookA_snoc]
    by_cases f : j = k
    · subst f
      simp [e]
    · rw [if_neg f]
      cases lookA m j with
      | none => simp [show ¬ k = j by omega]
      | some y => rfl
  | some z =>
    rw [if_pos (by simp), lookA_map]
    by_cases f : j = k
    · subst f
      rw [e]
      simp
    · rw [if_neg f]
      cases lookA m j with
      | none => rfl
      | some y => simp [f]
theorem mem_keys {k : Int} {m : List (Int × α)} : k ∈ m.map (·.1) ↔ (lookA m k).isSome = true := by
  constructor
  · intro h
    obtain ⟨x, e, _⟩ := lookA_mem h
    rw [e]
    rfl
  · intro h
    rw [← any_lookA, List.any_eq_true] at h
    obtain ⟨p, hp, e⟩ := h
    rw [decide_eq_true_eq] at e
    exact List.mem_map.mpr ⟨p, hp, e⟩
theorem keys_put_in {m : List (Int × α)} {k : Int} {x : α} (h : (lookA m k).isSome = true) : (putA m k x).map (·.1) = m.map (·.1) := by
  unfold putA
  rw [any_lookA, if_pos h, List.map_map]
  refine List.map_congr_left fun p _ => ?_
  show (if p.1 = k then (p.1, x) else p).1 = p.1
  split <;> rfl
theorem keys_put_new {m : List (Int × α)} {k : Int} {x : α} (h : lookA m k = none) : (putA m k x).map (·.1) = m.map (·.1) ++ [k] := by
  unfold putA
  rw [any_lookA, if_neg (by rw [h]; simp), List.map_append]
  rfl
theorem nodup_put {m : List (Int × α)} {k : Int} {x : α} (h : (m.map (·.1)).Nodup) : ((putA m k x).map (·.1)).Nodup := by
  cases e : lookA m k with
  | none =>
    rw [keys_put_new e, List.nodup_append]
    refine ⟨h, by simp, fun a ha b hb => ?_⟩
    rw [List.mem_singleton] at hb
    subst hb
    intro z
    subst z
    rw [mem_keys, e] at ha
    cases ha
  | some y =>
    rw [keys_put_in (by rw [e]; rfl)]
    exact h
end
theorem eq_of_lt : ∀ (a b : List Int), a.Pairwise (· < ·) → b.Pairwise (· < ·) → (∀ x, x ∈ a ↔ x ∈ b) → a = b
  | [], [], _, _, _ => rfl
  | [], y :: b, _, _, h => by
    have := (h y).mpr List.mem_cons_self
    cases this
  | x :: a, [], _, _, h => by
    have := (h x).mp List.mem_cons_self
    cases this
  | x :: a, y :: b, ha, hb, h => by
    rw [List.pairwise_cons] at ha hb
    have e : x = y := by
      have h1 := (h x).mp List.mem_cons_self
      have h2 := (h y).mpr List.mem_cons_self
      rcases List.mem_cons.mp h1 with h1 | h1
      · exact h1
      · rcases List.mem_cons.mp h2 with h2 | h2
        · exact h2.symm
        · have := ha.1 _ h2
          have := hb.1 _ h1
          omega
    subst e
    congr 1
    refine eq_of_lt a b ha.2 hb.2 fun z => ?_
    constructor
    · intro hz
      have h1 := (h z).mp (List.mem_cons_of_mem _ hz)
      rcases List.mem_cons.mp h1 with h1 | h1
      · have := ha.1 _ hz
        omega
      · exact h1
    · intro hz
      have h1 := (h z).mpr (List.mem_cons_of_mem _ hz)
      rcases List.mem_cons.mp h1 with h1 | h1
      · have := hb.1 _ hz
        omega
      · exact h1
theorem lt_of_nodup : ∀ {a : List Int}, a.Pairwise (· ≤ ·) → a.Nodup → a.Pairwise (· < ·)
  | [], _, _ => List.Pairwise.nil
  | x :: a, h, n => by
    rw [List.pairwise_cons] at h
    rw [List.nodup_cons] at n
    rw [List.pairwise_cons]
    refine ⟨fun y hy => ?_, lt_of_nodup h.2 n.2⟩
    have h1 := h.1 y hy
    have h2 : x ≠ y := fun z => n.1 (z ▸ hy)
    omega
end Wn

namespace Wn
open PySem L2
/-- a new tuple is appended to a list of data -/
theorem push_tup {K : PySem.W.Frag} {G : Hp} {t fa : Addr} {zs vs : List V} {U ds : List PyData} (hG : G fa = some (.lst zs)) (rG : RpL K G U zs) (nt : G t = none) (rv : RpL K G ds vs) :
    upd G t (.tup vs) fa = some (.lst zs) ∧ LstAt K (upd (upd G t (.tup vs)) fa (.lst (zs ++ [.ref t]))) fa (U ++ [.tuple ds]) ∧ TK G (upd (upd G t (.tup vs)) fa (.lst (zs ++ [.ref t]))) ∧ Kp [fa] G (upd (upd G t (.tup vs)) fa (.lst (zs ++ [.ref t]))) := by
  have s6 : Same G (upd G t (.tup vs)) := (L2.Same.refl _).new nt
  have rt : Rp K (upd G t (.tup vs)) (.tuple ds) (.ref t) := Rp.tup upd_same (RpL.tk (TK.of s6) _ _ rv)
  have tE : TK (upd G t (.tup vs)) (upd (upd G t (.tup vs)) fa (.lst (zs ++ [.ref t]))) := (TK.refl _).wr (s6 _ _ hG) rfl
  exact ⟨s6 _ _ hG, ⟨_, upd_same, RpL.tk tE _ _ (RpL.app (RpL.tk (TK.of s6) _ _ rG) (RpL.cons rt RpL.nil))⟩, (TK.of s6).trans tE, (Kp.of s6).wr (List.mem_singleton.mpr rfl)⟩
/-- a thing that stands is appended -/
theorem push_old {K : PySem.W.Frag} {G : Hp} {fa : Addr} {zs : List V} {v : V} {U : List PyData} {d : PyData} (hG : G fa = some (.lst zs)) (rG : RpL K G U zs) (rv : Rp K G d v) :
    LstAt K (upd G fa (.lst (zs ++ [v]))) fa (U ++ [d]) ∧ TK G (upd G fa (.lst (zs ++ [v]))) ∧ Kp [fa] G (upd G fa (.lst (zs ++ [v]))) := by
  have tE : TK G (upd G fa (.lst (zs ++ [v]))) := (TK.refl _).wr hG rfl
  exact ⟨⟨_, upd_same, RpL.tk tE _ _ (RpL.app rG (RpL.cons rv RpL.nil))⟩, tE, (Kp.refl _ _).wr (List.mem_singleton.mpr rfl)⟩
/-- flat data: the very values -/
theorem RpL.flat {β : Type} {K : PySem.W.Frag} {H : Hp} {f : β → PyData} {g : β → V} (h : ∀ b v, Rp K H (f b) v → v = g b) : ∀ {L : List β} {ys : List V}, RpL K H (L.map f) ys → ys = L.map g
  | [], ys, r => by
    rw [List.map_nil] at r
    unfold RpL at r
    exact r
  | b :: L, ys, r => by
    rw [List.map_cons] at r
    unfold RpL at r
    obtain ⟨v, t, rfl, h1, h2⟩ := r
    rw [h b v h1, RpL.flat h h2]
    rfl
theorem Rp.bool_eq {K : PySem.W.Frag} {H : Hp} {b : Bool} {v : V} (r : Rp K H (.bool b) v) : v = .bl b := by
  unfold Rp at r
  exact r
theorem Rp.str_eq {K : PySem.W.Frag} {H : Hp} {z : Str} {v : V} (r : Rp K H (.str z) v) : v = .str z := by
  unfold Rp at r
  exact r
theorem Rp.int_eq {K : PySem.W.Frag} {H : Hp} {i : Int} {v : V} (r : Rp K H (.int i) v) : v = .int i := by
  unfold Rp at r
  exact r
theorem Rp.bool {K : PySem.W.Frag} {H : Hp} {b : Bool} : Rp K H (.bool b) (.bl b) := by
  unfold Rp
  rfl
mutual
theorem Rp.dp {K : PySem.W.Frag} {H : Hp} : ∀ (d : PyData) (v : V), Rp K H d v → Dp K H v d
  | .none, _, h => by
    unfold Rp at h
    subst h
    exact .non
  | .bool b, _, h => by
    unfold Rp at h
    subst h
    exact .bl b
  | .int i, _, h => by
    unfold Rp at h
    subst h
    exact .int i
  | .str s, _, h => by
    unfold Rp at h
    subst h
    exact .str s
  | .tuple ds, v, h => by
    unfold Rp at h
    obtain ⟨a, xs, rfl, hs, hl⟩ := h
    exact .tup hs (RpL.dp ds xs hl)
  | .list _, _, h => by
    unfold Rp at h
    exact h.elim
  | .dict _, _, h => by
    unfold Rp at h
    exact h.elim
theorem RpL.dp {K : PySem.W.Frag} {H : Hp} : ∀ (ds : List PyData) (xs : List V), RpL K H ds xs → DpAll K H xs ds
  | [], xs, h => by
    unfold RpL at h
    subst h
    exact .nil
  | d :: ds, xs, h => by
    unfold RpL at h
    obtain ⟨v, r, rfl, h1, h2⟩ := h
    exact .cons (Rp.dp d v h1) (RpL.dp ds r h2)
end
end Wn

namespace Wn
open PySem L2
section
variable {X : Cx} {ι : Type} {C f : ι → Addr} {fd : ι → FuncData} {sp : ι → Sp} {o e : Expr} {es : List Expr} {m : Str} {ta : TE} {t : TA} {CX : CXT} {k : Nat} {ps : List Str} {ds : List Value} {dvs : List V} {E : XK} {apos pos : Pos}
/-- o.m(..), o of one of some classes -/
def tMethI (C : ι → Addr) (m : Str) (sp : ι → Sp) (dvs : List V) (E : XK) (ta : TE) (t : TA) : TE := fun σ H Q => ta σ H fun x H1 => ∃ i a dx fs, x = .ref a ∧ H1 a = some (.ins (C i) dx fs) ∧ fs.lookup m = none ∧
  t σ H1 fun vs H2 => sp i (x :: (vs ++ dvs)) H2 Q E
theorem pe_methI {pl : Sem Bool} (he : PE X o ta) (c : ∀ i, Cls X.K (C i)) (hm : ∀ i, Meth X.K (C i) m (f i)) (F : ∀ i, FnOk X.prog X.w X.K X.mg X.base CX k (f i) (fd i) ps (sp i)) (hr : Room k X.A) (hb : ∀ i, Binds X.K (fd i) ps ds) (hd : Vals dvs ds) (hx : Passes CX X E) (ha : PA X (e :: es) t)
    (hst : starEach (e :: es) X.env = (false, eval e X.env) :: starEach es X.env := by rfl) (hpl : (backTo pos (starEach es X.env)).any (·.1) = false := by rfl)
    (ht : eval (.Call (.Attribute o m apos) (e :: es) [] pos) X.env = (do
      let ov ← eval o X.env
      standAt apos.atName
      let (f, first) ← holding [ov] (getMethod ov m pl)
      callWith pos f first (backTo pos (starEach (e :: es) X.env)) (backToKw pos (keywordEach [] X.env))) := by rfl) :
    PE X (.Call (.Attribute o m apos) (e :: es) [] pos) (tMethI C m sp dvs E ta t) := by
  refine ⟨fun pins s σ H Q I h => ?_⟩
  refine PySem.W.methodCall_KW (pl := pl) (thn (he.run pins s σ H _ I h) fun u s1 ⟨x, H1, I1, rx, i, a, dx, fs, ex, ea, l, q⟩ => ?_) ht
  subst ex
  obtain rfl : u = Value.ref a := rx
  refine getmeth_ok I1 ea (c i) (hm i) l ?_
  refine PySem.W.callWith_K (first := [.ref a]) (h₀ := X.base) I.ok.mod.kin (hm i).kp (thn (ha.run pos pins s1 σ H1 _ I1 q) fun us s2 ⟨vs, H2, I2, r, q2⟩ => ⟨I2.kIn, ?_⟩) hst hpl
  exact run_fn (us := .ref a :: us) (vs := .ref a :: vs) (F i) hr (hb i) hd hx I2 (.cons rfl r) q2
theorem pe_methI0 {pl : Sem Bool} (he : PE X o ta) (c : ∀ i, Cls X.K (C i)) (hm : ∀ i, Meth X.K (C i) m (f i)) (F : ∀ i, FnOk X.prog X.w X.K X.mg X.base CX k (f i) (fd i) ps (sp i)) (hr : Room k X.A) (hb : ∀ i, Binds X.K (fd i) ps ds) (hd : Vals dvs ds) (hx : Passes CX X E)
    (ht : eval (.Call (.Attribute o m apos) [] [] pos) X.env = (do
      let ov ← eval o X.env
      standAt apos.atName
      let (f, first) ← holding [ov] (getMethod ov m pl)
      callWith pos f first (backTo pos (starEach [] X.env)) (backToKw pos (keywordEach [] X.env))) := by rfl) :
    PE X (.Call (.Attribute o m apos) [] [] pos) (tMethI C m sp dvs E ta tNil) := by
  refine ⟨fun pins s σ H Q I h => ?_⟩
  refine PySem.W.methodCall_KW (pl := pl) (thn (he.run pins s σ H _ I h) fun u s1 ⟨x, H1, I1, rx, i, a, dx, fs, ex, ea, l, q⟩ => ?_) ht
  subst ex
  obtain rfl : u = Value.ref a := rx
  refine getmeth_ok I1 ea (c i) (hm i) l ?_
  exact PySem.W.callWith_K0 (first := [.ref a]) I1.kIn (hm i).kp (run_fn (us := [.ref a]) (vs := [.ref a]) (F i) hr (hb i) hd hx I1 (.cons rfl .nil) q)
end
section
variable {X : Cx} {K : PySem.W.Frag}
/-- len(s), s a set of tuples -/
def rLenSetT (K : PySem.W.Frag) (P : Program) (w : World) : List V → Hp → VK → Prop := fun xs H Q => ∃ a L, xs = [V.ref a] ∧ H a = some (SetTO P w a L) ∧ (∀ p ∈ L, SqT K H p.1 (p.2.map V.int)) ∧ ((L.map (·.2)).Nodup → Q (.int L.length) H)
theorem call_lenSetT : CallR X (.builtin "len") (rLenSetT X.K X.prog X.w) := by
  intro pins s σ H vs us Q I r h
  obtain ⟨a, L, rfl, ha, hk, q⟩ := h
  have R0 : SetT0 X.prog X.w s.heap a L := (I.hok a _ ha).1
  obtain ⟨es, ep, t, R⟩ := R0.full fun p hp => I.isT (hk p hp)
  rw [Vals.ref1 r]
  obtain ⟨o, ho, hex, hd⟩ := R.ob
  have hn := R.size
  have hf := R.few
  exact call_len_set ho hex hd R.fits (by omega) ⟨.int L.length, H, I.tok _, ⟨_, by rw [hn]⟩, q R.nd⟩
theorem lenSetTK {P : Program} {w : World} (hK : X.K = K) (hP : X.prog = P) (hw : X.w = w) : CallR X (.builtin "len") (rLenSetT K P w) := hK ▸ hP ▸ hw ▸ call_lenSetT
theorem setOfTK {P : Program} {w : World} (hK : X.K = K) (hP : X.prog = P) (hw : X.w = w) (hc : X.calm = true) (hu : X.A.units + 64 < cLine) : CallR X (.type "set") (rSetOfT K P w) := hK ▸ hP ▸ hw ▸ cr_setOfT hc hu
theorem sortedTK {P : Program} {w : World} (hK : X.K = K) (hP : X.prog = P) (hw : X.w = w) (hc : X.calm = true) : CallR X (.builtin "sorted") (rSortedT K P w) := hK ▸ hP ▸ hw ▸ cr_sortedT hc
theorem sortUK {d : Nat} {B : Int} (hK : X.K = K) (hd : 1 ≤ d) : CallR X (.builtin "sorted") (rSortU K d B) := hK ▸ cr_sortT hd
theorem inDK (hK : X.K = K) (hu : X.A.units + 65 < cLine) : OpR X (compareOp .In) (rInD K) := hK ▸ op_inD hu
theorem notInDK (hK : X.K = K) (hu : X.A.units + 65 < cLine) : OpR X (compareOp .NotIn) (rNotInD K) := hK ▸ op_notInD hu
end
end Wn
namespace Wn
open PySem L2
section
variable {X : Cx} {K : PySem.W.Frag}
theorem lenSetIK {a : Expr} {ta : TE} {p p2 q pos : Pos} (hK : X.K = K) (hc : X.calm = true) (hg : Gl X "len") (hm : X.mg "len" = none) (hg2 : Gl X "set") (hm2 : X.mg "set" = none) (ha : PE X a ta)
    (na : starEach [a] X.env = (false, eval a X.env) :: starEach [] X.env := by rfl) : PE X (.Call (.Name "len" p) [.Call (.Name "set" p2) [a] [] q] [] pos) (tLenSetI K ta) := hK ▸ pe_lenSetI hc hg hm hg2 hm2 ha na
end
end Wn

namespace Wn
open PySem L2
abbrev sFInit : Stmt := inClass (top 5) 0
abbrev sFWord : Stmt := inClass (top 5) 1
abbrev sFKeep : Stmt := inClass (top 5) 2
abbrev sFTakes : Stmt := inClass (top 5) 3
abbrev sOWord : Stmt := inClass (top 7) 0
abbrev sOKeep : Stmt := inClass (top 7) 1
abbrev sTWord : Stmt := inClass (top 8) 0
abbrev sTKeep : Stmt := inClass (top 8) 1
abbrev sFof : Stmt := top 9
/-- what a filter knows -/
inductive FS
  | pl
  | on (L : List (Int × Int))
  | tu (m : List (Int × Int))
inductive Kd
  | pl | on | tu
def onE (e : Int × Int) : List Key × V := ([Sum.inl e.1, Sum.inl e.2], .bl true)
def FS.kd : FS → Kd
  | .pl => .pl
  | .on _ => .on
  | .tu _ => .tu
def FS.word : FS → Int → Int → Str
  | .pl, _, _ => "heard"
  | .on L, s, n => if (s, n) ∈ L then "again" else "heard"
  | .tu m, s, n => match lookA m s with
    | some k => if n ≤ k then "late" else "heard"
    | none => "heard"
def FS.keep : FS → Int → Int → FS
  | .pl, _, _ => .pl
  | .on L, s, n => .on (L ++ [(s, n)])
  | .tu m, s, n => .tu (putA m s n)
def FS.len : FS → Nat
  | .pl => 0
  | .on L => L.length
  | .tu m => m.length
def FS.take (s : FS) (sd n : Int) : FS := if s.word sd n = "heard" then s.keep sd n else s
def FS.init : Kd → FS
  | .pl => .pl
  | .on => .on []
  | .tu => .tu []
theorem word_on {L : List (Int × Int)} {s n : Int} : (FS.on L).word s n = if (s, n) ∈ L then ("again" : Str) else ("heard" : Str) := rfl
theorem word_tu {m : List (Int × Int)} {s n : Int} : (FS.tu m).word s n = match lookA m s with | some k => if n ≤ k then ("late" : Str) else ("heard" : Str) | none => ("heard" : Str) := rfl
theorem FS.kd_keep (s : FS) (a b : Int) : (s.keep a b).kd = s.kd := by cases s <;> rfl
theorem FS.kd_take (s : FS) (a b : Int) : (s.take a b).kd = s.kd := by
  unfold FS.take
  split
  · exact s.kd_keep a b
  · rfl
theorem FS.len_take (s : FS) (a b : Int) : (s.take a b).len ≤ s.len + 1 := by
  unfold FS.take
  split
  · cases s with
    | pl => exact Nat.zero_le _
    | on L =>
      show (L ++ [(a, b)]).length ≤ L.length + 1
      rw [List.length_append]
      exact Nat.le_refl _
    | tu m => exact putA_len _ _ _
  · omega
def FKn (K : PySem.W.Frag) (H : Hp) (q : Addr) : FS → Prop
  | .pl => H q = some (.dK [])
  | .on L => H q = some (.dT (L.map onE))
  | .tu m => DictAt PyData.int K H q m
def FAt (K : PySem.W.Frag) (C : Addr) (H : Hp) (p q : Addr) (s : FS) : Prop := (∃ dx, H p = some (.ins C dx [("known", .ref q)])) ∧ FKn K H q s
section
variable {K : PySem.W.Frag} {C : Addr} {H H' : Hp}
theorem FKn.kp {M : List Addr} {q : Addr} {s : FS} (h : FKn K H q s) (k : Kp M H H') (t : TK H H') (n : q ∉ M) : FKn K H' q s := by
  cases s with
  | pl => exact k _ _ n h
  | on L => exact k _ _ n h
  | tu m => exact DictAt.kp h k t n
theorem FAt.kp {M : List Addr} {p q : Addr} {s : FS} (h : FAt K C H p q s) (k : Kp M H H') (t : TK H H') (n1 : p ∉ M) (n2 : q ∉ M) : FAt K C H' p q s := by
  obtain ⟨⟨dx, a⟩, b⟩ := h
  exact ⟨⟨dx, k _ _ n1 a⟩, b.kp k t n2⟩
theorem FAt.same {p q : Addr} {s : FS} (h : FAt K C H p q s) (s' : Same H H') : FAt K C H' p q s :=
  h.kp (M := []) (Kp.of s') (TK.of s') (by simp) (by simp)
/-- where the dict lies there is a dict -/
theorem FKn.dict {q : Addr} {s : FS} (h : FKn K H q s) : ∃ o, H q = some o ∧ ((∃ z, o = .dK z) ∨ ∃ z, o = .dT z) := by
  cases s with
  | pl => exact ⟨_, h, .inl ⟨_, rfl⟩⟩
  | on L => exact ⟨_, h, .inr ⟨_, rfl⟩⟩
  | tu m =>
    obtain ⟨kvs, a, _⟩ := h
    exact ⟨_, a, .inl ⟨_, rfl⟩⟩
theorem FAt.nl {p q l : Addr} {s : FS} {zs : List V} (h : FAt K C H p q s) (hl : H l = some (.lst zs)) : p ≠ l ∧ q ≠ l := by
  obtain ⟨⟨dx, a⟩, b⟩ := h
  obtain ⟨o, ho, d⟩ := b.dict
  refine ⟨ne_of a hl (by intro z; cases z), fun z => ?_⟩
  rw [z, hl] at ho
  rcases d with ⟨z, d⟩ | ⟨z, d⟩ <;> rw [d] at ho <;> cases ho
theorem FAt.npq {p q : Addr} {s : FS} (h : FAt K C H p q s) : p ≠ q := by
  obtain ⟨⟨dx, a⟩, b⟩ := h
  obtain ⟨o, ho, d⟩ := b.dict
  intro z
  rw [z, ho] at a
  rcases d with ⟨z, d⟩ | ⟨z, d⟩ <;> rw [d] at a <;> cases a
end
theorem on_iff {e : Int × Int} {s n : Int} : (onE e).1 = [Sum.inl s, Sum.inl n] ↔ e = (s, n) := by
  unfold onE
  constructor
  · intro h
    simp only [List.cons.injEq, Sum.inl.injEq, and_true] at h
    exact Prod.ext h.1 h.2
  · intro h
    rw [h]
theorem valV_on (s n : Int) : ∀ L : List (Int × Int), valV (L.map onE) [Sum.inl s, Sum.inl n] = if (s, n) ∈ L then some (.bl true) else none
  | [] => rfl
  | e :: L => by
    rw [List.map_cons]
    by_cases h : e = (s, n)
    · rw [valV_pos (on_iff.mpr h), if_pos (by rw [h]; exact List.mem_cons_self)]
      rfl
    · rw [valV_neg (fun z => h (on_iff.mp z)), valV_on s n L]
      have : (s, n) ∈ e :: L ↔ (s, n) ∈ L := by
        rw [List.mem_cons]
        exact ⟨fun z => z.resolve_left fun q => h q.symm, .inr⟩
      simp only [this]
theorem putK_on {s n : Int} {L : List (Int × Int)} (h : (s, n) ∉ L) : putK (L.map onE) [Sum.inl s, Sum.inl n] (.bl true) = (L ++ [(s, n)]).map onE := by
  unfold putK
  rw [valV_any, valV_on, if_neg h, List.map_append]
  rfl
def spFInit (K : PySem.W.Frag) (C : Addr) (s0 : FS) : Sp := fun vs H Q _ => ∃ (p dx : Addr), vs = [.ref p] ∧ H p = some (.ins C dx []) ∧
  ∀ (H' : Hp) (q : Addr), H q = none → Kp [p] H H' → FAt K C H' p q s0 → Q .non H'
def spWord (K : PySem.W.Frag) (C : Addr) (κ : Kd) : Sp := fun vs H Q _ => ∃ (p q : Addr) (sd n : Int) (s : FS), vs = [.ref p, .int sd, .int n] ∧ FAt K C H p q s ∧ s.kd = κ ∧
  ∀ H' : Hp, Same H H' → Q (.str (s.word sd n)) H'
def spKeep (K : PySem.W.Frag) (C : Addr) (κ : Kd) : Sp := fun vs H Q _ => ∃ (p q : Addr) (sd n : Int) (s : FS), vs = [.ref p, .int sd, .int n] ∧ FAt K C H p q s ∧ s.kd = κ ∧ s.word sd n = "heard" ∧ s.len ≤ 1000 ∧
  ∀ (H' : Hp) (q' : Addr), (q' = q ∨ H q' = none) → Kp [p, q] H H' → FAt K C H' p q' (s.keep sd n) → Q .non H'
def spTakes (K : PySem.W.Frag) (C : Addr) (κ : Kd) : Sp := fun vs H Q _ => ∃ (p q : Addr) (sd n : Int) (s : FS), vs = [.ref p, .int sd, .int n] ∧ FAt K C H p q s ∧ s.kd = κ ∧ s.len ≤ 1000 ∧
  ∀ (H' : Hp) (q' : Addr), (q' = q ∨ H q' = none) → Kp [p, q] H H' → FAt K C H' p q' (s.take sd n) → Q (.str (s.word sd n)) H'
structure FN (K : PySem.W.Frag) (C : Addr) : Prop where
  cl : Cls K C
  nK : NoAttr K C "known"
structure FW (mg : Str → Option Value) : Prop where
  heard : ∃ t, mg "HEARD" = some (.str "heard" t)
  again : ∃ t, mg "AGAIN" = some (.str "again" t)
  late : ∃ t, mg "LATE" = some (.str "late" t)

section
variable {P : Program} {w : World} {K : PySem.W.Frag} {mg : Str → Option Value} {base : Heap}
theorem scFInit : FnScope ["self"] ["self"] (defScope sFInit) := ⟨rfl, rfl, rfl, by decide +kernel, rfl, by decide +kernel, by decide +kernel⟩
theorem ok_finit {f C : Addr} {fd : FuncData} {s0 : FS} (F : Fun K "__init__" "Filter.__init__" sFInit f fd) (T : FN K C) (hs : s0 = .pl ∨ s0 = .tu []) : FnOk P w K mg base CX0 1 f fd ["self"] (spFInit K C s0) := by
  refine F.ok scFInit (fun vs H Q E h => ?_) (fun cdv A outer s H vs Q E hr h => ?_)
  · obtain ⟨p, dx, rfl, _⟩ := h
    rfl
  · obtain ⟨p, dx, rfl, hp, k⟩ := h
    refine ⟨_, (pss_one (ps_fld (pv 0) pe_dnewK rfl)), ?_⟩
    intro q hq
    have npq : p ≠ q := ne_of_none hp hq
    refine ⟨_, rfl, p, C, dx, [], rfl, (by rw [upd_ne npq]; exact hp), T.cl, T.nK, (by show 0 < 1000; decide), ?_⟩
    have hd : FKn K (upd (upd H q (.dK [])) p (.ins C dx (putF "known" (.ref q) []))) q s0 := by
      have e : upd (upd H q (.dK [])) p (.ins C dx (putF "known" (.ref q) [])) q = some (.dK []) := by rw [upd_ne npq.symm, upd_same]
      rcases hs with rfl | rfl
      · exact e
      · exact ⟨_, e, rfl⟩
    exact k _ q hq (((Kp.refl _ _).new hq).wr (List.mem_singleton.mpr rfl)) ⟨⟨dx, upd_same⟩, hd⟩
theorem ok_finitT {f C : Addr} {fd : FuncData} (F : Fun K "__init__" "Filter.__init__" sFInit f fd) (T : FN K C) : FnOk P w K mg base CX0 1 f fd ["self"] (spFInit K C (.on [])) := by
  refine F.ok scFInit (fun vs H Q E h => ?_) (fun cdv A outer s H vs Q E hr h => ?_)
  · obtain ⟨p, dx, rfl, _⟩ := h
    rfl
  · obtain ⟨p, dx, rfl, hp, k⟩ := h
    refine ⟨_, (pss_one (ps_fld (pv 0) pe_dnewT rfl)), ?_⟩
    intro q hq
    have npq : p ≠ q := ne_of_none hp hq
    refine ⟨_, rfl, p, C, dx, [], rfl, (by rw [upd_ne npq]; exact hp), T.cl, T.nK, (by show 0 < 1000; decide), ?_⟩
    exact k _ q hq (((Kp.refl _ _).new hq).wr (List.mem_singleton.mpr rfl)) ⟨⟨dx, upd_same⟩, by show upd _ _ _ q = _; rw [upd_ne npq.symm, upd_same]; rfl⟩
theorem scFWord : FnScope ["self", "sender", "number"] ["self", "sender", "number"] (defScope sFWord) := ⟨rfl, rfl, rfl, by decide +kernel, rfl, by decide +kernel, by decide +kernel⟩
theorem ok_fword {f C : Addr} {fd : FuncData} (F : Fun K "word_for" "Filter.word_for" sFWord f fd) (W : FW mg) : FnOk P w K mg base CX0 1 f fd ["self", "sender", "number"] (spWord K C .pl) := by
  obtain ⟨tH, mH⟩ := W.heard
  refine F.ok scFWord (fun vs H Q E h => ?_) (fun cdv A outer s H vs Q E hr h => ?_)
  · obtain ⟨p, q, sd, n, s, rfl, _⟩ := h
    rfl
  · obtain ⟨p, q, sd, n, s, rfl, hf, hk, k⟩ := h
    refine ⟨_, (pss_one (ps_ret (pe_glob (v := .str "heard") rfl mH ⟨_, rfl⟩))), ?_⟩
    cases s with
    | pl => exact k _ (L2.Same.refl _)
    | on L => cases hk
    | tu m => cases hk
theorem scOWord : FnScope ["self", "sender", "number"] ["self", "sender", "number"] (defScope sOWord) := ⟨rfl, rfl, rfl, by decide +kernel, rfl, by decide +kernel, by decide +kernel⟩
theorem ok_oword {f C : Addr} {fd : FuncData} (F : Fun K "word_for" "Once.word_for" sOWord f fd) (T : FN K C) (W : FW mg) : FnOk P w K mg base CX0 1 f fd ["self", "sender", "number"] (spWord K C .on) := by
  obtain ⟨tH, mH⟩ := W.heard
  obtain ⟨tA, mA⟩ := W.again
  refine F.ok scOWord (fun vs H Q E h => ?_) (fun cdv A outer s H vs Q E hr h => ?_)
  · obtain ⟨p, q, sd, n, s, rfl, _⟩ := h
    rfl
  · obtain ⟨p, q, sd, n, s, rfl, ⟨⟨dx, hp⟩, hq⟩, hk, k⟩ := h
    have hu := hu_of hr
    refine ⟨_, (pss_cons (ps_if (pt_cmp (pc_din hu (pe_tup (pa_cons (pv 1) (pa_cons (pv 2) pa_nil))) (fldK (K := K) rfl (pv 0) rfl)))
       (pss_one (ps_ret (pe_glob (v := .str "again") rfl mA ⟨_, rfl⟩)))
       pss_nil)
       (pss_one (ps_ret (pe_glob (v := .str "heard") rfl mH ⟨_, rfl⟩)))), ?_⟩
    cases s with
    | pl => cases hk
    | tu m => cases hk
    | on L =>
      have hq : H q = some (.dT (L.map onE)) := hq
      refine ⟨_, rfl, _, rfl, (by show 2 ≤ sizeLine; decide), fun t ht => ?_⟩
      have s1 : Same H (upd H t (.tup [.int sd, .int n])) := (L2.Same.refl H).new ht
      refine ⟨_, rfl, p, C, dx, _, _, rfl, s1 _ _ hp, T.cl, T.nK, fld1, q, _, rfl, DGet.t (k := [Sum.inl sd, Sum.inl n]) (s1 _ _ hq) upd_same, ?_⟩
      rw [valV_on]
      have k' := k _ s1
      rw [word_on] at k'
      by_cases e : (sd, n) ∈ L
      · rw [if_pos e] at k' ⊢
        exact ⟨_, rfl, iteT k'⟩
      · rw [if_neg e] at k' ⊢
        exact ⟨_, rfl, iteF k'⟩
theorem scTWord : FnScope ["self", "sender", "number"] ["self", "sender", "number"] (defScope sTWord) := ⟨rfl, rfl, rfl, by decide +kernel, rfl, by decide +kernel, by decide +kernel⟩
theorem ok_tword {f C : Addr} {fd : FuncData} (F : Fun K "word_for" "Turn.word_for" sTWord f fd) (T : FN K C) (W : FW mg) : FnOk P w K mg base CX0 1 f fd ["self", "sender", "number"] (spWord K C .tu) := by
  obtain ⟨tH, mH⟩ := W.heard
  obtain ⟨tL, mL⟩ := W.late
  refine F.ok scTWord (fun vs H Q E h => ?_) (fun cdv A outer s H vs Q E hr h => ?_)
  · obtain ⟨p, q, sd, n, s, rfl, _⟩ := h
    rfl
  · obtain ⟨p, q, sd, n, s, rfl, ⟨⟨dx, hp⟩, hq⟩, hk, k⟩ := h
    have hu := hu_of hr
    refine ⟨_, (pss_cons (ps_if (PW.pt (pw_and (pt_cmp (pc_din hu (pv 1) (fldK (K := K) rfl (pv 0) rfl))) (pw_and1 (pt_cmpR op_le (pv 2) (pe_dget hu (fldK (K := K) rfl (pv 0) rfl) (pv 1) (fun _ _ => rfl)) (nomark _)))))
       (pss_one (ps_ret (pe_glob (v := .str "late") rfl mL ⟨_, rfl⟩)))
       pss_nil)
       (pss_one (ps_ret (pe_glob (v := .str "heard") rfl mH ⟨_, rfl⟩)))), ?_⟩
    cases s with
    | pl => cases hk
    | on m => cases hk
    | tu m =>
      obtain ⟨kvs, hq, hm⟩ := (show DictAt PyData.int K H q m from hq)
      have k' := k _ (L2.Same.refl _)
      rw [word_tu] at k'
      have g := DGet.k (k := Sum.inl sd) hq
      refine ⟨_, rfl, _, rfl, p, C, dx, _, _, rfl, hp, T.cl, T.nK, fld1, q, _, rfl, g, ?_⟩
      rcases hm.val (k := sd) with ⟨e1, e2⟩ | ⟨x, v, e1, e2, r⟩
      · rw [e1] at k'
        rw [e2]
        exact ⟨_, rfl, iteF (iteF k')⟩
      · rw [e1] at k'
        rw [e2]
        rw [e2] at g
        obtain rfl : v = .int x := by
          unfold Rp at r
          exact r
        refine ⟨_, rfl, iteT ?_⟩
        refine ⟨_, rfl, _, rfl, p, C, dx, _, _, rfl, hp, T.cl, T.nK, fld1, _, rfl, q, _, rfl, g, _, _, rfl, rfl, _, rfl, ?_⟩
        refine ite2 (fun hc => ?_) (fun hc => ?_)
        · have hc := of_decide_eq_true hc
          simp only [if_pos hc] at k'
          exact k'
        · have hc : ¬ n ≤ x := fun z => hc (decide_eq_true z)
          simp only [if_neg hc] at k'
          exact k'
theorem scFKeep : FnScope ["self", "sender", "number"] ["self", "sender", "number"] (defScope sFKeep) := ⟨rfl, rfl, rfl, by decide +kernel, rfl, by decide +kernel, by decide +kernel⟩
theorem ok_fkeep {f C : Addr} {fd : FuncData} (F : Fun K "keep" "Filter.keep" sFKeep f fd) (T : FN K C) : FnOk P w K mg base CX0 1 f fd ["self", "sender", "number"] (spKeep K C .pl) := by
  refine F.ok scFKeep (fun vs H Q E h => ?_) (fun cdv A outer s H vs Q E hr h => ?_)
  · obtain ⟨p, q, sd, n, s, rfl, _⟩ := h
    rfl
  · obtain ⟨p, q, sd, n, s, rfl, ⟨⟨dx, hp⟩, hq⟩, hk, hw, hl, k⟩ := h
    refine ⟨_, (pss_one (ps_fld (pv 0) pe_dnewK rfl)), ?_⟩
    cases s with
    | on L => cases hk
    | tu m => cases hk
    | pl =>
      intro q' hq'
      have npq : p ≠ q' := ne_of_none hp hq'
      refine ⟨_, rfl, p, C, dx, _, rfl, (by rw [upd_ne npq]; exact hp), T.cl, T.nK, (by show 1 < 1000; decide), ?_⟩
      rw [putF1]
      exact k _ q' (.inr hq') (((Kp.refl _ _).new hq').wr List.mem_cons_self) ⟨⟨dx, upd_same⟩, by show upd _ _ _ q' = _; rw [upd_ne npq.symm, upd_same]⟩
theorem scOKeep : FnScope ["self", "sender", "number"] ["self", "sender", "number"] (defScope sOKeep) := ⟨rfl, rfl, rfl, by decide +kernel, rfl, by decide +kernel, by decide +kernel⟩
theorem ok_okeep {f C : Addr} {fd : FuncData} (F : Fun K "keep" "Once.keep" sOKeep f fd) (T : FN K C) : FnOk P w K mg base CX0 1 f fd ["self", "sender", "number"] (spKeep K C .on) := by
  refine F.ok scOKeep (fun vs H Q E h => ?_) (fun cdv A outer s H vs Q E hr h => ?_)
  · obtain ⟨p, q, sd, n, s, rfl, _⟩ := h
    rfl
  · obtain ⟨p, q, sd, n, s, rfl, ⟨⟨dx, hp⟩, hq⟩, hk, hw, hl, k⟩ := h
    have hu := hu_of hr
    refine ⟨_, (pss_one (ps_dput hu (fldK (K := K) rfl (pv 0) rfl) (pe_tup (pa_cons (pv 1) (pa_cons (pv 2) pa_nil))) pe_bl rfl)), ?_⟩
    cases s with
    | pl => cases hk
    | tu m => cases hk
    | on L =>
      have hq : H q = some (.dT (L.map onE)) := hq
      have hne : p ≠ q := ne_of hp hq (by intro z; cases z)
      have nin : (sd, n) ∉ L := fun z => by
        have hw : (if (sd, n) ∈ L then ("again" : Str) else "heard") = "heard" := hw
        rw [if_pos z] at hw
        exact absurd hw (by decide)
      have sz : (L.map onE).length < sizeLine := by
        rw [List.length_map]
        exact Nat.lt_of_le_of_lt hl (by decide)
      refine ⟨_, rfl, p, C, dx, _, _, rfl, hp, T.cl, T.nK, fld1, _, rfl, _, rfl, (by show 2 ≤ sizeLine; decide), fun t ht => ?_⟩
      have s1 : Same H (upd H t (.tup [.int sd, .int n])) := (L2.Same.refl H).new ht
      refine ⟨q, _, rfl, DPut.t (k := [Sum.inl sd, Sum.inl n]) (s1 _ _ hq) upd_same sz, ?_⟩
      rw [putK_on nin]
      exact k _ q (.inl rfl) ((Kp.of s1).wr (List.mem_cons_of_mem _ (List.mem_singleton.mpr rfl))) ⟨⟨dx, by rw [upd_ne hne]; exact s1 _ _ hp⟩, upd_same⟩
theorem scTKeep : FnScope ["self", "sender", "number"] ["self", "sender", "number"] (defScope sTKeep) := ⟨rfl, rfl, rfl, by decide +kernel, rfl, by decide +kernel, by decide +kernel⟩
theorem ok_tkeep {f C : Addr} {fd : FuncData} (F : Fun K "keep" "Turn.keep" sTKeep f fd) (T : FN K C) : FnOk P w K mg base CX0 1 f fd ["self", "sender", "number"] (spKeep K C .tu) := by
  refine F.ok scTKeep (fun vs H Q E h => ?_) (fun cdv A outer s H vs Q E hr h => ?_)
  · obtain ⟨p, q, sd, n, s, rfl, _⟩ := h
    rfl
  · obtain ⟨p, q, sd, n, s, rfl, ⟨⟨dx, hp⟩, hq⟩, hk, hw, hl, k⟩ := h
    have hu := hu_of hr
    refine ⟨_, (pss_one (ps_dput hu (fldK (K := K) rfl (pv 0) rfl) (pv 1) (pv 2) rfl)), ?_⟩
    cases s with
    | pl => cases hk
    | on m => cases hk
    | tu m =>
      obtain ⟨kvs, hq, hm⟩ := (show DictAt PyData.int K H q m from hq)
      have hne : p ≠ q := ne_of hp hq (by intro z; cases z)
      have sz : kvs.length < sizeLine := by
        rw [hm.len]
        exact Nat.lt_of_le_of_lt hl (by decide)
      refine ⟨_, rfl, _, rfl, p, C, dx, _, _, rfl, hp, T.cl, T.nK, fld1, _, rfl, q, _, rfl, DPut.k (k := Sum.inl sd) hq sz, ?_⟩
      have t1 : TK H (upd H q (.dK (putK kvs (Sum.inl sd) (.int n)))) := (TK.refl _).wr hq rfl
      exact k _ q (.inl rfl) ((Kp.refl _ _).wr (List.mem_cons_of_mem _ (List.mem_singleton.mpr rfl))) ⟨⟨dx, by rw [upd_ne hne]; exact hp⟩, ⟨_, upd_same, (hm.tk t1).put Rp.int⟩⟩
theorem scFTakes : FnScope ["self", "sender", "number", "word"] ["self", "sender", "number"] (defScope sFTakes) := ⟨rfl, rfl, rfl, by decide +kernel, rfl, by decide +kernel, by decide +kernel⟩
theorem ok_takes {f C : Addr} {fd : FuncData} {κ : Kd} (F : Fun K "takes" "Filter.takes" sFTakes f fd) (T : FN K C) (W : FW mg) (cW : Md P w K mg base 1 C "word_for" ["self", "sender", "number"] (spWord K C κ)) (cP : Md P w K mg base 1 C "keep" ["self", "sender", "number"] (spKeep K C κ)) :
    FnOk P w K mg base CX0 2 f fd ["self", "sender", "number"] (spTakes K C κ) := by
  obtain ⟨tH, mH⟩ := W.heard
  obtain ⟨fW, fdW, GW, mW, bW⟩ := cW
  obtain ⟨fP, fdP, GP, mP, bP⟩ := cP
  refine F.ok scFTakes (fun vs H Q E h => ?_) (fun cdv A outer s H vs Q E hr h => ?_)
  · obtain ⟨p, q, sd, n, s, rfl, _⟩ := h
    rfl
  · obtain ⟨p, q, sd, n, s, rfl, hf, hk, hl, k⟩ := h
    have hr1 : Room 1 _ := hr
    obtain ⟨⟨dx, hp⟩, hq⟩ := id hf
    refine ⟨_, (pss_cons (ps_set (i := 3) scFTakes.nd rfl (Or.inl rfl) (pe_meth (pv 0) T.cl mW GW hr1 bW .nil pass0 (pa_cons (pv 1) (pa_cons (pv 2) pa_nil))))
       (pss_cons (ps_if (pt_cmpR op_eq (pv 3) (pe_glob (v := .str "heard") rfl mH ⟨_, rfl⟩) (nomark _))
       (pss_one (ps_expr (pe_meth (pv 0) T.cl mP GP hr1 bP .nil pass0 (pa_cons (pv 1) (pa_cons (pv 2) pa_nil)))))
       pss_nil)
       (pss_one (ps_ret (pv 3))))), ?_⟩
    refine ⟨_, rfl, p, dx, _, rfl, hp, fld1_ne (by decide), _, rfl, _, rfl, ?_⟩
    refine ⟨p, q, sd, n, s, rfl, hf, hk, fun H1 s1 => ?_⟩
    have hf1 := hf.same s1
    obtain ⟨⟨dx1, hp1⟩, hq1⟩ := id hf1
    refine ⟨_, rfl, rfl, _, rfl, ?_⟩
    refine ite2 (fun hc => ?_) (fun hc => ?_)
    · have e : s.word sd n = "heard" := by
        have := of_decide_eq_true hc
        injection this
      refine ⟨_, rfl, p, dx1, _, rfl, hp1, fld1_ne (by decide), _, rfl, _, rfl, ?_⟩
      refine ⟨p, q, sd, n, s, rfl, hf1, hk, e, hl, fun H2 q' hq' k2 f2 => ?_⟩
      refine ⟨_, rfl, k H2 q' (hq'.imp id fun z => ?_) ((Kp.of s1).trans k2) ?_⟩
      · cases e0 : H q' with
        | none => rfl
        | some o =>
          rw [s1 _ _ e0] at z
          cases z
      · unfold FS.take
        rw [if_pos e]
        exact f2
    · have e : ¬ s.word sd n = "heard" := fun z => hc (by rw [z]; rfl)
      refine ⟨_, rfl, k H1 q (.inl rfl) (Kp.of s1) ?_⟩
      unfold FS.take
      rw [if_neg e]
      exact hf1
def nmK : Kd → Str
  | .pl => "loose"
  | .on => "once"
  | .tu => "row"
def spFof (K : PySem.W.Frag) (C : Kd → Addr) : Sp := fun vs H Q _ => ∃ κ : Kd, vs = [.str (nmK κ)] ∧
  ∀ (H' : Hp) (p q : Addr), H p = none → H q = none → Same H H' → FAt K (C κ) H' p q (.init κ) → Q (.ref p) H'
theorem scFof : FnScope ["kind"] ["kind"] (defScope sFof) := ⟨rfl, rfl, rfl, by decide +kernel, rfl, by decide +kernel, by decide +kernel⟩
theorem ok_fof {f fL fO fT : Addr} {fd fdL fdO fdT : FuncData} {C : Kd → Addr} (F : Fun K "filter_of" "filter_of" sFof f fd)
    (ML : Mk K (C .pl) fL) (GL : FnOk P w K mg base CX0 1 fL fdL ["self"] (spFInit K (C .pl) .pl)) (bL : Binds K fdL ["self"] []) (mgL : mg "Loose" = some (.ref (C .pl)))
    (MO : Mk K (C .on) fO) (GO : FnOk P w K mg base CX0 1 fO fdO ["self"] (spFInit K (C .on) (.on []))) (bO : Binds K fdO ["self"] []) (mgO : mg "Once" = some (.ref (C .on)))
    (MT : Mk K (C .tu) fT) (GT : FnOk P w K mg base CX0 1 fT fdT ["self"] (spFInit K (C .tu) (.tu []))) (bT : Binds K fdT ["self"] []) (mgT : mg "Turn" = some (.ref (C .tu))) :
    FnOk P w K mg base CX0 3 f fd ["kind"] (spFof K C) := by
  refine F.ok scFof (fun vs H Q E h => ?_) (fun cdv A outer s H vs Q E hr h => ?_)
  · obtain ⟨κ, rfl, _⟩ := h
    rfl
  · obtain ⟨κ, rfl, k⟩ := h
    have made : ∀ (κ' : Kd), κ' = κ → ∀ x dx, H x = none → H dx = none → dx ≠ x → ∀ (H' : Hp) (q : Addr), upd (upd H dx (.own x)) x (.ins (C κ') dx []) q = none → Kp [x] (upd (upd H dx (.own x)) x (.ins (C κ') dx [])) H' → FAt K (C κ') H' x q (.init κ') → Q (.ref x) H' := by
      rintro κ' rfl x dx hx hdx ndx H' q hq kq f
      have s1 : Same H (upd (upd H dx (.own x)) x (.ins (C κ') dx [])) := ((L2.Same.refl H).new hdx).wrn hx
      refine k H' x q hx ?_ (fun b o e => kq _ _ (nin1 (ne_of_none e hx)) (s1 _ _ e)) f
      cases e : H q with
      | none => rfl
      | some o =>
        rw [s1 _ _ e] at hq
        cases hq
    refine ⟨_, (pss_cons (ps_if (pt_cmpR op_eq (pv 0) pe_str (nomark _))
       (pss_one (ps_ret (pe_make0 MO GO hr rfl mgO bO .nil pass0)))
       pss_nil)
       (pss_cons (ps_if (pt_cmpR op_eq (pv 0) pe_str (nomark _))
       (pss_one (ps_ret (pe_make0 MT GT hr rfl mgT bT .nil pass0)))
       pss_nil)
       (pss_one (ps_ret (pe_make0 ML GL hr rfl mgL bL .nil pass0))))), ?_⟩
    cases κ with
    | pl =>
      refine ⟨_, rfl, rfl, _, rfl, iteF ?_⟩
      refine ⟨_, rfl, rfl, _, rfl, iteF ?_⟩
      intro x dx hx hdx ndx
      exact ⟨x, dx, rfl, upd_same, fun H' q hq kq f => ⟨rfl, made .pl rfl x dx hx hdx ndx H' q hq kq f⟩⟩
    | on =>
      refine ⟨_, rfl, rfl, _, rfl, iteT ?_⟩
      intro x dx hx hdx ndx
      exact ⟨x, dx, rfl, upd_same, fun H' q hq kq f => ⟨rfl, made .on rfl x dx hx hdx ndx H' q hq kq f⟩⟩
    | tu =>
      refine ⟨_, rfl, rfl, _, rfl, iteF ?_⟩
      refine ⟨_, rfl, rfl, _, rfl, iteT ?_⟩
      intro x dx hx hdx ndx
      exact ⟨x, dx, rfl, upd_same, fun H' q hq kq f => ⟨rfl, made .tu rfl x dx hx hdx ndx H' q hq kq f⟩⟩
end
end Wn

namespace Wn
open PySem L2
abbrev PL := List (Int × Int)
def stepF (st : FS × PL) (e : Int × Int) : FS × PL := if st.1.word e.1 e.2 = "heard" then (st.1.keep e.1 e.2, st.2 ++ [e]) else st
def runF (s0 : FS) (L : PL) : FS × PL := L.foldl stepF (s0, [])
theorem runF_snoc (s0 : FS) (L : PL) (e : Int × Int) : runF s0 (L ++ [e]) = stepF (runF s0 L) e := by
  unfold runF
  rw [List.foldl_append]
  rfl
theorem stepF_fst (st : FS × PL) (e : Int × Int) : (stepF st e).1 = st.1.take e.1 e.2 := by
  unfold stepF FS.take
  split <;> rfl
theorem stepF_snd (st : FS × PL) (e : Int × Int) : (stepF st e).2 = if st.1.word e.1 e.2 = "heard" then st.2 ++ [e] else st.2 := by
  unfold stepF
  split <;> rfl
theorem fold_len (L : PL) : ∀ st : FS × PL, (L.foldl stepF st).1.len ≤ st.1.len + L.length ∧ (L.foldl stepF st).2.length ≤ st.2.length + L.length ∧ (L.foldl stepF st).1.kd = st.1.kd := by
  induction L with
  | nil => exact fun st => ⟨Nat.le_refl _, Nat.le_refl _, rfl⟩
  | cons e L ih =>
    intro st
    rw [List.foldl_cons, List.length_cons]
    obtain ⟨h1, h2, h3⟩ := ih (stepF st e)
    have h4 := FS.len_take st.1 e.1 e.2
    have h5 := FS.kd_take st.1 e.1 e.2
    rw [← stepF_fst] at h4 h5
    have h6 : (stepF st e).2.length ≤ st.2.length + 1 := by
      rw [stepF_snd]
      split
      · rw [List.length_append]
        exact Nat.le_refl _
      · omega
    exact ⟨by omega, by omega, h3.trans h5⟩
theorem fold_pl : ∀ (L A : PL), L.foldl stepF (.pl, A) = (.pl, A ++ L)
  | [], A => by rw [List.append_nil]; rfl
  | e :: L, A => by
    rw [List.foldl_cons]
    show L.foldl stepF (.pl, A ++ [e]) = _
    rw [fold_pl L, List.append_assoc]
    rfl
theorem run_pl (L : PL) : (runF (.init .pl) L).2 = L := by
  show (L.foldl stepF (.pl, [])).2 = L
  rw [fold_pl]
  rfl
theorem fold_on : ∀ (L A : PL), A.Nodup → ∃ B : PL, L.foldl stepF (.on A, A) = (.on B, B) ∧ B.Nodup ∧ (∀ e, e ∈ B ↔ e ∈ A ∨ e ∈ L) ∧ ((A ++ L).Nodup → B = A ++ L)
  | [], A, h => ⟨A, rfl, h, fun e => by simp, fun _ => (List.append_nil A).symm⟩
  | e :: L, A, h => by
    rw [List.foldl_cons]
    by_cases he : e ∈ A
    · have e1 : stepF (.on A, A) e = (.on A, A) := by
        have hw : (FS.on A).word e.1 e.2 = "again" := by
          rw [word_on, if_pos he]
        unfold stepF
        rw [if_neg (by show ¬ (FS.on A).word e.1 e.2 = "heard"; rw [hw]; decide)]
      rw [e1]
      obtain ⟨B, h1, h2, h3, h4⟩ := fold_on L A h
      refine ⟨B, h1, h2, fun x => ?_, fun hn => ?_⟩
      · rw [h3 x, List.mem_cons]
        constructor
        · rintro (z | z)
          · exact .inl z
          · exact .inr (.inr z)
        · rintro (z | rfl | z)
          · exact .inl z
          · exact .inl he
          · exact .inr z
      · rw [List.nodup_append] at hn
        exact absurd rfl (hn.2.2 e he e List.mem_cons_self)
    · have e1 : stepF (.on A, A) e = (.on (A ++ [e]), A ++ [e]) := by
        have hw : (FS.on A).word e.1 e.2 = "heard" := by
          rw [word_on, if_neg he]
        unfold stepF
        rw [if_pos (show (FS.on A, A).1.word e.1 e.2 = "heard" from hw)]
        rfl
      rw [e1]
      have hA : (A ++ [e]).Nodup := by
        rw [List.nodup_append]
        refine ⟨h, by simp, fun a ha b hb => ?_⟩
        rw [List.mem_singleton] at hb
        subst hb
        exact fun z => he (z ▸ ha)
      obtain ⟨B, h1, h2, h3, h4⟩ := fold_on L (A ++ [e]) hA
      refine ⟨B, h1, h2, fun x => ?_, fun hn => ?_⟩
      · rw [h3 x, List.mem_append, List.mem_singleton, List.mem_cons, or_assoc]
      · have e2 : A ++ e :: L = A ++ [e] ++ L := by simp
        rw [e2] at hn ⊢
        exact h4 hn
theorem run_on (L : PL) : (runF (.init .on) L).2.Nodup ∧ (∀ e, e ∈ (runF (.init .on) L).2 ↔ e ∈ L) ∧ (L.Nodup → (runF (.init .on) L).2 = L) := by
  obtain ⟨B, h1, h2, h3, h4⟩ := fold_on L [] List.nodup_nil
  have e : runF (.init .on) L = (.on B, B) := h1
  rw [e]
  exact ⟨h2, fun e => by rw [h3 e]; simp, fun h => h4 h⟩
def numsOf (A : PL) (s : Int) : List Int := (A.filter fun e => decide (e.1 = s)).map (·.2)
theorem numsOf_snoc_eq (A : PL) (e : Int × Int) : numsOf (A ++ [e]) e.1 = numsOf A e.1 ++ [e.2] := by
  unfold numsOf
  rw [List.filter_append, List.map_append]
  congr 1
  simp
theorem numsOf_snoc_ne {s : Int} (A : PL) (e : Int × Int) (h : ¬ e.1 = s) : numsOf (A ++ [e]) s = numsOf A s := by
  unfold numsOf
  rw [List.filter_append, List.map_append]
  simp [h]
theorem mem_nums {A : PL} {s n : Int} : n ∈ numsOf A s ↔ (s, n) ∈ A := by
  unfold numsOf
  rw [List.mem_map]
  constructor
  · rintro ⟨e, he, rfl⟩
    rw [List.mem_filter] at he
    have := of_decide_eq_true he.2
    subst this
    exact he.1
  · intro h
    exact ⟨(s, n), List.mem_filter.mpr ⟨h, decide_eq_true rfl⟩, rfl⟩
/-- what the row filter's list A is for the letters L that came -/
structure RowOk (m : PL) (A L : PL) : Prop where
  look : ∀ s, lookA m s = (numsOf A s).getLast?
  rise : ∀ s, (numsOf A s).Pairwise (· < ·)
  first : ∀ s, (numsOf A s).head? = (numsOf L s).head?
  most : ∀ s n, n ∈ numsOf L s → ∃ k, (numsOf A s).getLast? = some k ∧ n ≤ k
  sub : ∀ e ∈ A, e ∈ L
theorem pw_snoc {l : List Int} {x : Int} (h : l.Pairwise (· < ·)) (hx : ∀ k, l.getLast? = some k → k < x) : (l ++ [x]).Pairwise (· < ·) := by
  rw [List.pairwise_append]
  refine ⟨h, by simp, fun a ha b hb => ?_⟩
  rw [List.mem_singleton] at hb
  subst hb
  cases e : l.getLast? with
  | none =>
    rw [List.getLast?_eq_none_iff] at e
    subst e
    cases ha
  | some k =>
    have hk := hx k e
    obtain ⟨ys, rfl⟩ := List.getLast?_eq_some_iff.mp e
    rw [List.mem_append, List.mem_singleton] at ha
    rcases ha with ha | rfl
    · have := (List.pairwise_append.mp h).2.2 a ha k (List.mem_singleton.mpr rfl)
      omega
    · exact hk
theorem tu_word {m : PL} {s n : Int} : (FS.tu m).word s n = "heard" ↔ ∀ k, lookA m s = some k → k < n := by
  rw [word_tu]
  cases e : lookA m s with
  | none => exact ⟨fun _ k z => (by cases z), fun _ => rfl⟩
  | some k =>
    simp only [Option.some.injEq]
    by_cases h : n ≤ k
    · rw [if_pos h]
      constructor
      · intro z
        exact absurd z (by decide)
      · intro z
        have := z k rfl
        omega
    · rw [if_neg h]
      simp only [true_iff]
      omega
theorem RowOk.step {m A L : PL} (R : RowOk m A L) (e : Int × Int) : ∃ m' A', stepF (.tu m, A) e = (.tu m', A') ∧ RowOk m' A' (L ++ [e]) ∧ ((∀ k, (numsOf A e.1).getLast? = some k → k < e.2) → A' = A ++ [e]) := by
  unfold stepF
  have hw := tu_word (m := m) (s := e.1) (n := e.2)
  rw [R.look] at hw
  by_cases h : ∀ k, (numsOf A e.1).getLast? = some k → k < e.2
  · simp only [if_pos (hw.mpr h)]
    refine ⟨putA m e.1 e.2, A ++ [e], rfl, ⟨fun s => ?_, fun s => ?_, fun s => ?_, fun s n hn => ?_, fun x hx => ?_⟩, fun _ => rfl⟩
    · rw [lookA_put]
      by_cases es : s = e.1
      · subst es
        rw [if_pos rfl, numsOf_snoc_eq, List.getLast?_concat]
      · rw [if_neg es, numsOf_snoc_ne _ _ (fun z => es z.symm)]
        exact R.look s
    · by_cases es : e.1 = s
      · subst es
        rw [numsOf_snoc_eq]
        exact pw_snoc (R.rise _) h
      · rw [numsOf_snoc_ne _ _ es]
        exact R.rise s
    · by_cases es : e.1 = s
      · subst es
        rw [numsOf_snoc_eq, numsOf_snoc_eq, List.head?_append, List.head?_append, R.first]
      · rw [numsOf_snoc_ne _ _ es, numsOf_snoc_ne _ _ es]
        exact R.first s
    · by_cases es : e.1 = s
      · subst es
        rw [numsOf_snoc_eq] at hn ⊢
        rw [List.getLast?_concat]
        refine ⟨e.2, rfl, ?_⟩
        rw [List.mem_append, List.mem_singleton] at hn
        rcases hn with hn | hn
        · obtain ⟨k, h1, h2⟩ := R.most _ n hn
          have := h k h1
          omega
        · omega
      · rw [numsOf_snoc_ne _ _ es] at hn ⊢
        exact R.most s n hn
    · rw [List.mem_append] at hx ⊢
      exact hx.imp (R.sub x) id
  · simp only [if_neg (fun z => h (hw.mp z))]
    refine ⟨m, A, rfl, ⟨R.look, R.rise, fun s => ?_, fun s n hn => ?_, fun x hx => List.mem_append_left _ (R.sub x hx)⟩, fun z => absurd z h⟩
    · by_cases es : e.1 = s
      · subst es
        rw [numsOf_snoc_eq, List.head?_append, ← R.first]
        cases e1 : (numsOf A e.1).head? with
        | some _ => rfl
        | none =>
          rw [List.head?_eq_none_iff] at e1
          exact absurd (fun k hk => by rw [e1] at hk; cases hk) h
      · rw [numsOf_snoc_ne _ _ es]
        exact R.first s
    · by_cases es : e.1 = s
      · subst es
        rw [numsOf_snoc_eq, List.mem_append, List.mem_singleton] at hn
        rcases hn with hn | rfl
        · exact R.most _ n hn
        · cases e1 : (numsOf A e.1).getLast? with
          | none => exact absurd (fun k hk => by rw [e1] at hk; cases hk) h
          | some k =>
            refine ⟨k, rfl, ?_⟩
            by_cases hk : e.2 ≤ k
            · exact hk
            · exact absurd (fun j hj => by rw [e1] at hj; cases hj; omega) h
      · rw [numsOf_snoc_ne _ _ es] at hn
        exact R.most s n hn
theorem fold_tu : ∀ (L A L0 m : PL), RowOk m A L0 → ∃ m' A', L.foldl stepF (.tu m, A) = (.tu m', A') ∧ RowOk m' A' (L0 ++ L) ∧ (((A ++ L).map (·.2)).Pairwise (· < ·) → A' = A ++ L)
  | [], A, L0, m, R => ⟨m, A, rfl, by rw [List.append_nil]; exact R, fun _ => (List.append_nil A).symm⟩
  | e :: L, A, L0, m, R => by
    rw [List.foldl_cons]
    obtain ⟨m1, A1, h1, R1, h2⟩ := R.step e
    rw [h1]
    obtain ⟨m2, A2, h3, R2, h4⟩ := fold_tu L A1 (L0 ++ [e]) m1 R1
    rw [List.append_assoc] at R2
    refine ⟨m2, A2, h3, R2, fun hp => ?_⟩
    have e2 : A ++ e :: L = A ++ [e] ++ L := by simp
    have e1 : A1 = A ++ [e] := h2 fun k hk => by
      have hm : k ∈ numsOf A e.1 := List.mem_of_getLast? hk
      rw [mem_nums] at hm
      rw [List.map_append, List.pairwise_append] at hp
      exact hp.2.2 k (List.mem_map.mpr ⟨_, hm, rfl⟩) e.2 (by rw [List.map_cons]; exact List.mem_cons_self)
    subst e1
    rw [e2] at hp ⊢
    exact h4 hp
theorem run_tu (L : PL) : ∃ m, RowOk m (runF (.init .tu) L).2 L ∧ ((L.map (·.2)).Pairwise (· < ·) → (runF (.init .tu) L).2 = L) := by
  obtain ⟨m, A, h1, R, h2⟩ := fold_tu L [] [] [] ⟨fun _ => rfl, fun _ => List.Pairwise.nil, fun _ => rfl, (fun _ _ h => by cases h), (fun _ h => by cases h)⟩
  have e : runF (.init .tu) L = (.tu m, A) := h1
  rw [e]
  exact ⟨m, R, h2⟩
def p2D (e : Int × Int) : PyData := .tuple [.int e.1, .int e.2]
theorem p2D_inv {K : PySem.W.Frag} {H : Hp} {e : Int × Int} {u : V} (r : Rp K H (p2D e) u) : ∃ a, u = .ref a ∧ SqT K H a [.int e.1, .int e.2] := by
  unfold p2D Rp at r
  obtain ⟨a, xs, rfl, ha, hl⟩ := r
  unfold RpL at hl
  obtain ⟨v0, r0, rfl, h0, hl⟩ := hl
  unfold RpL at hl
  obtain ⟨v1, r1, rfl, h1, hl⟩ := hl
  unfold RpL at hl
  subst hl
  unfold Rp at h0 h1
  subst h0 h1
  exact ⟨a, rfl, ha⟩
theorem RpL.perm {β : Type} {enc : β → PyData} {K : PySem.W.Frag} {H : Hp} {xs ys : List V} (p : ys.Perm xs) : ∀ L : List β, RpL K H (L.map enc) xs → ∃ L' : List β, L'.Perm L ∧ RpL K H (L'.map enc) ys := by
  induction p with
  | nil =>
    intro L h
    exact ⟨L, .refl _, h⟩
  | @cons x l1 l2 p ih =>
    intro L h
    cases L with
    | nil =>
      rw [List.map_nil] at h
      unfold RpL at h
      cases h
    | cons b L =>
      rw [List.map_cons] at h
      unfold RpL at h
      obtain ⟨v, r, e, h1, h2⟩ := h
      cases e
      obtain ⟨L', p', h'⟩ := ih L h2
      exact ⟨b :: L', p'.cons b, RpL.cons h1 h'⟩
  | @swap x y l =>
    intro L h
    cases L with
    | nil =>
      rw [List.map_nil] at h
      unfold RpL at h
      cases h
    | cons b L =>
      rw [List.map_cons] at h
      unfold RpL at h
      obtain ⟨v, r, e, h1, h2⟩ := h
      cases e
      cases L with
      | nil =>
        rw [List.map_nil] at h2
        unfold RpL at h2
        cases h2
      | cons c L =>
        rw [List.map_cons] at h2
        unfold RpL at h2
        obtain ⟨v, r, e, h3, h4⟩ := h2
        cases e
        exact ⟨c :: b :: L, .swap b c L, RpL.cons h3 (RpL.cons h1 h4)⟩
  | trans p1 p2 ih1 ih2 =>
    intro L h
    obtain ⟨L1, q1, h1⟩ := ih2 L h
    obtain ⟨L2, q2, h2⟩ := ih1 L1 h1
    exact ⟨L2, q2.trans q1, h2⟩
def cdP (e : Int × Int) : Int := e.1 * 64 + e.2
/-- two rows of pairs, both rising by their code, of the same pairs -/
theorem eq_of_code {X Y : PL} (b : ∀ e ∈ X, 0 ≤ e.2 ∧ e.2 < 64) (c : ∀ e ∈ Y, 0 ≤ e.2 ∧ e.2 < 64) (hX : X.Nodup) (hY : Y.Nodup) (sX : X.Pairwise fun x y => cdP x ≤ cdP y) (sY : Y.Pairwise fun x y => cdP x ≤ cdP y) (h : ∀ e, e ∈ X ↔ e ∈ Y) : X = Y := by
  have inj : ∀ x y : Int × Int, (0 ≤ x.2 ∧ x.2 < 64) → (0 ≤ y.2 ∧ y.2 < 64) → cdP x = cdP y → x = y := by
    intro x y hx hy e
    unfold cdP at e
    exact Prod.ext (by omega) (by omega)
  have rise : ∀ {Z : PL}, (∀ e ∈ Z, 0 ≤ e.2 ∧ e.2 < 64) → Z.Nodup → (Z.Pairwise fun x y => cdP x ≤ cdP y) → (Z.map cdP).Pairwise (· < ·) := by
    intro Z hb hn hs
    rw [List.pairwise_map]
    have hc := hs.and hn
    refine List.Pairwise.imp_of_mem (fun {x y} hx hy z => ?_) hc
    have : cdP x ≠ cdP y := fun e => z.2 (inj x y (hb x hx) (hb y hy) e)
    have := z.1
    omega
  have e : X.map cdP = Y.map cdP := by
    refine eq_of_lt _ _ (rise b hX sX) (rise c hY sY) fun z => ?_
    rw [List.mem_map, List.mem_map]
    constructor
    · rintro ⟨x, hx, rfl⟩
      exact ⟨x, (h x).mp hx, rfl⟩
    · rintro ⟨x, hx, rfl⟩
      exact ⟨x, (h x).mpr hx, rfl⟩
  clear h sX sY hX hY
  induction X generalizing Y with
  | nil =>
    cases Y with
    | nil => rfl
    | cons y Y => cases e
  | cons x X ih =>
    cases Y with
    | nil => cases e
    | cons y Y =>
      rw [List.map_cons, List.map_cons] at e
      injection e with e1 e2
      have := inj x y (b x List.mem_cons_self) (c y List.mem_cons_self) e1
      subst this
      rw [ih (fun z hz => b z (List.mem_cons_of_mem _ hz)) (fun z hz => c z (List.mem_cons_of_mem _ hz)) e2]
theorem shaped_p2 (L : PL) : SeqAt.shaped (.list (L.map p2D)) = true := by
  unfold SeqAt.shaped
  have h1 : ∀ L : PL, PyData.canLayAll0 (L.map p2D) = true := by
    intro L
    induction L with
    | nil => simp [PyData.canLayAll0]
    | cons e L ih => simp [PyData.canLayAll0, PyData.canLay0, p2D] at ih ⊢; exact ih
  have h2 : ∀ L : PL, PyData.depthAll (L.map p2D) ≤ 2 := by
    intro L
    induction L with
    | nil => simp [PyData.depthAll]
    | cons e L ih =>
      rw [List.map_cons]
      have e1 : PyData.depthAll [PyData.int e.1, PyData.int e.2] ≤ 1 := by simp [PyData.depthAll, PyData.depth]
      have e2 : PyData.depth (p2D e) ≤ 2 := by
        unfold p2D
        simp only [PyData.depth]
        omega
      simp only [PyData.depthAll]
      omega
  have h3 := h2 L
  rw [Bool.and_eq_true]
  refine ⟨by simp only [PyData.canLay0]; exact h1 L, decide_eq_true ?_⟩
  simp only [PyData.depth]
  omega
theorem shaped_p (e : Int × Int) : SeqAt.shaped (p2D e) = true := by
  unfold SeqAt.shaped
  rw [Bool.and_eq_true]
  refine ⟨by simp [PyData.canLay0, PyData.canLayAll0, p2D], decide_eq_true ?_⟩
  simp [PyData.depth, PyData.depthAll, p2D]
theorem eqv_p2 (x y : Int × Int) : PyData.eqv (p2D x) (p2D y) = decide (x = y) := by
  by_cases h : x = y
  · subst h
    rw [SeqAt.eqv_refl _ (SeqAt.canLay_of_shaped (shaped_p x)), decide_eq_true rfl]
  · rw [decide_eq_false h]
    have : ¬ (x.1 = y.1 ∧ x.2 = y.2) := fun z => h (Prod.ext z.1 z.2)
    simp only [p2D, PyData.eqv, PyData.eqvAll]
    simp
    omega
theorem any_p2 (e : Int × Int) : ∀ L : PL, ((L.map p2D).any fun z => PyData.eqv z (p2D e)) = decide (e ∈ L)
  | [] => rfl
  | x :: L => by
    rw [List.map_cons, List.any_cons, any_p2 e L, eqv_p2]
    by_cases h : x = e
    · simp [h]
    · have h2 : ¬ e = x := fun z => h z.symm
      simp [h, h2]
end Wn

namespace Wn
open PySem L2
abbrev sCame : Stmt := top 14
abbrev sHeard : Stmt := top 15
abbrev sRises : Stmt := top 16
def SentOk (S : PL) : Prop := ∀ (i : Nat) (e : Int × Int), S[i]? = some e → e.2 = (i : Int) ∧ 0 ≤ e.1 ∧ e.1 < 3
theorem SentOk.snoc {S : PL} (h : SentOk S) {s : Int} (h0 : 0 ≤ s) (h1 : s < 3) : SentOk (S ++ [(s, (S.length : Int))]) := by
  intro i e he
  rw [List.getElem?_append] at he
  split at he
  · exact h i e he
  · rename_i hi
    have : i = S.length := by
      have := (List.getElem?_eq_some_iff.mp he).1
      rw [List.length_singleton] at this
      omega
    subst this
    rw [Nat.sub_self] at he
    have e1 : (s, (S.length : Int)) = e := Option.some.inj he
    subst e1
    exact ⟨rfl, h0, h1⟩
def spCame (K : PySem.W.Frag) : Sp := fun vs H Q _ => ∃ (d f : Addr) (m n : Int), vs = [.ref d, .int m] ∧ Deck H d f n ∧ n < 2 ^ 59 ∧ 0 ≤ m ∧ m ≤ 19 ∧
  ∀ (H' : Hp) (t sa fa : Addr) (S L : PL), H sa = none → H fa = none → Kp [d] H H' → Deck H' d f (n + 200) → SqT K H' t [.ref sa, .ref fa] → LstAt K H' sa (S.map p2D) → LstAt K H' fa (L.map p2D) → SentOk S → S.length ≤ 19 → (∀ e ∈ L, e ∈ S) → L.length ≤ 38 → Q (.ref t) H'
def spHeard (K : PySem.W.Frag) (κ : Kd) : Sp := fun vs H Q _ => ∃ (a : Addr) (L : PL), vs = [.str (nmK κ), .ref a] ∧ LstAt K H a (L.map p2D) ∧ L.length ≤ 100 ∧
  ∀ (H' : Hp) (b : Addr), H b = none → Same H H' → LstAt K H' b ((runF (.init κ) L).2.map p2D) → Q (.ref b) H'
def spRises (K : PySem.W.Frag) : Sp := fun vs H Q _ => ∃ (a : Addr) (L : PL), vs = [.ref a] ∧ LstAt K H a (L.map p2D) ∧ L.length < 64 ∧ (∀ s, (numsOf L s).Pairwise (· < ·)) ∧
  ∀ (H' : Hp), Same H H' → Q (.bl true) H'
structure LB (mg : Str → Option Value) : Prop where
  len : mg "len" = none
  range : mg "range" = none
  max : mg "max" = none
  int : mg "int" = none
  sorted : mg "sorted" = none
  set : mg "set" = none

section
variable {P : Program} {w : World} {K : PySem.W.Frag} {mg : Str → Option Value} {base : Heap}
theorem at_none {M : List Addr} {H H' : Hp} {a : Addr} (k : Kp M H H') (n : a ∉ M) (h : H' a = none) : H a = none := by
  cases e : H a with
  | none => rfl
  | some o =>
    rw [k _ _ n e] at h
    cases h
theorem scCame : FnScope ["_law_deck_here", "_law_many", "_law_found", "_law_sent", "_law_k", "_law_pair", "_law_turn"] ["_law_deck_here", "_law_many"] (defScope sCame) := ⟨rfl, rfl, rfl, by decide +kernel, rfl, by decide +kernel, by decide +kernel⟩
theorem ok_came {f : Addr} {fd : FuncData} (F : Fun K "_law_came" "_law_came" sCame f fd) (B : LB mg)
    (cN : Cd P w K mg base 2 "_law_next" ["_law_deck_here", "_law_many"] spNext) :
    FnOk P w K mg base CX0 3 f fd ["_law_deck_here", "_law_many"] (spCame K) := by
  obtain ⟨fN, fdN, GN, mN, kN, bN⟩ := cN.tk
  refine F.ok scCame (fun vs H Q E h => ?_) (fun cdv A outer s H vs Q E hr h => ?_)
  · obtain ⟨d, f, m, n, rfl, _⟩ := h
    rfl
  · obtain ⟨d, f, m, n, rfl, D0, hn, m0, m1, k⟩ := h
    have hr2 : Room 2 _ := hr
    refine ⟨_, (pss_cons (ps_set (i := 2) scCame.nd rfl (Or.inl rfl) (pe_lst pa_nil))
       (pss_cons (ps_set (i := 3) scCame.nd rfl (Or.inl rfl) (pe_lst pa_nil))
       (pss_cons (ps_for PassesOwn.never rfl (pi_range1 rfl B.range (pa_cons (pv 1) pa_nil)) (pg_name (i := 4) scCame.nd rfl (Or.inl rfl))
       (pss_cons (ps_set (i := 5) scCame.nd rfl (Or.inl rfl) (pe_tup (pa_cons (pe_call GN hr2 rfl mN kN bN .nil pass0 (pa_cons (pv 0) (pa_cons pe_int pa_nil))) (pa_cons (pv 4) pa_nil))))
       (pss_cons (ps_expr (pe_bm PySem.F.plainAttrs_list PySem.F.slot_list_append PySem.F.type_list_append mt_append (pv 3) (pa_cons (pv 5) pa_nil)))
       (pss_one (ps_for PassesOwn.never rfl (pi_range1 rfl B.range (pa_cons (pe_op op_add pe_int (pe_callTy call_int1 (by rfl) B.int PyProof.Rows.boot_int (pa_cons (pe_cmpR op_eq (pe_call GN hr2 rfl mN kN bN .nil pass0 (pa_cons (pv 0) (pa_cons pe_int pa_nil))) pe_int (nomark _)) pa_nil))) pa_nil)) (pg_name (i := 6) scCame.nd rfl (Or.inl rfl))
       (pss_one (ps_if (pt_cmpR op_gt (pe_call GN hr2 rfl mN kN bN .nil pass0 (pa_cons (pv 0) (pa_cons pe_int pa_nil))) pe_int (nomark _))
       (pss_one (ps_expr (pe_bm PySem.F.plainAttrs_list PySem.F.slot_list_insert PySem.F.type_list_insert mt_insert (pv 2) (pa_cons (pe_callB (call_max2 rfl) (by rfl) B.max (by decide +kernel) (pa_cons pe_int (pa_cons (pe_op op_sub (pe_callB (lenK (K := K) rfl) (by rfl) B.len PySem.boot_len (pa_cons (pv 2) pa_nil)) (pe_call GN hr2 rfl mN kN bN .nil pass0 (pa_cons (pv 0) (pa_cons pe_int pa_nil)))) pa_nil))) (pa_cons (pv 5) pa_nil)))))
       pss_nil)))))))
       (pss_one (ps_ret (pe_tup (pa_cons (pv 3) (pa_cons (pv 2) pa_nil)))))))), ?_⟩
    refine ⟨Nat.zero_le _, fun fa nfa => ?_⟩
    have s1 : Same H (upd H fa (.lst [])) := (L2.Same.refl H).new nfa
    have hfa1 : LstAt K (upd H fa (.lst [])) fa (([] : PL).map p2D) := ⟨[], upd_same, RpL.nil⟩
    generalize upd H fa (.lst []) = H1 at s1 hfa1
    refine ⟨Nat.zero_le _, fun sa nsa => ?_⟩
    have s2 : Same H1 (upd H1 sa (.lst [])) := (L2.Same.refl H1).new nsa
    have hsa2 : LstAt K (upd H1 sa (.lst [])) sa (([] : PL).map p2D) := ⟨[], upd_same, RpL.nil⟩
    have hfa2 := hfa1.same s2
    have nfs : fa ≠ sa := ne_of_none hfa1.lst.choose_spec nsa
    have nsa0 : H sa = none := at_none (M := []) (Kp.of s1) (by simp) nsa
    generalize upd H1 sa (.lst []) = H2 at s2 hsa2 hfa2
    have nfd : fa ≠ d := (ne_of_none D0.lst.choose_spec nfa).symm
    have nsd : sa ≠ d := (ne_of_none D0.lst.choose_spec nsa0).symm
    have nff : f ≠ fa := ne_of_none D0.lst2.choose_spec nfa
    have nfs' : f ≠ sa := ne_of_none D0.lst2.choose_spec nsa0
    have s02 := s1.trans s2
    refine ⟨_, rfl, m, rfl, by omega, by omega, ?_⟩
    refine for_range (lo := 0) (fun i σ H' => ∃ (S L : PL) (v4 v5 v6 : Option V), σ = [some (.ref d), some (.int m), some (.ref fa), some (.ref sa), v4, v5, v6] ∧ LstAt K H' fa (L.map p2D) ∧ LstAt K H' sa (S.map p2D) ∧ SentOk S ∧ S.length = i ∧ (∀ e ∈ L, e ∈ S) ∧ L.length ≤ 2 * i ∧ Kp [d] H H' ∧ Deck H' d f (n + 6 * i))
      ⟨[], [], _, _, _, rfl, hfa2, hsa2, (fun i e he => by cases he), rfl, (fun e he => by cases he), Nat.le_refl _, Kp.of s02, (D0.same s02).mono (by omega)⟩ ?_ ?_
    · rintro i σ H3 hi ⟨S, L, v4, v5, v6, rfl, hfa3, hsa3, oS, lS, sub, lL, kp3, D3⟩
      have hi : i < 19 := by omega
      refine ⟨_, rfl, d, f, 3, n + 6 * i, rfl, by decide, by omega, D3, fun sd H4 u0 u1 k4 D4 t4 => ?_⟩
      refine ⟨_, rfl, (by show 2 ≤ sizeLine; decide), fun t nt => ?_⟩
      have hfa4 := hfa3.kp k4 t4 (nin1 nfd)
      have hsa4 := hsa3.kp k4 t4 (nin1 nsd)
      have s5 : Same H4 (upd H4 t (.tup [.int sd, .int (0 + (i : Int))])) := (L2.Same.refl _).new nt
      have rt5 : Rp K (upd H4 t (.tup [.int sd, .int (0 + (i : Int))])) (p2D (sd, (S.length : Int))) (.ref t) := Rp.tup upd_same (RpL.cons Rp.int (RpL.cons (by rw [lS, Int.zero_add]; exact Rp.int) RpL.nil))
      have hfa5 := hfa4.same s5
      have hsa5 := hsa4.same s5
      have D5 := D4.same s5
      have kp5 := (kp3.trans k4).trans (Kp.of s5)
      generalize upd H4 t (.tup [.int sd, .int (0 + (i : Int))]) = H5 at s5 rt5 hfa5 hsa5 D5 kp5
      obtain ⟨ys, hy5, ry5⟩ := id hsa5
      have ly := RpL.len _ _ ry5
      rw [List.length_map] at ly
      refine ⟨_, rfl, .inl ⟨rfl, _, SqL.of hy5⟩, _, rfl, sa, _, _, rfl, rfl, hy5, Nat.lt_of_le_of_lt (show ys.length ≤ 1000 by omega) (by decide), ?_⟩
      obtain ⟨hsa6, t6, k6⟩ := push_old hy5 ry5 rt5
      have e6 : S.map p2D ++ [p2D (sd, (S.length : Int))] = (S ++ [(sd, (S.length : Int))]).map p2D := by rw [List.map_append]; rfl
      rw [e6] at hsa6
      have rt6 := Rp.tk t6 _ _ rt5
      have hfa6 := hfa5.kp k6 t6 (nin1 nfs)
      have D6 := D5.kp k6 (nin1 nsd.symm) (nin1 nfs')
      have kp6 : Kp [d] H (upd H5 sa (.lst (ys ++ [.ref t]))) := kp5.wrn nsa0
      generalize upd H5 sa (.lst (ys ++ [.ref t])) = H6 at hsa6 t6 k6 rt6 hfa6 D6 kp6
      have oS6 := oS.snoc u0 u1
      have lS6 : (S ++ [(sd, (S.length : Int))]).length = i + 1 := by rw [List.length_append, lS]; rfl
      have sub6 : ∀ e ∈ L, e ∈ S ++ [(sd, (S.length : Int))] := fun e he => List.mem_append_left _ (sub e he)
      have inS : (sd, (S.length : Int)) ∈ S ++ [(sd, (S.length : Int))] := List.mem_append_right _ (List.mem_singleton.mpr rfl)
      generalize (sd, (S.length : Int)) = e at rt6 hsa6 oS6 lS6 sub6 inS
      refine ⟨_, rfl, d, f, 3, n + 6 * i + 1, rfl, by decide, by omega, D6, fun c H7 c0 c1 k7 D7 t7 => ?_⟩
      have hfa7 := hfa6.kp k7 t7 (nin1 nfd)
      have hsa7 := hsa6.kp k7 t7 (nin1 nsd)
      have rt7 := Rp.tk t7 _ _ rt6
      have kp7 := kp6.trans k7
      refine ⟨rfl, .inr ⟨_, rfl, ?_⟩⟩
      obtain ⟨z, ez, z0, z1⟩ : ∃ z : Int, (1 + (if decide (V.int c = V.int 0) = true then 1 else 0) : Int) = z ∧ 1 ≤ z ∧ z ≤ 2 := by
        refine ⟨_, rfl, ?_, ?_⟩ <;> split <;> omega
      refine ⟨_, _, rfl, rfl, z, ?_, by omega, by omega, ?_⟩
      · rw [← ez]
      refine for_range (lo := 0) (fun j σ H' => ∃ (L : PL) (v6 : Option V), σ = [some (.ref d), some (.int m), some (.ref fa), some (.ref sa), some (.int (0 + (i : Int))), some (.ref t), v6] ∧ LstAt K H' fa (L.map p2D) ∧ LstAt K H' sa ((S ++ [e]).map p2D) ∧ Rp K H' (p2D e) (.ref t) ∧ (∀ x ∈ L, x ∈ S ++ [e]) ∧ L.length ≤ 2 * i + j ∧ Kp [d] H H' ∧ Deck H' d f (n + 6 * i + 1 + 1 + 2 * j))
        ⟨L, _, rfl, hfa7, hsa7, rt7, sub6, by omega, kp7, D7.mono (by omega)⟩ ?_ ?_
      · rintro j σ H8 hj ⟨L, v6, rfl, hfa8, hsa8, rt8, sub8, lL8, kp8, D8⟩
        have hj : j < 2 := by omega
        refine ⟨_, rfl, d, f, 5, n + 6 * i + 1 + 1 + 2 * j, rfl, by decide, by omega, D8, fun c9 H9 w0 w1 k9 D9 t9 => ?_⟩
        have hfa9 := hfa8.kp k9 t9 (nin1 nfd)
        have hsa9 := hsa8.kp k9 t9 (nin1 nsd)
        have rt9 := Rp.tk t9 _ _ rt8
        have kp9 := kp8.trans k9
        refine ⟨_, _, rfl, rfl, _, rfl, ?_⟩
        refine ite2 (fun hc => ?_) (fun hc => ?_)
        · obtain ⟨xs, hx9, rx9⟩ := id hfa9
          have lx := RpL.len _ _ rx9
          rw [List.length_map] at lx
          refine ⟨_, rfl, .inl ⟨rfl, _, SqL.of hx9⟩, _, rfl, _, xs.length, rfl, .inl ⟨_, SqL.of hx9, rfl⟩, _, rfl, d, f, 6, n + 6 * i + 1 + 1 + 2 * j + 1, rfl, by decide, by omega, D9, fun c10 H10 x0 x1 k10 D10 t10 => ?_⟩
          have hx10 := k10 _ _ (nin1 nfd) hx9
          have rx10 := RpL.tk t10 _ _ rx9
          have rt10 := Rp.tk t10 _ _ rt9
          have hsa10 := hsa9.kp k10 t10 (nin1 nsd)
          refine ⟨_, _, rfl, rfl, ?_⟩
          refine ⟨_, _, rfl, _, rfl, ?_⟩
          obtain ⟨z, ez, z0, z1⟩ : ∃ z : Int, (if (xs.length : Int) - c10 > 0 then (xs.length : Int) - c10 else 0) = z ∧ 0 ≤ z ∧ z < 2 ^ 63 := ⟨_, rfl, by split <;> omega, by split <;> omega⟩
          refine ⟨fa, xs, z, .ref t, rfl, ?_, hx10, Nat.lt_of_le_of_lt (show xs.length ≤ 1000 by omega) (by decide), z0, z1, ?_⟩
          · rw [← ez]
          have t11 : TK H10 (upd H10 fa (.lst (xs.take z.toNat ++ [.ref t] ++ xs.drop z.toNat))) := (TK.refl _).wr hx10 rfl
          have k11 : Kp [fa] H10 (upd H10 fa (.lst (xs.take z.toNat ++ [.ref t] ++ xs.drop z.toNat))) := (Kp.refl _ _).wr (List.mem_singleton.mpr rfl)
          refine ⟨L.take z.toNat ++ [e] ++ L.drop z.toNat, _, rfl, ⟨_, upd_same, ?_⟩, hsa10.kp k11 t11 (nin1 nfs.symm), Rp.tk t11 _ _ rt10, fun x hx => ?_, ?_, ((kp9.trans k10).wrn nfa), (D10.kp k11 (nin1 nfd.symm) (nin1 nff)).mono (by omega)⟩
          · rw [List.map_append, List.map_append, List.map_take, List.map_drop]
            have r4 := RpL.tk t11 _ _ rx10
            exact RpL.app (RpL.app (RpL.take _ r4) (RpL.cons (Rp.tk t11 _ _ rt10) RpL.nil)) (RpL.drop _ r4)
          · rw [List.mem_append, List.mem_append, List.mem_singleton] at hx
            rcases hx with (hx | hx) | hx
            · exact sub8 x (List.mem_of_mem_take hx)
            · rw [hx]
              exact inS
            · exact sub8 x (List.mem_of_mem_drop hx)
          · rw [List.length_append, List.length_append, List.length_take, List.length_drop, List.length_singleton]
            omega
        · exact ⟨L, _, rfl, hfa9, hsa9, rt9, sub8, by omega, kp9, D9.mono (by omega)⟩
      · rintro σ H8 ⟨L, v6, rfl, hfa8, hsa8, rt8, sub8, lL8, kp8, D8⟩
        exact ⟨S ++ [e], L, _, _, _, rfl, hfa8, hsa8, oS6, lS6, sub8, by omega, kp8, D8.mono (by omega)⟩
    · rintro σ H3 ⟨S, L, v4, v5, v6, rfl, hfa3, hsa3, oS, lS, sub, lL, kp3, D3⟩
      refine ⟨_, rfl, _, rfl, (by show 2 ≤ sizeLine; decide), fun t nt => ?_⟩
      have s4 : Same H3 (upd H3 t (.tup [.ref sa, .ref fa])) := (L2.Same.refl _).new nt
      exact k _ t sa fa S L nsa0 nfa (kp3.trans (Kp.of s4)) ((D3.same s4).mono (by omega)) (SqT.of upd_same) (hsa3.same s4) (hfa3.same s4) oS (by omega) sub (by omega)
theorem scHeard : FnScope ["_law_kind", "_law_came_here", "_law_sieve", "_law_found", "_law_sender", "_law_number"] ["_law_kind", "_law_came_here"] (defScope sHeard) := ⟨rfl, rfl, rfl, by decide +kernel, rfl, by decide +kernel, by decide +kernel⟩
theorem ok_heard {f : Addr} {fd : FuncData} {C : Kd → Addr} {κ : Kd} (F : Fun K "_law_heard" "_law_heard" sHeard f fd) (T : FN K (C κ))
    (cF : Cd P w K mg base 3 "filter_of" ["kind"] (spFof K C)) (cT : Md P w K mg base 2 (C κ) "takes" ["self", "sender", "number"] (spTakes K (C κ) κ)) :
    FnOk P w K mg base CX0 4 f fd ["_law_kind", "_law_came_here"] (spHeard K κ) := by
  obtain ⟨fF, fdF, GF, mF, kF, bF⟩ := cF
  obtain ⟨fT, fdT, GT, mT, bT⟩ := cT.tk
  refine F.ok scHeard (fun vs H Q E h => ?_) (fun cdv A outer s H vs Q E hr h => ?_)
  · obtain ⟨a, L, rfl, _⟩ := h
    rfl
  · obtain ⟨a, L, rfl, ⟨xs, ha, rx⟩, hL, k⟩ := h
    have hr3 : Room 3 _ := hr
    have hr2 : Room 2 _ := hr.mono (by decide)
    refine ⟨_, (pss_cons (ps_set (i := 2) scHeard.nd rfl (Or.inl rfl) (pe_call GF hr3 rfl mF kF bF .nil pass0 (pa_cons (pv 0) pa_nil)))
       (pss_cons (ps_set (i := 3) scHeard.nd rfl (Or.inl rfl) (pe_lst pa_nil))
       (pss_cons (ps_for PassesOwn.never rfl (pi_list (pv 1)) (pg_tup rfl (pgs_cons (pg_name (i := 4) scHeard.nd rfl (Or.inl rfl)) (pgs_cons (pg_name (i := 5) scHeard.nd rfl (Or.inl rfl)) pgs_nil)))
       (pss_one (ps_if (pt_cmpR op_eq (pe_meth (pv 2) T.cl mT GT hr2 bT .nil pass0 (pa_cons (pv 4) (pa_cons (pv 5) pa_nil))) pe_str (nomark _))
       (pss_one (ps_expr (pe_bm PySem.F.plainAttrs_list PySem.F.slot_list_append PySem.F.type_list_append mt_append (pv 3) (pa_cons (pe_tup (pa_cons (pv 4) (pa_cons (pv 5) pa_nil))) pa_nil))))
       pss_nil)))
       (pss_one (ps_ret (pv 3)))))), ?_⟩
    refine ⟨_, rfl, κ, rfl, fun H1 p q np nq s1 f1 => ?_⟩
    refine ⟨Nat.zero_le _, fun b nb => ?_⟩
    have s2 : Same H1 (upd H1 b (.lst [])) := (L2.Same.refl _).new nb
    have hb2 : LstAt K (upd H1 b (.lst [])) b (([] : PL).map p2D) := ⟨[], upd_same, RpL.nil⟩
    have f2 := f1.same s2
    have nb0 : H b = none := at_none (M := []) (Kp.of s1) (by simp) nb
    have s02 := s1.trans s2
    generalize upd H1 b (.lst []) = H2 at s2 hb2 f2 s02
    have lx := RpL.len _ _ rx
    rw [List.length_map] at lx
    refine ⟨_, rfl, a, rfl, ⟨_, SqL.of (s02 _ _ ha)⟩, ?_⟩
    refine for_list (K := K) (a := a) (xs := xs) (fun i σ H' => ∃ (q' : Addr) (v4 v5 : Option V), σ = [some (.str (nmK κ)), some (.ref a), some (.ref p), some (.ref b), v4, v5] ∧ H q' = none ∧ FAt K (C κ) H' p q' (runF (.init κ) (L.take i)).1 ∧ LstAt K H' b ((runF (.init κ) (L.take i)).2.map p2D) ∧ Same H H')
      ⟨q, _, _, rfl, nq, f2, hb2, s02⟩ (fun i σ H' _ ⟨_, _, _, _, _, _, _, s⟩ => SqL.of (s _ _ ha)) ?_ ?_
    · rintro i x σ H3 hx ⟨q', v4, v5, rfl, nq', f3, hb3, s3⟩
      have hi : i < L.length := by
        have q := (List.getElem?_eq_some_iff.mp hx).1
        omega
      obtain ⟨v, ev, rv⟩ := RpL.get _ _ rx i (p2D L[i]) (by rw [List.getElem?_map, List.getElem?_eq_getElem hi]; rfl)
      have ex : v = x := Option.some.inj (ev.symm.trans hx)
      rw [ex] at rv
      have et : L.take (i + 1) = L.take i ++ [L[i]] := List.take_succ_eq_append_getElem hi
      obtain ⟨t, rfl, ht⟩ := p2D_inv (Rp.tk (TK.of s3) _ _ rv)
      refine ⟨t, _, rfl, ht, rfl, _, _, rfl, _, _, rfl, rfl, ?_⟩
      obtain ⟨⟨dx, hp⟩, hq⟩ := id f3
      obtain ⟨l1, l2, l3⟩ := fold_len (L.take i) (.init κ, [])
      have l4 : (FS.init κ).len = 0 := by cases κ <;> rfl
      have l5 : (FS.init κ).kd = κ := by cases κ <;> rfl
      rw [List.length_take] at l1 l2
      have l6 : (([] : PL)).length = 0 := rfl
      refine ⟨_, rfl, p, dx, _, rfl, hp, fld1_ne (by decide), _, rfl, _, rfl, ?_⟩
      refine ⟨p, q', L[i].1, L[i].2, _, rfl, f3, l3.trans l5, (by show (List.foldl stepF (FS.init κ, []) (L.take i)).1.len ≤ 1000; simp only [l4, l6] at l1 l2; omega), fun H4 q4 hq4 k4 f4 t4 => ?_⟩
      have nq4 : H q4 = none := by
        rcases hq4 with rfl | z
        · exact nq'
        · exact at_none (M := []) (Kp.of s3) (by simp) z
      have s4 : Same H H4 := fun c o e => k4 c o (nin2 (ne_of_none e np) (ne_of_none e nq')) (s3 c o e)
      obtain ⟨n1, n2⟩ := f3.nl hb3.lst.choose_spec
      have hb4 := hb3.kp k4 t4 (nin2 n1.symm n2.symm)
      have e1 : (runF (.init κ) (L.take (i + 1))).1 = (runF (.init κ) (L.take i)).1.take L[i].1 L[i].2 := by rw [et, runF_snoc, stepF_fst]
      have e2 : (runF (.init κ) (L.take (i + 1))).2 = if (runF (.init κ) (L.take i)).1.word L[i].1 L[i].2 = "heard" then (runF (.init κ) (L.take i)).2 ++ [L[i]] else (runF (.init κ) (L.take i)).2 := by rw [et, runF_snoc, stepF_snd]
      refine ⟨rfl, _, rfl, ?_⟩
      refine ite2 (fun hc => ?_) (fun hc => ?_)
      · have hw : (runF (.init κ) (L.take i)).1.word L[i].1 L[i].2 = "heard" := by
          have := of_decide_eq_true hc
          injection this
        obtain ⟨ys, hy4, ry4⟩ := id hb4
        have ly := RpL.len _ _ ry4
        rw [List.length_map] at ly
        have ly2 : ys.length ≤ 1000 := by
          rw [ly]
          show (List.foldl stepF (FS.init κ, []) (L.take i)).2.length ≤ 1000
          simp only [l4, l6] at l1 l2
          omega
        refine ⟨_, rfl, .inl ⟨rfl, _, SqL.of hy4⟩, _, rfl, _, rfl, (by show 2 ≤ sizeLine; decide), fun t5 nt5 => ?_⟩
        obtain ⟨g1, g2, g3, g4⟩ := push_tup (ds := [.int L[i].1, .int L[i].2]) hy4 ry4 nt5 (RpL.cons Rp.int (RpL.cons Rp.int RpL.nil))
        refine ⟨b, _, _, rfl, rfl, g1, Nat.lt_of_le_of_lt ly2 (by decide), ?_⟩
        refine ⟨q4, _, _, rfl, nq4, ?_, ?_, ?_⟩
        · rw [e1]
          obtain ⟨m1, m2⟩ := f4.nl hb4.lst.choose_spec
          exact f4.kp g4 g3 (nin1 m1) (nin1 m2)
        · rw [e2, if_pos hw, List.map_append]
          exact g2
        · exact fun c o e => g4 c o (nin1 (ne_of_none e nb0)) (s4 c o e)
      · have hw : ¬ (runF (.init κ) (L.take i)).1.word L[i].1 L[i].2 = "heard" := fun z => hc (by rw [z]; rfl)
        refine ⟨q4, _, _, rfl, nq4, by rw [e1]; exact f4, ?_, s4⟩
        rw [e2, if_neg hw]
        exact hb4
    · rintro σ H3 ⟨q', v4, v5, rfl, nq', f3, hb3, s3⟩
      rw [lx, List.take_length] at hb3
      exact ⟨_, rfl, k H3 b nb0 s3 hb3⟩
/-- [p[1] for p in L if p[0] == s] -/
theorem nums_lc {i : Nat} {tt : TT} {te : TE} {σ : L2.St} {H2 : Hp} {S D : Addr} {xs : List V} {L : PL} {Qd : Hp → Prop} (s : Int) (hS : H2 S = some (.lst xs)) (hr : RpL K H2 (L.map p2D) xs) (hD : H2 D = none) (hl : L.length ≤ 1000000)
    (htt : ∀ (e : Int × Int) (x : V) (H' : Hp) (Q : Bool → Hp → Prop), Rp K H' (p2D e) x → Q (decide (e.1 = s)) H' → tt (σ.set i (some x)) H' Q)
    (hte : ∀ (e : Int × Int) (x : V) (H' : Hp) (Q : VK), Rp K H' (p2D e) x → Q (.int e.2) H' → te (σ.set i (some x)) H' Q)
    (hd : ∀ (H' : Hp), Same H2 H' → H' D = some (.lst ((numsOf L s).map V.int)) → Qd H') :
    ∃ W : Nat → Nat → Hp → Prop, (∃ m, W 0 m (upd H2 D (.lst []))) ∧ ∀ j m H, W j m H →
      ((Itl K S).stop j H ∧ Qd H) ∨ ((Itl K S).go j H ∧ ∃ Nx : Hp → Prop, (∀ H', Nx H' → ∃ m', m' < m ∧ W (j + 1) m' H') ∧ ∀ x H', (Itl K S).yld j H x H' → gName i x (wipe σ [i]) H' fun σ2 H2 => wipe σ2 [i] = wipe σ [i] ∧ tt σ2 H2 fun b H3 =>
        if b = true then te σ2 H3 fun y H4 => ∃ acc, H4 D = some (.lst acc) ∧ acc.length < sizeLine ∧ Nx (upd H4 D (.lst (acc ++ [y]))) else Nx H3) := by
  refine lc_list (K := K) (a := S) (xs := xs) (fun j H => Same H2 H ∧ H D = some (.lst ((numsOf (L.take j) s).map V.int)))
    ⟨(L2.Same.refl H2).new hD, upd_same⟩ (fun j H _ ⟨s, _⟩ => SqL.of (s _ _ hS)) ?_ ?_
  · rintro j x H3 hx ⟨s3, hD3⟩
    have hlen := RpL.len _ _ hr
    have hj : j < L.length := by
      have q := (List.getElem?_eq_some_iff.mp hx).1
      rw [hlen, List.length_map] at q
      exact q
    obtain ⟨v, ev, rv⟩ := RpL.get _ _ hr j (p2D L[j]) (by rw [List.getElem?_map, List.getElem?_eq_getElem hj]; rfl)
    have ex : v = x := Option.some.inj (ev.symm.trans hx)
    rw [ex] at rv
    have rx := Rp.tk (TK.of s3) _ _ rv
    show wipe ((wipe σ [i]).set i (some x)) [i] = wipe σ [i] ∧ _
    rw [set_wipe]
    refine ⟨wipe_set, ?_⟩
    have et : L.take (j + 1) = L.take j ++ [L[j]] := List.take_succ_eq_append_getElem hj
    refine htt L[j] x H3 _ rx ?_
    by_cases e : L[j].1 = s
    · rw [decide_eq_true e]
      refine iteT (hte L[j] x H3 _ rx ⟨_, hD3, ?_, s3.wrn hD, ?_⟩)
      · rw [List.length_map]
        unfold numsOf
        rw [List.length_map]
        have h1 := List.length_filter_le (fun e : Int × Int => decide (e.1 = s)) (L.take j)
        rw [List.length_take] at h1
        exact Nat.lt_of_le_of_lt (show _ ≤ 1000000 by omega) (by decide)
      · rw [upd_same, et, ← e, numsOf_snoc_eq, List.map_append]
        rfl
    · rw [decide_eq_false e]
      refine iteF ⟨s3, ?_⟩
      rw [et, numsOf_snoc_ne _ _ e]
      exact hD3
  · rintro H3 ⟨s3, hD3⟩
    have hlen := RpL.len _ _ hr
    rw [hlen, List.length_map, List.take_length] at hD3
    exact hd H3 s3 hD3
theorem nums_len (L : PL) (s : Int) : (numsOf L s).length ≤ L.length := by
  unfold numsOf
  rw [List.length_map]
  exact List.length_filter_le _ _
theorem dec_int {a b : Int} : decide (V.int a = V.int b) = decide (a = b) := decide_eq_decide.mpr ⟨fun h => by injection h, fun h => by rw [h]⟩
theorem shaped_ints (ns : List Int) : SeqAt.shaped (.list (ns.map PyData.int)) = true := by
  unfold SeqAt.shaped
  have h1 : ∀ ns : List Int, PyData.canLayAll0 (ns.map PyData.int) = true := by
    intro ns
    induction ns with
    | nil => simp [PyData.canLayAll0]
    | cons n ns ih => simp [PyData.canLayAll0, PyData.canLay0] at ih ⊢; exact ih
  have h2 : ∀ ns : List Int, PyData.depthAll (ns.map PyData.int) ≤ 1 := by
    intro ns
    induction ns with
    | nil => simp [PyData.depthAll]
    | cons n ns ih =>
      rw [List.map_cons]
      simp only [PyData.depthAll, PyData.depth]
      omega
  have h3 := h2 ns
  rw [Bool.and_eq_true]
  refine ⟨by simp only [PyData.canLay0]; exact h1 ns, decide_eq_true ?_⟩
  simp only [PyData.depth]
  omega
theorem scRises : FnScope ["_law_heard_here", "_law_sender", "_law_numbers", "_law_pair"] ["_law_heard_here"] (defScope sRises) := ⟨rfl, rfl, rfl, by decide +kernel, rfl, by decide +kernel, by decide +kernel⟩
theorem ok_rises {f : Addr} {fd : FuncData} (F : Fun K "_law_rises" "_law_rises" sRises f fd) (B : LB mg) :
    FnOk P w K mg base CX0 1 f fd ["_law_heard_here"] (spRises K) := by
  refine F.ok scRises (fun vs H Q E h => ?_) (fun cdv A outer s H vs Q E hr h => ?_)
  · obtain ⟨a, L, rfl, _⟩ := h
    rfl
  · obtain ⟨a, L, rfl, ⟨xs, ha, rx⟩, hL, rise, k⟩ := h
    refine ⟨_, (pss_cons (ps_for PassesOwn.never rfl (pi_range1 rfl B.range (pa_cons pe_int pa_nil)) (pg_name (i := 1) scRises.nd rfl (Or.inr rfl))
       (pss_cons (ps_setLc (i := 2) (own := [("_law_pair", 3)]) (g := (gName 3)) (tt := _) rfl scRises.nd rfl rfl (sw_true rfl rfl rfl (by decide +kernel)) (pi_list (pv 0)) (blkOk_by (N := ["_law_heard_here", "_law_sender", "_law_numbers", "_law_pair"]) (sc := defScope sRises) (by decide +kernel))
       (fun _ _ _ _ _ => (pg_name (i := 3) scRises.nd rfl (Or.inl rfl))) (fun _ _ _ _ _ => (pts_one (pt_cmpR op_eq (pe_ix (ixT (K := K) rfl) (pv 3) pe_int (fun _ _ => rfl)) (pv 1) (nomark _)))) (fun _ _ _ _ _ => (pe_ix (ixT (K := K) rfl) (pv 3) pe_int (fun _ _ => rfl))))
       (pss_one (ps_if (PW.pt (pw_or (pt_cmpR (neDK (K := K) rfl hr.units) (pv 2) (pe_callB (sortIK (K := K) rfl) (by rfl) B.sorted (by decide +kernel) (pa_cons (pv 2) pa_nil)) (nomark _)) (pw_or1 (pt_cmpR op_ne (pe_callB (lenK (K := K) rfl) (by rfl) B.len PySem.boot_len (pa_cons (pv 2) pa_nil)) (lenSetIK (K := K) rfl rfl (by rfl) B.len (by rfl) B.set (pv 2)) (nomark _)))))
       (pss_one (ps_ret pe_bl))
       pss_nil))))
       (pss_one (ps_ret pe_bl))), ?_⟩
    refine ⟨3, rfl, by omega, by omega, ?_⟩
    refine for_range (lo := 0) (fun i σ H' => ∃ (v1 v2 v3 : Option V), σ = [some (.ref a), v1, v2, v3] ∧ Same H H') ⟨_, _, _, rfl, L2.Same.refl _⟩ ?_ ?_
    · rintro i σ H1 hi ⟨v1, v2, v3, rfl, s1⟩
      refine ⟨_, rfl, a, rfl, ⟨_, SqL.of (s1 _ _ ha)⟩, fun D hD => ?_⟩
      refine nums_lc (K := K) (i := 3) (0 + (i : Int)) (s1 _ _ ha) (RpL.tk (TK.of s1) _ _ rx) hD (by omega) ?_ ?_ ?_
      · intro e x H' Q' re hQ
        obtain ⟨t, rfl, ht⟩ := p2D_inv re
        refine ⟨_, rfl, t, _, _, _, rfl, rfl, ht, rfl, _, rfl, rfl, _, rfl, ?_⟩
        show Q' (decide (V.int e.1 = V.int (0 + (i : Int)))) H'
        rw [dec_int]
        exact hQ
      · intro e x H' Q' re hQ
        obtain ⟨t, rfl, ht⟩ := p2D_inv re
        exact ⟨_, rfl, t, _, _, _, rfl, rfl, ht, rfl, hQ⟩
      · intro H2 s2 hD2
        have pw := rise (0 + (i : Int))
        have hlen := nums_len L (0 + (i : Int))
        generalize numsOf L (0 + (i : Int)) = ns at hD2 pw hlen
        refine ⟨_, rfl, _, rfl, D, ns, rfl, SqL.of hD2, fun ns' p perm rising hp => ?_⟩
        have s3 : Same H2 (upd H2 p (.lst (ns'.map V.int))) := (L2.Same.refl _).new hp
        have e1 : ns' = ns := (sortI_eq perm rising).trans (sortI_eq (.refl _) (pw.imp fun h => Int.le_of_lt h)).symm
        refine ⟨_, _, .lst (SqL.of (s3 _ _ hD2)) (dp_ints _), .lst (SqL.of upd_same) (dp_ints _), shaped_ints _, shaped_ints _, _, rfl, ?_⟩
        rw [e1, SeqAt.eqv_refl _ (SeqAt.canLay_of_shaped (shaped_ints ns))]
        refine iteF ?_
        rw [e1] at s3
        refine ⟨_, rfl, _, ns.length, rfl, .inl ⟨_, SqL.of (s3 _ _ hD2), (List.length_map _).symm⟩, _, rfl, D, ns, rfl, SqL.of (s3 _ _ hD2), by omega, pw.imp (fun h => Int.ne_of_lt h), rfl, _, rfl, ?_⟩
        refine iteNS rfl ?_
        exact ⟨_, _, _, rfl, (s1.trans s2).trans s3⟩
    · rintro σ H1 ⟨v1, v2, v3, rfl, s1⟩
      exact k _ s1
end
end Wn

namespace Wn
open PySem L2
variable {K : PySem.W.Frag} {H : Hp}
def p2L (e : Int × Int) : List Int := [e.1, e.2]
theorem ks_of : ∀ {L : PL} {xs : List V}, RpL K H (L.map p2D) xs → ∃ ks : List (Addr × List Int), xs = ks.map (fun p => V.ref p.1) ∧ ks.map (·.2) = L.map p2L ∧ ∀ p ∈ ks, SqT K H p.1 (p.2.map V.int)
  | [], xs, r => by
    rw [List.map_nil] at r
    unfold RpL at r
    exact ⟨[], r, rfl, fun p hp => by cases hp⟩
  | e :: L, xs, r => by
    rw [List.map_cons] at r
    unfold RpL at r
    obtain ⟨v, t, rfl, h1, h2⟩ := r
    obtain ⟨ks, rfl, h3, h4⟩ := ks_of h2
    obtain ⟨a, rfl, ha⟩ := p2D_inv h1
    refine ⟨(a, p2L e) :: ks, rfl, by rw [List.map_cons, List.map_cons, h3], fun p hp => ?_⟩
    rcases List.mem_cons.mp hp with rfl | hp
    · exact ha
    · exact h4 p hp
theorem p2L_inj {x y : Int × Int} (h : p2L x = p2L y) : x = y := by
  unfold p2L at h
  injection h with h1 h2
  injection h2 with h2 h3
  exact Prod.ext h1 h2
theorem nodup_p2 {L : PL} (h : L.Nodup) : (L.map p2L).Nodup := by
  unfold List.Nodup at h ⊢
  rw [List.pairwise_map]
  exact h.imp fun z e => z (p2L_inj e)
theorem len_set {ks Ls : List (Addr × List Int)} (h1 : (Ls.map (·.2)).Nodup) (h2 : (ks.map (·.2)).Nodup) (h3 : ∀ p ∈ Ls, p ∈ ks) (h4 : ∀ p ∈ ks, p.2 ∈ Ls.map (·.2)) : Ls.length = ks.length := by
  have p : (Ls.map (·.2)).Perm (ks.map (·.2)) := (List.perm_ext_iff_of_nodup h1 h2).mpr fun z => by
    constructor
    · intro hz
      obtain ⟨q, hq, rfl⟩ := List.mem_map.mp hz
      exact List.mem_map.mpr ⟨q, h3 q hq, rfl⟩
    · intro hz
      obtain ⟨q, hq, rfl⟩ := List.mem_map.mp hz
      exact h4 q hq
  have := p.length_eq
  rw [List.length_map, List.length_map] at this
  exact this
theorem cd_eq (e : Int × Int) : TS.code 64 (p2L e) = cdP e := code_pair e.1 e.2
/-- rows that rise by the tuples' code -/
theorem rise_of : ∀ {L : PL} {ys : List V}, RpL K H (L.map p2D) ys → ys.Pairwise (fun x y => ∀ n m, TupI K H x n → TupI K H y m → TS.code 64 n ≤ TS.code 64 m) → L.Pairwise fun x y => cdP x ≤ cdP y
  | [], ys, r, p => List.Pairwise.nil
  | e :: L, ys, r, p => by
    rw [List.map_cons] at r
    unfold RpL at r
    obtain ⟨v, t, rfl, h1, h2⟩ := r
    rw [List.pairwise_cons] at p ⊢
    refine ⟨fun y hy => ?_, rise_of h2 p.2⟩
    obtain ⟨i, hi, ei⟩ := List.mem_iff_getElem.mp hy
    obtain ⟨u, hu, ru⟩ := RpL.get _ _ h2 i (p2D y) (by rw [List.getElem?_map, List.getElem?_eq_getElem hi, ei]; rfl)
    obtain ⟨a, rfl, ha⟩ := p2D_inv h1
    obtain ⟨b, rfl, hb⟩ := p2D_inv ru
    have := p.1 _ (List.mem_of_getElem? hu) (p2L e) (p2L y) ⟨a, rfl, ha⟩ ⟨b, rfl, hb⟩
    rw [cd_eq, cd_eq] at this
    exact this
theorem pl_of : ∀ {Ls : List (Addr × List Int)}, (∀ p ∈ Ls, ∃ e : Int × Int, p.2 = p2L e) → (∀ p ∈ Ls, SqT K H p.1 (p.2.map V.int)) → ∃ M : PL, Ls.map (·.2) = M.map p2L ∧ RpL K H (M.map p2D) (Ls.map fun q => V.ref q.1)
  | [], _, _ => ⟨[], rfl, RpL.nil⟩
  | p :: Ls, h, hk => by
    obtain ⟨e, he⟩ := h p List.mem_cons_self
    obtain ⟨M, h1, h2⟩ := pl_of (fun q hq => h q (List.mem_cons_of_mem _ hq)) (fun q hq => hk q (List.mem_cons_of_mem _ hq))
    refine ⟨e :: M, by rw [List.map_cons, List.map_cons, h1, he], ?_⟩
    rw [List.map_cons, List.map_cons]
    have hp := hk p List.mem_cons_self
    rw [he] at hp
    exact RpL.cons (Rp.tupS hp (RpL.cons Rp.int (RpL.cons Rp.int RpL.nil))) h2
theorem nodup_of_p2 {M : PL} (h : (M.map p2L).Nodup) : M.Nodup := by
  unfold List.Nodup at h ⊢
  rw [List.pairwise_map] at h
  exact h.imp fun z e => z (by rw [e])
theorem rise_p2 {Ls : List (Addr × List Int)} {M : PL} (h : Ls.Pairwise fun q r => TS.code 64 q.2 ≤ TS.code 64 r.2) (e : Ls.map (·.2) = M.map p2L) : M.Pairwise fun x y => cdP x ≤ cdP y := by
  have h1 : (Ls.map (·.2)).Pairwise fun a b => TS.code 64 a ≤ TS.code 64 b := by
    rw [List.pairwise_map]
    exact h
  rw [e, List.pairwise_map] at h1
  exact h1.imp fun {x y} z => by rw [cd_eq, cd_eq] at z; exact z
theorem atI_last {l : List Int} {k : Int} (h : l.getLast? = some k) : atI (l.map V.int) (-1) = some (.int k) := by
  obtain ⟨ys, rfl⟩ := List.getLast?_eq_some_iff.mp h
  have e : (ys ++ [k]).map V.int = ys.map V.int ++ [V.int k] := by rw [List.map_append]; rfl
  rw [e]
  have e2 : ixN (ys.length + 1) (-1) = some ys.length := by
    unfold ixN
    rw [if_neg (by omega)]
    have h1 : ((-1 : Int) + ((ys.length + 1 : Nat) : Int)).toNat = ys.length := by omega
    simp [h1]
    try omega
  unfold atI
  rw [List.length_append, List.length_map, List.length_singleton, e2]
  simp
theorem SentOk.rise {S : PL} (h : SentOk S) : (S.map (·.2)).Pairwise (· < ·) := by
  rw [List.pairwise_map, List.pairwise_iff_getElem]
  intro i j hi hj hij
  have h1 := (h i _ (List.getElem?_eq_getElem hi)).1
  have h2 := (h j _ (List.getElem?_eq_getElem hj)).1
  rw [h1, h2]
  omega
theorem SentOk.bd {S : PL} (h : SentOk S) (l : S.length ≤ 19) : ∀ e ∈ S, 0 ≤ e.1 ∧ e.1 < 3 ∧ 0 ≤ e.2 ∧ e.2 < 19 := by
  intro e he
  obtain ⟨i, hi, rfl⟩ := List.mem_iff_getElem.mp he
  have := h i _ (List.getElem?_eq_getElem hi)
  omega
theorem nodup_of_rise {L : PL} (h : (L.map (·.2)).Pairwise (· < ·)) : L.Nodup := by
  rw [List.pairwise_map] at h
  exact h.imp fun {x y} z e => by rw [e] at z; omega
end Wn

namespace Wn
open PySem L2
abbrev sLaw : Stmt := top 17

section
variable {P : Program} {w : World} {K : PySem.W.Frag} {mg : Str → Option Value} {base : Heap}
theorem at0 {x : Int} {l : List Int} : atI ((x :: l).map V.int) 0 = some (.int x) := atI_nat (j := 0) (by rfl)
theorem room65 {k : Nat} {A : Around} (r : Room k A) : A.units + 65 < cLine := by have := r.un; omega
theorem scLaw : FnScope ["_law_script", "_law_deck_here", "_law_turn", "_law_sent", "_law_came_here", "_law_loose", "_law_once", "_law_row", "_law_sender", "_law_numbers", "_law_told", "_law_kept", "_law_pair"] ["_law_script"] (defScope sLaw) := ⟨rfl, rfl, rfl, by decide +kernel, rfl, by decide +kernel, by decide +kernel⟩
theorem ok_law {f : Addr} {fd : FuncData} (F : Fun K "law" "law" sLaw f fd) (B : LB mg)
    (cN : Cd P w K mg base 2 "_law_next" ["_law_deck_here", "_law_many"] spNext) (cD : Cd P w K mg base 2 "_law_deck" ["_law_script"] (spDeck K))
    (cC : Cd P w K mg base 3 "_law_came" ["_law_deck_here", "_law_many"] (spCame K))
    (cL : Cd P w K mg base 4 "_law_heard" ["_law_kind", "_law_came_here"] (spHeard K .pl)) (cO : Cd P w K mg base 4 "_law_heard" ["_law_kind", "_law_came_here"] (spHeard K .on)) (cR : Cd P w K mg base 4 "_law_heard" ["_law_kind", "_law_came_here"] (spHeard K .tu))
    (cU : Cd P w K mg base 1 "_law_rises" ["_law_heard_here"] (spRises K)) :
    FnOk P w K mg base CX0 5 f fd ["_law_script"] (spLaw K) := by
  obtain ⟨fN, fdN, GN, mN, kN, bN⟩ := cN.tk
  obtain ⟨fD, fdD, GD, mD, kD, bD⟩ := cD
  obtain ⟨fC, fdC, GC, mC, kC, bC⟩ := cC
  obtain ⟨fL, fdL, GL, mL, kL, bL⟩ := cL
  obtain ⟨fO, fdO, GO, mO, kO, bO⟩ := cO
  obtain ⟨fR, fdR, GR, mR, kR, bR⟩ := cR
  obtain ⟨fU, fdU, GU, mU, kU, bU⟩ := cU
  refine F.ok scLaw (fun vs H Q E h => ?_) (fun cdv A outer s H vs Q E hr h => ?_)
  · obtain ⟨a, ns, rfl, _⟩ := h
    rfl
  · obtain ⟨a, ns, rfl, hS, hl, k⟩ := h
    have hr4 : Room 4 _ := hr
    have hr3 : Room 3 _ := hr.mono (by decide)
    have hr2 : Room 2 _ := hr.mono (by decide)
    have hr1 : Room 1 _ := hr.mono (by decide)
    refine ⟨_, (pss_cons (ps_set (i := 1) scLaw.nd rfl (Or.inl rfl) (pe_call GD hr2 rfl mD kD bD .nil pass0 (pa_cons (pv 0) pa_nil)))
       (pss_cons (ps_for PassesOwn.never rfl (pi_range1 rfl B.range (pa_cons pe_int pa_nil)) (pg_name (i := 2) scLaw.nd rfl (Or.inl rfl))
       (pss_cons (ps_asg (pe_call GC hr3 rfl mC kC bC .nil pass0 (pa_cons (pv 1) (pa_cons (pe_op op_add pe_int (pe_call GN hr2 rfl mN kN bN .nil pass0 (pa_cons (pv 1) (pa_cons pe_int pa_nil)))) pa_nil))) (pg_tup rfl (pgs_cons (pg_name (i := 3) scLaw.nd rfl (Or.inl rfl)) (pgs_cons (pg_name (i := 4) scLaw.nd rfl (Or.inr rfl)) pgs_nil))))
       (pss_cons (ps_set (i := 5) scLaw.nd rfl (Or.inl rfl) (pe_call GL hr4 rfl mL kL bL .nil pass0 (pa_cons pe_str (pa_cons (pv 4) pa_nil))))
       (pss_cons (ps_set (i := 6) scLaw.nd rfl (Or.inl rfl) (pe_call GO hr4 rfl mO kO bO .nil pass0 (pa_cons pe_str (pa_cons (pv 4) pa_nil))))
       (pss_cons (ps_set (i := 7) scLaw.nd rfl (Or.inl rfl) (pe_call GR hr4 rfl mR kR bR .nil pass0 (pa_cons pe_str (pa_cons (pv 4) pa_nil))))
       (pss_cons (ps_if (PW.pt (pw_or (pt_cmpR (neDK (K := K) rfl hr.units) (pv 5) (pv 4) (nomark _)) (pw_or (pt_cmpR op_ne (pe_callB (lenK (K := K) rfl) (by rfl) B.len PySem.boot_len (pa_cons (pv 6) pa_nil)) (pe_callB (lenSetTK (K := K) (P := P) (w := w) rfl rfl rfl) (by rfl) B.len PySem.boot_len (pa_cons (pe_callTy (setOfTK (K := K) (P := P) (w := w) rfl rfl rfl rfl hr.units) (by rfl) B.set PyProof.Rows.boot_set (pa_cons (pv 6) pa_nil)) pa_nil)) (nomark _)) (pw_or1 (pt_cmpR (neDK (K := K) rfl hr.units) (pe_callB (sortUK (K := K) (d := 2) (B := 64) rfl (by decide)) (by rfl) B.sorted (by decide +kernel) (pa_cons (pv 6) pa_nil)) (pe_callB (sortedTK (K := K) (P := P) (w := w) rfl rfl rfl rfl) (by rfl) B.sorted (by decide +kernel) (pa_cons (pe_callTy (setOfTK (K := K) (P := P) (w := w) rfl rfl rfl rfl hr.units) (by rfl) B.set PyProof.Rows.boot_set (pa_cons (pv 4) pa_nil)) pa_nil)) (nomark _))))))
       (pss_one (ps_ret pe_bl))
       pss_nil)
       (pss_cons (ps_if (PW.pt (pw_or (pt_not (pt_val (pe_call GU hr1 rfl mU kU bU .nil pass0 (pa_cons (pv 7) pa_nil)))) (pw_or1 (pt_cmpR op_gt (pe_callB (lenK (K := K) rfl) (by rfl) B.len PySem.boot_len (pa_cons (pe_lc (own := [("_law_pair", 12)]) (g := (gName 12)) (tt := _) rfl scLaw.nd (pi_list (pv 7)) (blkOk_by (N := ["_law_script", "_law_deck_here", "_law_turn", "_law_sent", "_law_came_here", "_law_loose", "_law_once", "_law_row", "_law_sender", "_law_numbers", "_law_told", "_law_kept", "_law_pair"]) (sc := defScope sLaw) (by decide +kernel))
       (fun _ _ _ _ _ => (pg_name (i := 12) scLaw.nd rfl (Or.inl rfl))) (fun _ _ _ _ _ => (pts_one (pt_cmpR (notInDK (K := K) rfl (room65 hr)) (pv 12) (pv 4) (by rfl)))) (fun _ _ _ _ _ => (pv 12))) pa_nil)) pe_int (nomark _)))))
       (pss_one (ps_ret pe_bl))
       pss_nil)
       (pss_cons (ps_for PassesOwn.never rfl (pi_range1 rfl B.range (pa_cons pe_int pa_nil)) (pg_name (i := 8) scLaw.nd rfl (Or.inr rfl))
       (pss_cons (ps_setLc (i := 9) (own := [("_law_pair", 12)]) (g := (gName 12)) (tt := _) rfl scLaw.nd rfl rfl (sw_true rfl rfl rfl (by decide +kernel)) (pi_list (pv 4)) (blkOk_by (N := ["_law_script", "_law_deck_here", "_law_turn", "_law_sent", "_law_came_here", "_law_loose", "_law_once", "_law_row", "_law_sender", "_law_numbers", "_law_told", "_law_kept", "_law_pair"]) (sc := defScope sLaw) (by decide +kernel))
       (fun _ _ _ _ _ => (pg_name (i := 12) scLaw.nd rfl (Or.inl rfl))) (fun _ _ _ _ _ => (pts_one (pt_cmpR op_eq (pe_ix (ixT (K := K) rfl) (pv 12) pe_int (fun _ _ => rfl)) (pv 8) (nomark _)))) (fun _ _ _ _ _ => (pe_ix (ixT (K := K) rfl) (pv 12) pe_int (fun _ _ => rfl))))
       (pss_cons (ps_setLc (i := 10) (own := [("_law_pair", 12)]) (g := (gName 12)) (tt := _) rfl scLaw.nd rfl rfl (sw_true rfl rfl rfl (by decide +kernel)) (pi_list (pv 7)) (blkOk_by (N := ["_law_script", "_law_deck_here", "_law_turn", "_law_sent", "_law_came_here", "_law_loose", "_law_once", "_law_row", "_law_sender", "_law_numbers", "_law_told", "_law_kept", "_law_pair"]) (sc := defScope sLaw) (by decide +kernel))
       (fun _ _ _ _ _ => (pg_name (i := 12) scLaw.nd rfl (Or.inl rfl))) (fun _ _ _ _ _ => (pts_one (pt_cmpR op_eq (pe_ix (ixT (K := K) rfl) (pv 12) pe_int (fun _ _ => rfl)) (pv 8) (nomark _)))) (fun _ _ _ _ _ => (pe_ix (ixT (K := K) rfl) (pv 12) pe_int (fun _ _ => rfl))))
       (pss_one (ps_if (PW.pt (pw_and (pt_cmpR op_gt (pe_callB (lenK (K := K) rfl) (by rfl) B.len PySem.boot_len (pa_cons (pv 9) pa_nil)) pe_int (nomark _)) (pw_and1 (PW.pt (pw_or (pt_cmpR op_ne (pe_ix (ixL (K := K) rfl) (pv 10) pe_int (fun _ _ => rfl)) (pe_ix (ixL (K := K) rfl) (pv 9) pe_int (fun _ _ => rfl)) (nomark _)) (pw_or1 (pt_cmpR op_ne (pe_ix (ixL (K := K) rfl) (pv 10) (pe_un un_neg pe_int) (fun _ _ => rfl)) (pe_callB (crMaxK (K := K) rfl rfl) (by rfl) B.max (by decide +kernel) (pa_cons (pv 9) pa_nil)) (nomark _))))))))
       (pss_one (ps_ret pe_bl))
       pss_nil)))))
       (pss_cons (ps_setLc (i := 11) (own := [("_law_pair", 12)]) (g := (gName 12)) (tt := _) rfl scLaw.nd rfl rfl (sw_true rfl rfl rfl (by decide +kernel)) (pi_list (pv 3)) (blkOk_by (N := ["_law_script", "_law_deck_here", "_law_turn", "_law_sent", "_law_came_here", "_law_loose", "_law_once", "_law_row", "_law_sender", "_law_numbers", "_law_told", "_law_kept", "_law_pair"]) (sc := defScope sLaw) (by decide +kernel))
       (fun _ _ _ _ _ => (pg_name (i := 12) scLaw.nd rfl (Or.inl rfl))) (fun _ _ _ _ _ => (pts_one (pt_cmpR (inDK (K := K) rfl (room65 hr)) (pv 12) (pv 4) (by rfl)))) (fun _ _ _ _ _ => (pv 12)))
       (pss_one (ps_if (PW.pt (pw_or (pt_cmpR (neDK (K := K) rfl hr.units) (pe_call GR hr4 rfl mR kR bR .nil pass0 (pa_cons pe_str (pa_cons (pv 11) pa_nil))) (pv 11) (nomark _)) (pw_or1 (pt_cmpR (neDK (K := K) rfl hr.units) (pe_call GO hr4 rfl mO kO bO .nil pass0 (pa_cons pe_str (pa_cons (pv 11) pa_nil))) (pv 11) (nomark _)))))
       (pss_one (ps_ret pe_bl))
       pss_nil)))))))))))
       (pss_one (ps_ret pe_bl)))), ?_⟩
    refine ⟨_, rfl, a, ns, rfl, hS, hl, fun H1 d f nd nf s1 D1 => ?_⟩
    refine ⟨4, rfl, by omega, by omega, ?_⟩
    refine for_range (lo := 0) (fun i σ H' => ∃ (v2 v3 v4 v5 v6 v7 v8 v9 v10 v11 v12 : Option V), σ = [some (.ref a), some (.ref d), v2, v3, v4, v5, v6, v7, v8, v9, v10, v11, v12] ∧ Deck H' d f (300 * i)) ⟨_, _, _, _, _, _, _, _, _, _, _, rfl, D1.mono (by omega)⟩ ?_ ?_
    · rintro i σ H2 hi ⟨v2, v3, v4, v5, v6, v7, v8, v9, v10, v11, v12, rfl, D2⟩
      have hi : i < 4 := by omega
      refine ⟨_, rfl, _, rfl, d, f, 16, 300 * i, rfl, by decide, by omega, D2, fun m H3 m0 m1 k3 D3 t3 => ?_⟩
      refine ⟨_, _, rfl, rfl, ?_⟩
      refine ⟨d, f, 4 + m, 300 * i + 1, rfl, D3, by omega, by omega, by omega, fun H4 t sa fa S L nsa nfa k4 D4 ht hsa4 hfa4 oS lS sub lL => ?_⟩
      refine ⟨t, _, rfl, ht, rfl, _, _, rfl, _, _, rfl, rfl, ?_⟩
      refine ⟨_, rfl, fa, L, rfl, hfa4, by omega, fun H5 la nla s5 hla5 => ?_⟩
      rw [run_pl] at hla5
      refine ⟨_, rfl, fa, L, rfl, hfa4.same s5, by omega, fun H6 oa noa s6 hoa6 => ?_⟩
      obtain ⟨on1, on2, _⟩ := run_on L
      have lO : (runF (.init .on) L).2.length ≤ 38 := by
        have := (fold_len L (.init .on, [])).2.1
        have e : ([] : PL).length = 0 := rfl
        simp only [e] at this
        exact Nat.le_trans this (by omega)
      generalize (runF (.init .on) L).2 = O at hoa6 on1 on2 lO
      refine ⟨_, rfl, fa, L, rfl, (hfa4.same s5).same s6, by omega, fun H7 ra nra s7 hra7 => ?_⟩
      obtain ⟨mm, RO, _⟩ := run_tu L
      have lR : (runF (.init .tu) L).2.length ≤ 38 := by
        have := (fold_len L (.init .tu, [])).2.1
        have e : ([] : PL).length = 0 := rfl
        simp only [e] at this
        exact Nat.le_trans this (by omega)
      generalize (runF (.init .tu) L).2 = R at hra7 RO lR
      have hfa7 := ((hfa4.same s5).same s6).same s7
      have hsa7 := ((hsa4.same s5).same s6).same s7
      have hla7 := (hla5.same s6).same s7
      have hoa7 := hoa6.same s7
      have D7 := ((D4.same s5).same s6).same s7
      clear hla5 hoa6 s5 s6 s7 hfa4 hsa4 nla noa nra k3 k4 t3 D3 D4
      have bdS := oS.bd lS
      have bdL : ∀ e ∈ L, 0 ≤ e.1 ∧ e.1 < 3 ∧ 0 ≤ e.2 ∧ e.2 < 19 := fun e he => bdS e (sub e he)
      have bdO : ∀ e ∈ O, 0 ≤ e.1 ∧ e.1 < 3 ∧ 0 ≤ e.2 ∧ e.2 < 19 := fun e he => bdL e ((on2 e).mp he)
      obtain ⟨xl, hl7, rl7⟩ := id hla7
      obtain ⟨xf, hf7, rf7⟩ := id hfa7
      obtain ⟨xo, ho7, ro7⟩ := id hoa7
      obtain ⟨ko, rfl, ko2, kot⟩ := ks_of ro7
      obtain ⟨kf, rfl, kf2, kft⟩ := ks_of rf7
      have lko : ko.length = O.length := by
        have := congrArg List.length ko2
        rw [List.length_map, List.length_map] at this
        exact this
      have lkf : kf.length = L.length := by
        have := congrArg List.length kf2
        rw [List.length_map, List.length_map] at this
        exact this
      refine ⟨_, rfl, _, rfl, _, _, .lst (SqL.of hl7) (RpL.dp _ _ rl7), .lst (SqL.of hf7) (RpL.dp _ _ rf7), shaped_p2 _, shaped_p2 _, _, rfl, ?_⟩
      rw [SeqAt.eqv_refl _ (SeqAt.canLay_of_shaped (shaped_p2 L))]
      refine iteF ?_
      refine ⟨_, rfl, _, ko.length, rfl, .inl ⟨_, SqL.of ho7, (List.length_map _).symm⟩, _, rfl, oa, ko, rfl, SqL.of ho7, kot, by omega, fun sA Ls nsA c1 c2 => ?_⟩
      have s8 : Same H7 (upd H7 sA (SetTO P w sA Ls)) := (L2.Same.refl _).new nsA
      have hsA : upd H7 sA (SetTO P w sA Ls) sA = some (SetTO P w sA Ls) := upd_same
      generalize upd H7 sA (SetTO P w sA Ls) = H8 at s8 hsA
      refine ⟨sA, Ls, rfl, hsA, fun p hp => SqT.tk (kot p (c1 p hp)) (TK.of s8), fun ndL => ?_⟩
      have e8 := len_set ndL (by rw [ko2]; exact nodup_p2 on1) c1 c2
      refine ⟨rfl, _, rfl, ?_⟩
      rw [e8]
      refine iteNS rfl ?_
      have ho8 := s8 _ _ ho7
      have ro8 := RpL.tk (TK.of s8) _ _ ro7
      have bdp : ∀ e : Int × Int, (0 ≤ e.1 ∧ e.1 < 3 ∧ 0 ≤ e.2 ∧ e.2 < 19) → TS.Bd 64 (p2L e) := by
        intro e he m hm
        unfold p2L at hm
        rcases List.mem_cons.mp hm with rfl | hm
        · omega
        · rw [List.mem_singleton] at hm
          subst hm
          omega
      refine ⟨_, rfl, oa, _, rfl, SqL.of ho8, (by rw [List.length_map]; omega), ?_, fun ys p1 perm pw hp1 => ?_⟩
      · intro x hx
        obtain ⟨i, hi, rfl⟩ := List.mem_iff_getElem.mp hx
        rw [List.length_map] at hi
        obtain ⟨v, ev, rv⟩ := RpL.get _ _ ro8 i (p2D (O[i]'(by omega))) (by rw [List.getElem?_map, List.getElem?_eq_getElem (by omega)]; rfl)
        have ex : v = (ko.map fun p => V.ref p.1)[i]'(by rw [List.length_map]; exact hi) := by
          rw [List.getElem?_eq_getElem (by rw [List.length_map]; exact hi)] at ev
          exact (Option.some.inj ev).symm
        rw [← ex]
        obtain ⟨t, rfl, ht⟩ := p2D_inv rv
        exact ⟨p2L (O[i]'(by omega)), ⟨t, rfl, ht⟩, rfl, bdp _ (bdO _ (List.getElem_mem _))⟩
      obtain ⟨O', pO, rO'⟩ := RpL.perm perm O ro8
      have wO := rise_of rO' pw
      have s9 : Same H8 (upd H8 p1 (.lst ys)) := (L2.Same.refl _).new hp1
      have hp9 : upd H8 p1 (.lst ys) p1 = some (.lst ys) := upd_same
      generalize upd H8 p1 (.lst ys) = H9 at s9 hp9
      have s79 := s8.trans s9
      refine ⟨_, rfl, fa, kf, rfl, SqL.of (s79 _ _ hf7), fun p hp => SqT.tk (kft p hp) (TK.of s79), by omega, fun sB Lb nsB d1 d2 => ?_⟩
      have s10 : Same H9 (upd H9 sB (SetTO P w sB Lb)) := (L2.Same.refl _).new nsB
      have hsB : upd H9 sB (SetTO P w sB Lb) sB = some (SetTO P w sB Lb) := upd_same
      generalize upd H9 sB (SetTO P w sB Lb) = H10 at s10 hsB
      have s710 := s79.trans s10
      have pl1 : ∀ p ∈ Lb, ∃ e : Int × Int, e ∈ L ∧ p.2 = p2L e := fun p hp => by
        have h1 : p.2 ∈ kf.map (·.2) := List.mem_map.mpr ⟨p, d1 p hp, rfl⟩
        rw [kf2] at h1
        obtain ⟨e, he, h2⟩ := List.mem_map.mp h1
        exact ⟨e, he, h2.symm⟩
      refine ⟨sB, Lb, 2, 64, rfl, hsB, fun p hp => SqT.tk (kft p (d1 p hp)) (TK.of s710), by decide, fun p hp => ?_, fun Lz p2 perm2 nd2 lt2 pw2 hp2 => ?_⟩
      · obtain ⟨e, he, h2⟩ := pl1 p hp
        rw [h2]
        exact ⟨rfl, bdp e (bdL e he)⟩
      have s11 : Same H10 (upd H10 p2 (.lst (Lz.map fun q => V.ref q.1))) := (L2.Same.refl _).new hp2
      have hp11 : upd H10 p2 (.lst (Lz.map fun q => V.ref q.1)) p2 = some (.lst (Lz.map fun q => V.ref q.1)) := upd_same
      generalize upd H10 p2 (.lst (Lz.map fun q => V.ref q.1)) = H11 at s11 hp11
      have s711 := s710.trans s11
      obtain ⟨M, eM, rM⟩ := pl_of (K := K) (H := H11) (Ls := Lz) (fun p hp => let ⟨e, _, h⟩ := pl1 p (perm2.mem_iff.mp hp); ⟨e, h⟩) (fun p hp => SqT.tk (kft p (d1 p (perm2.mem_iff.mp hp))) (TK.of s711))
      have memM : ∀ e, e ∈ M ↔ e ∈ L := fun e => by
        have h1 : p2L e ∈ M.map p2L ↔ e ∈ M := ⟨fun h => by obtain ⟨x, hx, h⟩ := List.mem_map.mp h; rw [← p2L_inj h]; exact hx, fun h => List.mem_map.mpr ⟨e, h, rfl⟩⟩
        rw [← h1, ← eM]
        constructor
        · intro h
          obtain ⟨p, hp, h2⟩ := List.mem_map.mp h
          obtain ⟨x, hx, h3⟩ := pl1 p (perm2.mem_iff.mp hp)
          rw [← p2L_inj (h3.symm.trans h2)]
          exact hx
        · intro h
          have h2 : p2L e ∈ kf.map (·.2) := by
            rw [kf2]
            exact List.mem_map.mpr ⟨e, h, rfl⟩
          obtain ⟨p, hp, h3⟩ := List.mem_map.mp h2
          have h4 := d2 p hp
          obtain ⟨q, hq, h5⟩ := List.mem_map.mp h4
          exact List.mem_map.mpr ⟨q, perm2.mem_iff.mpr hq, h5.trans h3⟩
      have eOM : O' = M := by
        refine eq_of_code (fun e he => ?_) (fun e he => ?_) (pO.nodup_iff.mpr on1) (nodup_of_p2 (by rw [← eM]; exact nd2)) wO (rise_p2 pw2 eM) fun e => ?_
        · have := bdO e (pO.mem_iff.mp he)
          omega
        · have := bdL e ((memM e).mp he)
          omega
        · rw [pO.mem_iff, on2, memM]
      subst eOM
      refine ⟨_, _, .lst (SqL.of ((s10.trans s11) _ _ hp9)) (RpL.dp _ _ (RpL.tk (TK.of ((s9.trans s10).trans s11)) _ _ rO')), .lst (SqL.of hp11) (RpL.dp _ _ rM), shaped_p2 _, shaped_p2 _, _, rfl, ?_⟩
      rw [SeqAt.eqv_refl _ (SeqAt.canLay_of_shaped (shaped_p2 O'))]
      refine iteF ?_
      have hra11 := hra7.same s711
      have hfa11 := hfa7.same s711
      have hsa11 := hsa7.same s711
      have D11 := D7.same s711
      clear hp11 hp9 hsB hsA rM rO' ro8 ho8 rl7 hl7 rf7 hf7 ro7 ho7 hla7 hoa7
      refine ⟨_, rfl, ra, R, rfl, hra11, by omega, RO.rise, fun H12 s12 => ?_⟩
      refine ⟨_, rfl, iteF ?_⟩
      have hra12 := hra11.same s12
      have hfa12 := hfa11.same s12
      have hsa12 := hsa11.same s12
      have D12 := D11.same s12
      obtain ⟨xr, hr12, rr12⟩ := id hra12
      obtain ⟨xf, hf12, rf12⟩ := id hfa12
      refine ⟨_, rfl, ra, rfl, ⟨_, SqL.of hr12⟩, fun Da hDa => ?_⟩
      refine filt_lc (K := K) (i := 12) (enc := p2D) (fun e => !decide (e ∈ L)) hr12 rr12 hDa (by show 12 < 13; decide) (by omega) ?_ ?_
      · intro e x H' Q' he re s' hQ
        refine ⟨_, rfl, _, rfl, _, _, Rp.dp _ _ re, .lst (SqL.of (s' _ _ hf12)) (RpL.dp _ _ (RpL.tk (TK.of s') _ _ rf12)), shaped_p e, shaped_p2 L, _, rfl, ?_⟩
        rw [any_p2]
        exact hQ
      intro H13 yd s13 hDa13 ryd
      have eF : R.filter (fun e => !decide (e ∈ L)) = [] := by
        rw [List.filter_eq_nil_iff]
        intro e he
        simp [RO.sub e he]
      rw [eF, List.map_nil] at ryd
      unfold RpL at ryd
      subst ryd
      refine ⟨_, 0, rfl, .inl ⟨_, SqL.of hDa13, rfl⟩, _, _, rfl, rfl, _, rfl, iteF ?_⟩
      refine ⟨3, rfl, by omega, by omega, ?_⟩
      have hra13 := hra12.same s13
      have hfa13 := hfa12.same s13
      have hsa13 := hsa12.same s13
      have D13 := D12.same s13
      clear hDa13 hr12 rr12 hf12 rf12
      refine for_range (lo := 0) (fun j σ H' => ∃ (v8 v9 v10 v12 : Option V), σ = [some (.ref a), some (.ref d), some (.int (0 + (i : Int))), some (.ref sa), some (.ref fa), some (.ref la), some (.ref oa), some (.ref ra), v8, v9, v10, v11, v12] ∧ Same H13 H')
        ⟨_, _, _, _, rfl, L2.Same.refl _⟩ ?_ ?_
      · rintro j σ H14 hj ⟨v8, v9, v10, v12, rfl, s14⟩
        obtain ⟨xf, hf14, rf14⟩ := hfa13.same s14
        obtain ⟨xr, hr14, rr14⟩ := hra13.same s14
        refine ⟨_, rfl, fa, rfl, ⟨_, SqL.of hf14⟩, fun Db hDb => ?_⟩
        refine nums_lc (K := K) (i := 12) (0 + (j : Int)) hf14 rf14 hDb (by omega) ?_ ?_ ?_
        · intro e x H' Q' re hQ
          obtain ⟨t, rfl, ht⟩ := p2D_inv re
          refine ⟨_, rfl, t, _, _, _, rfl, rfl, ht, rfl, _, rfl, rfl, _, rfl, ?_⟩
          show Q' (decide (V.int e.1 = V.int (0 + (j : Int)))) H'
          rw [dec_int]
          exact hQ
        · intro e x H' Q' re hQ
          obtain ⟨t, rfl, ht⟩ := p2D_inv re
          exact ⟨_, rfl, t, _, _, _, rfl, rfl, ht, rfl, hQ⟩
        intro H15 s15 hDb15
        refine ⟨_, rfl, ra, rfl, ⟨_, SqL.of (s15 _ _ hr14)⟩, fun Dc hDc => ?_⟩
        refine nums_lc (K := K) (i := 12) (0 + (j : Int)) (s15 _ _ hr14) (RpL.tk (TK.of s15) _ _ rr14) hDc (by omega) ?_ ?_ ?_
        · intro e x H' Q' re hQ
          obtain ⟨t, rfl, ht⟩ := p2D_inv re
          refine ⟨_, rfl, t, _, _, _, rfl, rfl, ht, rfl, _, rfl, rfl, _, rfl, ?_⟩
          show Q' (decide (V.int e.1 = V.int (0 + (j : Int)))) H'
          rw [dec_int]
          exact hQ
        · intro e x H' Q' re hQ
          obtain ⟨t, rfl, ht⟩ := p2D_inv re
          exact ⟨_, rfl, t, _, _, _, rfl, rfl, ht, rfl, hQ⟩
        intro H16 s16 hDc16
        have hDb16 := s16 _ _ hDb15
        have fst := RO.first (0 + (j : Int))
        have mst := RO.most (0 + (j : Int))
        have sbb : ∀ n ∈ numsOf R (0 + (j : Int)), n ∈ numsOf L (0 + (j : Int)) := fun n hn => mem_nums.mpr (RO.sub _ (mem_nums.mp hn))
        generalize numsOf R (0 + (j : Int)) = told at hDc16 fst mst sbb
        generalize numsOf L (0 + (j : Int)) = nums at hDb16 fst mst sbb
        refine ⟨_, rfl, _, nums.length, rfl, .inl ⟨_, SqL.of hDb16, (List.length_map _).symm⟩, _, _, rfl, rfl, _, rfl, ?_⟩
        refine ite2 (fun hc => ?_) (fun hc => ?_)
        · have hc := of_decide_eq_true hc
          cases nums with
          | nil => exact absurd hc (by decide)
          | cons n0 nr =>
            cases told with
            | nil => cases fst
            | cons t0 tr =>
              obtain rfl : t0 = n0 := Option.some.inj fst
              refine ⟨_, rfl, Dc, _, _, .int t0, rfl, rfl, SqL.of hDc16, at0, _, rfl, Db, _, _, .int t0, rfl, rfl, SqL.of hDb16, at0, rfl, _, rfl, ?_⟩
              refine iteNS rfl ?_
              obtain ⟨kk, hk1, hk2⟩ := mst t0 List.mem_cons_self
              refine ⟨_, rfl, _, rfl, Dc, _, _, _, rfl, rfl, SqL.of hDc16, atI_last hk1, _, rfl, Db, _, rfl, SqL.of hDb16, Nat.zero_lt_succ _, fun mx mx1 mx2 => ?_⟩
              have em : kk = mx := by
                obtain ⟨k2, hk3, hk4⟩ := mst mx mx1
                rw [hk1] at hk3
                cases hk3
                have := mx2 kk (sbb kk (List.mem_of_getLast? hk1))
                omega
              subst em
              refine ⟨rfl, _, rfl, ?_⟩
              refine iteNS rfl ?_
              exact ⟨_, _, _, _, rfl, (s14.trans s15).trans s16⟩
        · exact ⟨_, _, _, _, rfl, (s14.trans s15).trans s16⟩
      · rintro σ H14 ⟨v8, v9, v10, v12, rfl, s14⟩
        have hfa14 := hfa13.same s14
        have hsa14 := hsa13.same s14
        have D14 := D13.same s14
        obtain ⟨xf, hf14, rf14⟩ := id hfa14
        obtain ⟨xs, hs14, rs14⟩ := id hsa14
        refine ⟨_, rfl, sa, rfl, ⟨_, SqL.of hs14⟩, fun De hDe => ?_⟩
        refine filt_lc (K := K) (i := 12) (enc := p2D) (fun e => decide (e ∈ L)) hs14 rs14 hDe (by show 12 < 13; decide) (by omega) ?_ ?_
        · intro e x H' Q' he re s' hQ
          refine ⟨_, rfl, _, rfl, _, _, Rp.dp _ _ re, .lst (SqL.of (s' _ _ hf14)) (RpL.dp _ _ (RpL.tk (TK.of s') _ _ rf14)), shaped_p e, shaped_p2 L, _, rfl, ?_⟩
          rw [any_p2]
          exact hQ
        intro H15 yk s15 hDe15 ryk
        have rs : ((S.filter fun e => decide (e ∈ L)).map (·.2)).Pairwise (· < ·) := List.Pairwise.sublist (List.Sublist.map _ List.filter_sublist) oS.rise
        have lk : (S.filter fun e => decide (e ∈ L)).length ≤ S.length := List.length_filter_le _ _
        generalize (S.filter fun e => decide (e ∈ L)) = Kt at ryk rs lk
        have hk15 : LstAt K H15 De (Kt.map p2D) := ⟨_, hDe15, ryk⟩
        obtain ⟨_, _, on3⟩ := run_on Kt
        obtain ⟨_, _, tu3⟩ := run_tu Kt
        refine ⟨_, rfl, De, Kt, rfl, hk15, by omega, fun H16 ca nca s16 hca16 => ?_⟩
        rw [tu3 rs] at hca16
        obtain ⟨xc, hc16, rc16⟩ := id hca16
        obtain ⟨xk, hk16, rk16⟩ := hk15.same s16
        refine ⟨_, rfl, _, _, .lst (SqL.of hc16) (RpL.dp _ _ rc16), .lst (SqL.of hk16) (RpL.dp _ _ rk16), shaped_p2 _, shaped_p2 _, _, rfl, ?_⟩
        rw [SeqAt.eqv_refl _ (SeqAt.canLay_of_shaped (shaped_p2 Kt))]
        refine iteF ?_
        refine ⟨_, rfl, De, Kt, rfl, hk15.same s16, by omega, fun H17 cb ncb s17 hcb17 => ?_⟩
        rw [on3 (nodup_of_rise rs)] at hcb17
        obtain ⟨xc, hc17, rc17⟩ := id hcb17
        obtain ⟨xk, hk17, rk17⟩ := (hk15.same s16).same s17
        refine ⟨_, rfl, _, _, .lst (SqL.of hc17) (RpL.dp _ _ rc17), .lst (SqL.of hk17) (RpL.dp _ _ rk17), shaped_p2 _, shaped_p2 _, _, rfl, ?_⟩
        rw [SeqAt.eqv_refl _ (SeqAt.canLay_of_shaped (shaped_p2 Kt))]
        refine iteF ?_
        exact ⟨_, _, _, _, _, _, _, _, _, _, _, rfl, (((D14.same s15).same s16).same s17).mono (by omega)⟩
    · rintro σ H2 ⟨v2, v3, v4, v5, v6, v7, v8, v9, v10, v11, v12, rfl, D2⟩
      exact k _
end
end Wn

namespace Wn
open PySem L2
theorem all_mk {l : PySem.W.OpenLaw} {w : World} {K : PySem.W.Frag} {h : Heap} {mg : Str → Option Value} {fa C_Filter f_Filter_init f_Filter_word_for f_Filter_keep f_Filter_takes C_Loose C_Once f_Once_word_for f_Once_keep C_Turn f_Turn_word_for f_Turn_keep f_filter_of f_law_mixed f_law_deck f_law_next f_law_came f_law_heard f_law_rises f_law : Addr} (X : K.In h) (G : h.Ns mainGlobals mg) (hfa : mg "law" = some (.ref fa))
    {od_Filter_init an_Filter_init od_Filter_word_for an_Filter_word_for od_Filter_keep an_Filter_keep od_Filter_takes an_Filter_takes od_Once_word_for an_Once_word_for od_Once_keep an_Once_keep od_Turn_word_for an_Turn_word_for od_Turn_keep an_Turn_keep od_filter_of an_filter_of od_law_mixed an_law_mixed od_law_deck an_law_deck od_law_next an_law_next od_law_came an_law_came od_law_heard an_law_heard od_law_rises an_law_rises od_law an_law : Option Addr} {sl_Filter_init sl_Filter_word_for sl_Filter_keep sl_Filter_takes sl_Once_word_for sl_Once_keep sl_Turn_word_for sl_Turn_keep sl_filter_of sl_law_mixed sl_law_deck sl_law_next sl_law_came sl_law_heard sl_law_rises sl_law : Array (Option Value)} {oc_Filter_init kV_Filter_init dc_Filter_init pm_Filter_init cd_Filter_init ct_Filter_init oc_Filter_word_for kV_Filter_word_for dc_Filter_word_for pm_Filter_word_for cd_Filter_word_for ct_Filter_word_for oc_Filter_keep kV_Filter_keep dc_Filter_keep pm_Filter_keep cd_Filter_keep ct_Filter_keep oc_Filter_takes kV_Filter_takes dc_Filter_takes pm_Filter_takes cd_Filter_takes ct_Filter_takes oc_Once_word_for kV_Once_word_for dc_Once_word_for pm_Once_word_for cd_Once_word_for ct_Once_word_for oc_Once_keep kV_Once_keep dc_Once_keep pm_Once_keep cd_Once_keep ct_Once_keep oc_Turn_word_for kV_Turn_word_for dc_Turn_word_for pm_Turn_word_for cd_Turn_word_for ct_Turn_word_for oc_Turn_keep kV_Turn_keep dc_Turn_keep pm_Turn_keep cd_Turn_keep ct_Turn_keep oc_filter_of kV_filter_of dc_filter_of pm_filter_of cd_filter_of ct_filter_of oc_law_mixed kV_law_mixed dc_law_mixed pm_law_mixed cd_law_mixed ct_law_mixed oc_law_deck kV_law_deck dc_law_deck pm_law_deck cd_law_deck ct_law_deck oc_law_next kV_law_next dc_law_next pm_law_next cd_law_next ct_law_next oc_law_came kV_law_came dc_law_came pm_law_came cd_law_came ct_law_came oc_law_heard kV_law_heard dc_law_heard pm_law_heard cd_law_heard ct_law_heard oc_law_rises kV_law_rises dc_law_rises pm_law_rises cd_law_rises ct_law_rises oc_law kV_law dc_law pm_law cd_law ct_law : Value} {t_HEARD t_AGAIN t_LATE : Tok}
    (a_HEARD : PySem.W.nsIn K mainGlobals "HEARD" = some (some (.str "heard" t_HEARD)))
    (a_AGAIN : PySem.W.nsIn K mainGlobals "AGAIN" = some (some (.str "again" t_AGAIN)))
    (a_LATE : PySem.W.nsIn K mainGlobals "LATE" = some (some (.str "late" t_LATE)))
    (a_C_Filter : PySem.W.nsIn K mainGlobals "Filter" = some (some (.ref C_Filter)))
    (pg_C_Filter : PySem.W.plainGet K C_Filter Str.empty = true)
    (hd_C_Filter : PySem.W.hasDictIn K C_Filter = true)
    (po_C_Filter : PySem.W.plainOver K C_Filter = true)
    (sa_C_Filter : PySem.W.findIn K (.ref C_Filter) "__setattr__" = some (some (.builtin "object.__setattr__")))
    (mk_C_Filter : PySem.W.makesIn K C_Filter = true)
    (kc_C_Filter : PySem.W.keepIn K (.ref C_Filter) = true)
    (a_Filter_init : PySem.W.findIn K (.ref C_Filter) "__init__" = some (some (.ref f_Filter_init)))
    (i_Filter_init : PySem.W.isFn K (.ref f_Filter_init) = true)
    (l_Filter_init : K.lookup f_Filter_init = some ⟨oc_Filter_init, od_Filter_init, .func (PySem.W.fnOf "__init__" "Filter.__init__" (defArgs sFInit) (defBody sFInit) (defScope sFInit) .none kV_Filter_init dc_Filter_init pm_Filter_init an_Filter_init cd_Filter_init ct_Filter_init), sl_Filter_init⟩)
    (c_Filter_init : PySem.W.codeIn K cd_Filter_init "Filter.__init__" = true)
    (k_Filter_init : PySem.W.keepIn K (.ref f_Filter_init) = true)
    (a_Filter_word_for : PySem.W.findIn K (.ref C_Filter) "word_for" = some (some (.ref f_Filter_word_for)))
    (i_Filter_word_for : PySem.W.isFn K (.ref f_Filter_word_for) = true)
    (l_Filter_word_for : K.lookup f_Filter_word_for = some ⟨oc_Filter_word_for, od_Filter_word_for, .func (PySem.W.fnOf "word_for" "Filter.word_for" (defArgs sFWord) (defBody sFWord) (defScope sFWord) .none kV_Filter_word_for dc_Filter_word_for pm_Filter_word_for an_Filter_word_for cd_Filter_word_for ct_Filter_word_for), sl_Filter_word_for⟩)
    (c_Filter_word_for : PySem.W.codeIn K cd_Filter_word_for "Filter.word_for" = true)
    (k_Filter_word_for : PySem.W.keepIn K (.ref f_Filter_word_for) = true)
    (a_Filter_keep : PySem.W.findIn K (.ref C_Filter) "keep" = some (some (.ref f_Filter_keep)))
    (i_Filter_keep : PySem.W.isFn K (.ref f_Filter_keep) = true)
    (l_Filter_keep : K.lookup f_Filter_keep = some ⟨oc_Filter_keep, od_Filter_keep, .func (PySem.W.fnOf "keep" "Filter.keep" (defArgs sFKeep) (defBody sFKeep) (defScope sFKeep) .none kV_Filter_keep dc_Filter_keep pm_Filter_keep an_Filter_keep cd_Filter_keep ct_Filter_keep), sl_Filter_keep⟩)
    (c_Filter_keep : PySem.W.codeIn K cd_Filter_keep "Filter.keep" = true)
    (k_Filter_keep : PySem.W.keepIn K (.ref f_Filter_keep) = true)
    (a_Filter_takes : PySem.W.findIn K (.ref C_Filter) "takes" = some (some (.ref f_Filter_takes)))
    (i_Filter_takes : PySem.W.isFn K (.ref f_Filter_takes) = true)
    (l_Filter_takes : K.lookup f_Filter_takes = some ⟨oc_Filter_takes, od_Filter_takes, .func (PySem.W.fnOf "takes" "Filter.takes" (defArgs sFTakes) (defBody sFTakes) (defScope sFTakes) .none kV_Filter_takes dc_Filter_takes pm_Filter_takes an_Filter_takes cd_Filter_takes ct_Filter_takes), sl_Filter_takes⟩)
    (c_Filter_takes : PySem.W.codeIn K cd_Filter_takes "Filter.takes" = true)
    (k_Filter_takes : PySem.W.keepIn K (.ref f_Filter_takes) = true)
    (a_C_Loose : PySem.W.nsIn K mainGlobals "Loose" = some (some (.ref C_Loose)))
    (pg_C_Loose : PySem.W.plainGet K C_Loose Str.empty = true)
    (hd_C_Loose : PySem.W.hasDictIn K C_Loose = true)
    (po_C_Loose : PySem.W.plainOver K C_Loose = true)
    (sa_C_Loose : PySem.W.findIn K (.ref C_Loose) "__setattr__" = some (some (.builtin "object.__setattr__")))
    (mk_C_Loose : PySem.W.makesIn K C_Loose = true)
    (kc_C_Loose : PySem.W.keepIn K (.ref C_Loose) = true)
    (n_C_Loose_known : PySem.W.findIn K (.ref C_Loose) "known" = some none)
    (a_Loose_init : PySem.W.findIn K (.ref C_Loose) "__init__" = some (some (.ref f_Filter_init)))
    (a_Loose_word_for : PySem.W.findIn K (.ref C_Loose) "word_for" = some (some (.ref f_Filter_word_for)))
    (a_Loose_keep : PySem.W.findIn K (.ref C_Loose) "keep" = some (some (.ref f_Filter_keep)))
    (a_Loose_takes : PySem.W.findIn K (.ref C_Loose) "takes" = some (some (.ref f_Filter_takes)))
    (a_C_Once : PySem.W.nsIn K mainGlobals "Once" = some (some (.ref C_Once)))
    (pg_C_Once : PySem.W.plainGet K C_Once Str.empty = true)
    (hd_C_Once : PySem.W.hasDictIn K C_Once = true)
    (po_C_Once : PySem.W.plainOver K C_Once = true)
    (sa_C_Once : PySem.W.findIn K (.ref C_Once) "__setattr__" = some (some (.builtin "object.__setattr__")))
    (mk_C_Once : PySem.W.makesIn K C_Once = true)
    (kc_C_Once : PySem.W.keepIn K (.ref C_Once) = true)
    (n_C_Once_known : PySem.W.findIn K (.ref C_Once) "known" = some none)
    (a_Once_word_for : PySem.W.findIn K (.ref C_Once) "word_for" = some (some (.ref f_Once_word_for)))
    (i_Once_word_for : PySem.W.isFn K (.ref f_Once_word_for) = true)
    (l_Once_word_for : K.lookup f_Once_word_for = some ⟨oc_Once_word_for, od_Once_word_for, .func (PySem.W.fnOf "word_for" "Once.word_for" (defArgs sOWord) (defBody sOWord) (defScope sOWord) .none kV_Once_word_for dc_Once_word_for pm_Once_word_for an_Once_word_for cd_Once_word_for ct_Once_word_for), sl_Once_word_for⟩)
    (c_Once_word_for : PySem.W.codeIn K cd_Once_word_for "Once.word_for" = true)
    (k_Once_word_for : PySem.W.keepIn K (.ref f_Once_word_for) = true)
    (a_Once_keep : PySem.W.findIn K (.ref C_Once) "keep" = some (some (.ref f_Once_keep)))
    (i_Once_keep : PySem.W.isFn K (.ref f_Once_keep) = true)
    (l_Once_keep : K.lookup f_Once_keep = some ⟨oc_Once_keep, od_Once_keep, .func (PySem.W.fnOf "keep" "Once.keep" (defArgs sOKeep) (defBody sOKeep) (defScope sOKeep) .none kV_Once_keep dc_Once_keep pm_Once_keep an_Once_keep cd_Once_keep ct_Once_keep), sl_Once_keep⟩)
    (c_Once_keep : PySem.W.codeIn K cd_Once_keep "Once.keep" = true)
    (k_Once_keep : PySem.W.keepIn K (.ref f_Once_keep) = true)
    (a_Once_init : PySem.W.findIn K (.ref C_Once) "__init__" = some (some (.ref f_Filter_init)))
    (a_Once_takes : PySem.W.findIn K (.ref C_Once) "takes" = some (some (.ref f_Filter_takes)))
    (a_C_Turn : PySem.W.nsIn K mainGlobals "Turn" = some (some (.ref C_Turn)))
    (pg_C_Turn : PySem.W.plainGet K C_Turn Str.empty = true)
    (hd_C_Turn : PySem.W.hasDictIn K C_Turn = true)
    (po_C_Turn : PySem.W.plainOver K C_Turn = true)
    (sa_C_Turn : PySem.W.findIn K (.ref C_Turn) "__setattr__" = some (some (.builtin "object.__setattr__")))
    (mk_C_Turn : PySem.W.makesIn K C_Turn = true)
    (kc_C_Turn : PySem.W.keepIn K (.ref C_Turn) = true)
    (n_C_Turn_known : PySem.W.findIn K (.ref C_Turn) "known" = some none)
    (a_Turn_word_for : PySem.W.findIn K (.ref C_Turn) "word_for" = some (some (.ref f_Turn_word_for)))
    (i_Turn_word_for : PySem.W.isFn K (.ref f_Turn_word_for) = true)
    (l_Turn_word_for : K.lookup f_Turn_word_for = some ⟨oc_Turn_word_for, od_Turn_word_for, .func (PySem.W.fnOf "word_for" "Turn.word_for" (defArgs sTWord) (defBody sTWord) (defScope sTWord) .none kV_Turn_word_for dc_Turn_word_for pm_Turn_word_for an_Turn_word_for cd_Turn_word_for ct_Turn_word_for), sl_Turn_word_for⟩)
    (c_Turn_word_for : PySem.W.codeIn K cd_Turn_word_for "Turn.word_for" = true)
    (k_Turn_word_for : PySem.W.keepIn K (.ref f_Turn_word_for) = true)
    (a_Turn_keep : PySem.W.findIn K (.ref C_Turn) "keep" = some (some (.ref f_Turn_keep)))
    (i_Turn_keep : PySem.W.isFn K (.ref f_Turn_keep) = true)
    (l_Turn_keep : K.lookup f_Turn_keep = some ⟨oc_Turn_keep, od_Turn_keep, .func (PySem.W.fnOf "keep" "Turn.keep" (defArgs sTKeep) (defBody sTKeep) (defScope sTKeep) .none kV_Turn_keep dc_Turn_keep pm_Turn_keep an_Turn_keep cd_Turn_keep ct_Turn_keep), sl_Turn_keep⟩)
    (c_Turn_keep : PySem.W.codeIn K cd_Turn_keep "Turn.keep" = true)
    (k_Turn_keep : PySem.W.keepIn K (.ref f_Turn_keep) = true)
    (a_Turn_init : PySem.W.findIn K (.ref C_Turn) "__init__" = some (some (.ref f_Filter_init)))
    (a_Turn_takes : PySem.W.findIn K (.ref C_Turn) "takes" = some (some (.ref f_Filter_takes)))
    (a_filter_of : PySem.W.nsIn K mainGlobals "filter_of" = some (some (.ref f_filter_of)))
    (l_filter_of : K.lookup f_filter_of = some ⟨oc_filter_of, od_filter_of, .func (PySem.W.fnOf "filter_of" "filter_of" (defArgs sFof) (defBody sFof) (defScope sFof) .none kV_filter_of dc_filter_of pm_filter_of an_filter_of cd_filter_of ct_filter_of), sl_filter_of⟩)
    (c_filter_of : PySem.W.codeIn K cd_filter_of "filter_of" = true)
    (k_filter_of : PySem.W.keepIn K (.ref f_filter_of) = true)
    (a_law_mixed : PySem.W.nsIn K mainGlobals "_law_mixed" = some (some (.ref f_law_mixed)))
    (l_law_mixed : K.lookup f_law_mixed = some ⟨oc_law_mixed, od_law_mixed, .func (PySem.W.fnOf "_law_mixed" "_law_mixed" (defArgs sMixed) (defBody sMixed) (defScope sMixed) .none kV_law_mixed dc_law_mixed pm_law_mixed an_law_mixed cd_law_mixed ct_law_mixed), sl_law_mixed⟩)
    (c_law_mixed : PySem.W.codeIn K cd_law_mixed "_law_mixed" = true)
    (k_law_mixed : PySem.W.keepIn K (.ref f_law_mixed) = true)
    (a_law_deck : PySem.W.nsIn K mainGlobals "_law_deck" = some (some (.ref f_law_deck)))
    (l_law_deck : K.lookup f_law_deck = some ⟨oc_law_deck, od_law_deck, .func (PySem.W.fnOf "_law_deck" "_law_deck" (defArgs sDeck) (defBody sDeck) (defScope sDeck) .none kV_law_deck dc_law_deck pm_law_deck an_law_deck cd_law_deck ct_law_deck), sl_law_deck⟩)
    (c_law_deck : PySem.W.codeIn K cd_law_deck "_law_deck" = true)
    (k_law_deck : PySem.W.keepIn K (.ref f_law_deck) = true)
    (a_law_next : PySem.W.nsIn K mainGlobals "_law_next" = some (some (.ref f_law_next)))
    (l_law_next : K.lookup f_law_next = some ⟨oc_law_next, od_law_next, .func (PySem.W.fnOf "_law_next" "_law_next" (defArgs sNext) (defBody sNext) (defScope sNext) .none kV_law_next dc_law_next pm_law_next an_law_next cd_law_next ct_law_next), sl_law_next⟩)
    (c_law_next : PySem.W.codeIn K cd_law_next "_law_next" = true)
    (k_law_next : PySem.W.keepIn K (.ref f_law_next) = true)
    (a_law_came : PySem.W.nsIn K mainGlobals "_law_came" = some (some (.ref f_law_came)))
    (l_law_came : K.lookup f_law_came = some ⟨oc_law_came, od_law_came, .func (PySem.W.fnOf "_law_came" "_law_came" (defArgs sCame) (defBody sCame) (defScope sCame) .none kV_law_came dc_law_came pm_law_came an_law_came cd_law_came ct_law_came), sl_law_came⟩)
    (c_law_came : PySem.W.codeIn K cd_law_came "_law_came" = true)
    (k_law_came : PySem.W.keepIn K (.ref f_law_came) = true)
    (a_law_heard : PySem.W.nsIn K mainGlobals "_law_heard" = some (some (.ref f_law_heard)))
    (l_law_heard : K.lookup f_law_heard = some ⟨oc_law_heard, od_law_heard, .func (PySem.W.fnOf "_law_heard" "_law_heard" (defArgs sHeard) (defBody sHeard) (defScope sHeard) .none kV_law_heard dc_law_heard pm_law_heard an_law_heard cd_law_heard ct_law_heard), sl_law_heard⟩)
    (c_law_heard : PySem.W.codeIn K cd_law_heard "_law_heard" = true)
    (k_law_heard : PySem.W.keepIn K (.ref f_law_heard) = true)
    (a_law_rises : PySem.W.nsIn K mainGlobals "_law_rises" = some (some (.ref f_law_rises)))
    (l_law_rises : K.lookup f_law_rises = some ⟨oc_law_rises, od_law_rises, .func (PySem.W.fnOf "_law_rises" "_law_rises" (defArgs sRises) (defBody sRises) (defScope sRises) .none kV_law_rises dc_law_rises pm_law_rises an_law_rises cd_law_rises ct_law_rises), sl_law_rises⟩)
    (c_law_rises : PySem.W.codeIn K cd_law_rises "_law_rises" = true)
    (k_law_rises : PySem.W.keepIn K (.ref f_law_rises) = true)
    (a_law : PySem.W.nsIn K mainGlobals "law" = some (some (.ref f_law)))
    (l_law : K.lookup f_law = some ⟨oc_law, od_law, .func (PySem.W.fnOf "law" "law" (defArgs sLaw) (defBody sLaw) (defScope sLaw) .none kV_law dc_law pm_law an_law cd_law ct_law), sl_law⟩)
    (c_law : PySem.W.codeIn K cd_law "law" = true)
    (k_law : PySem.W.keepIn K (.ref f_law) = true)
    (z_len : PySem.W.nsIn K mainGlobals "len" = some none)
    (z_range : PySem.W.nsIn K mainGlobals "range" = some none)
    (z_min : PySem.W.nsIn K mainGlobals "min" = some none)
    (z_max : PySem.W.nsIn K mainGlobals "max" = some none)
    (z_int : PySem.W.nsIn K mainGlobals "int" = some none)
    (z_sorted : PySem.W.nsIn K mainGlobals "sorted" = some none)
    (z_set : PySem.W.nsIn K mainGlobals "set" = some none) :
    ∃ fd : FuncData, (∀ (s : Shared) (v : Value), BindsTo s fd ⟨[v], []⟩ [("_law_script", v)]) ∧ ∀ base : Heap, K.In base → base.Ns mainGlobals mg → FnOk l.prog w K mg base CX0 5 fa fd ["_law_script"] (spLaw K) := by
  have e := hfa.symm.trans (PySem.W.mg_of X G a_law)
  cases e
  have m_HEARD := PySem.W.mg_of X G a_HEARD
  have m_AGAIN := PySem.W.mg_of X G a_AGAIN
  have m_LATE := PySem.W.mg_of X G a_LATE
  have m_C_Filter := PySem.W.mg_of X G a_C_Filter
  have cl_C_Filter : Cls K C_Filter := ⟨pg_C_Filter, hd_C_Filter, po_C_Filter, sa_C_Filter⟩
  have F_Filter_init := fun_mk (st := sFInit) l_Filter_init c_Filter_init k_Filter_init
  have b_Filter_init := F_Filter_init.binds (ps := ["self"]) fun _ _ _ _ _ _ us hl => match us, hl with | [_], _ => rfl
  have M_Filter_init : Meth K C_Filter "__init__" f_Filter_init := ⟨a_Filter_init, i_Filter_init, k_Filter_init⟩
  have F_Filter_word_for := fun_mk (st := sFWord) l_Filter_word_for c_Filter_word_for k_Filter_word_for
  have b_Filter_word_for := F_Filter_word_for.binds (ps := ["self", "sender", "number"]) fun _ _ _ _ _ _ us hl => match us, hl with | [_, _, _], _ => rfl
  have M_Filter_word_for : Meth K C_Filter "word_for" f_Filter_word_for := ⟨a_Filter_word_for, i_Filter_word_for, k_Filter_word_for⟩
  have F_Filter_keep := fun_mk (st := sFKeep) l_Filter_keep c_Filter_keep k_Filter_keep
  have b_Filter_keep := F_Filter_keep.binds (ps := ["self", "sender", "number"]) fun _ _ _ _ _ _ us hl => match us, hl with | [_, _, _], _ => rfl
  have M_Filter_keep : Meth K C_Filter "keep" f_Filter_keep := ⟨a_Filter_keep, i_Filter_keep, k_Filter_keep⟩
  have F_Filter_takes := fun_mk (st := sFTakes) l_Filter_takes c_Filter_takes k_Filter_takes
  have b_Filter_takes := F_Filter_takes.binds (ps := ["self", "sender", "number"]) fun _ _ _ _ _ _ us hl => match us, hl with | [_, _, _], _ => rfl
  have M_Filter_takes : Meth K C_Filter "takes" f_Filter_takes := ⟨a_Filter_takes, i_Filter_takes, k_Filter_takes⟩
  have m_C_Loose := PySem.W.mg_of X G a_C_Loose
  have cl_C_Loose : Cls K C_Loose := ⟨pg_C_Loose, hd_C_Loose, po_C_Loose, sa_C_Loose⟩
  have M_Loose_init : Meth K C_Loose "__init__" f_Filter_init := ⟨a_Loose_init, i_Filter_init, k_Filter_init⟩
  have M_Loose_word_for : Meth K C_Loose "word_for" f_Filter_word_for := ⟨a_Loose_word_for, i_Filter_word_for, k_Filter_word_for⟩
  have M_Loose_keep : Meth K C_Loose "keep" f_Filter_keep := ⟨a_Loose_keep, i_Filter_keep, k_Filter_keep⟩
  have M_Loose_takes : Meth K C_Loose "takes" f_Filter_takes := ⟨a_Loose_takes, i_Filter_takes, k_Filter_takes⟩
  have m_C_Once := PySem.W.mg_of X G a_C_Once
  have cl_C_Once : Cls K C_Once := ⟨pg_C_Once, hd_C_Once, po_C_Once, sa_C_Once⟩
  have F_Once_word_for := fun_mk (st := sOWord) l_Once_word_for c_Once_word_for k_Once_word_for
  have b_Once_word_for := F_Once_word_for.binds (ps := ["self", "sender", "number"]) fun _ _ _ _ _ _ us hl => match us, hl with | [_, _, _], _ => rfl
  have M_Once_word_for : Meth K C_Once "word_for" f_Once_word_for := ⟨a_Once_word_for, i_Once_word_for, k_Once_word_for⟩
  have F_Once_keep := fun_mk (st := sOKeep) l_Once_keep c_Once_keep k_Once_keep
  have b_Once_keep := F_Once_keep.binds (ps := ["self", "sender", "number"]) fun _ _ _ _ _ _ us hl => match us, hl with | [_, _, _], _ => rfl
  have M_Once_keep : Meth K C_Once "keep" f_Once_keep := ⟨a_Once_keep, i_Once_keep, k_Once_keep⟩
  have M_Once_init : Meth K C_Once "__init__" f_Filter_init := ⟨a_Once_init, i_Filter_init, k_Filter_init⟩
  have M_Once_takes : Meth K C_Once "takes" f_Filter_takes := ⟨a_Once_takes, i_Filter_takes, k_Filter_takes⟩
  have m_C_Turn := PySem.W.mg_of X G a_C_Turn
  have cl_C_Turn : Cls K C_Turn := ⟨pg_C_Turn, hd_C_Turn, po_C_Turn, sa_C_Turn⟩
  have F_Turn_word_for := fun_mk (st := sTWord) l_Turn_word_for c_Turn_word_for k_Turn_word_for
  have b_Turn_word_for := F_Turn_word_for.binds (ps := ["self", "sender", "number"]) fun _ _ _ _ _ _ us hl => match us, hl with | [_, _, _], _ => rfl
  have M_Turn_word_for : Meth K C_Turn "word_for" f_Turn_word_for := ⟨a_Turn_word_for, i_Turn_word_for, k_Turn_word_for⟩
  have F_Turn_keep := fun_mk (st := sTKeep) l_Turn_keep c_Turn_keep k_Turn_keep
  have b_Turn_keep := F_Turn_keep.binds (ps := ["self", "sender", "number"]) fun _ _ _ _ _ _ us hl => match us, hl with | [_, _, _], _ => rfl
  have M_Turn_keep : Meth K C_Turn "keep" f_Turn_keep := ⟨a_Turn_keep, i_Turn_keep, k_Turn_keep⟩
  have M_Turn_init : Meth K C_Turn "__init__" f_Filter_init := ⟨a_Turn_init, i_Filter_init, k_Filter_init⟩
  have M_Turn_takes : Meth K C_Turn "takes" f_Filter_takes := ⟨a_Turn_takes, i_Filter_takes, k_Filter_takes⟩
  have F_filter_of := fun_mk (st := sFof) l_filter_of c_filter_of k_filter_of
  have b_filter_of := F_filter_of.binds (ps := ["kind"]) fun _ _ _ _ _ _ us hl => match us, hl with | [_], _ => rfl
  have m_filter_of := PySem.W.mg_of X G a_filter_of
  have F_law_mixed := fun_mk (st := sMixed) l_law_mixed c_law_mixed k_law_mixed
  have b_law_mixed := F_law_mixed.binds (ps := ["_law_cell", "_law_at"]) fun _ _ _ _ _ _ us hl => match us, hl with | [_, _], _ => rfl
  have m_law_mixed := PySem.W.mg_of X G a_law_mixed
  have F_law_deck := fun_mk (st := sDeck) l_law_deck c_law_deck k_law_deck
  have b_law_deck := F_law_deck.binds (ps := ["_law_script"]) fun _ _ _ _ _ _ us hl => match us, hl with | [_], _ => rfl
  have m_law_deck := PySem.W.mg_of X G a_law_deck
  have F_law_next := fun_mk (st := sNext) l_law_next c_law_next k_law_next
  have b_law_next := F_law_next.binds (ps := ["_law_deck_here", "_law_many"]) fun _ _ _ _ _ _ us hl => match us, hl with | [_, _], _ => rfl
  have m_law_next := PySem.W.mg_of X G a_law_next
  have F_law_came := fun_mk (st := sCame) l_law_came c_law_came k_law_came
  have b_law_came := F_law_came.binds (ps := ["_law_deck_here", "_law_many"]) fun _ _ _ _ _ _ us hl => match us, hl with | [_, _], _ => rfl
  have m_law_came := PySem.W.mg_of X G a_law_came
  have F_law_heard := fun_mk (st := sHeard) l_law_heard c_law_heard k_law_heard
  have b_law_heard := F_law_heard.binds (ps := ["_law_kind", "_law_came_here"]) fun _ _ _ _ _ _ us hl => match us, hl with | [_, _], _ => rfl
  have m_law_heard := PySem.W.mg_of X G a_law_heard
  have F_law_rises := fun_mk (st := sRises) l_law_rises c_law_rises k_law_rises
  have b_law_rises := F_law_rises.binds (ps := ["_law_heard_here"]) fun _ _ _ _ _ _ us hl => match us, hl with | [_], _ => rfl
  have m_law_rises := PySem.W.mg_of X G a_law_rises
  have F_law := fun_mk (st := sLaw) l_law c_law k_law
  have b_law := F_law.binds (ps := ["_law_script"]) fun _ _ _ _ _ _ us hl => match us, hl with | [_], _ => rfl
  have n_len := PySem.W.mg_none_of X G z_len
  have n_range := PySem.W.mg_none_of X G z_range
  have n_min := PySem.W.mg_none_of X G z_min
  have n_max := PySem.W.mg_none_of X G z_max
  have n_int := PySem.W.mg_none_of X G z_int
  have n_sorted := PySem.W.mg_none_of X G z_sorted
  have n_set := PySem.W.mg_none_of X G z_set
  refine ⟨PySem.W.fnOf "law" "law" (defArgs sLaw) (defBody sLaw) (defScope sLaw) .none kV_law dc_law pm_law an_law cd_law ct_law, fun s v => .of_eq rfl, fun base _ _ => ?_⟩
  have B : LB mg := ⟨n_len, n_range, n_max, n_int, n_sorted, n_set⟩
  have W : FW mg := ⟨⟨_, m_HEARD⟩, ⟨_, m_AGAIN⟩, ⟨_, m_LATE⟩⟩
  have cM : Cd l.prog w K mg base 1 "_law_mixed" ["_law_cell", "_law_at"] spMixed := ⟨_, _, ok_mixed F_law_mixed, m_law_mixed, k_law_mixed, b_law_mixed⟩
  have cN : Cd l.prog w K mg base 2 "_law_next" ["_law_deck_here", "_law_many"] spNext := ⟨_, _, ok_next F_law_next n_len cM, m_law_next, k_law_next, b_law_next⟩
  have cD : Cd l.prog w K mg base 2 "_law_deck" ["_law_script"] (spDeck K) := ⟨_, _, ok_deck F_law_deck n_len n_range n_min cM, m_law_deck, k_law_deck, b_law_deck⟩
  have Tpl : FN K C_Loose := ⟨cl_C_Loose, n_C_Loose_known⟩
  have tkpl : Md l.prog w K mg base 2 C_Loose "takes" ["self", "sender", "number"] (spTakes K C_Loose .pl) := ⟨_, _, ok_takes F_Filter_takes Tpl W ⟨_, _, ok_fword F_Filter_word_for W, M_Loose_word_for, b_Filter_word_for⟩ ⟨_, _, ok_fkeep F_Filter_keep Tpl, M_Loose_keep, b_Filter_keep⟩, M_Loose_takes, b_Filter_takes⟩
  have MKpl : Mk K C_Loose f_Filter_init := ⟨mk_C_Loose, a_Loose_init, i_Filter_init, kc_C_Loose⟩
  have Ton : FN K C_Once := ⟨cl_C_Once, n_C_Once_known⟩
  have tkon : Md l.prog w K mg base 2 C_Once "takes" ["self", "sender", "number"] (spTakes K C_Once .on) := ⟨_, _, ok_takes F_Filter_takes Ton W ⟨_, _, ok_oword F_Once_word_for Ton W, M_Once_word_for, b_Once_word_for⟩ ⟨_, _, ok_okeep F_Once_keep Ton, M_Once_keep, b_Once_keep⟩, M_Once_takes, b_Filter_takes⟩
  have MKon : Mk K C_Once f_Filter_init := ⟨mk_C_Once, a_Once_init, i_Filter_init, kc_C_Once⟩
  have Ttu : FN K C_Turn := ⟨cl_C_Turn, n_C_Turn_known⟩
  have tktu : Md l.prog w K mg base 2 C_Turn "takes" ["self", "sender", "number"] (spTakes K C_Turn .tu) := ⟨_, _, ok_takes F_Filter_takes Ttu W ⟨_, _, ok_tword F_Turn_word_for Ttu W, M_Turn_word_for, b_Turn_word_for⟩ ⟨_, _, ok_tkeep F_Turn_keep Ttu, M_Turn_keep, b_Turn_keep⟩, M_Turn_takes, b_Filter_takes⟩
  have MKtu : Mk K C_Turn f_Filter_init := ⟨mk_C_Turn, a_Turn_init, i_Filter_init, kc_C_Turn⟩
  let Cf : Kd → Addr := fun κ => match κ with | .pl => C_Loose | .on => C_Once | .tu => C_Turn
  have cF : Cd l.prog w K mg base 3 "filter_of" ["kind"] (spFof K Cf) := ⟨_, _, ok_fof (C := Cf) F_filter_of MKpl (ok_finit F_Filter_init Tpl (.inl rfl)) b_Filter_init m_C_Loose MKon (ok_finitT F_Filter_init Ton) b_Filter_init m_C_Once MKtu (ok_finit F_Filter_init Ttu (.inr rfl)) b_Filter_init m_C_Turn, m_filter_of, k_filter_of, b_filter_of⟩
  have cHpl : Cd l.prog w K mg base 4 "_law_heard" ["_law_kind", "_law_came_here"] (spHeard K .pl) := ⟨_, _, ok_heard (C := Cf) F_law_heard Tpl cF tkpl, m_law_heard, k_law_heard, b_law_heard⟩
  have cHon : Cd l.prog w K mg base 4 "_law_heard" ["_law_kind", "_law_came_here"] (spHeard K .on) := ⟨_, _, ok_heard (C := Cf) F_law_heard Ton cF tkon, m_law_heard, k_law_heard, b_law_heard⟩
  have cHtu : Cd l.prog w K mg base 4 "_law_heard" ["_law_kind", "_law_came_here"] (spHeard K .tu) := ⟨_, _, ok_heard (C := Cf) F_law_heard Ttu cF tktu, m_law_heard, k_law_heard, b_law_heard⟩
  exact ok_law F_law B cN cD ⟨_, _, ok_came F_law_came B cN, m_law_came, k_law_came, b_law_came⟩ cHpl cHon cHtu ⟨_, _, ok_rises F_law_rises B, m_law_rises, k_law_rises, b_law_rises⟩
theorem walk {l : PySem.W.OpenLaw} {q : Program} {loose : List Str} {XP : (Str → Option Value) → Heap → Prop} {YP : World → Heap → Prop} {d : DefRec} {K : Params → PySem.W.Frag} (hn : l.most = some 63) (hdf : d.params.defaults = [])
    (hY : ∀ (w : World) (h : Heap), YP w h → (K w.params).In h)
    (F : ∀ (w : World) (mg : Str → Option Value) (fa : Addr) (h : Heap), (K w.params).In h → h.Ns mainGlobals mg → mg d.name = some (.ref fa) →
      ∃ fd : FuncData, (∀ (s : Shared) (u : Value), BindsTo s fd ⟨[u], []⟩ [("_law_script", u)]) ∧ ∀ base : Heap, (K w.params).In base → base.Ns mainGlobals mg → FnOk l.prog w (K w.params) mg base CX0 5 fa fd ["_law_script"] (spLaw (K w.params))) :
    PySem.W.WalkO q loose XP YP l.row.toRowW d [] (fun f vs => PySem.call f vs) :=
  L2.walk_of (n := 63) (k := 5) (x := "_law_script") (CX := fun _ => CX0) (sp := fun w => spLaw (K w.params)) hn (by decide) hdf ⟨rfl, by decide, by decide⟩ hY F (fun _ _ a ns hl _ hS => ⟨a, ns, rfl, hS, hl, fun _ => rfl⟩) fun _ _ _ _ _ z => z
end Wn

open PySem PySem.W PyProof.Rows in
set_option maxRecDepth 100000 in
set_option maxHeartbeats 0 in
theorem PySem.Challenge.cw_wrapnets_k21_whole_what_filters_let_by_holds : PySem.Challenge.rw_wrapnets_k21_whole_what_filters_let_by.Holds := by
  w_on; o_law; k_head; (case hw => w_witness2)
  k_fill
  refine Wn.walk (l := PySem.Challenge.rw_wrapnets_k21_whole_what_filters_let_by) rfl rfl (fun w h Y => PySem.W.kIn_of Y) ?F
  case F =>
    intro w mg fa h KX G hmg
    refine' Wn.all_mk KX G hmg ?a_HEARD ?a_AGAIN ?a_LATE ?a_C_Filter ?pg_C_Filter ?hd_C_Filter ?po_C_Filter ?sa_C_Filter ?mk_C_Filter ?kc_C_Filter ?a_Filter_init ?i_Filter_init ?l_Filter_init ?c_Filter_init ?k_Filter_init ?a_Filter_word_for ?i_Filter_word_for ?l_Filter_word_for ?c_Filter_word_for ?k_Filter_word_for ?a_Filter_keep ?i_Filter_keep ?l_Filter_keep ?c_Filter_keep ?k_Filter_keep ?a_Filter_takes ?i_Filter_takes ?l_Filter_takes ?c_Filter_takes ?k_Filter_takes ?a_C_Loose ?pg_C_Loose ?hd_C_Loose ?po_C_Loose ?sa_C_Loose ?mk_C_Loose ?kc_C_Loose ?n_C_Loose_known ?a_Loose_init ?a_Loose_word_for ?a_Loose_keep ?a_Loose_takes ?a_C_Once ?pg_C_Once ?hd_C_Once ?po_C_Once ?sa_C_Once ?mk_C_Once ?kc_C_Once ?n_C_Once_known ?a_Once_word_for ?i_Once_word_for ?l_Once_word_for ?c_Once_word_for ?k_Once_word_for ?a_Once_keep ?i_Once_keep ?l_Once_keep ?c_Once_keep ?k_Once_keep ?a_Once_init ?a_Once_takes ?a_C_Turn ?pg_C_Turn ?hd_C_Turn ?po_C_Turn ?sa_C_Turn ?mk_C_Turn ?kc_C_Turn ?n_C_Turn_known ?a_Turn_word_for ?i_Turn_word_for ?l_Turn_word_for ?c_Turn_word_for ?k_Turn_word_for ?a_Turn_keep ?i_Turn_keep ?l_Turn_keep ?c_Turn_keep ?k_Turn_keep ?a_Turn_init ?a_Turn_takes ?a_filter_of ?l_filter_of ?c_filter_of ?k_filter_of ?a_law_mixed ?l_law_mixed ?c_law_mixed ?k_law_mixed ?a_law_deck ?l_law_deck ?c_law_deck ?k_law_deck ?a_law_next ?l_law_next ?c_law_next ?k_law_next ?a_law_came ?l_law_came ?c_law_came ?k_law_came ?a_law_heard ?l_law_heard ?c_law_heard ?k_law_heard ?a_law_rises ?l_law_rises ?c_law_rises ?k_law_rises ?a_law ?l_law ?c_law ?k_law ?z_len ?z_range ?z_min ?z_max ?z_int ?z_sorted ?z_set
    (case a_HEARD => k_is)
    (case a_AGAIN => k_is)
    (case a_LATE => k_is)
    (case a_C_Filter => k_is)
    (case pg_C_Filter => k_is)
    (case hd_C_Filter => k_is)
    (case po_C_Filter => k_is)
    (case sa_C_Filter => k_is)
    (case mk_C_Filter => k_is)
    (case kc_C_Filter => k_is)
    (case a_Filter_init => k_is)
    (case i_Filter_init => k_is)
    (case l_Filter_init => k_is)
    (case c_Filter_init => k_is)
    (case k_Filter_init => k_is)
    (case a_Filter_word_for => k_is)
    (case i_Filter_word_for => k_is)
    (case l_Filter_word_for => k_is)
    (case c_Filter_word_for => k_is)
    (case k_Filter_word_for => k_is)
    (case a_Filter_keep => k_is)
    (case i_Filter_keep => k_is)
    (case l_Filter_keep => k_is)
    (case c_Filter_keep => k_is)
    (case k_Filter_keep => k_is)
    (case a_Filter_takes => k_is)
    (case i_Filter_takes => k_is)
    (case l_Filter_takes => k_is)
    (case c_Filter_takes => k_is)
    (case k_Filter_takes => k_is)
    (case a_C_Loose => k_is)
    (case pg_C_Loose => k_is)
    (case hd_C_Loose => k_is)
    (case po_C_Loose => k_is)
    (case sa_C_Loose => k_is)
    (case mk_C_Loose => k_is)
    (case kc_C_Loose => k_is)
    (case n_C_Loose_known => k_is)
    (case a_Loose_init => k_is)
    (case a_Loose_word_for => k_is)
    (case a_Loose_keep => k_is)
    (case a_Loose_takes => k_is)
    (case a_C_Once => k_is)
    (case pg_C_Once => k_is)
    (case hd_C_Once => k_is)
    (case po_C_Once => k_is)
    (case sa_C_Once => k_is)
    (case mk_C_Once => k_is)
    (case kc_C_Once => k_is)
    (case n_C_Once_known => k_is)
    (case a_Once_word_for => k_is)
    (case i_Once_word_for => k_is)
    (case l_Once_word_for => k_is)
    (case c_Once_word_for => k_is)
    (case k_Once_word_for => k_is)
    (case a_Once_keep => k_is)
    (case i_Once_keep => k_is)
    (case l_Once_keep => k_is)
    (case c_Once_keep => k_is)
    (case k_Once_keep => k_is)
    (case a_Once_init => k_is)
    (case a_Once_takes => k_is)
    (case a_C_Turn => k_is)
    (case pg_C_Turn => k_is)
    (case hd_C_Turn => k_is)
    (case po_C_Turn => k_is)
    (case sa_C_Turn => k_is)
    (case mk_C_Turn => k_is)
    (case kc_C_Turn => k_is)
    (case n_C_Turn_known => k_is)
    (case a_Turn_word_for => k_is)
    (case i_Turn_word_for => k_is)
    (case l_Turn_word_for => k_is)
    (case c_Turn_word_for => k_is)
    (case k_Turn_word_for => k_is)
    (case a_Turn_keep => k_is)
    (case i_Turn_keep => k_is)
    (case l_Turn_keep => k_is)
    (case c_Turn_keep => k_is)
    (case k_Turn_keep => k_is)
    (case a_Turn_init => k_is)
    (case a_Turn_takes => k_is)
    (case a_filter_of => k_is)
    (case l_filter_of => k_is)
    (case c_filter_of => k_is)
    (case k_filter_of => k_is)
    (case a_law_mixed => k_is)
    (case l_law_mixed => k_is)
    (case c_law_mixed => k_is)
    (case k_law_mixed => k_is)
    (case a_law_deck => k_is)
    (case l_law_deck => k_is)
    (case c_law_deck => k_is)
    (case k_law_deck => k_is)
    (case a_law_next => k_is)
    (case l_law_next => k_is)
    (case c_law_next => k_is)
    (case k_law_next => k_is)
    (case a_law_came => k_is)
    (case l_law_came => k_is)
    (case c_law_came => k_is)
    (case k_law_came => k_is)
    (case a_law_heard => k_is)
    (case l_law_heard => k_is)
    (case c_law_heard => k_is)
    (case k_law_heard => k_is)
    (case a_law_rises => k_is)
    (case l_law_rises => k_is)
    (case c_law_rises => k_is)
    (case k_law_rises => k_is)
    (case a_law => k_is)
    (case l_law => k_is)
    (case c_law => k_is)
    (case k_law => k_is)
    (case z_len => k_is)
    (case z_range => k_is)
    (case z_min => k_is)
    (case z_max => k_is)
    (case z_int => k_is)
    (case z_sorted => k_is)
    (case z_set => k_is)
