import PyProof.Rows.All
import Wide.All
import OpenK.AllK
import Wide.FinOn
import HandS.ForMost
import HandS.IsInst
import HandS.Flow
import HandS.SortInts
import HandS.More
import HandS.Text
import HandS.Walk
import HandS.Conv
import HandS.TupSets
import HandS.Deep
import KE.KDictCopyH
import KE.KDictOf
import PySem.Challenge.RW_wrapnets_k20_filters_and_copies
set_option Elab.async false
set_option maxRecDepth 100000
set_option linter.all false
namespace Wn
open PySem L2

/-- what a caller knows of a def: that it keeps a promise, and where it stands -/
def Cd (P : Program) (w : World) (K : PySem.W.Frag) (mg : Str → Option Value) (base : Heap) (k : Nat) (name : Str) (ps : List Str) (sp : Sp) : Prop :=
  ∃ (f : Addr) (fd : FuncData), FnOk P w K mg base CX0 k f fd ps sp ∧ mg name = some (.ref f) ∧ PySem.W.keepIn K (.ref f) = true ∧ Binds K fd ps []
/-- what a caller knows of a method -/
def Md (P : Program) (w : World) (K : PySem.W.Frag) (mg : Str → Option Value) (base : Heap) (k : Nat) (C : Addr) (name : Str) (ps : List Str) (sp : Sp) : Prop :=
  ∃ (f : Addr) (fd : FuncData), FnOk P w K mg base CX0 k f fd ps sp ∧ Meth K C name f ∧ Binds K fd ps []

/-- all but some addresses stay -/
def Kp (M : List Addr) (H H' : Hp) : Prop := ∀ b o, b ∉ M → H b = some o → H' b = some o
theorem Kp.refl (M : List Addr) (H : Hp) : Kp M H H := fun _ _ _ h => h
theorem Kp.trans {M : List Addr} {H H1 H2 : Hp} (a : Kp M H H1) (b : Kp M H1 H2) : Kp M H H2 := fun c o hc h => b c o hc (a c o hc h)
theorem Kp.mono {M M' : List Addr} {H H1 : Hp} (a : Kp M H H1) (h : ∀ x ∈ M, x ∈ M') : Kp M' H H1 := fun c o hc q => a c o (fun z => hc (h c z)) q
theorem Kp.of {M : List Addr} {H H1 : Hp} (a : Same H H1) : Kp M H H1 := fun c o _ q => a c o q
theorem Kp.new {M : List Addr} {H H1 : Hp} {p : Addr} {o : HO} (a : Kp M H H1) (hp : H1 p = none) : Kp M H (upd H1 p o) := fun c u hc q => by
  rw [upd_ne (ne_of_none (a c u hc q) hp)]
  exact a c u hc q
theorem Kp.wr {M : List Addr} {H H1 : Hp} {p : Addr} {o : HO} (a : Kp M H H1) (hp : p ∈ M) : Kp M H (upd H1 p o) := fun c u hc q => by
  rw [upd_ne (show c ≠ p from fun z => hc (by rw [z]; exact hp))]
  exact a c u hc q
/-- a write to what wasn't there at first -/
theorem Kp.wrn {M : List Addr} {H H1 : Hp} {p : Addr} {o : HO} (a : Kp M H H1) (hp : H p = none) : Kp M H (upd H1 p o) := fun c u hc q => by
  rw [upd_ne (ne_of_none q hp)]
  exact a c u hc q
theorem _root_.L2.Same.new {H H1 : Hp} {p : Addr} {o : HO} (a : Same H H1) (hp : H1 p = none) : Same H (upd H1 p o) := fun c u q => by
  rw [upd_ne (ne_of_none (a c u q) hp)]
  exact a c u q
theorem _root_.L2.Same.wrn {H H1 : Hp} {p : Addr} {o : HO} (a : Same H H1) (hp : H p = none) : Same H (upd H1 p o) := fun c u q => by
  rw [upd_ne (ne_of_none q hp)]
  exact a c u q

/-- a while by a word and a measure -/
theorem while_m {c : TT} {tb : TS} {D : Ends} {σ : L2.St} {H : Hp} (Pv : L2.St → Hp → Prop) (μ : L2.St → Hp → Nat) (h0 : Pv σ H)
    (hs : ∀ m σ H, m = μ σ H → Pv σ H → c σ H fun b H1 => if b = true then ∃ N : L2.St → Hp → Prop, (∀ σ' H', N σ' H' → ∃ m', m' < m ∧ (m' = μ σ' H' ∧ Pv σ' H')) ∧ tb { D with nx := N, ct := N, bk := D.nx } σ H1 else D.nx σ H1) : tWhile c tb D σ H :=
  ⟨fun m σ H => m = μ σ H ∧ Pv σ H, ⟨_, rfl, h0⟩, fun m σ H ⟨e, p⟩ => hs m σ H e p⟩

/-! ### the deck -/
def spMixed : Sp := fun vs H Q _ => ∃ (c a : Int), vs = [.int c, .int a] ∧ -1 ≤ a ∧ a < 2 ^ 60 ∧ ∀ r : Int, Q (.int r) H
/-- a deck at d, of which n draws were taken at most -/
def Deck (H : Hp) (d f : Addr) (n : Int) : Prop :=
  ∃ (a wh : Int) (xs : List Int), H d = some (.lst [.int a, .int wh, .ref f]) ∧ H f = some (.lst (xs.map V.int)) ∧ 0 ≤ a ∧ a ≤ n ∧ xs.length ≤ 100000
def spNext : Sp := fun vs H Q _ => ∃ (d f : Addr) (m n : Int), vs = [.ref d, .int m] ∧ 0 < m ∧ n < 2 ^ 60 ∧ Deck H d f n ∧
  ∀ (r : Int) (H' : Hp), 0 ≤ r → r < m → Kp [d] H H' → Deck H' d f (n + 1) → Q (.int r) H'
def spDeck (K : PySem.W.Frag) : Sp := fun vs H Q _ => ∃ (a : Addr) (ns : List Int), vs = [.ref a] ∧ SqL K H a (ns.map V.int) ∧ ns.length ≤ 63 ∧
  ∀ (H' : Hp) (d f : Addr), H d = none → H f = none → Same H H' → Deck H' d f 0 → Q (.ref d) H'
end Wn

namespace Wn
open PySem L2
/-! ### tuples stay, whatever is called -/
def TK (H H' : Hp) : Prop := (∀ b xs, H b = some (.tup xs) → H' b = some (.tup xs)) ∧ (∀ b o u, H b = some (.frz o u) → H' b = some (.frz o u))
theorem TK.refl (H : Hp) : TK H H := ⟨fun _ _ h => h, fun _ _ _ h => h⟩
theorem TK.trans {H H1 H2 : Hp} (a : TK H H1) (b : TK H1 H2) : TK H H2 := ⟨fun c o h => b.1 c o (a.1 c o h), fun c o u h => b.2 c o u (a.2 c o u h)⟩
theorem TK.of {H H1 : Hp} (a : Same H H1) : TK H H1 := ⟨fun c o h => a _ _ h, fun c o u h => a _ _ h⟩
theorem TK.new {H H1 : Hp} {p : Addr} {o : HO} (a : TK H H1) (hp : H1 p = none) : TK H (upd H1 p o) :=
  ⟨fun c u q => by rw [upd_ne (ne_of_none (a.1 c u q) hp)]; exact a.1 c u q, fun c u z q => by rw [upd_ne (ne_of_none (a.2 c u z q) hp)]; exact a.2 c u z q⟩
/-- what is neither a tuple nor locked may be written -/
def Wrt : HO → Bool
  | .tup _ => false
  | .frz _ _ => false
  | _ => true
theorem TK.wr {H H1 : Hp} {p : Addr} {o u : HO} (a : TK H H1) (hp : H1 p = some u) (hu : Wrt u = true) : TK H (upd H1 p o) :=
  ⟨fun c v q => by
    have h1 := a.1 c v q
    rw [upd_ne (ne_of h1 hp (fun z => by rw [← z] at hu; cases hu))]
    exact h1, fun c v z q => by
    have h1 := a.2 c v z q
    rw [upd_ne (ne_of h1 hp (fun z => by rw [← z] at hu; cases hu))]
    exact h1⟩
theorem _root_.L2.FnOk.tk {P : Program} {w : World} {K : PySem.W.Frag} {mg : Str → Option Value} {base : Heap} {k : Nat} {f : Addr} {fd : FuncData} {ps : List Str} {sp : Sp} (F : FnOk P w K mg base CX0 k f fd ps sp) :
    FnOk P w K mg base CX0 k f fd ps (fun vs H Q E => sp vs H (fun v H' => TK H H' → Q v H') E) := by
  refine ⟨fun vs H Q E q => F.len vs H _ E q, fun A outer s H args us vs Q E hr he hb hv hs => ?_⟩
  refine codeAny_mono (F.run A outer s H args us vs _ E hr he hb hv hs) fun r s' h => ?_
  cases r with
  | ok fl =>
    cases fl with
    | ret u =>
      obtain ⟨v, H', e1, e2, e3, e4, e5, q⟩ := h
      exact ⟨v, H', e1, e2, e3, e4, e5, q ⟨e3.tups, e3.frzs⟩⟩
    | _ => exact h
  | error e => exact h
/-- a promise, tuples kept besides -/
def Tk (sp : Sp) : Sp := fun vs H Q E => sp vs H (fun v H' => TK H H' → Q v H') E
theorem Cd.tk {P : Program} {w : World} {K : PySem.W.Frag} {mg : Str → Option Value} {base : Heap} {k : Nat} {name : Str} {ps : List Str} {sp : Sp} (h : Cd P w K mg base k name ps sp) : Cd P w K mg base k name ps (Tk sp) := by
  obtain ⟨f, fd, G, a, b, c⟩ := h
  exact ⟨f, fd, G.tk, a, b, c⟩
theorem Md.tk {P : Program} {w : World} {K : PySem.W.Frag} {mg : Str → Option Value} {base : Heap} {k : Nat} {C : Addr} {name : Str} {ps : List Str} {sp : Sp} (h : Md P w K mg base k C name ps sp) : Md P w K mg base k C name ps (Tk sp) := by
  obtain ⟨f, fd, G, a, b⟩ := h
  exact ⟨f, fd, G.tk, a, b⟩

/-! ### data: None, truths, ints, texts, tuples of these -/
mutual
def Rp (K : PySem.W.Frag) (H : Hp) : PyData → V → Prop
  | .none, v => v = .non
  | .bool b, v => v = .bl b
  | .int i, v => v = .int i
  | .str s, v => v = .str s
  | .tuple ds, v => ∃ a xs, v = .ref a ∧ SqT K H a xs ∧ RpL K H ds xs
  | .list _, _ => False
  | .dict _, _ => False
def RpL (K : PySem.W.Frag) (H : Hp) : List PyData → List V → Prop
  | [], xs => xs = []
  | d :: ds, xs => ∃ v r, xs = v :: r ∧ Rp K H d v ∧ RpL K H ds r
end
mutual
def dep : PyData → Nat
  | .tuple xs => deps xs + 1
  | _ => 0
def deps : List PyData → Nat
  | [] => 0
  | x :: xs => max (dep x) (deps xs)
end
mutual
def sz : PyData → Nat
  | .tuple xs => szs xs + 1
  | _ => 1
def szs : List PyData → Nat
  | [] => 0
  | x :: xs => sz x + szs xs
end
theorem SqT.tk {K : PySem.W.Frag} {H H' : Hp} {a : Addr} {xs : List V} (h : SqT K H a xs) (e : TK H H') : SqT K H' a xs := by
  rcases h with (h | ⟨o, h⟩) | h
  · exact .inl (.inl (e.1 _ _ h))
  · exact .inl (.inr ⟨o, e.2 _ _ _ h⟩)
  · exact .inr h
mutual
theorem Rp.tk {K : PySem.W.Frag} {H H' : Hp} (e : TK H H') : ∀ (d : PyData) (v : V), Rp K H d v → Rp K H' d v
  | .none, _, h => h
  | .bool _, _, h => h
  | .int _, _, h => h
  | .str _, _, h => h
  | .tuple ds, v, h => by
    unfold Rp at h ⊢
    obtain ⟨a, xs, rfl, hs, hl⟩ := h
    exact ⟨a, xs, rfl, SqT.tk hs e, RpL.tk e ds xs hl⟩
  | .list _, _, h => h
  | .dict _, _, h => h
theorem RpL.tk {K : PySem.W.Frag} {H H' : Hp} (e : TK H H') : ∀ (ds : List PyData) (xs : List V), RpL K H ds xs → RpL K H' ds xs
  | [], _, h => h
  | d :: ds, xs, h => by
    unfold RpL at h ⊢
    obtain ⟨v, r, rfl, h1, h2⟩ := h
    exact ⟨v, r, rfl, Rp.tk e d v h1, RpL.tk e ds r h2⟩
end
theorem RpL.len {K : PySem.W.Frag} {H : Hp} : ∀ (ds : List PyData) (xs : List V), RpL K H ds xs → xs.length = ds.length
  | [], xs, h => by
    unfold RpL at h
    rw [h]
    rfl
  | d :: ds, xs, h => by
    unfold RpL at h
    obtain ⟨v, r, rfl, h1, h2⟩ := h
    rw [List.length_cons, List.length_cons, RpL.len ds r h2]
theorem RpL.get {K : PySem.W.Frag} {H : Hp} : ∀ (ds : List PyData) (xs : List V), RpL K H ds xs → ∀ (i : Nat) (d : PyData), ds[i]? = some d → ∃ v, xs[i]? = some v ∧ Rp K H d v
  | [], xs, h, i, d, e => by cases e
  | d :: ds, xs, h, i, d', e => by
    unfold RpL at h
    obtain ⟨v, r, rfl, h1, h2⟩ := h
    cases i with
    | zero =>
      simp only [List.getElem?_cons_zero, Option.some.injEq] at e
      exact ⟨v, rfl, e ▸ h1⟩
    | succ i =>
      simp only [List.getElem?_cons_succ] at e ⊢
      exact RpL.get ds r h2 i d' e
theorem RpL.of {K : PySem.W.Frag} {H : Hp} : ∀ (ds : List PyData) (xs : List V), xs.length = ds.length → (∀ (i : Nat) (d : PyData) (v : V), ds[i]? = some d → xs[i]? = some v → Rp K H d v) → RpL K H ds xs
  | [], xs, h, _ => by
    unfold RpL
    exact List.length_eq_zero_iff.mp h
  | d :: ds, [], h, _ => by cases h
  | d :: ds, v :: r, h, k => by
    unfold RpL
    refine ⟨v, r, rfl, k 0 d v rfl rfl, RpL.of ds r (by simpa using h) fun i d' v' h1 h2 => k (i + 1) d' v' ?_ ?_⟩
    · simpa using h1
    · simpa using h2
theorem RpL.snoc {K : PySem.W.Frag} {H : Hp} {d : PyData} {v : V} (h : Rp K H d v) : ∀ (ds : List PyData) (xs : List V), RpL K H ds xs → RpL K H (ds ++ [d]) (xs ++ [v])
  | [], xs, q => by
    unfold RpL at q
    subst q
    show RpL K H [d] [v]
    unfold RpL
    exact ⟨v, [], rfl, h, by unfold RpL; rfl⟩
  | d' :: ds, xs, q => by
    unfold RpL at q
    obtain ⟨v', r, rfl, h1, h2⟩ := q
    show RpL K H (d' :: (ds ++ [d])) (v' :: (r ++ [v]))
    unfold RpL
    exact ⟨_, _, rfl, h1, RpL.snoc h ds r h2⟩
theorem dep_get : ∀ (ds : List PyData) (i : Nat) (d : PyData), ds[i]? = some d → dep d ≤ deps ds
  | [], i, d, e => by cases e
  | x :: xs, 0, d, e => by
    simp only [List.getElem?_cons_zero, Option.some.injEq] at e
    unfold deps
    rw [e]
    exact Nat.le_max_left _ _
  | x :: xs, i + 1, d, e => by
    simp only [List.getElem?_cons_succ] at e
    unfold deps
    exact Nat.le_trans (dep_get xs i d e) (Nat.le_max_right _ _)
theorem sz_get : ∀ (ds : List PyData) (i : Nat) (d : PyData), ds[i]? = some d → sz d ≤ szs ds
  | [], i, d, e => by cases e
  | x :: xs, 0, d, e => by
    simp only [List.getElem?_cons_zero, Option.some.injEq] at e
    unfold szs
    rw [e]
    exact Nat.le_add_right _ _
  | x :: xs, i + 1, d, e => by
    simp only [List.getElem?_cons_succ] at e
    unfold szs
    exact Nat.le_trans (sz_get xs i d e) (Nat.le_add_left _ _)
theorem sz_pos : ∀ d : PyData, 1 ≤ sz d
  | .tuple xs => by unfold sz; omega
  | .none | .bool _ | .int _ | .str _ | .list _ | .dict _ => by unfold sz; exact Nat.le_refl _
theorem szs_len : ∀ ds : List PyData, ds.length ≤ szs ds
  | [] => Nat.zero_le _
  | x :: xs => by
    have := szs_len xs
    have := sz_pos x
    unfold szs
    rw [List.length_cons]
    omega
/-- the type of such a thing -/
theorem ty_tup {K : PySem.W.Frag} {H : Hp} {a : Addr} {xs : List V} (h : SqT K H a xs) : TyX K H (.ref a) (.type "tuple") := by
  rcases h with (h | ⟨o, h⟩) | ⟨o, its, n, h, c, _⟩
  · exact .base (.tup h)
  · exact .fTuple h
  · exact .kTuple h c
/-- the same data handed in twice, of depth below n: True -/
def spSame (K : PySem.W.Frag) (n : Nat) : Sp := fun vs H Q _ => ∃ (x y : V) (d : PyData), vs = [x, y] ∧ Rp K H d x ∧ Rp K H d y ∧ dep d < n ∧ sz d ≤ 1000000 ∧ ∀ H', Same H H' → Q (.bl true) H'
end Wn

namespace Wn
open PySem L2
theorem fld1 {f : Str} {v : V} : ([(f, v)] : List (Str × V)).lookup f = some v := by
  show (match f == f with | true => some v | false => _) = some v
  rw [beq_self_eq_true]
theorem fld1_ne {f g : Str} {v : V} (h : (g == f) = false) : ([(f, v)] : List (Str × V)).lookup g = none := by
  show (match g == f with | true => some v | false => _) = none
  rw [h]
  rfl
theorem putF1 {f : Str} {v u : V} : putF f u [(f, v)] = [(f, u)] := by
  show (if f = f then (f, u) :: [] else _) = _
  rw [if_pos rfl]
/-! ### dicts by whole numbers, their values data -/
section
variable {α : Type}
def lookA (m : List (Int × α)) (k : Int) : Option α := (m.find? fun p => decide (p.1 = k)).map (·.2)
def putA (m : List (Int × α)) (k : Int) (v : α) : List (Int × α) :=
  if (m.any fun kv => decide (kv.1 = k)) = true then m.map (fun kv => if kv.1 = k then (kv.1, v) else kv) else m ++ [(k, v)]
def dropA (m : List (Int × α)) (k : Int) : List (Int × α) := m.filter fun kv => decide (kv.1 ≠ k)
theorem putA_len (m : List (Int × α)) (k : Int) (v : α) : (putA m k v).length ≤ m.length + 1 := by
  unfold putA
  split
  · rw [List.length_map]
    omega
  · rw [List.length_append, List.length_singleton]
    exact Nat.le_refl _
theorem dropA_len (m : List (Int × α)) (k : Int) : (dropA m k).length ≤ m.length := List.length_filter_le _ _
def RpD (enc : α → PyData) (K : PySem.W.Frag) (H : Hp) : List (Int × α) → List (Key × V) → Prop
  | [], kvs => kvs = []
  | p :: m, kvs => ∃ v r, kvs = (Sum.inl p.1, v) :: r ∧ Rp K H (enc p.2) v ∧ RpD enc K H m r
variable {enc : α → PyData} {K : PySem.W.Frag} {H H' : Hp}
theorem RpD.tk (e : TK H H') : ∀ {m : List (Int × α)} {kvs : List (Key × V)}, RpD enc K H m kvs → RpD enc K H' m kvs
  | [], _, h => h
  | p :: m, kvs, h => by
    obtain ⟨v, r, rfl, h1, h2⟩ := h
    exact ⟨v, r, rfl, Rp.tk e _ _ h1, RpD.tk e h2⟩
theorem RpD.len : ∀ {m : List (Int × α)} {kvs : List (Key × V)}, RpD enc K H m kvs → kvs.length = m.length
  | [], kvs, h => by rw [show kvs = [] from h]; rfl
  | p :: m, kvs, h => by
    obtain ⟨v, r, rfl, h1, h2⟩ := h
    rw [List.length_cons, List.length_cons, RpD.len h2]
theorem RpD.keys : ∀ {m : List (Int × α)} {kvs : List (Key × V)}, RpD enc K H m kvs → (kvs.map fun kv => kV kv.1) = (m.map (·.1)).map V.int
  | [], kvs, h => by rw [show kvs = [] from h]; rfl
  | p :: m, kvs, h => by
    obtain ⟨v, r, rfl, h1, h2⟩ := h
    rw [List.map_cons, List.map_cons, List.map_cons, RpD.keys h2]
    rfl
theorem inl_iff {a b : Int} : ((Sum.inl a : Key) = Sum.inl b) ↔ a = b := ⟨fun h => by cases h; rfl, fun h => by rw [h]⟩
theorem RpD.val {k : Int} : ∀ {m : List (Int × α)} {kvs : List (Key × V)}, RpD enc K H m kvs → (lookA m k = none ∧ valV kvs (Sum.inl k) = none) ∨ ∃ x v, lookA m k = some x ∧ valV kvs (Sum.inl k) = some v ∧ Rp K H (enc x) v
  | [], kvs, h => by
    rw [show kvs = [] from h]
    exact .inl ⟨rfl, rfl⟩
  | p :: m, kvs, h => by
    obtain ⟨v, r, rfl, h1, h2⟩ := h
    by_cases e : p.1 = k
    · refine .inr ⟨p.2, v, ?_, valV_pos (by rw [e]), h1⟩
      simp [lookA, List.find?_cons, e]
    · have e1 : lookA (p :: m) k = lookA m k := by simp [lookA, List.find?_cons, e]
      rw [e1, valV_neg (p := (Sum.inl p.1, v)) (fun z => e (inl_iff.mp z))]
      exact RpD.val h2
theorem RpD.any {k : Int} : ∀ {m : List (Int × α)} {kvs : List (Key × V)}, RpD enc K H m kvs → (kvs.any fun kv => decide (kv.1 = Sum.inl k)) = (m.any fun kv => decide (kv.1 = k))
  | [], kvs, h => by rw [show kvs = [] from h]; rfl
  | p :: m, kvs, h => by
    obtain ⟨v, r, rfl, h1, h2⟩ := h
    rw [List.any_cons, List.any_cons, RpD.any h2]
    congr 1
    exact decide_eq_decide.mpr inl_iff
theorem RpD.snoc {k : Int} {x : α} {v : V} (hv : Rp K H (enc x) v) : ∀ {m : List (Int × α)} {kvs : List (Key × V)}, RpD enc K H m kvs → RpD enc K H (m ++ [(k, x)]) (kvs ++ [(Sum.inl k, v)])
  | [], kvs, h => by
    rw [show kvs = [] from h]
    exact ⟨v, [], rfl, hv, rfl⟩
  | p :: m, kvs, h => by
    obtain ⟨u, r, rfl, h1, h2⟩ := h
    exact ⟨u, _, rfl, h1, RpD.snoc hv h2⟩
theorem RpD.map {k : Int} {x : α} {v : V} (hv : Rp K H (enc x) v) : ∀ {m : List (Int × α)} {kvs : List (Key × V)}, RpD enc K H m kvs → RpD enc K H (m.map fun kv => if kv.1 = k then (kv.1, x) else kv) (kvs.map fun kv => if kv.1 = Sum.inl k then (kv.1, v) else kv)
  | [], kvs, h => by rw [show kvs = [] from h]; rfl
  | p :: m, kvs, h => by
    obtain ⟨u, r, rfl, h1, h2⟩ := h
    have h3 := RpD.map (k := k) hv h2
    rw [List.map_cons, List.map_cons]
    by_cases e : p.1 = k
    · rw [if_pos e, if_pos (inl_iff.mpr e)]
      exact ⟨v, _, rfl, hv, h3⟩
    · rw [if_neg e, if_neg (fun z => e (inl_iff.mp z))]
      exact ⟨u, _, rfl, h1, h3⟩
theorem RpD.put {k : Int} {x : α} {v : V} {m : List (Int × α)} {kvs : List (Key × V)} (h : RpD enc K H m kvs) (hv : Rp K H (enc x) v) : RpD enc K H (putA m k x) (putK kvs (Sum.inl k) v) := by
  unfold putA putK
  rw [h.any]
  split
  · exact h.map hv
  · exact h.snoc hv
theorem RpD.drop {k : Int} : ∀ {m : List (Int × α)} {kvs : List (Key × V)}, RpD enc K H m kvs → RpD enc K H (dropA m k) (dropK kvs (Sum.inl k))
  | [], kvs, h => by rw [show kvs = [] from h]; rfl
  | p :: m, kvs, h => by
    obtain ⟨u, r, rfl, h1, h2⟩ := h
    have h3 := RpD.drop (k := k) h2
    unfold dropA dropK at *
    by_cases e : p.1 = k
    · rw [List.filter_cons_of_neg (by simp [e]), List.filter_cons_of_neg (by simp [e])]
      exact h3
    · rw [List.filter_cons_of_pos (by simp [e]), List.filter_cons_of_pos (by simp [inl_iff, e])]
      exact ⟨u, _, rfl, h1, h3⟩
/-- a dict at q that stands for m -/
def DictAt (enc : α → PyData) (K : PySem.W.Frag) (H : Hp) (q : Addr) (m : List (Int × α)) : Prop := ∃ kvs, H q = some (.dK kvs) ∧ RpD enc K H m kvs
theorem DictAt.kp {M : List Addr} {q : Addr} {m : List (Int × α)} (h : DictAt enc K H q m) (k : Kp M H H') (t : TK H H') (n : q ∉ M) : DictAt enc K H' q m := by
  obtain ⟨kvs, a, b⟩ := h
  exact ⟨kvs, k _ _ n a, b.tk t⟩
def sortI (ns : List Int) : List Int := ns.mergeSort (fun a b => decide (a ≤ b))
theorem sortI_perm (ns : List Int) : (sortI ns).Perm ns := List.mergeSort_perm _ _
theorem sortI_sorted (ns : List Int) : (sortI ns).Pairwise (· ≤ ·) := by
  have h := List.pairwise_mergeSort (le := fun a b : Int => decide (a ≤ b)) (fun a b c h1 h2 => by simp only [decide_eq_true_eq] at *; omega) (fun a b => by simp only [Bool.or_eq_true, decide_eq_true_eq]; omega) ns
  exact h.imp fun h => of_decide_eq_true h
theorem sortI_eq {ns ms : List Int} (p : ms.Perm ns) (s : ms.Pairwise (· ≤ ·)) : ms = sortI ns :=
  PySem.W.ksm_same (p.trans (sortI_perm ns).symm) s (sortI_sorted ns)
/-- rows by hands: (hand,) and what stands there -/
def rowsD (encL : α → List PyData) (m : List (Int × α)) : PyData := .tuple ((sortI (m.map (·.1))).map fun k => .tuple (.int k :: ((lookA m k).map encL).getD []))
theorem lookA_mem {m : List (Int × α)} {k : Int} (h : k ∈ m.map (·.1)) : ∃ x, lookA m k = some x ∧ (k, x) ∈ m := by
  obtain ⟨p, hp, rfl⟩ := List.mem_map.mp h
  unfold lookA
  cases e : m.find? fun q => decide (q.1 = p.1) with
  | none =>
    have := List.find?_eq_none.mp e p hp
    simp at this
  | some q =>
    have h1 := List.find?_some e
    have h2 := List.mem_of_find?_eq_some e
    simp only [decide_eq_true_eq] at h1
    exact ⟨q.2, rfl, by rw [← h1]; exact h2⟩
theorem szs_map_le {β : Type} {f : β → PyData} {c : Nat} : ∀ (l : List β), (∀ x ∈ l, sz (f x) ≤ c) → szs (l.map f) ≤ c * l.length
  | [], _ => Nat.zero_le _
  | x :: l, h => by
    have h1 := szs_map_le l fun y hy => h y (List.mem_cons_of_mem _ hy)
    have h2 := h x List.mem_cons_self
    rw [List.map_cons, List.length_cons]
    unfold szs
    rw [Nat.mul_succ]
    omega
theorem deps_map_le {β : Type} {f : β → PyData} {c : Nat} : ∀ (l : List β), (∀ x ∈ l, dep (f x) ≤ c) → deps (l.map f) ≤ c
  | [], _ => Nat.zero_le _
  | x :: l, h => by
    have h1 := deps_map_le l fun y hy => h y (List.mem_cons_of_mem _ hy)
    have h2 := h x List.mem_cons_self
    rw [List.map_cons]
    unfold deps
    omega
theorem Rp.tup {ds : List PyData} {a : Addr} {xs : List V} (h : H a = some (.tup xs)) (r : RpL K H ds xs) : Rp K H (.tuple ds) (.ref a) := by
  unfold Rp
  exact ⟨a, xs, rfl, SqT.of h, r⟩
theorem Rp.tupS {ds : List PyData} {a : Addr} {xs : List V} (h : SqT K H a xs) (r : RpL K H ds xs) : Rp K H (.tuple ds) (.ref a) := by
  unfold Rp
  exact ⟨a, xs, rfl, h, r⟩
theorem RpL.cons {d : PyData} {ds : List PyData} {v : V} {xs : List V} (h : Rp K H d v) (r : RpL K H ds xs) : RpL K H (d :: ds) (v :: xs) := by
  unfold RpL
  exact ⟨v, xs, rfl, h, r⟩
theorem RpL.nil : RpL K H [] [] := by
  unfold RpL
  rfl
theorem Rp.int {i : Int} : Rp K H (.int i) (.int i) := by
  unfold Rp
  rfl
theorem Rp.none : Rp K H .none .non := by
  unfold Rp
  rfl
theorem Rp.str {z : Str} : Rp K H (.str z) (.str z) := by
  unfold Rp
  rfl
end
end Wn

namespace Wn
open PySem L2
theorem tYes_t {σ : L2.St} {H : Hp} {F : Bool → Hp → Prop} (h : F true H) : tYes σ H F := h
theorem rows_lc {α : Type} {encL : α → List PyData} {K : PySem.W.Frag} {td : TE} {i : Nat} {σ : L2.St} {H2 : Hp} {S D q : Addr} {ns : List Int} {m : List (Int × α)} {kvs : List (Key × V)} {Qd : Hp → Prop}
    (hS : H2 S = some (.lst (ns.map V.int))) (hq : H2 q = some (.dK kvs)) (hm : RpD (fun x => .tuple (encL x)) K H2 m kvs) (hns : ∀ k ∈ ns, k ∈ m.map (·.1)) (hz : ∀ x, (encL x).length ≤ 100) (hln : ns.length ≤ 1000000)
    (htd : ∀ (σ' : L2.St) (H' : Hp) (Q : VK), wipe σ' [i] = wipe σ [i] → Same H2 H' → Q (.ref q) H' → td σ' H' Q) (hD : H2 D = none) (hσ : i < σ.length)
    (hd : ∀ (H' : Hp) (xs : List V), Same H2 H' → H' D = some (.lst xs) → RpL K H' (ns.map fun k => .tuple (.int k :: ((lookA m k).map encL).getD [])) xs → Qd H') :
    ∃ W : Nat → Nat → Hp → Prop, (∃ m, W 0 m (upd H2 D (.lst []))) ∧ ∀ j m H, W j m H →
      ((Itl K S).stop j H ∧ Qd H) ∨ ((Itl K S).go j H ∧ ∃ Nx : Hp → Prop, (∀ H', Nx H' → ∃ m', m' < m ∧ W (j + 1) m' H') ∧ ∀ x H', (Itl K S).yld j H x H' → gName i x (wipe σ [i]) H' fun σ2 H2 => wipe σ2 [i] = wipe σ [i] ∧ tYes σ2 H2 fun b H3 =>
        if b = true then tOp (rCatT K) (tTup (tCons (tVar i) tNil)) (tDGet td (tVar i)) σ2 H3 fun y H4 => ∃ acc, H4 D = some (.lst acc) ∧ acc.length < sizeLine ∧ Nx (upd H4 D (.lst (acc ++ [y]))) else Nx H3) := by
  have nSD : S ≠ D := ne_of_none hS hD
  refine lc_list (K := K) (a := S) (xs := ns.map V.int) (fun j H => ∃ xs, Same H2 H ∧ H D = some (.lst xs) ∧ RpL K H ((ns.take j).map fun k => .tuple (.int k :: ((lookA m k).map encL).getD [])) xs)
    ⟨[], (L2.Same.refl H2).new hD, upd_same, RpL.nil⟩ (fun j H _ ⟨xs, s, _, _⟩ => SqL.of (s _ _ hS)) ?_ ?_
  · rintro j x H3 hx ⟨xs, s3, hD3, hr⟩
    have hj : j < ns.length := by
      have q := (List.getElem?_eq_some_iff.mp hx).1
      rw [List.length_map] at q
      exact q
    obtain rfl : x = V.int ns[j] := by
      rw [List.getElem?_map, List.getElem?_eq_getElem hj] at hx
      exact (Option.some.inj hx).symm
    have hmem : ns[j] ∈ m.map (·.1) := hns _ (List.getElem_mem hj)
    have eσ : (((wipe σ [i]).set i (some (V.int ns[j]))))[i]? = some (some (V.int ns[j])) := by
      rw [List.getElem?_set_self]
      rw [wipe_length]
      exact hσ
    have ew : wipe ((wipe σ [i]).set i (some (V.int ns[j]))) [i] = wipe σ [i] := by
      show ((σ.set i none).set i (some (V.int ns[j]))).set i none = σ.set i none
      rw [List.set_set, List.set_set]
    refine ⟨ew, ?_⟩
    refine tYes_t (iteT ?_)
    have hlx : xs.length < sizeLine := by
      have := RpL.len _ _ hr
      rw [List.length_map, List.length_take] at this
      exact Nat.lt_of_le_of_lt (show xs.length ≤ 1000000 by omega) (by decide)
    refine ⟨_, eσ, (by show 1 ≤ sizeLine; decide), fun t ht => ?_⟩
    have s4 := s3.new (o := .tup [V.int ns[j]]) ht
    have t4 := TK.of s4
    refine htd _ _ _ ew s4 ⟨_, eσ, ?_⟩
    rcases hm.val (k := ns[j]) with ⟨e1, e2⟩ | ⟨y, v, e1, e2, r⟩
    · obtain ⟨z, e3, _⟩ := lookA_mem hmem
      rw [e1] at e3
      cases e3
    · have r4 := Rp.tk t4 _ _ r
      unfold Rp at r4
      obtain ⟨b, ys, rfl, hb, hl⟩ := r4
      have hly := RpL.len _ _ hl
      refine ⟨q, .ref b, rfl, by rw [← e2]; exact DGet.k (k := Sum.inl ns[j]) (s4 _ _ hq), ?_⟩
      have hD4 : (upd H3 t (.tup [V.int ns[j]])) D = some (.lst xs) := by
        rw [upd_ne (ne_of_none hD3 ht)]
        exact hD3
      have etk : (ns.take (j + 1)).map (fun k => PyData.tuple (.int k :: ((lookA m k).map encL).getD [])) = (ns.take j).map (fun k => PyData.tuple (.int k :: ((lookA m k).map encL).getD [])) ++ [PyData.tuple (.int ns[j] :: encL y)] := by
        rw [List.take_succ_eq_append_getElem hj, List.map_append, List.map_singleton, e1]
        rfl
      have s34 : TK H3 (upd H3 t (.tup [V.int ns[j]])) := (TK.refl _).new ht
      refine ⟨t, b, _, ys, rfl, rfl, SqT.of upd_same, hb, List.cons_ne_nil _ _, ?_, fun ey => ?_, fun _ p hp => ?_⟩
      · have := hz y
        rw [hly, List.length_singleton]
        exact Nat.le_trans (show 1 + (encL y).length ≤ 1000 by omega) (by decide)
      · refine ⟨xs, hD4, hlx, _, s4.wrn hD, upd_same, ?_⟩
        rw [etk]
        have tE : TK (upd H3 t (.tup [V.int ns[j]])) (upd (upd H3 t (.tup [V.int ns[j]])) D (.lst (xs ++ [V.ref t]))) := (TK.refl _).wr hD4 rfl
        refine RpL.snoc (Rp.tk tE _ _ (Rp.tup upd_same ?_)) _ _ (RpL.tk (s34.trans tE) _ _ hr)
        have e0 : encL y = [] := List.length_eq_zero_iff.mp (by rw [← hly, ey]; rfl)
        rw [e0]
        exact RpL.cons Rp.int RpL.nil
      · have s5 := s4.new (o := .tup ([V.int ns[j]] ++ ys)) hp
        have hD5 : upd (upd H3 t (.tup [V.int ns[j]])) p (.tup ([V.int ns[j]] ++ ys)) D = some (.lst xs) := by
          rw [upd_ne (ne_of_none hD4 hp)]
          exact hD4
        have tE : TK (upd (upd H3 t (.tup [V.int ns[j]])) p (.tup ([V.int ns[j]] ++ ys))) (upd (upd (upd H3 t (.tup [V.int ns[j]])) p (.tup ([V.int ns[j]] ++ ys))) D (.lst (xs ++ [V.ref p]))) := (TK.refl _).wr hD5 rfl
        have s45 : TK (upd H3 t (.tup [V.int ns[j]])) (upd (upd H3 t (.tup [V.int ns[j]])) p (.tup ([V.int ns[j]] ++ ys))) := (TK.refl _).new hp
        refine ⟨xs, hD5, hlx, _, s5.wrn hD, upd_same, ?_⟩
        rw [etk]
        refine RpL.snoc (Rp.tk tE _ _ (Rp.tup upd_same ?_)) _ _ (RpL.tk ((s34.trans s45).trans tE) _ _ hr)
        exact RpL.cons Rp.int (RpL.tk s45 _ _ hl)
  · rintro H3 ⟨xs, s3, hD3, hr⟩
    rw [List.length_map, List.take_length] at hr
    exact hd H3 xs s3 hD3 hr
end Wn

namespace Wn
open PySem L2
section
variable {X : Cx} {K : PySem.W.Frag}
theorem ixL (hK : X.K = K) : IxR X (rIxL K) := hK ▸ ix_list
theorem ixT (hK : X.K = K) : IxR X (rIxT K) := hK ▸ ix_tup
theorem opCatT (hK : X.K = K) : OpR X (binaryOp .Add) (rCatT K) := hK ▸ op_catT
theorem slL (hK : X.K = K) : SlR X (rSlL K) := hK ▸ sl_list
theorem slT (hK : X.K = K) : SlR X (rSlT K) := hK ▸ sl_tup
theorem fldK {e : Expr} {ta : TE} {f : Str} {pos : Pos} (hK : X.K = K) (he : PE X e ta) (hb : attributeBase e f X.env (eval e X.env) = eval e X.env) : PE X (.Attribute e f pos) (tFld K ta f) := hK ▸ pe_fld he hb
theorem lenK (hK : X.K = K) : CallR X (.builtin "len") (fun xs H Q => ∃ x n, xs = [x] ∧ LenV K x H n ∧ Q (.int n) H) := hK ▸ call_len
theorem crMaxK (hK : X.K = K) (hc : X.calm = true) : CallR X (.builtin "max") (rMax K) := hK ▸ cr_max hc
theorem crMinK (hK : X.K = K) (hc : X.calm = true) : CallR X (.builtin "min") (rMin K) := hK ▸ cr_min hc
theorem crAllK (hK : X.K = K) (hc : X.calm = true) : CallR X (.builtin "all") (rAll K) := hK ▸ cr_all hc
theorem crAnyK (hK : X.K = K) (hc : X.calm = true) : CallR X (.builtin "any") (rAny K) := hK ▸ cr_any hc
theorem isiK (hK : X.K = K) : CallR X (.builtin "isinstance") (rIsi K) := hK ▸ call_isi
theorem tupOfK (hK : X.K = K) : CallR X (.type "tuple") (fun xs H Q => ∃ p ys, xs = [.ref p] ∧ ((SqL K H p ys ∧ ∀ l, H l = none → Q (.ref l) (upd H l (.tup ys))) ∨ (SqT K H p ys ∧ Q (.ref p) H))) := hK ▸ call_tuple_of
theorem lstOfK (hK : X.K = K) : CallR X (.type "list") (fun xs H Q => ∃ p ys, xs = [.ref p] ∧ (SqL K H p ys ∨ SqT K H p ys) ∧ ∀ l, H l = none → Q (.ref l) (upd H l (.lst ys))) := hK ▸ call_list_of
theorem sortIK (hK : X.K = K) : CallR X (.builtin "sorted") (rSortedI K) := hK ▸ cr_sortedI
theorem inSeqK (hK : X.K = K) : OpR X (compareOp .In) (rIn K false) := hK ▸ op_in_seq
theorem notInSeqK (hK : X.K = K) : OpR X (compareOp .NotIn) (rIn K true) := hK ▸ op_notIn_seq
theorem eqDK (hK : X.K = K) (hu : X.A.units + 64 < cLine) : OpR X (compareOp .Eq) (rEqD K) := hK ▸ op_eqD hu
theorem neDK (hK : X.K = K) (hu : X.A.units + 64 < cLine) : OpR X (compareOp .NotEq) (rNeD K) := hK ▸ op_neD hu
end
end Wn

namespace Wn
open PySem L2
theorem Deck.kp {M : List Addr} {H H' : Hp} {d f : Addr} {n : Int} (h : Deck H d f n) (k : Kp M H H') (n1 : d ∉ M) (n2 : f ∉ M) : Deck H' d f n := by
  obtain ⟨a, wh, xs, h1, h2, h3⟩ := h
  exact ⟨a, wh, xs, k _ _ n1 h1, k _ _ n2 h2, h3⟩
theorem Deck.mono {H : Hp} {d f : Addr} {n m : Int} (h : Deck H d f n) (hm : n ≤ m) : Deck H d f m := by
  obtain ⟨a, wh, xs, h1, h2, h3, h4, h5⟩ := h
  exact ⟨a, wh, xs, h1, h2, h3, by omega, h5⟩
theorem Deck.lst {H : Hp} {d f : Addr} {n : Int} (h : Deck H d f n) : ∃ zs, H d = some (.lst zs) := by
  obtain ⟨a, wh, xs, h1, h2, h3⟩ := h
  exact ⟨_, h1⟩
theorem Deck.lst2 {H : Hp} {d f : Addr} {n : Int} (h : Deck H d f n) : ∃ zs, H f = some (.lst zs) := by
  obtain ⟨a, wh, xs, h1, h2, h3⟩ := h
  exact ⟨_, h2⟩
theorem seq_have {t u : TS} {D : Ends} {σ : L2.St} {H : Hp} (Mid : L2.St → Hp → Prop) (h2 : ∀ σ' H', Mid σ' H' → u D σ' H') (h1 : (∀ σ' H', Mid σ' H' → u D σ' H') → t { D with nx := u D } σ H) : tSeq t u D σ H := h1 h2
theorem seq_if {c : TT} {t1 t2 u : TS} {D : Ends} {σ : L2.St} {H : Hp} (Mid : L2.St → Hp → Prop) (h2 : ∀ σ' H', Mid σ' H' → u D σ' H') (h1 : (∀ σ' H', Mid σ' H' → u D σ' H') → tIfS c t1 t2 { D with nx := u D } σ H) : tSeq (tIfS c t1 t2) u D σ H := h1 h2
theorem nin1 {a b : Addr} (h : a ≠ b) : a ∉ [b] := fun z => h (List.mem_singleton.mp z)
theorem nin2 {a b c : Addr} (h : a ≠ b) (h' : a ≠ c) : a ∉ [b, c] := fun z => by
  rcases List.mem_cons.mp z with z | z
  · exact h z
  · exact h' (List.mem_singleton.mp z)
section
variable {α : Type}
/-- an object at p whose dict by_hand stands at q -/
def HoldAt (enc : α → PyData) (K : PySem.W.Frag) (C : Addr) (H : Hp) (p q : Addr) (m : List (Int × α)) : Prop :=
  (∃ dx, H p = some (.ins C dx [("by_hand", .ref q)])) ∧ DictAt enc K H q m
variable {enc : α → PyData} {K : PySem.W.Frag} {C : Addr} {H H' : Hp}
theorem HoldAt.kp {M : List Addr} {p q : Addr} {m : List (Int × α)} (h : HoldAt enc K C H p q m) (k : Kp M H H') (t : TK H H') (n1 : p ∉ M) (n2 : q ∉ M) : HoldAt enc K C H' p q m := by
  obtain ⟨⟨dx, a⟩, b⟩ := h
  exact ⟨⟨dx, k _ _ n1 a⟩, b.kp k t n2⟩
/-- n objects and n dicts, in two lists -/
structure Rack (enc : α → PyData) (K : PySem.W.Frag) (C : Addr) (H : Hp) (L1 L2 : Addr) (n : Nat) (p q md : Nat → Addr) (m m' : Nat → List (Int × α)) : Prop where
  l1 : H L1 = some (.lst ((List.range n).map fun j => V.ref (p j)))
  l2 : H L2 = some (.lst ((List.range n).map fun j => V.ref (md j)))
  ok : ∀ j, j < n → HoldAt enc K C H (p j) (q j) (m j)
  mo : ∀ j, j < n → DictAt enc K H (md j) (m' j)
  dq : ∀ i j, i < n → j < n → i ≠ j → q i ≠ q j
  dm : ∀ i j, i < n → j < n → i ≠ j → md i ≠ md j
  dx : ∀ i j, i < n → j < n → q i ≠ md j
variable {L1 L2 : Addr} {n : Nat} {p q md : Nat → Addr} {m m' : Nat → List (Int × α)}
theorem Rack.kp {M : List Addr} (R : Rack enc K C H L1 L2 n p q md m m') (k : Kp M H H') (t : TK H H') (h : ∀ x ∈ M, x ≠ L1 ∧ x ≠ L2 ∧ ∀ j, j < n → x ≠ p j ∧ x ≠ q j ∧ x ≠ md j) : Rack enc K C H' L1 L2 n p q md m m' where
  l1 := k _ _ (fun z => (h _ z).1 rfl) R.l1
  l2 := k _ _ (fun z => (h _ z).2.1 rfl) R.l2
  ok := fun j hj => (R.ok j hj).kp k t (fun z => ((h _ z).2.2 j hj).1 rfl) (fun z => ((h _ z).2.2 j hj).2.1 rfl)
  mo := fun j hj => (R.mo j hj).kp k t (fun z => ((h _ z).2.2 j hj).2.2 rfl)
  dq := R.dq
  dm := R.dm
  dx := R.dx
/-- a list beside was written -/
theorem Rack.lst {d : Addr} {zs : List V} (R : Rack enc K C H L1 L2 n p q md m m') (k : Kp [d] H H') (t : TK H H') (hd : H d = some (.lst zs)) (n1 : d ≠ L1) (n2 : d ≠ L2) : Rack enc K C H' L1 L2 n p q md m m' :=
  R.kp k t fun x hx => by
    rw [List.mem_singleton] at hx
    subst hx
    refine ⟨n1, n2, fun j hj => ?_⟩
    obtain ⟨⟨dx, a⟩, kvs, b, _⟩ := R.ok j hj
    obtain ⟨kvs', c, _⟩ := R.mo j hj
    exact ⟨ne_of hd a (by intro z; cases z), ne_of hd b (by intro z; cases z), ne_of hd c (by intro z; cases z)⟩
theorem Rack.same (R : Rack enc K C H L1 L2 n p q md m m') (s : Same H H') : Rack enc K C H' L1 L2 n p q md m m' :=
  R.kp (M := []) (Kp.of s) (TK.of s) fun x hx => by cases hx
/-- the k-th object's dict is another one -/
theorem Rack.setq {i : Nat} {mn : List (Int × α)} (R : Rack enc K C H L1 L2 n p q md m m') (hi : i < n) (k : Kp [q i] H H') (t : TK H H') (h : HoldAt enc K C H' (p i) (q i) mn) :
    Rack enc K C H' L1 L2 n p q md (fun j => if j = i then mn else m j) m' := by
  obtain ⟨_, kvq, hq, _⟩ := R.ok i hi
  refine ⟨k _ _ (nin1 (ne_of R.l1 hq (by intro z; cases z))) R.l1, k _ _ (nin1 (ne_of R.l2 hq (by intro z; cases z))) R.l2, fun j hj => ?_, fun j hj => ?_, R.dq, R.dm, R.dx⟩
  · by_cases e : j = i
    · subst e
      simp only [if_true]
      exact h
    · simp only [if_neg e]
      obtain ⟨⟨dx, a⟩, _⟩ := R.ok j hj
      exact (R.ok j hj).kp k t (nin1 (ne_of a hq (by intro z; cases z))) (nin1 (R.dq j i hj hi e))
  · exact (R.mo j hj).kp k t (nin1 (fun z => R.dx i j hi hj z.symm))
theorem Rack.setm {i : Nat} {mn : List (Int × α)} (R : Rack enc K C H L1 L2 n p q md m m') (hi : i < n) (k : Kp [md i] H H') (t : TK H H') (h : DictAt enc K H' (md i) mn) :
    Rack enc K C H' L1 L2 n p q md m (fun j => if j = i then mn else m' j) := by
  obtain ⟨kvq, hq, _⟩ := R.mo i hi
  refine ⟨k _ _ (nin1 (ne_of R.l1 hq (by intro z; cases z))) R.l1, k _ _ (nin1 (ne_of R.l2 hq (by intro z; cases z))) R.l2, fun j hj => ?_, fun j hj => ?_, R.dq, R.dm, R.dx⟩
  · obtain ⟨⟨dx, a⟩, _⟩ := R.ok j hj
    exact (R.ok j hj).kp k t (nin1 (ne_of a hq (by intro z; cases z))) (nin1 (R.dx j i hj hi))
  · by_cases e : j = i
    · subst e
      simp only [if_true]
      exact h
    · simp only [if_neg e]
      exact (R.mo j hj).kp k t (nin1 (R.dm j i hj hi e))
/-- one more -/
theorem Rack.push {pn qn mdn : Addr} {mn : List (Int × α)} (R : Rack enc K C H L1 L2 n p q md m m') (k : Kp [L1, L2] H H') (t : TK H H') (h1 : H' L1 = some (.lst (((List.range n).map fun j => V.ref (p j)) ++ [V.ref pn]))) (h2 : H' L2 = some (.lst (((List.range n).map fun j => V.ref (md j)) ++ [V.ref mdn])))
    (hp : HoldAt enc K C H' pn qn mn) (hm : DictAt enc K H' mdn mn) (nq : H qn = none) (nm : H mdn = none) (nqm : qn ≠ mdn) :
    Rack enc K C H' L1 L2 (n + 1) (fun j => if j = n then pn else p j) (fun j => if j = n then qn else q j) (fun j => if j = n then mdn else md j) (fun j => if j = n then mn else m j) (fun j => if j = n then mn else m' j) := by
  have e1 : ∀ (f : Nat → Addr) (x : Addr), (List.range (n + 1)).map (fun j => V.ref (if j = n then x else f j)) = ((List.range n).map fun j => V.ref (f j)) ++ [V.ref x] := fun f x => by
    rw [List.range_succ, List.map_append, List.map_singleton, if_pos rfl]
    congr 1
    refine List.map_congr_left fun j hj => ?_
    rw [List.mem_range] at hj
    rw [if_neg (by omega)]
  have hq : ∀ j, j < n → q j ≠ qn ∧ q j ≠ mdn := fun j hj => by
    obtain ⟨_, kv, a, _⟩ := R.ok j hj
    exact ⟨ne_of_none a nq, ne_of_none a nm⟩
  have hmd : ∀ j, j < n → md j ≠ qn ∧ md j ≠ mdn := fun j hj => by
    obtain ⟨kv, a, _⟩ := R.mo j hj
    exact ⟨ne_of_none a nq, ne_of_none a nm⟩
  refine ⟨by rw [e1]; exact h1, by rw [e1]; exact h2, fun j hj => ?_, fun j hj => ?_, fun i j hi hj e => ?_, fun i j hi hj e => ?_, fun i j hi hj => ?_⟩
  · by_cases e : j = n
    · simp only [if_pos e]
      exact hp
    · simp only [if_neg e]
      obtain ⟨⟨dx, a⟩, kv, b, _⟩ := R.ok j (by omega)
      exact (R.ok j (by omega)).kp k t (nin2 (ne_of a R.l1 (by intro z; cases z)) (ne_of a R.l2 (by intro z; cases z))) (nin2 (ne_of b R.l1 (by intro z; cases z)) (ne_of b R.l2 (by intro z; cases z)))
  · by_cases e : j = n
    · simp only [if_pos e]
      exact hm
    · simp only [if_neg e]
      obtain ⟨kv, b, _⟩ := R.mo j (by omega)
      exact (R.mo j (by omega)).kp k t (nin2 (ne_of b R.l1 (by intro z; cases z)) (ne_of b R.l2 (by intro z; cases z)))
  · by_cases ei : i = n
    · have ej : ¬ j = n := by omega
      simp only [if_pos ei, if_neg ej]
      exact (hq j (by omega)).1.symm
    · by_cases ej : j = n
      · simp only [if_neg ei, if_pos ej]
        exact (hq i (by omega)).1
      · simp only [if_neg ei, if_neg ej]
        exact R.dq i j (by omega) (by omega) e
  · by_cases ei : i = n
    · have ej : ¬ j = n := by omega
      simp only [if_pos ei, if_neg ej]
      exact (hmd j (by omega)).2.symm
    · by_cases ej : j = n
      · simp only [if_neg ei, if_pos ej]
        exact (hmd i (by omega)).2
      · simp only [if_neg ei, if_neg ej]
        exact R.dm i j (by omega) (by omega) e
  · by_cases ei : i = n
    · by_cases ej : j = n
      · simp only [if_pos ei, if_pos ej]
        exact nqm
      · simp only [if_pos ei, if_neg ej]
        exact (hmd j (by omega)).1.symm
    · by_cases ej : j = n
      · simp only [if_neg ei, if_pos ej]
        exact (hq i (by omega)).2
      · simp only [if_neg ei, if_neg ej]
        exact R.dx i j (by omega) (by omega)
end
section
variable {α : Type} {enc : α → PyData} {K : PySem.W.Frag} {C : Addr} {H H' : Hp}
theorem HoldAt.lst {d p q : Addr} {zs : List V} {m : List (Int × α)} (h : HoldAt enc K C H p q m) (k : Kp [d] H H') (t : TK H H') (hd : H d = some (.lst zs)) : HoldAt enc K C H' p q m := by
  obtain ⟨⟨dx, a⟩, kv, b, _⟩ := id h
  exact h.kp k t (nin1 (ne_of a hd (by intro z; cases z))) (nin1 (ne_of b hd (by intro z; cases z)))
theorem HoldAt.same {p q : Addr} {m : List (Int × α)} (h : HoldAt enc K C H p q m) (s : Same H H') : HoldAt enc K C H' p q m :=
  h.kp (M := []) (Kp.of s) (TK.of s) (by simp) (by simp)
theorem DictAt.lst {d q : Addr} {zs : List V} {m : List (Int × α)} (h : DictAt enc K H q m) (k : Kp [d] H H') (t : TK H H') (hd : H d = some (.lst zs)) : DictAt enc K H' q m := by
  obtain ⟨kv, b, _⟩ := id h
  exact h.kp k t (nin1 (ne_of b hd (by intro z; cases z)))
theorem DictAt.same {q : Addr} {m : List (Int × α)} (h : DictAt enc K H q m) (s : Same H H') : DictAt enc K H' q m :=
  h.kp (M := []) (Kp.of s) (TK.of s) (by simp)
theorem Deck.same {d f : Addr} {n : Int} (h : Deck H d f n) (s : Same H H') : Deck H' d f n := h.kp (M := []) (Kp.of s) (by simp) (by simp)
/-- a dict beside was written -/
theorem Deck.dict {d f q : Addr} {n : Int} {m : List (Int × α)} (h : Deck H d f n) (k : Kp [q] H H') (hq : DictAt enc K H q m) : Deck H' d f n := by
  obtain ⟨kv, b, _⟩ := hq
  obtain ⟨zs, h1⟩ := h.lst
  obtain ⟨zf, h2⟩ := h.lst2
  exact h.kp k (nin1 (ne_of h1 b (by intro z; cases z))) (nin1 (ne_of h2 b (by intro z; cases z)))
variable {La Lb : Addr} {n : Nat} {p q md : Nat → Addr} {m m' : Nat → List (Int × α)}
/-- the k-th object's dict, the k-th dict and a list beside are others -/
theorem Rack.set2 {d : Addr} {zs : List V} {i : Nat} {mn mn' : List (Int × α)} (R : Rack enc K C H La Lb n p q md m m') (hi : i < n) (k : Kp [d, q i, md i] H H') (t : TK H H') (hd : H d = some (.lst zs)) (n1 : d ≠ La) (n2 : d ≠ Lb)
    (h : HoldAt enc K C H' (p i) (q i) mn) (h' : DictAt enc K H' (md i) mn') :
    Rack enc K C H' La Lb n p q md (fun j => if j = i then mn else m j) (fun j => if j = i then mn' else m' j) := by
  obtain ⟨_, kvq, hq, _⟩ := R.ok i hi
  obtain ⟨kvm, hm, _⟩ := R.mo i hi
  have nin : ∀ {x : Addr}, x ≠ d → x ≠ q i → x ≠ md i → x ∉ [d, q i, md i] := fun a b c z => by
    rcases List.mem_cons.mp z with z | z
    · exact a z
    · exact nin2 b c z
  refine ⟨k _ _ (nin n1.symm (ne_of R.l1 hq (by intro z; cases z)) (ne_of R.l1 hm (by intro z; cases z))) R.l1, k _ _ (nin n2.symm (ne_of R.l2 hq (by intro z; cases z)) (ne_of R.l2 hm (by intro z; cases z))) R.l2, fun j hj => ?_, fun j hj => ?_, R.dq, R.dm, R.dx⟩
  · by_cases e : j = i
    · subst e
      simp only [if_true]
      exact h
    · simp only [if_neg e]
      obtain ⟨⟨dx, a⟩, kv, b, _⟩ := R.ok j hj
      exact (R.ok j hj).kp k t (nin (ne_of a hd (by intro z; cases z)) (ne_of a hq (by intro z; cases z)) (ne_of a hm (by intro z; cases z))) (nin (ne_of b hd (by intro z; cases z)) (R.dq j i hj hi e) (R.dx j i hj hi))
  · by_cases e : j = i
    · subst e
      simp only [if_true]
      exact h'
    · simp only [if_neg e]
      obtain ⟨kv, b, _⟩ := R.mo j hj
      exact (R.mo j hj).kp k t (nin (ne_of b hd (by intro z; cases z)) (fun z => R.dx i j hi hj z.symm) (R.dm j i hj hi e))
end
theorem at3 {x y z : V} {r : Int} (h0 : 0 ≤ r) (h1 : r < 3) : ∃ v, atI [x, y, z] r = some v ∧ (v = x ∨ v = y ∨ v = z) := by
  have h : r = 0 ∨ r = 1 ∨ r = 2 := by omega
  rcases h with rfl | rfl | rfl
  · exact ⟨x, rfl, .inl rfl⟩
  · exact ⟨y, rfl, .inr (.inl rfl)⟩
  · exact ⟨z, rfl, .inr (.inr rfl)⟩
theorem at5 {a b c d e : Int} {r : Int} (h0 : 0 ≤ r) (h1 : r < 5) : ∃ v : Int, atI [V.int a, .int b, .int c, .int d, .int e] r = some (.int v) := by
  have h : r = 0 ∨ r = 1 ∨ r = 2 ∨ r = 3 ∨ r = 4 := by omega
  rcases h with rfl | rfl | rfl | rfl | rfl <;> exact ⟨_, rfl⟩
theorem atR {n : Nat} {f : Nat → Addr} {r : Int} (h0 : 0 ≤ r) (h1 : r < n) : atI ((List.range n).map fun j => V.ref (f j)) r = some (.ref (f r.toNat)) := by
  have e : ((r.toNat : Nat) : Int) = r := by omega
  have := atI_nat (xs := (List.range n).map fun j => V.ref (f j)) (j := r.toNat) (v := .ref (f r.toNat)) (by
    rw [List.getElem?_map, List.getElem?_range (by omega)]
    rfl)
  rw [e] at this
  exact this
def spLaw (K : PySem.W.Frag) : Sp := fun vs H Q _ => ∃ (a : Addr) (ns : List Int), vs = [.ref a] ∧ SqL K H a (ns.map V.int) ∧ ns.length ≤ 63 ∧ ∀ H', Q (.bl true) H'
/-! ### lists of data -/
def LstAt (K : PySem.W.Frag) (H : Hp) (a : Addr) (ds : List PyData) : Prop := ∃ xs, H a = some (.lst xs) ∧ RpL K H ds xs
section
variable {K : PySem.W.Frag} {H H' : Hp}
theorem LstAt.kp {M : List Addr} {a : Addr} {ds : List PyData} (h : LstAt K H a ds) (k : Kp M H H') (t : TK H H') (n : a ∉ M) : LstAt K H' a ds := by
  obtain ⟨xs, h1, h2⟩ := h
  exact ⟨xs, k _ _ n h1, RpL.tk t _ _ h2⟩
theorem LstAt.same {a : Addr} {ds : List PyData} (h : LstAt K H a ds) (s : Same H H') : LstAt K H' a ds := h.kp (M := []) (Kp.of s) (TK.of s) (by simp)
theorem LstAt.lst {a : Addr} {ds : List PyData} (h : LstAt K H a ds) : ∃ zs, H a = some (.lst zs) := ⟨_, h.choose_spec.1⟩
theorem RpL.app : ∀ {ds es : List PyData} {xs ys : List V}, RpL K H ds xs → RpL K H es ys → RpL K H (ds ++ es) (xs ++ ys)
  | [], es, xs, ys, h1, h2 => by
    unfold RpL at h1
    subst h1
    exact h2
  | d :: ds, es, xs, ys, h1, h2 => by
    unfold RpL at h1
    obtain ⟨v, r, rfl, a, b⟩ := h1
    show RpL K H (d :: (ds ++ es)) (v :: (r ++ ys))
    exact RpL.cons a (RpL.app b h2)
theorem RpL.take : ∀ (k : Nat) {ds : List PyData} {xs : List V}, RpL K H ds xs → RpL K H (ds.take k) (xs.take k)
  | 0, ds, xs, _ => by
    rw [List.take_zero, List.take_zero]
    exact RpL.nil
  | k + 1, [], xs, h => by
    unfold RpL at h
    subst h
    exact RpL.nil
  | k + 1, d :: ds, xs, h => by
    unfold RpL at h
    obtain ⟨v, r, rfl, a, b⟩ := h
    exact RpL.cons a (RpL.take k b)
theorem RpL.drop : ∀ (k : Nat) {ds : List PyData} {xs : List V}, RpL K H ds xs → RpL K H (ds.drop k) (xs.drop k)
  | 0, ds, xs, h => h
  | k + 1, [], xs, h => by
    unfold RpL at h
    subst h
    exact RpL.nil
  | k + 1, d :: ds, xs, h => by
    unfold RpL at h
    obtain ⟨v, r, rfl, a, b⟩ := h
    exact RpL.drop k b
theorem inV_int {k : Int} : ∀ ns : List Int, inV (.int k) (ns.map V.int) = decide (k ∈ ns)
  | [] => by simp [inV]
  | n :: ns => by
    have h := inV_int (k := k) ns
    unfold inV at h ⊢
    rw [List.map_cons, List.any_cons, h]
    show ((n == k) || _) = _
    by_cases e : n = k
    · simp [e]
    · have e2 : ¬ k = n := fun z => e z.symm
      simp [e, e2]
theorem flat_ints (ns : List Int) : (ns.map V.int).all flatV = true := by
  rw [List.all_eq_true]
  intro x hx
  obtain ⟨n, _, rfl⟩ := List.mem_map.mp hx
  rfl
theorem set_wipe {σ : L2.St} {i : Nat} {x : Option V} : (wipe σ [i]).set i x = σ.set i x := by
  show (σ.set i none).set i x = _
  rw [List.set_set]
theorem wipe_set {σ : L2.St} {i : Nat} {x : Option V} : wipe (σ.set i x) [i] = wipe σ [i] := by
  show (σ.set i x).set i none = σ.set i none
  rw [List.set_set]
/-- [x for x in xs if test] -/
theorem filt_lc {β : Type} {enc : β → PyData} {tt : TT} {i : Nat} {σ : L2.St} {H2 : Hp} {S D : Addr} {xs : List V} {L : List β} {Qd : Hp → Prop} (p : β → Bool) (hS : H2 S = some (.lst xs)) (hr : RpL K H2 (L.map enc) xs) (hD : H2 D = none) (hσ : i < σ.length) (hl : L.length ≤ 1000000)
    (htt : ∀ (b : β) (x : V) (H' : Hp) (Q : Bool → Hp → Prop), b ∈ L → Rp K H' (enc b) x → Same H2 H' → Q (p b) H' → tt (σ.set i (some x)) H' Q)
    (hd : ∀ (H' : Hp) (ys : List V), Same H2 H' → H' D = some (.lst ys) → RpL K H' ((L.filter p).map enc) ys → Qd H') :
    ∃ W : Nat → Nat → Hp → Prop, (∃ m, W 0 m (upd H2 D (.lst []))) ∧ ∀ j m H, W j m H →
      ((Itl K S).stop j H ∧ Qd H) ∨ ((Itl K S).go j H ∧ ∃ Nx : Hp → Prop, (∀ H', Nx H' → ∃ m', m' < m ∧ W (j + 1) m' H') ∧ ∀ x H', (Itl K S).yld j H x H' → gName i x (wipe σ [i]) H' fun σ2 H2 => wipe σ2 [i] = wipe σ [i] ∧ tt σ2 H2 fun b H3 =>
        if b = true then tVar i σ2 H3 fun y H4 => ∃ acc, H4 D = some (.lst acc) ∧ acc.length < sizeLine ∧ Nx (upd H4 D (.lst (acc ++ [y]))) else Nx H3) := by
  refine lc_list (K := K) (a := S) (xs := xs) (fun j H => ∃ ys, Same H2 H ∧ H D = some (.lst ys) ∧ RpL K H (((L.take j).filter p).map enc) ys)
    ⟨[], (L2.Same.refl H2).new hD, upd_same, RpL.nil⟩ (fun j H _ ⟨ys, s, _, _⟩ => SqL.of (s _ _ hS)) ?_ ?_
  · rintro j x H3 hx ⟨ys, s3, hD3, hr3⟩
    have hlen := RpL.len _ _ hr
    have hj : j < L.length := by
      have q := (List.getElem?_eq_some_iff.mp hx).1
      rw [hlen, List.length_map] at q
      exact q
    obtain ⟨v, ev, rv⟩ := RpL.get _ _ hr j (enc L[j]) (by rw [List.getElem?_map, List.getElem?_eq_getElem hj]; rfl)
    have ex : v = x := Option.some.inj (ev.symm.trans hx)
    rw [ex] at rv
    have rx := Rp.tk (TK.of s3) _ _ rv
    show wipe ((wipe σ [i]).set i (some x)) [i] = wipe σ [i] ∧ _
    rw [set_wipe]
    refine ⟨wipe_set, ?_⟩
    have hly : ys.length < sizeLine := by
      have := RpL.len _ _ hr3
      rw [List.length_map] at this
      have h2 := List.length_filter_le p (L.take j)
      rw [List.length_take] at h2
      exact Nat.lt_of_le_of_lt (show ys.length ≤ 1000000 by omega) (by decide)
    refine htt L[j] x H3 _ (List.getElem_mem hj) rx s3 ?_
    have et : L.take (j + 1) = L.take j ++ [L[j]] := List.take_succ_eq_append_getElem hj
    cases e : p L[j] with
    | false =>
      refine iteF ⟨ys, s3, hD3, ?_⟩
      rw [et, List.filter_append, List.filter_cons, e]
      simpa using hr3
    | true =>
      refine iteT ⟨x, ?_, ys, hD3, hly, ys ++ [x], s3.wrn hD, upd_same, ?_⟩
      · rw [List.getElem?_set_self hσ]
      · have tE : TK H3 (upd H3 D (.lst (ys ++ [x]))) := (TK.refl _).wr hD3 rfl
        rw [et, List.filter_append, List.filter_cons, e, List.map_append]
        exact RpL.app (RpL.tk tE _ _ hr3) (RpL.cons (Rp.tk tE _ _ rx) RpL.nil)
  · rintro H3 ⟨ys, s3, hD3, hr3⟩
    have hlen := RpL.len _ _ hr
    rw [hlen, List.length_map, List.take_length] at hr3
    exact hd H3 ys s3 hD3 hr3
/-- [number of x for x in xs] -/
theorem mapI_lc {β : Type} {enc : β → PyData} {te : TE} {i : Nat} {σ : L2.St} {H2 : Hp} {S D : Addr} {xs : List V} {L : List β} {Qd : Hp → Prop} (f : β → Int) (hS : H2 S = some (.lst xs)) (hr : RpL K H2 (L.map enc) xs) (hD : H2 D = none) (hl : L.length ≤ 1000000)
    (hte : ∀ (b : β) (x : V) (H' : Hp) (Q : VK), b ∈ L → Rp K H' (enc b) x → Same H2 H' → Q (.int (f b)) H' → te (σ.set i (some x)) H' Q)
    (hd : ∀ (H' : Hp), Same H2 H' → H' D = some (.lst ((L.map f).map V.int)) → Qd H') :
    ∃ W : Nat → Nat → Hp → Prop, (∃ m, W 0 m (upd H2 D (.lst []))) ∧ ∀ j m H, W j m H →
      ((Itl K S).stop j H ∧ Qd H) ∨ ((Itl K S).go j H ∧ ∃ Nx : Hp → Prop, (∀ H', Nx H' → ∃ m', m' < m ∧ W (j + 1) m' H') ∧ ∀ x H', (Itl K S).yld j H x H' → gName i x (wipe σ [i]) H' fun σ2 H2 => wipe σ2 [i] = wipe σ [i] ∧ tYes σ2 H2 fun b H3 =>
        if b = true then te σ2 H3 fun y H4 => ∃ acc, H4 D = some (.lst acc) ∧ acc.length < sizeLine ∧ Nx (upd H4 D (.lst (acc ++ [y]))) else Nx H3) := by
  refine lc_list (K := K) (a := S) (xs := xs) (fun j H => Same H2 H ∧ H D = some (.lst (((L.take j).map f).map V.int)))
    ⟨(L2.Same.refl H2).new hD, upd_same⟩ (fun j H _ ⟨s, _⟩ => SqL.of (s _ _ hS)) ?_ ?_
  · rintro j x H3 hx ⟨s3, hD3⟩
    have hlen := RpL.len _ _ hr
    have hj : j < L.length := by
      have q := (List.getElem?_eq_some_iff.mp hx).1
      rw [hlen, List.length_map] at q
      exact q
    obtain ⟨v, ev, rv⟩ := RpL.get _ _ hr j (enc L[j]) (by rw [List.getElem?_map, List.getElem?_eq_getElem hj]; rfl)
    have ex : v = x := Option.some.inj (ev.symm.trans hx)
    rw [ex] at rv
    have rx := Rp.tk (TK.of s3) _ _ rv
    show wipe ((wipe σ [i]).set i (some x)) [i] = wipe σ [i] ∧ _
    rw [set_wipe]
    refine ⟨wipe_set, tYes_t (iteT ?_)⟩
    refine hte L[j] x H3 _ (List.getElem_mem hj) rx s3 ⟨_, hD3, ?_, s3.wrn hD, ?_⟩
    · rw [List.length_map, List.length_map, List.length_take]
      exact Nat.lt_of_le_of_lt (show min j L.length ≤ 1000000 by omega) (by decide)
    · rw [upd_same, List.take_succ_eq_append_getElem hj, List.map_append, List.map_append]
      rfl
  · rintro H3 ⟨s3, hD3⟩
    have hlen := RpL.len _ _ hr
    rw [hlen, List.length_map, List.take_length] at hD3
    exact hd H3 s3 hD3
end
section
variable {K : PySem.W.Frag} {H H' : Hp}
/-- [e for x in xs], each e data -/
theorem mapD_it {J : It} {G : Hp → Prop} {β : Type} {enc : β → PyData} {te : TE} {i : Nat} {σ : L2.St} {H2 : Hp} {D : Addr} {xs : List V} {L : List β} {Qd : Hp → Prop} (w : Walk J xs.length G (YAt xs)) (hG : ∀ H', Same H2 H' → G H') (g : β → PyData) (hr : RpL K H2 (L.map enc) xs) (hD : H2 D = none) (hl : L.length ≤ 1000000)
    (hte : ∀ (b : β) (x : V) (H' : Hp) (Q : VK), b ∈ L → Rp K H' (enc b) x → Same H2 H' → (∀ (H'' : Hp) (y : V), Same H' H'' → Rp K H'' (g b) y → Q y H'') → te (σ.set i (some x)) H' Q)
    (hd : ∀ (H' : Hp) (ys : List V), Same H2 H' → H' D = some (.lst ys) → RpL K H' (L.map g) ys → Qd H') :
    ∃ W : Nat → Nat → Hp → Prop, (∃ m, W 0 m (upd H2 D (.lst []))) ∧ ∀ j m H, W j m H →
      (J.stop j H ∧ Qd H) ∨ (J.go j H ∧ ∃ Nx : Hp → Prop, (∀ H', Nx H' → ∃ m', m' < m ∧ W (j + 1) m' H') ∧ ∀ x H', J.yld j H x H' → gName i x (wipe σ [i]) H' fun σ2 H2 => wipe σ2 [i] = wipe σ [i] ∧ tYes σ2 H2 fun b H3 =>
        if b = true then te σ2 H3 fun y H4 => ∃ acc, H4 D = some (.lst acc) ∧ acc.length < sizeLine ∧ Nx (upd H4 D (.lst (acc ++ [y]))) else Nx H3) := by
  refine lc_it w (fun j H => ∃ ys, Same H2 H ∧ H D = some (.lst ys) ∧ RpL K H ((L.take j).map g) ys)
    ⟨[], (L2.Same.refl H2).new hD, upd_same, RpL.nil⟩ (fun j H _ ⟨ys, s, _⟩ => hG H s) ?_ ?_
  · rintro j x H3 H3' hj ⟨ys, s3, hD3, hr3⟩ ⟨rfl, hx⟩
    have hlen := RpL.len _ _ hr
    rw [List.length_map] at hlen
    have hj : j < L.length := by omega
    obtain ⟨v, ev, rv⟩ := RpL.get _ _ hr j (enc L[j]) (by rw [List.getElem?_map, List.getElem?_eq_getElem hj]; rfl)
    have ex : v = x := Option.some.inj (ev.symm.trans hx)
    rw [ex] at rv
    have rx := Rp.tk (TK.of s3) _ _ rv
    show wipe ((wipe σ [i]).set i (some x)) [i] = wipe σ [i] ∧ _
    rw [set_wipe]
    refine ⟨wipe_set, tYes_t (iteT ?_)⟩
    refine hte L[j] x H3' _ (List.getElem_mem hj) rx s3 fun H4 y s4 ry => ⟨ys, s4 _ _ hD3, ?_, ys ++ [y], (s3.trans s4).wrn hD, upd_same, ?_⟩
    · have := RpL.len _ _ hr3
      rw [List.length_map, List.length_take] at this
      exact Nat.lt_of_le_of_lt (show ys.length ≤ 1000000 by omega) (by decide)
    · have tE : TK H4 (upd H4 D (.lst (ys ++ [y]))) := (TK.refl _).wr (s4 _ _ hD3) rfl
      rw [List.take_succ_eq_append_getElem hj, List.map_append]
      exact RpL.app (RpL.tk ((TK.of s4).trans tE) _ _ hr3) (RpL.cons (Rp.tk tE _ _ ry) RpL.nil)
  · rintro H3 ⟨ys, s3, hD3, hr3⟩
    have hlen := RpL.len _ _ hr
    rw [hlen, List.length_map, List.take_length] at hr3
    exact hd H3 ys s3 hD3 hr3
theorem RpL.ints : ∀ {ns : List Int} {ys : List V}, RpL K H (ns.map PyData.int) ys → ys = ns.map V.int
  | [], ys, h => by
    unfold List.map RpL at h
    exact h
  | n :: ns, ys, h => by
    rw [List.map_cons] at h
    unfold RpL at h
    obtain ⟨v, r, rfl, h1, h2⟩ := h
    unfold Rp at h1
    rw [RpL.ints h2, h1]
    rfl
theorem dp_ints : ∀ (ns : List Int), DpAll K H (ns.map V.int) (ns.map PyData.int)
  | [] => .nil
  | n :: ns => .cons (.int n) (dp_ints ns)
theorem LstAt.dict {α : Type} {enc : α → PyData} {a q : Addr} {ds : List PyData} {m : List (Int × α)} (h : LstAt K H a ds) (k : Kp [q] H H') (t : TK H H') (hq : DictAt enc K H q m) : LstAt K H' a ds := by
  obtain ⟨xs, h1, _⟩ := id h
  obtain ⟨kv, h2, _⟩ := hq
  exact h.kp k t (nin1 (ne_of h1 h2 (by intro z; cases z)))
theorem dep_ints (ns : List Int) : dep (.tuple (ns.map PyData.int)) ≤ 1 := by
  unfold dep
  have := deps_map_le (c := 0) (f := PyData.int) ns fun x _ => Nat.le_refl _
  omega
end
section
variable {K : PySem.W.Frag} {H H' : Hp}
/-- [e for i in range(..)], each e data -/
theorem mapR_it {J : It} {n : Nat} {fv : Nat → V} {te : TE} {i : Nat} {σ : L2.St} {H2 : Hp} {D : Addr} {Qd : Hp → Prop} (w : Walk J n (fun _ => True) (YFn fv)) (g : Nat → PyData) (hD : H2 D = none) (hl : n ≤ 1000000)
    (hte : ∀ (j : Nat) (H' : Hp) (Q : VK), j < n → Same H2 H' → (∀ (H'' : Hp) (y : V), Same H' H'' → Rp K H'' (g j) y → Q y H'') → te (σ.set i (some (fv j))) H' Q)
    (hd : ∀ (H' : Hp) (ys : List V), Same H2 H' → H' D = some (.lst ys) → RpL K H' ((List.range n).map g) ys → Qd H') :
    ∃ W : Nat → Nat → Hp → Prop, (∃ m, W 0 m (upd H2 D (.lst []))) ∧ ∀ j m H, W j m H →
      (J.stop j H ∧ Qd H) ∨ (J.go j H ∧ ∃ Nx : Hp → Prop, (∀ H', Nx H' → ∃ m', m' < m ∧ W (j + 1) m' H') ∧ ∀ x H', J.yld j H x H' → gName i x (wipe σ [i]) H' fun σ2 H2 => wipe σ2 [i] = wipe σ [i] ∧ tYes σ2 H2 fun b H3 =>
        if b = true then te σ2 H3 fun y H4 => ∃ acc, H4 D = some (.lst acc) ∧ acc.length < sizeLine ∧ Nx (upd H4 D (.lst (acc ++ [y]))) else Nx H3) := by
  refine lc_it w (fun j H => ∃ ys, Same H2 H ∧ H D = some (.lst ys) ∧ RpL K H ((List.range j).map g) ys)
    ⟨[], (L2.Same.refl H2).new hD, upd_same, RpL.nil⟩ (fun j H _ _ => trivial) ?_ ?_
  · rintro j x H3 H3' hj ⟨ys, s3, hD3, hr3⟩ ⟨rfl, rfl⟩
    show wipe ((wipe σ [i]).set i (some (fv j))) [i] = wipe σ [i] ∧ _
    rw [set_wipe]
    refine ⟨wipe_set, tYes_t (iteT ?_)⟩
    refine hte j H3' _ hj s3 fun H4 y s4 ry => ⟨ys, s4 _ _ hD3, ?_, ys ++ [y], (s3.trans s4).wrn hD, upd_same, ?_⟩
    · have := RpL.len _ _ hr3
      rw [List.length_map, List.length_range] at this
      exact Nat.lt_of_le_of_lt (show ys.length ≤ 1000000 by omega) (by decide)
    · have tE : TK H4 (upd H4 D (.lst (ys ++ [y]))) := (TK.refl _).wr (s4 _ _ hD3) rfl
      rw [List.range_succ, List.map_append]
      exact RpL.app (RpL.tk ((TK.of s4).trans tE) _ _ hr3) (RpL.cons (Rp.tk tE _ _ ry) RpL.nil)
  · rintro H3 ⟨ys, s3, hD3, hr3⟩
    exact hd H3 ys s3 hD3 hr3
end
end Wn

namespace Wn
open PySem L2
def top (i : Nat) : Stmt := PySem.Challenge.pw_wrapnets_k20_filters_and_copies.main.body.getD i (.Pass ⟨0, 0, 0, 0⟩)
abbrev sMixed : Stmt := top 11
abbrev sDeck : Stmt := top 12
abbrev sNext : Stmt := top 13
abbrev sSame : Stmt := top 14
section
variable {P : Program} {w : World} {K : PySem.W.Frag} {mg : Str → Option Value} {base : Heap}
theorem scMixed : FnScope ["_law_cell", "_law_at", "_law_one"] ["_law_cell", "_law_at"] (defScope sMixed) := ⟨rfl, rfl, rfl, by decide +kernel, rfl, by decide +kernel, by decide +kernel⟩
theorem ok_mixed {f : Addr} {fd : FuncData} (F : Fun K "_law_mixed" "_law_mixed" sMixed f fd) : FnOk P w K mg base CX0 1 f fd ["_law_cell", "_law_at"] spMixed := by
  refine F.ok scMixed (fun vs H Q E h => ?_) (fun cdv A outer s H vs Q E hr h => ?_)
  · obtain ⟨c, a, rfl, _⟩ := h
    rfl
  · obtain ⟨c, a, rfl, ha, hb, k⟩ := h
    refine ⟨_, pss_cons (ps_set (i := 2) scMixed.nd rfl (Or.inl rfl) (pe_op op_mod (pe_op op_add (pe_op op_add (pe_op op_mul (pe_op op_mod (pv 0) pe_int) pe_int)
      (pe_op op_mul (pe_op op_mul (pe_op op_add (pv 1) pe_int) (pe_op op_add (pv 1) pe_int)) pe_int)) pe_int) pe_int))
      (pss_one (ps_ret (pe_op op_fdiv (pe_op op_mod (pe_op op_mul (pv 2) (pv 2)) pe_int) pe_int))), ?_⟩
    refine ⟨_, rfl, _, _, rfl, rfl, (by show (0 : Int) < 2147483629; decide), _, _, rfl, rfl, .inr ⟨by decide, by decide⟩, _, rfl, _, _, rfl, rfl, _, rfl, _, _, rfl, rfl, _, _, rfl, rfl, .inl ⟨by omega, by omega⟩, _, _, rfl, rfl, .inr ⟨by decide, by decide⟩,
      _, _, rfl, rfl, _, _, rfl, rfl, _, _, rfl, rfl, (by show (0 : Int) < 2147483647; decide), ?_⟩
    refine ⟨_, rfl, _, rfl, _, _, rfl, rfl, .inl ⟨?_, ?_⟩, _, _, rfl, rfl, (by show (0 : Int) < 2147483629; decide), _, _, rfl, rfl, ⟨by decide, by decide⟩, k _⟩
    · have := Int.emod_nonneg (c % 2147483629 * 48271 + (a + 1) * (a + 1) * 7919 + 11) (show (2147483647 : Int) ≠ 0 by decide)
      omega
    · have := Int.emod_lt_of_pos (c % 2147483629 * 48271 + (a + 1) * (a + 1) * 7919 + 11) (show (0 : Int) < 2147483647 by decide)
      omega
theorem scNext : FnScope ["_law_deck_here", "_law_many", "_law_at"] ["_law_deck_here", "_law_many"] (defScope sNext) := ⟨rfl, rfl, rfl, by decide +kernel, rfl, by decide +kernel, by decide +kernel⟩
theorem ok_next {f : Addr} {fd : FuncData} (F : Fun K "_law_next" "_law_next" sNext f fd) (zL : mg "len" = none) (M : Cd P w K mg base 1 "_law_mixed" ["_law_cell", "_law_at"] spMixed) : FnOk P w K mg base CX0 2 f fd ["_law_deck_here", "_law_many"] spNext := by
  obtain ⟨fM, fdM, GM, mM, kM, bM⟩ := M
  refine F.ok scNext (fun vs H Q E h => ?_) (fun cdv A outer s H vs Q E hr h => ?_)
  · obtain ⟨d, f, m, n, rfl, _⟩ := h
    rfl
  · obtain ⟨d, f, m, n, rfl, hm, hn, ⟨a, wh, xs, hd, hf, a0, an, hx⟩, k⟩ := h
    have ndf : f ≠ d := fun z => by
      rw [z, hd] at hf
      have := congrArg (fun o => match o with | some (HO.lst (_ :: _ :: .ref _ :: _)) => true | _ => false) hf
      simp only at this
      cases xs with
      | nil => cases hf
      | cons x xs => cases xs with
        | nil => cases hf
        | cons y xs => cases xs with
          | nil => cases hf
          | cons z xs => cases hf
    refine ⟨_, pss_cons (ps_set (i := 2) scNext.nd rfl (Or.inl rfl) (pe_ix ix_list (pv 0) pe_int (fun _ _ => rfl)))
      (pss_cons (ps_asg (pe_op op_add (pv 2) pe_int) (pg_sub (pv 0) pe_int set_list))
      (pss_cons (ps_if (pt_cmpR op_lt (pv 2) (pe_callB call_len (by rfl) zL PySem.boot_len (pa_cons (pe_ix ix_list (pv 0) pe_int (fun _ _ => rfl)) pa_nil)) (nomark _))
        (pss_one (ps_ret (pe_op op_mod (pe_ix ix_list (pe_ix ix_list (pv 0) pe_int (fun _ _ => rfl)) (pv 2) (fun _ _ => rfl)) (pv 1)))) pss_nil)
      (pss_one (ps_ret (pe_op op_mod (pe_call GM hr rfl mM kM bM .nil pass0 (pa_cons (pe_ix ix_list (pv 0) pe_int (fun _ _ => rfl)) (pa_cons (pv 2) pa_nil))) (pv 1)))))), ?_⟩
    have hd2 : upd H d (.lst [.int (a + 1), .int wh, .ref f]) d = some (.lst [.int (a + 1), .int wh, .ref f]) := upd_same
    have hf2 : upd H d (.lst [.int (a + 1), .int wh, .ref f]) f = some (.lst (xs.map V.int)) := (upd_ne ndf).trans hf
    have hk : Kp [d] H (upd H d (.lst [.int (a + 1), .int wh, .ref f])) := (Kp.refl _ _).wr (List.mem_singleton.mpr rfl)
    have hD : Deck (upd H d (.lst [.int (a + 1), .int wh, .ref f])) d f (n + 1) := ⟨a + 1, wh, xs, hd2, hf2, by omega, by omega, hx⟩
    refine ⟨_, rfl, d, _, _, .int a, rfl, rfl, SqL.of hd, rfl, ?_⟩
    refine ⟨_, rfl, _, _, rfl, rfl, _, rfl, d, _, _, 0, rfl, rfl, hd, rfl, ?_⟩
    refine ⟨_, rfl, _, rfl, d, _, _, .ref f, rfl, rfl, SqL.of hd2, rfl, _, _, rfl, .inl ⟨_, SqL.of hf2, rfl⟩, _, _, rfl, rfl, _, rfl, ?_⟩
    refine ite2 (fun hl => ?_) (fun _ => ?_)
    · have hl := of_decide_eq_true hl
      rw [List.length_map] at hl
      have hj : a.toNat < xs.length := by omega
      have ha : ((a.toNat : Nat) : Int) = a := by omega
      refine ⟨_, rfl, d, _, _, .ref f, rfl, rfl, SqL.of hd2, rfl, _, rfl, f, _, _, .int (xs[a.toNat]), rfl, rfl, SqL.of hf2, ?_, _, rfl, _, _, rfl, rfl, hm, ?_⟩
      · have := atI_nat (xs := xs.map V.int) (j := a.toNat) (v := .int (xs[a.toNat])) (by simp [hj])
        rw [ha] at this
        exact this
      · exact k _ _ (Int.emod_nonneg _ (by omega)) (Int.emod_lt_of_pos _ hm) hk hD
    · refine ⟨_, rfl, d, _, _, .int wh, rfl, rfl, SqL.of hd2, rfl, _, rfl, wh, a, rfl, by omega, by omega, fun r => ?_⟩
      exact ⟨_, rfl, _, _, rfl, rfl, hm, k _ _ (Int.emod_nonneg _ (by omega)) (Int.emod_lt_of_pos _ hm) hk hD⟩
end
end Wn
namespace Wn
open PySem L2
section
variable {P : Program} {w : World} {K : PySem.W.Frag} {mg : Str → Option Value} {base : Heap}
theorem scDeck : FnScope ["_law_script", "_law_found", "_law_whole", "_law_k", "_law_rest", "_law_at"] ["_law_script"] (defScope sDeck) := ⟨rfl, rfl, rfl, by decide +kernel, rfl, by decide +kernel, by decide +kernel⟩
def restOf (σ : L2.St) (_ : Hp) : Nat := match σ[4]? with | some (some (V.int r)) => r.toNat | _ => 0
theorem ok_deck {f : Addr} {fd : FuncData} (F : Fun K "_law_deck" "_law_deck" sDeck f fd) (zL : mg "len" = none) (zR : mg "range" = none) (zM : mg "min" = none) (M : Cd P w K mg base 1 "_law_mixed" ["_law_cell", "_law_at"] spMixed) : FnOk P w K mg base CX0 2 f fd ["_law_script"] (spDeck K) := by
  obtain ⟨fM, fdM, GM, mM, kM, bM⟩ := M
  refine F.ok scDeck (fun vs H Q E h => ?_) (fun cdv A outer s H vs Q E hr h => ?_)
  · obtain ⟨a, ns, rfl, _⟩ := h
    rfl
  · obtain ⟨a, ns, rfl, hS, hlen, k⟩ := h
    refine ⟨_, pss_cons (ps_set (i := 1) scDeck.nd rfl (Or.inl rfl) (pe_lst pa_nil)) (pss_cons (ps_set (i := 2) scDeck.nd rfl (Or.inl rfl) (pe_callB call_len (by rfl) zL PySem.boot_len (pa_cons (pv 0) pa_nil)))
      (pss_cons (ps_for PassesOwn.never rfl (pi_range1 rfl zR (pa_cons (pe_callB (call_min2 rfl) (by rfl) zM (by decide +kernel) (pa_cons (pe_callB call_len (by rfl) zL PySem.boot_len (pa_cons (pv 0) pa_nil)) (pa_cons pe_int pa_nil))) pa_nil)) (pg_name (i := 3) scDeck.nd rfl (Or.inr rfl))
        (pss_cons (ps_set (i := 4) scDeck.nd rfl (Or.inr rfl) (pe_ix ix_list (pv 0) (pv 3) (fun _ _ => rfl)))
        (pss_cons (ps_if (pt_cmpR op_ge (pv 4) (pe_op op_pow pe_int pe_int) (nomark _))
          (pss_one (ps_while PassesOwn.never (PW.pt (pw_and (pt_cmpR op_gt (pv 4) pe_int (nomark _)) (pw_and1 (pt_cmpR op_lt (pe_callB call_len (by rfl) zL PySem.boot_len (pa_cons (pv 1) pa_nil)) pe_int (nomark _)))))
            (pss_cons (ps_expr (pe_bm PySem.F.plainAttrs_list PySem.F.slot_list_append PySem.F.type_list_append mt_append (pv 1) (pa_cons (pe_op op_mod (pv 4) pe_int) pa_nil)))
            (pss_one (ps_set (i := 4) scDeck.nd rfl (Or.inr rfl) (pe_op op_fdiv (pv 4) pe_int))))))
          (pss_one (ps_expr (pe_bm PySem.F.plainAttrs_list PySem.F.slot_list_extend PySem.F.type_list_extend mt_extend (pv 1) (pa_cons
            (pe_lc (own := [("_law_at", 5)]) (g := gName 5) (tt := tYes) rfl scDeck.nd (pi_range1 rfl zR (pa_cons pe_int pa_nil)) (blkOk_by (N := ["_law_script", "_law_found", "_law_whole", "_law_k", "_law_rest", "_law_at"]) (sc := defScope sDeck) (by decide +kernel))
              (fun _ _ _ _ _ => pg_name (i := 5) scDeck.nd rfl (Or.inl rfl)) (fun _ _ _ _ _ => pts_nil)
              (fun _ _ _ _ _ => pe_call GM hr rfl mM kM bM .nil pass0 (pa_cons (pv 4) (pa_cons (pe_op op_add (pe_op op_mul pe_int (pv 3)) (pv 5)) pa_nil)))) pa_nil)))))
        (pss_one (ps_set (i := 2) scDeck.nd rfl (Or.inl rfl) (pe_op op_mod (pe_op op_add (pe_op op_mul (pv 2) pe_int) (pe_ix ix_list (pv 0) (pv 3) (fun _ _ => rfl))) pe_int))))))
      (pss_one (ps_ret (pe_lst (pa_cons pe_int (pa_cons (pv 2) (pa_cons (pv 1) pa_nil)))))))), ?_⟩
    refine ⟨Nat.zero_le _, fun l hl => ?_⟩
    have s0 : Same H (upd H l (.lst [])) := (L2.Same.refl H).new hl
    have hS0 := s0.seq hS
    refine ⟨_, rfl, _, _, rfl, .inl ⟨_, hS0, rfl⟩, ?_⟩
    refine ⟨_, rfl, _, _, rfl, .inl ⟨_, hS0, rfl⟩, _, _, rfl, _, rfl, ?_⟩
    have hn63 : (ns.map V.int).length ≤ 63 := by rw [List.length_map]; exact hlen
    refine ⟨by split <;> omega, by split <;> omega, ?_⟩
    refine for_range (fun i σ H' => ∃ (wh : Int) (v3 v4 v5 : Option V) (xs : List Int), σ = [some (.ref a), some (.ref l), some (.int wh), v3, v4, v5] ∧ Same H H' ∧ H' l = some (.lst (xs.map V.int)) ∧ xs.length ≤ 3000 + 6 * i)
      ⟨_, _, _, _, [], rfl, s0, upd_same, Nat.zero_le _⟩ ?_ ?_
    · rintro i σ H1 hi ⟨wh, v3, v4, v5, xs, rfl, s1, hl1, hxs⟩
      have hi2 : i < ns.length ∧ i < 63 := by
        rw [List.length_map] at hi
        split at hi <;> omega
      have hat : atI (ns.map V.int) (0 + (i : Int)) = some (V.int ns[i]) := by
        rw [Int.zero_add]
        exact atI_nat (by simp [hi2.1])
      have hS1 := s1.seq hS
      -- what is left of a turn
      have fin : ∀ (H2 : Hp) (v4 v5 : Option V) (ys : List Int), Same H H2 → H2 l = some (.lst (ys.map V.int)) → ys.length ≤ 3000 + 6 * (i + 1) → ∃ (wh' : Int) (v3 v4' v5' : Option V) (xs : List Int),
          [some (V.ref a), some (.ref l), some (.int ((wh * 31 + ns[i]) % 2147483647)), some (.int (0 + (i : Int))), v4, v5] = [some (.ref a), some (.ref l), some (.int wh'), v3, v4', v5'] ∧ Same H H2 ∧ H2 l = some (.lst (xs.map V.int)) ∧ xs.length ≤ 3000 + 6 * (i + 1) :=
        fun H2 v4 v5 ys a b c => ⟨_, _, _, _, ys, rfl, a, b, c⟩
      refine ⟨_, rfl, _, rfl, a, _, _, _, rfl, rfl, hS1, hat, ?_⟩
      refine ⟨_, rfl, _, _, rfl, rfl, ⟨by decide, by decide, by decide⟩, _, _, rfl, rfl, _, rfl, ?_⟩
      refine ite2 (fun _ => ?_) (fun _ => ?_)
      · refine while_m (fun σ H' => ∃ (r : Int) (xs : List Int), σ = [some (.ref a), some (.ref l), some (.int wh), some (.int (0 + (i : Int))), some (.int r), v5] ∧ Same H H' ∧ H' l = some (.lst (xs.map V.int)) ∧ xs.length ≤ 3000 + 6 * (i + 1)) restOf
          ⟨_, xs, rfl, s1, hl1, by omega⟩ ?_
        rintro m σ H2 hm ⟨r, ys, rfl, s2, hl2, hys⟩
        have hm' : m = r.toNat := hm
        refine ⟨_, rfl, _, _, rfl, rfl, _, rfl, ?_⟩
        refine ite2 (fun hr0 => ?_) (fun _ => ?_)
        · have hr0 := of_decide_eq_true hr0
          refine ⟨_, rfl, _, _, rfl, .inl ⟨_, SqL.of hl2, rfl⟩, _, _, rfl, rfl, _, rfl, ?_⟩
          refine ite2 (fun hb => ?_) (fun _ => ?_)
          · have hb := of_decide_eq_true hb
            rw [List.length_map] at hb
            refine ⟨fun σ' H' => (∃ (r : Int) (xs : List Int), σ' = [some (.ref a), some (.ref l), some (.int wh), some (.int (0 + (i : Int))), some (.int r), v5] ∧ Same H H' ∧ H' l = some (.lst (xs.map V.int)) ∧ xs.length ≤ 3000 + 6 * (i + 1)) ∧ restOf σ' H' < m, fun σ' H' q => ⟨_, q.2, rfl, q.1⟩, ?_⟩
            refine ⟨_, rfl, .inl ⟨rfl, _, SqL.of hl2⟩, _, rfl, _, _, rfl, rfl, (by show (0 : Int) < 1000000; decide), l, _, _, rfl, rfl, hl2, (by rw [List.length_map]; exact Nat.lt_of_le_of_lt (show ys.length ≤ 3000 by omega) (by decide)), ?_⟩
            refine ⟨_, rfl, _, _, rfl, rfl, ⟨by decide, by decide⟩, ?_⟩
            refine ⟨⟨_, ys ++ [r % 1000000], rfl, s2.wrn hl, ?_, ?_⟩, ?_⟩
            · rw [upd_same, List.map_append]
              rfl
            · rw [List.length_append, List.length_singleton]
              omega
            · show (r / 1000000).toNat < m
              omega
          · exact ⟨_, rfl, _, _, rfl, rfl, .inr ⟨by decide, by decide⟩, _, rfl, _, rfl, a, _, _, _, rfl, rfl, s2.seq hS, hat, _, _, rfl, rfl, _, _, rfl, rfl, (by show (0 : Int) < 2147483647; decide), fin H2 _ _ ys s2 hl2 hys⟩
        · exact ⟨_, rfl, _, _, rfl, rfl, .inr ⟨by decide, by decide⟩, _, rfl, _, rfl, a, _, _, _, rfl, rfl, s2.seq hS, hat, _, _, rfl, rfl, _, _, rfl, rfl, (by show (0 : Int) < 2147483647; decide), fin H2 _ _ ys s2 hl2 hys⟩
      · refine ⟨_, rfl, .inl ⟨rfl, _, SqL.of hl1⟩, 6, rfl, by decide, by decide, fun D hD => ?_⟩
        have nDl : l ≠ D := ne_of_none hl1 hD
        refine lc_range (lo := 0) (n := 6) (fun j H' => ∃ ys : List Int, H' D = some (.lst (ys.map V.int)) ∧ ys.length = j ∧ Same H1 H' ) ⟨[], upd_same, rfl, (L2.Same.refl H1).new hD⟩ ?_ ?_
        · rintro j H2 hj ⟨ys, hD2, hys, s2⟩
          refine ⟨rfl, _, rfl, _, rfl, _, _, rfl, rfl, .inl ⟨by decide, by decide⟩, _, rfl, _, _, rfl, rfl, _, _, rfl, by omega, by omega, fun r => ?_⟩
          refine ⟨_, hD2, by rw [List.length_map, hys]; exact Nat.lt_trans hj (by decide), ys ++ [r], ?_, by rw [List.length_append, hys]; rfl, s2.wrn hD⟩
          rw [upd_same, List.map_append]
          rfl
        · rintro H2 ⟨ys, hD2, hys, s2⟩
          refine ⟨l, D, _, _, rfl, rfl, s2 _ _ hl1, hD2, ?_, ?_⟩
          · rw [List.length_map, List.length_map, hys]
            exact Nat.le_trans (show xs.length + 6 ≤ 6000 by omega) (by decide)
          · refine ⟨_, rfl, _, _, rfl, rfl, .inr ⟨by decide, by decide⟩, _, rfl, _, rfl, a, _, _, _, rfl, rfl, ((s1.trans s2).wrn hl).seq hS, hat, _, _, rfl, rfl, _, _, rfl, rfl, (by show (0 : Int) < 2147483647; decide), fin _ _ _ (xs ++ ys) ((s1.trans s2).wrn hl) ?_ ?_⟩
            · rw [upd_same, List.map_append]
            · rw [List.length_append, hys]
              omega
    · rintro σ H1 ⟨wh, v3, v4, v5, xs, rfl, s1, hl1, hxs⟩
      refine ⟨_, rfl, _, rfl, (by show 3 ≤ sizeLine; decide), fun d hd => ?_⟩
      have hn : ns.length ≤ 63 := hlen
      have hxs' : xs.length ≤ 100000 := by
        rw [List.length_map] at hxs
        split at hxs <;> omega
      refine k _ d l (s1.free hd) hl (s1.new hd) ⟨0, wh, xs, upd_same, ?_, Int.le_refl _, Int.le_refl _, hxs'⟩
      rw [upd_ne (ne_of_none hl1 hd)]
      exact hl1
end
end Wn
namespace Wn
open PySem L2
section
variable {P : Program} {w : World} {K : PySem.W.Frag} {mg : Str → Option Value} {base : Heap}
theorem scSame : FnScope ["_law_thing", "_law_due_here", "_law_k"] ["_law_thing", "_law_due_here"] (defScope sSame) := ⟨rfl, rfl, rfl, by decide +kernel, rfl, by decide +kernel, by decide +kernel⟩
/-- builtins that same asks -/
structure SameB (mg : Str → Option Value) : Prop where
  isi : mg "isinstance" = none
  tup : mg "tuple" = none
  bl : mg "bool" = none
  str : mg "str" = none
  int : mg "int" = none
  all : mg "all" = none
  len : mg "len" = none
  rng : mg "range" = none
theorem ok_same_step {n : Nat} {f : Addr} {fd : FuncData} (F : Fun K "_law_same" "_law_same" sSame f fd) (B : SameB mg) (mS : mg "_law_same" = some (.ref f)) (kS : PySem.W.keepIn K (.ref f) = true) (bS : Binds K fd ["_law_thing", "_law_due_here"] [])
    (G : FnOk P w K mg base CX0 n f fd ["_law_thing", "_law_due_here"] (spSame K n)) : FnOk P w K mg base CX0 (n + 1) f fd ["_law_thing", "_law_due_here"] (spSame K (n + 1)) := by
  refine F.ok scSame (fun vs H Q E h => ?_) (fun cdv A outer s H vs Q E hr h => ?_)
  · obtain ⟨x, y, d, rfl, _⟩ := h
    rfl
  · obtain ⟨x, y, d, rfl, hx, hy, hd, hz, k⟩ := h
    refine ⟨_, pss_cons (ps_if (pt_val (pe_callB call_isi (by rfl) B.isi (by decide +kernel) (pa_cons (pv 1) (pa_cons (pe_bltn (v := .ty "tuple") (by rfl) B.tup PyProof.Rows.boot_tuple rfl) pa_nil))))
        (pss_cons (ps_if (PW.pt (pw_or (pt_not (pt_val (pe_callB call_isi (by rfl) B.isi (by decide +kernel) (pa_cons (pv 0) (pa_cons (pe_bltn (v := .ty "tuple") (by rfl) B.tup PyProof.Rows.boot_tuple rfl) pa_nil)))))
            (pw_or1 (pt_cmpR op_ne (pe_callB call_len (by rfl) B.len PySem.boot_len (pa_cons (pv 0) pa_nil)) (pe_callB call_len (by rfl) B.len PySem.boot_len (pa_cons (pv 1) pa_nil)) (nomark _)))))
          (pss_one (ps_ret pe_bl)) pss_nil)
        (pss_one (ps_ret (pe_callB (cr_all rfl) (by rfl) B.all (by decide +kernel) (pa_cons
          (pe_lc (own := [("_law_k", 2)]) (g := gName 2) (tt := tYes) rfl scSame.nd (pi_range1 rfl B.rng (pa_cons (pe_callB call_len (by rfl) B.len PySem.boot_len (pa_cons (pv 1) pa_nil)) pa_nil)) (blkOk_by (N := ["_law_thing", "_law_due_here", "_law_k"]) (sc := defScope sSame) (by decide +kernel))
              (fun _ _ _ _ _ => pg_name (i := 2) scSame.nd rfl (Or.inl rfl)) (fun _ _ _ _ _ => pts_nil)
              (fun _ _ _ _ _ => pe_call G hr rfl mS kS bS .nil pass0 (pa_cons (pe_ix (show IxR _ (rIxT K) from ix_tup) (pv 0) (pv 2) (fun _ _ => rfl)) (pa_cons (pe_ix (show IxR _ (rIxT K) from ix_tup) (pv 1) (pv 2) (fun _ _ => rfl)) pa_nil)))) pa_nil))))) pss_nil)
      (pss_cons (ps_if (PW.pt (pw_or (pt_val (pe_callB call_isi (by rfl) B.isi (by decide +kernel) (pa_cons (pv 1) (pa_cons (pe_bltn (v := .ty "bool") (by rfl) B.bl PyProof.Rows.boot_bool rfl) pa_nil)))) (pw_or1 (pt_cmp (pc_isN (pv 1))))))
        (pss_one (ps_ret (pe_and (pe_cmpR op_eq (pe_callB call_isi (by rfl) B.isi (by decide +kernel) (pa_cons (pv 0) (pa_cons (pe_bltn (v := .ty "bool") (by rfl) B.bl PyProof.Rows.boot_bool rfl) pa_nil))) (pe_callB call_isi (by rfl) B.isi (by decide +kernel) (pa_cons (pv 1) (pa_cons (pe_bltn (v := .ty "bool") (by rfl) B.bl PyProof.Rows.boot_bool rfl) pa_nil))) (nomark _))
          (pe_and (pe_cmpR op_eq (pe_cmp (pc_isN (pv 0)) rfl) (pe_cmp (pc_isN (pv 1)) rfl) (nomark _)) (pe_one (pe_cmpR op_eq (pv 0) (pv 1) (nomark _))))))) pss_nil)
      (pss_cons (ps_if (pt_val (pe_callB call_isi (by rfl) B.isi (by decide +kernel) (pa_cons (pv 1) (pa_cons (pe_bltn (v := .ty "str") (by rfl) B.str PyProof.Rows.boot_str rfl) pa_nil))))
        (pss_one (ps_ret (pe_and (pe_callB call_isi (by rfl) B.isi (by decide +kernel) (pa_cons (pv 0) (pa_cons (pe_bltn (v := .ty "str") (by rfl) B.str PyProof.Rows.boot_str rfl) pa_nil))) (pe_one (pe_cmpR op_eq (pv 0) (pv 1) (nomark _)))))) pss_nil)
      (pss_one (ps_ret (pe_and (pe_callB call_isi (by rfl) B.isi (by decide +kernel) (pa_cons (pv 0) (pa_cons (pe_bltn (v := .ty "int") (by rfl) B.int PyProof.Rows.boot_int rfl) pa_nil)))
        (pe_and (pe_not (pe_callB call_isi (by rfl) B.isi (by decide +kernel) (pa_cons (pv 0) (pa_cons (pe_bltn (v := .ty "bool") (by rfl) B.bl PyProof.Rows.boot_bool rfl) pa_nil)))) (pe_one (pe_cmpR op_eq (pv 0) (pv 1) (nomark _))))))))), ?_⟩
    cases d with
    | none =>
      cases hx
      cases hy
      refine ⟨_, rfl, _, _, _, _, false, rfl, .ty _, .base .non, kit_ty (by decide +kernel), _, rfl, iteF ?_⟩
      refine ⟨_, rfl, _, _, _, _, false, rfl, .ty _, .base .non, kit_ty (by decide +kernel), _, rfl, iteF ?_⟩
      refine ⟨_, rfl, _, rfl, iteT ?_⟩
      refine ⟨_, rfl, _, _, _, _, false, rfl, .ty _, .base .non, kit_ty (by decide +kernel), _, rfl, _, _, _, _, false, rfl, .ty _, .base .non, kit_ty (by decide +kernel), rfl, _, rfl, iteT ?_⟩
      refine ⟨_, rfl, _, rfl, rfl, _, rfl, iteT ?_⟩
      exact ⟨_, rfl, _, rfl, rfl, k _ (L2.Same.refl _)⟩
    | bool b =>
      cases hx
      cases hy
      refine ⟨_, rfl, _, _, _, _, false, rfl, .ty _, .base (.bl _), kit_ty (by decide +kernel), _, rfl, iteF ?_⟩
      refine ⟨_, rfl, _, _, _, _, true, rfl, .ty _, .base (.bl _), kit_ty (by decide +kernel), _, rfl, iteT ?_⟩
      refine ⟨_, rfl, _, _, _, _, true, rfl, .ty _, .base (.bl _), kit_ty (by decide +kernel), _, rfl, _, _, _, _, true, rfl, .ty _, .base (.bl _), kit_ty (by decide +kernel), rfl, _, rfl, iteT ?_⟩
      refine ⟨_, rfl, _, rfl, rfl, _, rfl, iteT ?_⟩
      refine ⟨_, rfl, _, rfl, rfl, ?_⟩
      show Q (.bl (decide (V.bl b = V.bl b))) H
      rw [decide_eq_true rfl]
      exact k _ (L2.Same.refl _)
    | int i =>
      cases hx
      cases hy
      refine ⟨_, rfl, _, _, _, _, false, rfl, .ty _, .base (.int _), kit_ty (by decide +kernel), _, rfl, iteF ?_⟩
      refine ⟨_, rfl, _, _, _, _, false, rfl, .ty _, .base (.int _), kit_ty (by decide +kernel), _, rfl, iteF ?_⟩
      refine ⟨_, rfl, _, rfl, iteF ?_⟩
      refine ⟨_, rfl, _, _, _, _, false, rfl, .ty _, .base (.int _), kit_ty (by decide +kernel), _, rfl, iteF ?_⟩
      refine ⟨_, rfl, _, _, _, _, true, rfl, .ty _, .base (.int _), kit_ty (by decide +kernel), _, rfl, iteT ?_⟩
      refine ⟨_, rfl, _, _, _, _, false, rfl, .ty _, .base (.int _), kit_ty (by decide +kernel), _, rfl, _, rfl, iteT ?_⟩
      refine ⟨_, rfl, _, rfl, rfl, ?_⟩
      show Q (.bl (decide (V.int i = V.int i))) H
      rw [decide_eq_true rfl]
      exact k _ (L2.Same.refl _)
    | str z =>
      cases hx
      cases hy
      refine ⟨_, rfl, _, _, _, _, false, rfl, .ty _, .base (.str _), kit_ty (by decide +kernel), _, rfl, iteF ?_⟩
      refine ⟨_, rfl, _, _, _, _, false, rfl, .ty _, .base (.str _), kit_ty (by decide +kernel), _, rfl, iteF ?_⟩
      refine ⟨_, rfl, _, rfl, iteF ?_⟩
      refine ⟨_, rfl, _, _, _, _, true, rfl, .ty _, .base (.str _), kit_ty (by decide +kernel), _, rfl, iteT ?_⟩
      refine ⟨_, rfl, _, _, _, _, true, rfl, .ty _, .base (.str _), kit_ty (by decide +kernel), _, rfl, iteT ?_⟩
      refine ⟨_, rfl, _, rfl, rfl, ?_⟩
      show Q (.bl (decide (V.str z = V.str z))) H
      rw [decide_eq_true rfl]
      exact k _ (L2.Same.refl _)
    | tuple ds =>
      unfold Rp at hx hy
      obtain ⟨a, xs, rfl, sa, la⟩ := hx
      obtain ⟨b, ys, rfl, sb, lb⟩ := hy
      have lx := RpL.len _ _ la
      have ly := RpL.len _ _ lb
      have hl : ds.length ≤ 1000000 := by
        have := szs_len ds
        unfold sz at hz
        omega
      have hlc : ((ds.length : Nat) : Int) ≤ 1000000 := by omega
      refine ⟨_, rfl, _, _, _, _, true, rfl, .ty _, ty_tup sb, kit_ty (by decide +kernel), _, rfl, iteT ?_⟩
      refine ⟨_, rfl, _, _, _, _, true, rfl, .ty _, ty_tup sa, kit_ty (by decide +kernel), _, rfl, iteF ?_⟩
      refine ⟨_, rfl, _, ds.length, rfl, .inr ⟨_, sa, lx.symm⟩, _, rfl, _, ds.length, rfl, .inr ⟨_, sb, ly.symm⟩, rfl, _, rfl, ?_⟩
      refine iteNS rfl ?_
      refine ⟨_, rfl, _, ds.length, rfl, .inr ⟨_, sb, ly.symm⟩, ds.length, rfl, by omega, by omega, fun D hD => ?_⟩
      refine lc_range (lo := 0) (n := _) (fun i H' => H' D = some (.lst ((List.replicate i true).map V.bl)) ∧ Same H H') ⟨upd_same, (L2.Same.refl H).new hD⟩ ?_ ?_
      · rintro i H2 hi ⟨hD2, s2⟩
        have hi : i < ds.length := by simpa using hi
        have e1 : ds[i]? = some ds[i] := by simp [hi]
        obtain ⟨u, eu, ru⟩ := RpL.get _ _ la i _ e1
        obtain ⟨v, ev, rv⟩ := RpL.get _ _ lb i _ e1
        have t2 := TK.of s2
        refine ⟨rfl, _, rfl, _, rfl, a, xs, _, u, rfl, rfl, SqT.tk sa t2, ?_, _, rfl, _, rfl, b, ys, _, v, rfl, rfl, SqT.tk sb t2, ?_, ?_⟩
        · rw [Int.zero_add]
          exact atI_nat eu
        · rw [Int.zero_add]
          exact atI_nat ev
        · refine ⟨u, v, ds[i], rfl, Rp.tk t2 _ _ ru, Rp.tk t2 _ _ rv, ?_, ?_, fun H3 s3 => ?_⟩
          · have := dep_get ds i _ e1
            unfold dep at hd
            omega
          · have := sz_get ds i _ e1
            unfold sz at hz
            omega
          · refine ⟨_, s3 _ _ hD2, ?_, ?_, ?_⟩
            · rw [List.length_map, List.length_replicate]
              exact Nat.lt_of_lt_of_le (Nat.lt_of_lt_of_le hi hl) (by decide)
            · rw [upd_same, List.replicate_succ', List.map_append]
              rfl
            · exact (s2.trans s3).wrn hD
      · rintro H2 ⟨hD2, s2⟩
        refine ⟨D, _, rfl, SqL.of hD2, ?_⟩
        have e : (List.replicate ((ds.length : Nat) : Int).toNat true).all id = true := by simp
        rw [e]
        exact k _ s2
    | list _ => cases hx
    | dict _ => cases hx
theorem ok_same {f : Addr} {fd : FuncData} (F : Fun K "_law_same" "_law_same" sSame f fd) (B : SameB mg) (mS : mg "_law_same" = some (.ref f)) (kS : PySem.W.keepIn K (.ref f) = true) (bS : Binds K fd ["_law_thing", "_law_due_here"] []) :
    ∀ n, FnOk P w K mg base CX0 n f fd ["_law_thing", "_law_due_here"] (spSame K n)
  | 0 => ⟨fun vs H Q E ⟨x, y, d, _, _, _, h, _⟩ => absurd h (Nat.not_lt_zero _), fun A outer s H args us vs Q E hr he hb hv ⟨x, y, d, _, _, _, h, _⟩ => absurd h (Nat.not_lt_zero _)⟩
  | n + 1 => ok_same_step F B mS kS bS (ok_same F B mS kS bS n)
end
end Wn

namespace Wn
open PySem L2
section
variable {α : Type}
theorem lookA_cons {p : Int × α} {m : List (Int × α)} {k : Int} : lookA (p :: m) k = if p.1 = k then some p.2 else lookA m k := by
  unfold lookA
  rw [List.find?_cons]
  by_cases e : p.1 = k <;> simp [e]
theorem lookA_map (k j : Int) (x : α) : ∀ m : List (Int × α), lookA (m.map fun kv => if kv.1 = k then (kv.1, x) else kv) j = (lookA m j).map fun y => if j = k then x else y
  | [] => rfl
  | p :: m => by
    rw [List.map_cons, lookA_cons, lookA_cons, lookA_map k j x m]
    by_cases e : p.1 = k
    · by_cases f : p.1 = j
      · simp [e, f, show j = k by omega]
      · simp only [e, if_true]
        rw [if_neg (by omega), if_neg (by omega)]
    · by_cases f : p.1 = j
      · simp [e, f, show ¬ j = k by omega]
      · simp [e, f]
theorem lookA_snoc (k j : Int) (x : α) : ∀ m : List (Int × α), lookA (m ++ [(k, x)]) j = match lookA m j with | some y => some y | none => if k = j then some x else none
  | [] => by
    show lookA [(k, x)] j = _
    rw [lookA_cons]
    rfl
  | p :: m => by
    show lookA (p :: (m ++ [(k, x)])) j = _
    rw [lookA_cons, lookA_cons, lookA_snoc k j x m]
    by_cases e : p.1 = j <;> simp [e]
theorem any_lookA (k : Int) : ∀ m : List (Int × α), (m.any fun kv => decide (kv.1 = k)) = (lookA m k).isSome
  | [] => rfl
  | p :: m => by
    rw [List.any_cons, lookA_cons, any_lookA k m]
    by_cases e : p.1 = k <;> simp [e]
theorem lookA_put (m : List (Int × α)) (k j : Int) (x : α) : lookA (putA m k x) j = if j = k then some x else lookA m j := by
  unfold putA
  rw [any_lookA]
  cases e : lookA m k with
  | none =>
    rw [if_neg (by simp), lookA_snoc]
    by_cases f : j = k
    · subst f
      simp [e]
    · rw [if_neg f]
      cases lookA m j with
      | none => simp [show ¬ k = j by omega]
      | some y => rfl
  | some z =>
    rw [if_pos (by simp), lookA_map]
    by_cases f : j = k
    · subst f
      rw [e]
      simp
    · rw [if_neg f]
      cases lookA m j with
      | none => rfl
      | some y => simp [f]
theorem mem_keys {k : Int} {m : List (Int × α)} : k ∈ m.map (·.1) ↔ (lookA m k).isSome = true := by
  constructor
  · intro h
    obtain ⟨x, e, _⟩ := lookA_mem h
    rw [e]
    rfl
  · intro h
    rw [← any_lookA, List.any_eq_true] at h
    obtain ⟨p, hp, e⟩ := h
    rw [decide_eq_true_eq] at e
    exact List.mem_map.mpr ⟨p, hp, e⟩
theorem keys_put_in {m : List (Int × α)} {k : Int} {x : α} (h : (lookA m k).isSome = true) : (putA m k x).map (·.1) = m.map (·.1) := by
  unfold putA
  rw [any_lookA, if_pos h, List.map_map]
  refine List.map_congr_left fun p _ => ?_
  show (if p.1 = k then (p.1, x) else p).1 = p.1
  split <;> rfl
theorem keys_put_new {m : List (Int × α)} {k : Int} {x : α} (h : lookA m k = none) : (putA m k x).map (·.1) = m.map (·.1) ++ [k] := by
  unfold putA
  rw [any_lookA, if_neg (by rw [h]; simp), List.map_append]
  rfl
theorem nodup_put {m : List (Int × α)} {k : Int} {x : α} (h : (m.map (·.1)).Nodup) : ((putA m k x).map (·.1)).Nodup := by
  cases e : lookA m k with
  | none =>
    rw [keys_put_new e, List.nodup_append]
    refine ⟨h, by simp, fun a ha b hb => ?_⟩
    rw [List.mem_singleton] at hb
    subst hb
    intro z
    subst z
    rw [mem_keys, e] at ha
    cases ha
  | some y =>
    rw [keys_put_in (by rw [e]; rfl)]
    exact h
end
theorem eq_of_lt : ∀ (a b : List Int), a.Pairwise (· < ·) → b.Pairwise (· < ·) → (∀ x, x ∈ a ↔ x ∈ b) → a = b
  | [], [], _, _, _ => rfl
  | [], y :: b, _, _, h => by
    have := (h y).mpr List.mem_cons_self
    cases this
  | x :: a, [], _, _, h => by
    have := (h x).mp List.mem_cons_self
    cases this
  | x :: a, y :: b, ha, hb, h => by
    rw [List.pairwise_cons] at ha hb
    have e : x = y := by
      have h1 := (h x).mp List.mem_cons_self
      have h2 := (h y).mpr List.mem_cons_self
      rcases List.mem_cons.mp h1 with h1 | h1
      · exact h1
      · rcases List.mem_cons.mp h2 with h2 | h2
        · exact h2.symm
        · have := ha.1 _ h2
          have := hb.1 _ h1
          omega
    subst e
    congr 1
    refine eq_of_lt a b ha.2 hb.2 fun z => ?_
    constructor
    · intro hz
      have h1 := (h z).mp (List.mem_cons_of_mem _ hz)
      rcases List.mem_cons.mp h1 with h1 | h1
      · have := ha.1 _ hz
        omega
      · exact h1
    · intro hz
      have h1 := (h z).mpr (List.mem_cons_of_mem _ hz)
      rcases List.mem_cons.mp h1 with h1 | h1
      · have := hb.1 _ hz
        omega
      · exact h1
theorem lt_of_nodup : ∀ {a : List Int}, a.Pairwise (· ≤ ·) → a.Nodup → a.Pairwise (· < ·)
  | [], _, _ => List.Pairwise.nil
  | x :: a, h, n => by
    rw [List.pairwise_cons] at h
    rw [List.nodup_cons] at n
    rw [List.pairwise_cons]
    refine ⟨fun y hy => ?_, lt_of_nodup h.2 n.2⟩
    have h1 := h.1 y hy
    have h2 : x ≠ y := fun z => n.1 (z ▸ hy)
    omega
end Wn

namespace Wn
open PySem L2
/-- a new tuple is appended to a list of data -/
theorem push_tup {K : PySem.W.Frag} {G : Hp} {t fa : Addr} {zs vs : List V} {U ds : List PyData} (hG : G fa = some (.lst zs)) (rG : RpL K G U zs) (nt : G t = none) (rv : RpL K G ds vs) :
    upd G t (.tup vs) fa = some (.lst zs) ∧ LstAt K (upd (upd G t (.tup vs)) fa (.lst (zs ++ [.ref t]))) fa (U ++ [.tuple ds]) ∧ TK G (upd (upd G t (.tup vs)) fa (.lst (zs ++ [.ref t]))) ∧ Kp [fa] G (upd (upd G t (.tup vs)) fa (.lst (zs ++ [.ref t]))) := by
  have s6 : Same G (upd G t (.tup vs)) := (L2.Same.refl _).new nt
  have rt : Rp K (upd G t (.tup vs)) (.tuple ds) (.ref t) := Rp.tup upd_same (RpL.tk (TK.of s6) _ _ rv)
  have tE : TK (upd G t (.tup vs)) (upd (upd G t (.tup vs)) fa (.lst (zs ++ [.ref t]))) := (TK.refl _).wr (s6 _ _ hG) rfl
  exact ⟨s6 _ _ hG, ⟨_, upd_same, RpL.tk tE _ _ (RpL.app (RpL.tk (TK.of s6) _ _ rG) (RpL.cons rt RpL.nil))⟩, (TK.of s6).trans tE, (Kp.of s6).wr (List.mem_singleton.mpr rfl)⟩
/-- a thing that stands is appended -/
theorem push_old {K : PySem.W.Frag} {G : Hp} {fa : Addr} {zs : List V} {v : V} {U : List PyData} {d : PyData} (hG : G fa = some (.lst zs)) (rG : RpL K G U zs) (rv : Rp K G d v) :
    LstAt K (upd G fa (.lst (zs ++ [v]))) fa (U ++ [d]) ∧ TK G (upd G fa (.lst (zs ++ [v]))) ∧ Kp [fa] G (upd G fa (.lst (zs ++ [v]))) := by
  have tE : TK G (upd G fa (.lst (zs ++ [v]))) := (TK.refl _).wr hG rfl
  exact ⟨⟨_, upd_same, RpL.tk tE _ _ (RpL.app rG (RpL.cons rv RpL.nil))⟩, tE, (Kp.refl _ _).wr (List.mem_singleton.mpr rfl)⟩
/-- flat data: the very values -/
theorem RpL.flat {β : Type} {K : PySem.W.Frag} {H : Hp} {f : β → PyData} {g : β → V} (h : ∀ b v, Rp K H (f b) v → v = g b) : ∀ {L : List β} {ys : List V}, RpL K H (L.map f) ys → ys = L.map g
  | [], ys, r => by
    rw [List.map_nil] at r
    unfold RpL at r
    exact r
  | b :: L, ys, r => by
    rw [List.map_cons] at r
    unfold RpL at r
    obtain ⟨v, t, rfl, h1, h2⟩ := r
    rw [h b v h1, RpL.flat h h2]
    rfl
theorem Rp.bool_eq {K : PySem.W.Frag} {H : Hp} {b : Bool} {v : V} (r : Rp K H (.bool b) v) : v = .bl b := by
  unfold Rp at r
  exact r
theorem Rp.str_eq {K : PySem.W.Frag} {H : Hp} {z : Str} {v : V} (r : Rp K H (.str z) v) : v = .str z := by
  unfold Rp at r
  exact r
theorem Rp.int_eq {K : PySem.W.Frag} {H : Hp} {i : Int} {v : V} (r : Rp K H (.int i) v) : v = .int i := by
  unfold Rp at r
  exact r
theorem Rp.bool {K : PySem.W.Frag} {H : Hp} {b : Bool} : Rp K H (.bool b) (.bl b) := by
  unfold Rp
  rfl
mutual
theorem Rp.dp {K : PySem.W.Frag} {H : Hp} : ∀ (d : PyData) (v : V), Rp K H d v → Dp K H v d
  | .none, _, h => by
    unfold Rp at h
    subst h
    exact .non
  | .bool b, _, h => by
    unfold Rp at h
    subst h
    exact .bl b
  | .int i, _, h => by
    unfold Rp at h
    subst h
    exact .int i
  | .str s, _, h => by
    unfold Rp at h
    subst h
    exact .str s
  | .tuple ds, v, h => by
    unfold Rp at h
    obtain ⟨a, xs, rfl, hs, hl⟩ := h
    exact .tup hs (RpL.dp ds xs hl)
  | .list _, _, h => by
    unfold Rp at h
    exact h.elim
  | .dict _, _, h => by
    unfold Rp at h
    exact h.elim
theorem RpL.dp {K : PySem.W.Frag} {H : Hp} : ∀ (ds : List PyData) (xs : List V), RpL K H ds xs → DpAll K H xs ds
  | [], xs, h => by
    unfold RpL at h
    subst h
    exact .nil
  | d :: ds, xs, h => by
    unfold RpL at h
    obtain ⟨v, r, rfl, h1, h2⟩ := h
    exact .cons (Rp.dp d v h1) (RpL.dp ds r h2)
end
end Wn

namespace Wn
open PySem L2
section
variable {X : Cx} {ι : Type} {C f : ι → Addr} {fd : ι → FuncData} {sp : ι → Sp} {o e : Expr} {es : List Expr} {m : Str} {ta : TE} {t : TA} {CX : CXT} {k : Nat} {ps : List Str} {ds : List Value} {dvs : List V} {E : XK} {apos pos : Pos}
/-- o.m(..), o of one of some classes -/
def tMethI (C : ι → Addr) (m : Str) (sp : ι → Sp) (dvs : List V) (E : XK) (ta : TE) (t : TA) : TE := fun σ H Q => ta σ H fun x H1 => ∃ i a dx fs, x = .ref a ∧ H1 a = some (.ins (C i) dx fs) ∧ fs.lookup m = none ∧
  t σ H1 fun vs H2 => sp i (x :: (vs ++ dvs)) H2 Q E
theorem pe_methI {pl : Sem Bool} (he : PE X o ta) (c : ∀ i, Cls X.K (C i)) (hm : ∀ i, Meth X.K (C i) m (f i)) (F : ∀ i, FnOk X.prog X.w X.K X.mg X.base CX k (f i) (fd i) ps (sp i)) (hr : Room k X.A) (hb : ∀ i, Binds X.K (fd i) ps ds) (hd : Vals dvs ds) (hx : Passes CX X E) (ha : PA X (e :: es) t)
    (hst : starEach (e :: es) X.env = (false, eval e X.env) :: starEach es X.env := by rfl) (hpl : (backTo pos (starEach es X.env)).any (·.1) = false := by rfl)
    (ht : eval (.Call (.Attribute o m apos) (e :: es) [] pos) X.env = (do
      let ov ← eval o X.env
      standAt apos.atName
      let (f, first) ← holding [ov] (getMethod ov m pl)
      callWith pos f first (backTo pos (starEach (e :: es) X.env)) (backToKw pos (keywordEach [] X.env))) := by rfl) :
    PE X (.Call (.Attribute o m apos) (e :: es) [] pos) (tMethI C m sp dvs E ta t) := by
  refine ⟨fun pins s σ H Q I h => ?_⟩
  refine PySem.W.methodCall_KW (pl := pl) (thn (he.run pins s σ H _ I h) fun u s1 ⟨x, H1, I1, rx, i, a, dx, fs, ex, ea, l, q⟩ => ?_) ht
  subst ex
  obtain rfl : u = Value.ref a := rx
  refine getmeth_ok I1 ea (c i) (hm i) l ?_
  refine PySem.W.callWith_K (first := [.ref a]) (h₀ := X.base) I.ok.mod.kin (hm i).kp (thn (ha.run pos pins s1 σ H1 _ I1 q) fun us s2 ⟨vs, H2, I2, r, q2⟩ => ⟨I2.kIn, ?_⟩) hst hpl
  exact run_fn (us := .ref a :: us) (vs := .ref a :: vs) (F i) hr (hb i) hd hx I2 (.cons rfl r) q2
theorem pe_methI0 {pl : Sem Bool} (he : PE X o ta) (c : ∀ i, Cls X.K (C i)) (hm : ∀ i, Meth X.K (C i) m (f i)) (F : ∀ i, FnOk X.prog X.w X.K X.mg X.base CX k (f i) (fd i) ps (sp i)) (hr : Room k X.A) (hb : ∀ i, Binds X.K (fd i) ps ds) (hd : Vals dvs ds) (hx : Passes CX X E)
    (ht : eval (.Call (.Attribute o m apos) [] [] pos) X.env = (do
      let ov ← eval o X.env
      standAt apos.atName
      let (f, first) ← holding [ov] (getMethod ov m pl)
      callWith pos f first (backTo pos (starEach [] X.env)) (backToKw pos (keywordEach [] X.env))) := by rfl) :
    PE X (.Call (.Attribute o m apos) [] [] pos) (tMethI C m sp dvs E ta tNil) := by
  refine ⟨fun pins s σ H Q I h => ?_⟩
  refine PySem.W.methodCall_KW (pl := pl) (thn (he.run pins s σ H _ I h) fun u s1 ⟨x, H1, I1, rx, i, a, dx, fs, ex, ea, l, q⟩ => ?_) ht
  subst ex
  obtain rfl : u = Value.ref a := rx
  refine getmeth_ok I1 ea (c i) (hm i) l ?_
  exact PySem.W.callWith_K0 (first := [.ref a]) I1.kIn (hm i).kp (run_fn (us := [.ref a]) (vs := [.ref a]) (F i) hr (hb i) hd hx I1 (.cons rfl .nil) q)
end
section
variable {X : Cx} {K : PySem.W.Frag}
/-- len(s), s a set of tuples -/
def rLenSetT (K : PySem.W.Frag) (P : Program) (w : World) : List V → Hp → VK → Prop := fun xs H Q => ∃ a L, xs = [V.ref a] ∧ H a = some (SetTO P w a L) ∧ (∀ p ∈ L, SqT K H p.1 (p.2.map V.int)) ∧ ((L.map (·.2)).Nodup → Q (.int L.length) H)
theorem call_lenSetT : CallR X (.builtin "len") (rLenSetT X.K X.prog X.w) := by
  intro pins s σ H vs us Q I r h
  obtain ⟨a, L, rfl, ha, hk, q⟩ := h
  have R0 : SetT0 X.prog X.w s.heap a L := (I.hok a _ ha).1
  obtain ⟨es, ep, t, R⟩ := R0.full fun p hp => I.isT (hk p hp)
  rw [Vals.ref1 r]
  obtain ⟨o, ho, hex, hd⟩ := R.ob
  have hn := R.size
  have hf := R.few
  exact call_len_set ho hex hd R.fits (by omega) ⟨.int L.length, H, I.tok _, ⟨_, by rw [hn]⟩, q R.nd⟩
theorem lenSetTK {P : Program} {w : World} (hK : X.K = K) (hP : X.prog = P) (hw : X.w = w) : CallR X (.builtin "len") (rLenSetT K P w) := hK ▸ hP ▸ hw ▸ call_lenSetT
theorem setOfTK {P : Program} {w : World} (hK : X.K = K) (hP : X.prog = P) (hw : X.w = w) (hc : X.calm = true) (hu : X.A.units + 64 < cLine) : CallR X (.type "set") (rSetOfT K P w) := hK ▸ hP ▸ hw ▸ cr_setOfT hc hu
theorem sortedTK {P : Program} {w : World} (hK : X.K = K) (hP : X.prog = P) (hw : X.w = w) (hc : X.calm = true) : CallR X (.builtin "sorted") (rSortedT K P w) := hK ▸ hP ▸ hw ▸ cr_sortedT hc
theorem sortUK {d : Nat} {B : Int} (hK : X.K = K) (hd : 1 ≤ d) : CallR X (.builtin "sorted") (rSortU K d B) := hK ▸ cr_sortT hd
theorem inDK (hK : X.K = K) (hu : X.A.units + 65 < cLine) : OpR X (compareOp .In) (rInD K) := hK ▸ op_inD hu
theorem notInDK (hK : X.K = K) (hu : X.A.units + 65 < cLine) : OpR X (compareOp .NotIn) (rNotInD K) := hK ▸ op_notInD hu
end
end Wn
namespace Wn
open PySem L2
section
variable {X : Cx} {K : PySem.W.Frag}
theorem lenSetIK {a : Expr} {ta : TE} {p p2 q pos : Pos} (hK : X.K = K) (hc : X.calm = true) (hg : Gl X "len") (hm : X.mg "len" = none) (hg2 : Gl X "set") (hm2 : X.mg "set" = none) (ha : PE X a ta)
    (na : starEach [a] X.env = (false, eval a X.env) :: starEach [] X.env := by rfl) : PE X (.Call (.Name "len" p) [.Call (.Name "set" p2) [a] [] q] [] pos) (tLenSetI K ta) := hK ▸ pe_lenSetI hc hg hm hg2 hm2 ha na
end
end Wn

namespace Wn
open PySem L2
/-! ### hashes of pairs of small numbers are unlike -/
def tR (x : Nat) : Nat := (x * 2 ^ 31) % 2 ^ 64 + x / 2 ^ 33
def tF (a h : Nat) : Nat := (tR ((a + h * 14029467366897019727) % 2 ^ 64) * 11400714785074694791) % 2 ^ 64
def tB (s : Nat) : Nat := tF 2870177450012600261 s * 839798700976720815 % 2 ^ 64
def tO (x : Nat) : Int := if x == 2 ^ 64 - 1 then 1546275796 else if x < 2 ^ 63 then (x : Int) else (x : Int) - (2 ^ 64 : Nat)
theorem tR_lt {x : Nat} (h : x < 2 ^ 64) : tR x < 2 ^ 64 := by
  unfold tR
  omega
theorem tR_inj {x y : Nat} (hx : x < 2 ^ 64) (hy : y < 2 ^ 64) (h : tR x = tR y) : x = y := by
  have e : ∀ z : Nat, (z * 2 ^ 31) % 2 ^ 64 = (z % 2 ^ 33) * 2 ^ 31 := fun z => by
    rw [show (2 ^ 64 : Nat) = 2 ^ 33 * 2 ^ 31 from by decide]
    exact Nat.mul_mod_mul_right _ _ _
  unfold tR at h
  rw [e, e] at h
  omega
theorem mul_back {x p q m : Nat} (hq : p * q % m = 1 % m) : x * p % m * q % m = x % m := by
  rw [Nat.mod_mul_mod, Nat.mul_assoc, Nat.mul_mod, hq, ← Nat.mul_mod, Nat.mul_one]
theorem mul_inj {x y p q m : Nat} (hq : p * q % m = 1 % m) (hx : x < m) (hy : y < m) (h : x * p % m = y * p % m) : x = y := by
  have h1 := mul_back (x := x) hq
  have h2 := mul_back (x := y) hq
  rw [h, h2, Nat.mod_eq_of_lt hx, Nat.mod_eq_of_lt hy] at h1
  exact h1.symm
theorem tF_inj {a h a' h' : Nat} (e : tF a h = tF a' h') : (a + h * 14029467366897019727) % 2 ^ 64 = (a' + h' * 14029467366897019727) % 2 ^ 64 := by
  unfold tF at e
  have l1 : (a + h * 14029467366897019727) % 2 ^ 64 < 2 ^ 64 := Nat.mod_lt _ (by decide)
  have l2 : (a' + h' * 14029467366897019727) % 2 ^ 64 < 2 ^ 64 := Nat.mod_lt _ (by decide)
  exact tR_inj l1 l2 (mul_inj (q := 614540362697595703) (by decide +kernel) (tR_lt l1) (tR_lt l2) e)
theorem t_lin {a n : Nat} : (a + n * 14029467366897019727) % 2 ^ 64 * 839798700976720815 % 2 ^ 64 = (a * 839798700976720815 % 2 ^ 64 + n) % 2 ^ 64 := by
  rw [Nat.mod_mul_mod, Nat.add_mul, Nat.add_mod, Nat.mul_assoc n, Nat.mul_mod n, show 14029467366897019727 * 839798700976720815 % 2 ^ 64 = 1 from by decide +kernel, Nat.mul_one, Nat.mod_mod, ← Nat.add_mod_mod]
  omega
theorem t_apart : ∀ s, s < 64 → ∀ t, t < 64 → s ≠ t → 2 ^ 40 ≤ (tB s + 2 ^ 64 - tB t) % 2 ^ 64 ∧ (tB s + 2 ^ 64 - tB t) % 2 ^ 64 ≤ 2 ^ 64 - 2 ^ 40 := by decide +kernel
def tX0 : Nat := 9148689060682678900
def tW : Nat := tX0 * 839798700976720815 % 2 ^ 64
theorem t_top : ∀ s, s < 64 → 2 ^ 40 ≤ (tW + 2 ^ 64 - tB s) % 2 ^ 64 := by decide +kernel
theorem t_x0 : (tR tX0 * 11400714785074694791) % 2 ^ 64 = 15576566623696079691 := by decide +kernel
def tH (s n : Nat) : Nat := (tF (tF 2870177450012600261 s) n + 2870177450013471924) % 2 ^ 64
theorem tB_lt (s : Nat) : tB s < 2 ^ 64 := Nat.mod_lt _ (by decide)
theorem tH_inj {s n s' n' : Nat} (hs : s < 64) (hs' : s' < 64) (hn : n < 2 ^ 40) (hn' : n' < 2 ^ 40) (h : tH s n = tH s' n') : s = s' ∧ n = n' := by
  have e : tF (tF 2870177450012600261 s) n = tF (tF 2870177450012600261 s') n' := by
    have l1 : tF (tF 2870177450012600261 s) n < 2 ^ 64 := Nat.mod_lt _ (by decide)
    have l2 : tF (tF 2870177450012600261 s') n' < 2 ^ 64 := Nat.mod_lt _ (by decide)
    unfold tH at h
    omega
  have e2 := congrArg (fun z => z * 839798700976720815 % 2 ^ 64) (tF_inj e)
  rw [t_lin, t_lin] at e2
  have e3 : (tB s + n) % 2 ^ 64 = (tB s' + n') % 2 ^ 64 := e2
  have b1 := tB_lt s
  have b2 := tB_lt s'
  clear e e2
  by_cases q : s = s'
  · subst q
    generalize tB s = b at e3 b1
    exact ⟨rfl, by omega⟩
  · have h3 := t_apart s hs s' hs' q
    generalize tB s = b at e3 b1 h3
    generalize tB s' = b' at e3 b2 h3
    omega
theorem tH_top {s n : Nat} (hs : s < 64) (hn : n < 2 ^ 40) : tH s n ≠ 2 ^ 64 - 1 := by
  intro h
  have l1 : tF (tF 2870177450012600261 s) n < 2 ^ 64 := Nat.mod_lt _ (by decide)
  have e : tF (tF 2870177450012600261 s) n = 15576566623696079691 := by
    unfold tH at h
    omega
  rw [← t_x0] at e
  have l2 : (tF 2870177450012600261 s + n * 14029467366897019727) % 2 ^ 64 < 2 ^ 64 := Nat.mod_lt _ (by decide)
  have e1 := tR_inj l2 (by decide) (mul_inj (q := 614540362697595703) (by decide +kernel) (tR_lt l2) (tR_lt (by decide)) e)
  have e2 := congrArg (fun z => z * 839798700976720815 % 2 ^ 64) e1
  rw [t_lin] at e2
  have e3 : (tB s + n) % 2 ^ 64 = tW := e2
  have b1 := tB_lt s
  have h3 := t_top s hs
  have h4 : tW < 2 ^ 64 := Nat.mod_lt _ (by decide)
  clear e e1 e2 l1 l2
  generalize tB s = b at e3 b1 h3
  generalize tW = u at e3 h3 h4
  omega
def gF (m p1 p2 a h : Nat) : Nat := (((a + h * p2) % m * 2 ^ 31 % m + (a + h * p2) % m / 2 ^ 33) * p1) % m
def gO (m x : Nat) : Int := if x == m - 1 then 1546275796 else if x < 2 ^ 63 then (x : Int) else (x : Int) - m
def gH (m p1 p2 p5 : Nat) (hashes : List Int) : Int :=
  let acc := hashes.foldl (init := p5) fun acc h =>
    let acc := (acc + (h % (m : Int)).toNat * p2) % m
    let acc := (acc * 2 ^ 31) % m + acc / 2 ^ 33
    (acc * p1) % m
  let acc := (acc + (hashes.length ^^^ (p5 ^^^ 3527539))) % m
  if acc == m - 1 then 1546275796 else if acc < 2 ^ 63 then acc else (acc : Int) - m
theorem gH_eq (hs : List Int) : Builtin.Tuple.tupleHashOf hs = gH (2 ^ 64) 11400714785074694791 14029467366897019727 2870177450012600261 hs := rfl
theorem fold_two (f : Nat → Int → Nat) (a : Nat) (x y : Int) : List.foldl f a [x, y] = f (f a x) y := by
  rw [List.foldl_cons, List.foldl_cons, List.foldl_nil]
theorem gH_fold (m p1 p2 p5 : Nat) (hs : List Int) : gH m p1 p2 p5 hs = gO m ((hs.foldl (fun acc h => gF m p1 p2 acc (h % (m : Int)).toNat) p5 + (hs.length ^^^ (p5 ^^^ 3527539))) % m) := by
  unfold gH gO gF
  rfl
theorem gH_two (m p1 p2 p5 : Nat) (x y : Int) : gH m p1 p2 p5 [x, y] = gO m ((gF m p1 p2 (gF m p1 p2 p5 (x % (m : Int)).toNat) (y % (m : Int)).toNat + (2 ^^^ (p5 ^^^ 3527539))) % m) := by
  rw [gH_fold, fold_two, List.length_cons, List.length_cons, List.length_nil]
theorem tF_g (a h : Nat) : gF (2 ^ 64) 11400714785074694791 14029467366897019727 a h = tF a h := rfl
theorem tO_g (x : Nat) : gO (2 ^ 64) x = tO x := rfl
theorem tup_hash0 (x y : Int) : Builtin.Tuple.tupleHashOf [x, y] = tO ((tF (tF 2870177450012600261 (x % ((2 ^ 64 : Nat) : Int)).toNat) (y % ((2 ^ 64 : Nat) : Int)).toNat + (2 ^^^ (2870177450012600261 ^^^ 3527539))) % 2 ^ 64) := by
  rw [gH_eq, gH_two, tF_g, tF_g, tO_g]
theorem tup_hash {s n : Nat} (hs : s < 64) (hn : n < 2 ^ 40) : Builtin.Tuple.tupleHashOf [(s : Int), (n : Int)] = tO (tH s n) := by
  have h0 : ∀ z : Nat, z < 2 ^ 64 → ((z : Int) % ((2 ^ 64 : Nat) : Int)).toNat = z := fun z hz => by
    rw [← Int.natCast_emod, Int.toNat_natCast, Nat.mod_eq_of_lt hz]
  have h1 := h0 s (by omega)
  have h2 := h0 n (by omega)
  rw [tup_hash0, h1, h2, show (2 ^^^ (2870177450012600261 ^^^ 3527539) : Nat) = 2870177450013471924 from by decide +kernel]
  unfold tH
  rfl
theorem tO_inj {x y : Nat} (hx : x < 2 ^ 64 - 1) (hy : y < 2 ^ 64 - 1) (h : reduceHash (tO x) = reduceHash (tO y)) : x = y := by
  have r : ∀ z : Nat, z < 2 ^ 64 - 1 → reduceHash (tO z) = if z < 2 ^ 63 then (z : Int) else (z : Int) - (2 ^ 64 : Nat) := by
    intro z hz
    have e : tO z = if z < 2 ^ 63 then (z : Int) else (z : Int) - (2 ^ 64 : Nat) := by
      unfold tO
      rw [if_neg (by rw [beq_iff_eq]; omega)]
    rw [e]
    unfold reduceHash
    have c1 : (-(2 ^ 63 : Int) ≤ (if z < 2 ^ 63 then (z : Int) else (z : Int) - (2 ^ 64 : Nat)) && decide ((if z < 2 ^ 63 then (z : Int) else (z : Int) - (2 ^ 64 : Nat)) < 2 ^ 63)) = true := by
      rw [Bool.and_eq_true, decide_eq_true_eq, decide_eq_true_eq]
      split <;> omega
    rw [if_pos c1, if_neg (by rw [beq_iff_eq]; split <;> omega)]
  rw [r x hx, r y hy] at h
  split at h <;> split at h <;> omega
end Wn

namespace Wn
open PySem L2
theorem hashInt_small {i : Int} (h0 : 0 ≤ i) (h1 : i < 2 ^ 40) : hashInt i = i := by
  have e : rawHash i = i := by
    have h2 : (i.natAbs : Int) % ((2 ^ 61 - 1 : Nat) : Int) = i := by omega
    unfold rawHash
    simp only [h2]
    simp only [if_neg (show ¬ i < 0 by omega)]
    rw [if_neg (by rw [beq_iff_eq]; omega)]
  unfold hashInt
  rw [e, if_neg (by rw [beq_iff_eq]; omega)]
theorem pair_hash_inj {P : Program} {w : World} {s n s' n' : Int} (a : 0 ≤ s ∧ s < 64) (b : 0 ≤ n ∧ n < 2 ^ 40) (a' : 0 ≤ s' ∧ s' < 64) (b' : 0 ≤ n' ∧ n' < 2 ^ 40)
    (h : (tupleKind (mixKind P w)).hash [Sum.inl s, Sum.inl n] = (tupleKind (mixKind P w)).hash [Sum.inl s', Sum.inl n']) : s = s' ∧ n = n' := by
  have r : ∀ {x y : Int}, 0 ≤ x ∧ x < 64 → 0 ≤ y ∧ y < 2 ^ 40 → (tupleKind (mixKind P w)).hash [Sum.inl x, Sum.inl y] = reduceHash (tO (tH x.toNat y.toNat)) := by
    intro x y hx hy
    have e1 : (tupleKind (mixKind P w)).hash [Sum.inl x, Sum.inl y] = reduceHash (Builtin.Tuple.tupleHashOf [hashInt x, hashInt y]) := rfl
    have e2 : x = ((x.toNat : Nat) : Int) := by omega
    have e3 : y = ((y.toNat : Nat) : Int) := by omega
    rw [e1, hashInt_small hx.1 (by omega), hashInt_small hy.1 hy.2]
    conv => lhs; rw [e2, e3]
    rw [tup_hash (by omega) (by omega)]
  rw [r a b, r a' b'] at h
  have lt : ∀ x y, tH x y < 2 ^ 64 := fun x y => Nat.mod_lt _ (by decide)
  have t1 := tH_top (s := s.toNat) (n := n.toNat) (by omega) (by omega)
  have t2 := tH_top (s := s'.toNat) (n := n'.toNat) (by omega) (by omega)
  have l1 := lt s.toNat n.toNat
  have l2 := lt s'.toNat n'.toNat
  have e := tO_inj (by omega) (by omega) h
  have := tH_inj (by omega) (by omega) (by omega) (by omega) e
  omega
theorem kt_mem {H : Hp} : ∀ {kvs : List (List Key × V)} {xs : List (List Key × Addr × Value)}, KT H kvs xs → ∀ x ∈ xs, H x.2.1 = some (.tup (x.1.map kV)) := by
  intro kvs xs r
  induction r with
  | nil => exact fun x hx => by cases hx
  | cons h t ih =>
    intro x hx
    rcases List.mem_cons.mp hx with rfl | hx
    · rw [← h.1]
      exact h.2.1
    · exact ih x hx
theorem kt_hash {H : Hp} {g : List Key → Int} : ∀ {kvs : List (List Key × V)} {xs : List (List Key × Addr × Value)}, KT H kvs xs → (xs.map fun x => g x.1) = kvs.map fun e => g e.1 := by
  intro kvs xs r
  induction r with
  | nil => rfl
  | cons h t ih => rw [List.map_cons, List.map_cons, ih, h.1]
section
variable {X : Cx} {K : PySem.W.Frag}
theorem call_dictH {prog : Program} {w : World} {κ : Type} [DecidableEq κ] {knd : HeapKind prog w κ} {A : Around} {E : Value → Shared → Prop} {s : Shared} {o : Addr} {more : List (κ × Addr × Value)} {Q : Value → Shared → Prop} (hu : knd.room A.in1.in1) (hoS : (o == sysModules) = false) (ho : s.heap.DictOfH knd o more) (hsz : more.length ≤ sizeLine)
    (hp : (s.heap.push { cls := .type "dict", data := .dict #[] }).DictOfH knd o more) (hty : ∀ x ∈ more, Shared.TypeIs { s with heap := s.heap.push { cls := .type "dict", data := .dict #[] } } (.ref x.2.1) "tuple") (hap : (more.map fun x => knd.hash x.1).Nodup)
    (h : ∀ h', h'.DictOfH knd s.heap.objs.size more → Heap.SameBut s.heap.objs.size (s.heap.push { cls := .type "dict", data := .dict #[] }) h' → Q (.ref s.heap.objs.size) { s with heap := h' }) :
    wpAny (model prog w) A (call (.type "dict") [.ref o]) Q E s := by
  refine callType_codes (Q₁ := fun obj s₁ => obj = .ref s.heap.objs.size ∧ s₁ = { s with heap := s.heap.push { cls := .type "dict", data := .dict #[] } }) F.kt_called_dict (F.kt_typeCall_dict_1 _) F.entry_dict_init (kt_code_dict_new _ ⟨rfl, rfl⟩) ?_
  rintro obj s₁ ⟨rfl, rfl⟩
  have hnew : (s.heap.push { cls := .type "dict", data := .dict #[] }).DictOfH knd s.heap.objs.size [] :=
    ⟨_, #[], 0, Heap.get?_push_size _ rfl, ⟨rfl, rfl, rfl⟩, rfl, rfl, fun x hx => (by cases hx), List.nodup_nil⟩
  have hdo : s.heap.objs.size ≠ o := by
    obtain ⟨_, _, _, hg, _⟩ := ho
    exact fun e => absurd (Heap.lt_size hg) (by rw [e]; exact Nat.lt_irrefl _)
  refine ⟨hnew.typeIs, F.args_dict_init_2 _ _, ?_⟩
  unfold Builtin.«dict.__init__»
  refine wpAny_bind ?_
  unfold Builtin.Dict.selfAndRest
  refine wpAny_bind (wpAny_notOrdered_dict hnew.typeIs ?_)
  show wpAny _ _ (pure (s.heap.objs.size, [Value.ref o])) _ _ _
  refine wpAny_pure ?_
  show wpAny _ _ (Builtin.Dict.updateFrom "dict.__init__" s.heap.objs.size (.ref o) [] .none) _ _ _
  refine updateFrom_dictH (A := A.in1) .none hu hdo hoS hnew hp (.inr ⟨hty, hap⟩) (by simpa using hsz) fun h' hd' _ hs' => ?_
  rw [storedAllH_nil_of_nodup more ho.nodup] at hd'
  exact ⟨rfl, h h' hd' hs'⟩
/-- dict(d), d with tuple keys whose hashes are unlike -/
def rDictT (P : Program) (w : World) : List V → Hp → VK → Prop := fun xs H Q => ∃ (a : Addr) (kvs : List (List Key × V)), xs = [.ref a] ∧ Rd H a (.dT kvs) ∧ (kvs.map fun e => (tupleKind (mixKind P w)).hash e.1).Nodup ∧ ∀ p, H p = none → Q (.ref p) (upd H p (.dT kvs))
theorem call_dictT (hu : X.A.units + 64 < cLine) : CallR X (.type "dict") (rDictT X.prog X.w) := by
  intro pins s σ H xs us Q I r q
  obtain ⟨a, kvs, ex, hd, hn, q⟩ := q
  subst ex
  obtain ⟨u, eu, rx⟩ := vals1 r
  subst eu
  cases rx
  obtain ⟨z, lo, vs, rel, dd⟩ := dt_rd I.hok hd
  have len : kvs.length = vs.length := Paired.length rel
  have keep : ∀ b u, s.heap.get? b = some u → (s.heap.push { cls := .type "dict", data := .dict #[] }).get? b = some u := fun b u e => Heap.get?_push_of_some _ e
  have hm : (s.heap.objs.size == sysModules) = false := beq_eq_false_iff_ne.mpr (Nat.ne_of_gt I.big)
  have ok' : HOk X.prog X.w H (s.heap.push { cls := .type "dict", data := .dict #[] }) := I.hok.kept keep
  refine call_dictH (knd := tupleKind (mixKind X.prog X.w)) (show X.A.in1.in1.units < cLine from (by show X.A.units + 1 + 1 < cLine; omega)) lo dd (by omega) (dd.at' (fun o e => keep _ _ e) fun y hy => key_of ok' (kt_mem rel y hy)) (fun x hx => ?_) (by rw [kt_hash rel]; exact hn) fun h' d' hs => ?_
  · obtain ⟨_, its, r, o, h1, h2, n, h3⟩ := (show ObjOk X.prog X.w H (s.heap.push { cls := .type "dict", data := .dict #[] }) x.2.1 (.tup (x.1.map kV)) from ok' _ _ (kt_mem rel x hx))
    exact ⟨o, h1, h2⟩
  obtain ⟨o, es, ep, h1, h2, h3, h4, _, h5⟩ := d'
  have nz : H s.heap.objs.size = none := I.hok.fresh (Nat.le_refl _)
  refine ⟨.ref s.heap.objs.size, upd H s.heap.objs.size (.dT kvs), I.laid (t' := s.toks) (fun b u e => (hs.2 b (Nat.ne_of_lt (Heap.lt_size e))).trans (Heap.get?_push_of_some _ e)) (Nat.le_refl _)
    (show ObjOk X.prog X.w _ _ _ (.dT kvs) from ⟨z, hm, vs, Paired.mapP rel fun p q y => ⟨y.1, by rw [upd_ne (ne_of_none y.2.1 nz)]; exact y.2.1, y.2.2⟩, o, es, ep, h1, h2, h3, h4, h5⟩), rfl, q _ nz⟩
theorem dictTK {P : Program} {w : World} (hP : X.prog = P) (hw : X.w = w) (hu : X.A.units + 64 < cLine) : CallR X (.type "dict") (rDictT P w) := hP ▸ hw ▸ call_dictT hu
end
end Wn

namespace Wn
open PySem L2
abbrev sFInit : Stmt := inClass (top 5) 0
abbrev sFWord : Stmt := inClass (top 5) 1
abbrev sFKeep : Stmt := inClass (top 5) 2
abbrev sFTakes : Stmt := inClass (top 5) 3
abbrev sOWord : Stmt := inClass (top 7) 0
abbrev sOKeep : Stmt := inClass (top 7) 1
abbrev sTWord : Stmt := inClass (top 8) 0
abbrev sTKeep : Stmt := inClass (top 8) 1
abbrev sFof : Stmt := top 9
/-- what a filter knows -/
inductive FS
  | pl
  | on (L : List (Int × Int))
  | tu (m : List (Int × Int))
inductive Kd
  | pl | on | tu
def onE (e : Int × Int) : List Key × V := ([Sum.inl e.1, Sum.inl e.2], .bl true)
def FS.kd : FS → Kd
  | .pl => .pl
  | .on _ => .on
  | .tu _ => .tu
def FS.word : FS → Int → Int → Str
  | .pl, _, _ => "heard"
  | .on L, s, n => if (s, n) ∈ L then "again" else "heard"
  | .tu m, s, n => match lookA m s with
    | some k => if n ≤ k then "late" else "heard"
    | none => "heard"
def FS.keep : FS → Int → Int → FS
  | .pl, _, _ => .pl
  | .on L, s, n => .on (L ++ [(s, n)])
  | .tu m, s, n => .tu (putA m s n)
def FS.len : FS → Nat
  | .pl => 0
  | .on L => L.length
  | .tu m => m.length
def FS.take (s : FS) (sd n : Int) : FS := if s.word sd n = "heard" then s.keep sd n else s
def FS.init : Kd → FS
  | .pl => .pl
  | .on => .on []
  | .tu => .tu []
theorem word_on {L : List (Int × Int)} {s n : Int} : (FS.on L).word s n = if (s, n) ∈ L then ("again" : Str) else ("heard" : Str) := rfl
theorem word_tu {m : List (Int × Int)} {s n : Int} : (FS.tu m).word s n = match lookA m s with | some k => if n ≤ k then ("late" : Str) else ("heard" : Str) | none => ("heard" : Str) := rfl
theorem FS.kd_keep (s : FS) (a b : Int) : (s.keep a b).kd = s.kd := by cases s <;> rfl
theorem FS.kd_take (s : FS) (a b : Int) : (s.take a b).kd = s.kd := by
  unfold FS.take
  split
  · exact s.kd_keep a b
  · rfl
theorem FS.len_take (s : FS) (a b : Int) : (s.take a b).len ≤ s.len + 1 := by
  unfold FS.take
  split
  · cases s with
    | pl => exact Nat.zero_le _
    | on L =>
      show (L ++ [(a, b)]).length ≤ L.length + 1
      rw [List.length_append]
      exact Nat.le_refl _
    | tu m => exact putA_len _ _ _
  · omega
def FKn (K : PySem.W.Frag) (H : Hp) (q : Addr) : FS → Prop
  | .pl => H q = some (.dK [])
  | .on L => H q = some (.dT (L.map onE))
  | .tu m => DictAt PyData.int K H q m
def FAt (K : PySem.W.Frag) (C : Addr) (H : Hp) (p q : Addr) (s : FS) : Prop := (∃ dx, H p = some (.ins C dx [("known", .ref q)])) ∧ FKn K H q s
section
variable {K : PySem.W.Frag} {C : Addr} {H H' : Hp}
theorem FKn.kp {M : List Addr} {q : Addr} {s : FS} (h : FKn K H q s) (k : Kp M H H') (t : TK H H') (n : q ∉ M) : FKn K H' q s := by
  cases s with
  | pl => exact k _ _ n h
  | on L => exact k _ _ n h
  | tu m => exact DictAt.kp h k t n
theorem FAt.kp {M : List Addr} {p q : Addr} {s : FS} (h : FAt K C H p q s) (k : Kp M H H') (t : TK H H') (n1 : p ∉ M) (n2 : q ∉ M) : FAt K C H' p q s := by
  obtain ⟨⟨dx, a⟩, b⟩ := h
  exact ⟨⟨dx, k _ _ n1 a⟩, b.kp k t n2⟩
theorem FAt.same {p q : Addr} {s : FS} (h : FAt K C H p q s) (s' : Same H H') : FAt K C H' p q s :=
  h.kp (M := []) (Kp.of s') (TK.of s') (by simp) (by simp)
/-- where the dict lies there is a dict -/
theorem FKn.dict {q : Addr} {s : FS} (h : FKn K H q s) : ∃ o, H q = some o ∧ ((∃ z, o = .dK z) ∨ ∃ z, o = .dT z) := by
  cases s with
  | pl => exact ⟨_, h, .inl ⟨_, rfl⟩⟩
  | on L => exact ⟨_, h, .inr ⟨_, rfl⟩⟩
  | tu m =>
    obtain ⟨kvs, a, _⟩ := h
    exact ⟨_, a, .inl ⟨_, rfl⟩⟩
theorem FAt.nl {p q l : Addr} {s : FS} {zs : List V} (h : FAt K C H p q s) (hl : H l = some (.lst zs)) : p ≠ l ∧ q ≠ l := by
  obtain ⟨⟨dx, a⟩, b⟩ := h
  obtain ⟨o, ho, d⟩ := b.dict
  refine ⟨ne_of a hl (by intro z; cases z), fun z => ?_⟩
  rw [z, hl] at ho
  rcases d with ⟨z, d⟩ | ⟨z, d⟩ <;> rw [d] at ho <;> cases ho
theorem FAt.npq {p q : Addr} {s : FS} (h : FAt K C H p q s) : p ≠ q := by
  obtain ⟨⟨dx, a⟩, b⟩ := h
  obtain ⟨o, ho, d⟩ := b.dict
  intro z
  rw [z, ho] at a
  rcases d with ⟨z, d⟩ | ⟨z, d⟩ <;> rw [d] at a <;> cases a
end
theorem on_iff {e : Int × Int} {s n : Int} : (onE e).1 = [Sum.inl s, Sum.inl n] ↔ e = (s, n) := by
  unfold onE
  constructor
  · intro h
    simp only [List.cons.injEq, Sum.inl.injEq, and_true] at h
    exact Prod.ext h.1 h.2
  · intro h
    rw [h]
theorem valV_on (s n : Int) : ∀ L : List (Int × Int), valV (L.map onE) [Sum.inl s, Sum.inl n] = if (s, n) ∈ L then some (.bl true) else none
  | [] => rfl
  | e :: L => by
    rw [List.map_cons]
    by_cases h : e = (s, n)
    · rw [valV_pos (on_iff.mpr h), if_pos (by rw [h]; exact List.mem_cons_self)]
      rfl
    · rw [valV_neg (fun z => h (on_iff.mp z)), valV_on s n L]
      have : (s, n) ∈ e :: L ↔ (s, n) ∈ L := by
        rw [List.mem_cons]
        exact ⟨fun z => z.resolve_left fun q => h q.symm, .inr⟩
      simp only [this]
theorem putK_on {s n : Int} {L : List (Int × Int)} (h : (s, n) ∉ L) : putK (L.map onE) [Sum.inl s, Sum.inl n] (.bl true) = (L ++ [(s, n)]).map onE := by
  unfold putK
  rw [valV_any, valV_on, if_neg h, List.map_append]
  rfl
def spFInit (K : PySem.W.Frag) (C : Addr) (s0 : FS) : Sp := fun vs H Q _ => ∃ (p dx : Addr), vs = [.ref p] ∧ H p = some (.ins C dx []) ∧
  ∀ (H' : Hp) (q : Addr), H q = none → Kp [p] H H' → FAt K C H' p q s0 → Q .non H'
def spWord (K : PySem.W.Frag) (C : Addr) (κ : Kd) : Sp := fun vs H Q _ => ∃ (p q : Addr) (sd n : Int) (s : FS), vs = [.ref p, .int sd, .int n] ∧ FAt K C H p q s ∧ s.kd = κ ∧
  ∀ H' : Hp, Same H H' → Q (.str (s.word sd n)) H'
def spKeep (K : PySem.W.Frag) (C : Addr) (κ : Kd) : Sp := fun vs H Q _ => ∃ (p q : Addr) (sd n : Int) (s : FS), vs = [.ref p, .int sd, .int n] ∧ FAt K C H p q s ∧ s.kd = κ ∧ s.word sd n = "heard" ∧ s.len ≤ 1000 ∧
  ∀ (H' : Hp) (q' : Addr), (q' = q ∨ H q' = none) → Kp [p, q] H H' → FAt K C H' p q' (s.keep sd n) → Q .non H'
def spTakes (K : PySem.W.Frag) (C : Addr) (κ : Kd) : Sp := fun vs H Q _ => ∃ (p q : Addr) (sd n : Int) (s : FS), vs = [.ref p, .int sd, .int n] ∧ FAt K C H p q s ∧ s.kd = κ ∧ s.len ≤ 1000 ∧
  ∀ (H' : Hp) (q' : Addr), (q' = q ∨ H q' = none) → Kp [p, q] H H' → FAt K C H' p q' (s.take sd n) → Q (.str (s.word sd n)) H'
structure FN (K : PySem.W.Frag) (C : Addr) : Prop where
  cl : Cls K C
  nK : NoAttr K C "known"
structure FW (mg : Str → Option Value) : Prop where
  heard : ∃ t, mg "HEARD" = some (.str "heard" t)
  again : ∃ t, mg "AGAIN" = some (.str "again" t)
  late : ∃ t, mg "LATE" = some (.str "late" t)

section
variable {P : Program} {w : World} {K : PySem.W.Frag} {mg : Str → Option Value} {base : Heap}
theorem scFInit : FnScope ["self"] ["self"] (defScope sFInit) := ⟨rfl, rfl, rfl, by decide +kernel, rfl, by decide +kernel, by decide +kernel⟩
theorem ok_finit {f C : Addr} {fd : FuncData} {s0 : FS} (F : Fun K "__init__" "Filter.__init__" sFInit f fd) (T : FN K C) (hs : s0 = .pl ∨ s0 = .tu []) : FnOk P w K mg base CX0 1 f fd ["self"] (spFInit K C s0) := by
  refine F.ok scFInit (fun vs H Q E h => ?_) (fun cdv A outer s H vs Q E hr h => ?_)
  · obtain ⟨p, dx, rfl, _⟩ := h
    rfl
  · obtain ⟨p, dx, rfl, hp, k⟩ := h
    refine ⟨_, (pss_one (ps_fld (pv 0) pe_dnewK rfl)), ?_⟩
    intro q hq
    have npq : p ≠ q := ne_of_none hp hq
    refine ⟨_, rfl, p, C, dx, [], rfl, (by rw [upd_ne npq]; exact hp), T.cl, T.nK, (by show 0 < 1000; decide), ?_⟩
    have hd : FKn K (upd (upd H q (.dK [])) p (.ins C dx (putF "known" (.ref q) []))) q s0 := by
      have e : upd (upd H q (.dK [])) p (.ins C dx (putF "known" (.ref q) [])) q = some (.dK []) := by rw [upd_ne npq.symm, upd_same]
      rcases hs with rfl | rfl
      · exact e
      · exact ⟨_, e, rfl⟩
    exact k _ q hq (((Kp.refl _ _).new hq).wr (List.mem_singleton.mpr rfl)) ⟨⟨dx, upd_same⟩, hd⟩
theorem ok_finitT {f C : Addr} {fd : FuncData} (F : Fun K "__init__" "Filter.__init__" sFInit f fd) (T : FN K C) : FnOk P w K mg base CX0 1 f fd ["self"] (spFInit K C (.on [])) := by
  refine F.ok scFInit (fun vs H Q E h => ?_) (fun cdv A outer s H vs Q E hr h => ?_)
  · obtain ⟨p, dx, rfl, _⟩ := h
    rfl
  · obtain ⟨p, dx, rfl, hp, k⟩ := h
    refine ⟨_, (pss_one (ps_fld (pv 0) pe_dnewT rfl)), ?_⟩
    intro q hq
    have npq : p ≠ q := ne_of_none hp hq
    refine ⟨_, rfl, p, C, dx, [], rfl, (by rw [upd_ne npq]; exact hp), T.cl, T.nK, (by show 0 < 1000; decide), ?_⟩
    exact k _ q hq (((Kp.refl _ _).new hq).wr (List.mem_singleton.mpr rfl)) ⟨⟨dx, upd_same⟩, by show upd _ _ _ q = _; rw [upd_ne npq.symm, upd_same]; rfl⟩
theorem scFWord : FnScope ["self", "sender", "number"] ["self", "sender", "number"] (defScope sFWord) := ⟨rfl, rfl, rfl, by decide +kernel, rfl, by decide +kernel, by decide +kernel⟩
theorem ok_fword {f C : Addr} {fd : FuncData} (F : Fun K "word_for" "Filter.word_for" sFWord f fd) (W : FW mg) : FnOk P w K mg base CX0 1 f fd ["self", "sender", "number"] (spWord K C .pl) := by
  obtain ⟨tH, mH⟩ := W.heard
  refine F.ok scFWord (fun vs H Q E h => ?_) (fun cdv A outer s H vs Q E hr h => ?_)
  · obtain ⟨p, q, sd, n, s, rfl, _⟩ := h
    rfl
  · obtain ⟨p, q, sd, n, s, rfl, hf, hk, k⟩ := h
    refine ⟨_, (pss_one (ps_ret (pe_glob (v := .str "heard") rfl mH ⟨_, rfl⟩))), ?_⟩
    cases s with
    | pl => exact k _ (L2.Same.refl _)
    | on L => cases hk
    | tu m => cases hk
theorem scOWord : FnScope ["self", "sender", "number"] ["self", "sender", "number"] (defScope sOWord) := ⟨rfl, rfl, rfl, by decide +kernel, rfl, by decide +kernel, by decide +kernel⟩
theorem ok_oword {f C : Addr} {fd : FuncData} (F : Fun K "word_for" "Once.word_for" sOWord f fd) (T : FN K C) (W : FW mg) : FnOk P w K mg base CX0 1 f fd ["self", "sender", "number"] (spWord K C .on) := by
  obtain ⟨tH, mH⟩ := W.heard
  obtain ⟨tA, mA⟩ := W.again
  refine F.ok scOWord (fun vs H Q E h => ?_) (fun cdv A outer s H vs Q E hr h => ?_)
  · obtain ⟨p, q, sd, n, s, rfl, _⟩ := h
    rfl
  · obtain ⟨p, q, sd, n, s, rfl, ⟨⟨dx, hp⟩, hq⟩, hk, k⟩ := h
    have hu := hu_of hr
    refine ⟨_, (pss_cons (ps_if (pt_cmp (pc_din hu (pe_tup (pa_cons (pv 1) (pa_cons (pv 2) pa_nil))) (fldK (K := K) rfl (pv 0) rfl)))
       (pss_one (ps_ret (pe_glob (v := .str "again") rfl mA ⟨_, rfl⟩)))
       pss_nil)
       (pss_one (ps_ret (pe_glob (v := .str "heard") rfl mH ⟨_, rfl⟩)))), ?_⟩
    cases s with
    | pl => cases hk
    | tu m => cases hk
    | on L =>
      have hq : H q = some (.dT (L.map onE)) := hq
      refine ⟨_, rfl, _, rfl, (by show 2 ≤ sizeLine; decide), fun t ht => ?_⟩
      have s1 : Same H (upd H t (.tup [.int sd, .int n])) := (L2.Same.refl H).new ht
      refine ⟨_, rfl, p, C, dx, _, _, rfl, s1 _ _ hp, T.cl, T.nK, fld1, q, _, rfl, DGet.t (k := [Sum.inl sd, Sum.inl n]) (s1 _ _ hq) upd_same, ?_⟩
      rw [valV_on]
      have k' := k _ s1
      rw [word_on] at k'
      by_cases e : (sd, n) ∈ L
      · rw [if_pos e] at k' ⊢
        exact ⟨_, rfl, iteT k'⟩
      · rw [if_neg e] at k' ⊢
        exact ⟨_, rfl, iteF k'⟩
theorem scTWord : FnScope ["self", "sender", "number"] ["self", "sender", "number"] (defScope sTWord) := ⟨rfl, rfl, rfl, by decide +kernel, rfl, by decide +kernel, by decide +kernel⟩
theorem ok_tword {f C : Addr} {fd : FuncData} (F : Fun K "word_for" "Turn.word_for" sTWord f fd) (T : FN K C) (W : FW mg) : FnOk P w K mg base CX0 1 f fd ["self", "sender", "number"] (spWord K C .tu) := by
  obtain ⟨tH, mH⟩ := W.heard
  obtain ⟨tL, mL⟩ := W.late
  refine F.ok scTWord (fun vs H Q E h => ?_) (fun cdv A outer s H vs Q E hr h => ?_)
  · obtain ⟨p, q, sd, n, s, rfl, _⟩ := h
    rfl
  · obtain ⟨p, q, sd, n, s, rfl, ⟨⟨dx, hp⟩, hq⟩, hk, k⟩ := h
    have hu := hu_of hr
    refine ⟨_, (pss_cons (ps_if (PW.pt (pw_and (pt_cmp (pc_din hu (pv 1) (fldK (K := K) rfl (pv 0) rfl))) (pw_and1 (pt_cmpR op_le (pv 2) (pe_dget hu (fldK (K := K) rfl (pv 0) rfl) (pv 1) (fun _ _ => rfl)) (nomark _)))))
       (pss_one (ps_ret (pe_glob (v := .str "late") rfl mL ⟨_, rfl⟩)))
       pss_nil)
       (pss_one (ps_ret (pe_glob (v := .str "heard") rfl mH ⟨_, rfl⟩)))), ?_⟩
    cases s with
    | pl => cases hk
    | on m => cases hk
    | tu m =>
      obtain ⟨kvs, hq, hm⟩ := (show DictAt PyData.int K H q m from hq)
      have k' := k _ (L2.Same.refl _)
      rw [word_tu] at k'
      have g := DGet.k (k := Sum.inl sd) hq
      refine ⟨_, rfl, _, rfl, p, C, dx, _, _, rfl, hp, T.cl, T.nK, fld1, q, _, rfl, g, ?_⟩
      rcases hm.val (k := sd) with ⟨e1, e2⟩ | ⟨x, v, e1, e2, r⟩
      · rw [e1] at k'
        rw [e2]
        exact ⟨_, rfl, iteF (iteF k')⟩
      · rw [e1] at k'
        rw [e2]
        rw [e2] at g
        obtain rfl : v = .int x := by
          unfold Rp at r
          exact r
        refine ⟨_, rfl, iteT ?_⟩
        refine ⟨_, rfl, _, rfl, p, C, dx, _, _, rfl, hp, T.cl, T.nK, fld1, _, rfl, q, _, rfl, g, _, _, rfl, rfl, _, rfl, ?_⟩
        refine ite2 (fun hc => ?_) (fun hc => ?_)
        · have hc := of_decide_eq_true hc
          simp only [if_pos hc] at k'
          exact k'
        · have hc : ¬ n ≤ x := fun z => hc (decide_eq_true z)
          simp only [if_neg hc] at k'
          exact k'
theorem scFKeep : FnScope ["self", "sender", "number"] ["self", "sender", "number"] (defScope sFKeep) := ⟨rfl, rfl, rfl, by decide +kernel, rfl, by decide +kernel, by decide +kernel⟩
theorem ok_fkeep {f C : Addr} {fd : FuncData} (F : Fun K "keep" "Filter.keep" sFKeep f fd) (T : FN K C) : FnOk P w K mg base CX0 1 f fd ["self", "sender", "number"] (spKeep K C .pl) := by
  refine F.ok scFKeep (fun vs H Q E h => ?_) (fun cdv A outer s H vs Q E hr h => ?_)
  · obtain ⟨p, q, sd, n, s, rfl, _⟩ := h
    rfl
  · obtain ⟨p, q, sd, n, s, rfl, ⟨⟨dx, hp⟩, hq⟩, hk, hw, hl, k⟩ := h
    refine ⟨_, (pss_one (ps_fld (pv 0) pe_dnewK rfl)), ?_⟩
    cases s with
    | on L => cases hk
    | tu m => cases hk
    | pl =>
      intro q' hq'
      have npq : p ≠ q' := ne_of_none hp hq'
      refine ⟨_, rfl, p, C, dx, _, rfl, (by rw [upd_ne npq]; exact hp), T.cl, T.nK, (by show 1 < 1000; decide), ?_⟩
      rw [putF1]
      exact k _ q' (.inr hq') (((Kp.refl _ _).new hq').wr List.mem_cons_self) ⟨⟨dx, upd_same⟩, by show upd _ _ _ q' = _; rw [upd_ne npq.symm, upd_same]⟩
theorem scOKeep : FnScope ["self", "sender", "number"] ["self", "sender", "number"] (defScope sOKeep) := ⟨rfl, rfl, rfl, by decide +kernel, rfl, by decide +kernel, by decide +kernel⟩
theorem ok_okeep {f C : Addr} {fd : FuncData} (F : Fun K "keep" "Once.keep" sOKeep f fd) (T : FN K C) : FnOk P w K mg base CX0 1 f fd ["self", "sender", "number"] (spKeep K C .on) := by
  refine F.ok scOKeep (fun vs H Q E h => ?_) (fun cdv A outer s H vs Q E hr h => ?_)
  · obtain ⟨p, q, sd, n, s, rfl, _⟩ := h
    rfl
  · obtain ⟨p, q, sd, n, s, rfl, ⟨⟨dx, hp⟩, hq⟩, hk, hw, hl, k⟩ := h
    have hu := hu_of hr
    refine ⟨_, (pss_one (ps_dput hu (fldK (K := K) rfl (pv 0) rfl) (pe_tup (pa_cons (pv 1) (pa_cons (pv 2) pa_nil))) pe_bl rfl)), ?_⟩
    cases s with
    | pl => cases hk
    | tu m => cases hk
    | on L =>
      have hq : H q = some (.dT (L.map onE)) := hq
      have hne : p ≠ q := ne_of hp hq (by intro z; cases z)
      have nin : (sd, n) ∉ L := fun z => by
        have hw : (if (sd, n) ∈ L then ("again" : Str) else "heard") = "heard" := hw
        rw [if_pos z] at hw
        exact absurd hw (by decide)
      have sz : (L.map onE).length < sizeLine := by
        rw [List.length_map]
        exact Nat.lt_of_le_of_lt hl (by decide)
      refine ⟨_, rfl, p, C, dx, _, _, rfl, hp, T.cl, T.nK, fld1, _, rfl, _, rfl, (by show 2 ≤ sizeLine; decide), fun t ht => ?_⟩
      have s1 : Same H (upd H t (.tup [.int sd, .int n])) := (L2.Same.refl H).new ht
      refine ⟨q, _, rfl, DPut.t (k := [Sum.inl sd, Sum.inl n]) (s1 _ _ hq) upd_same sz, ?_⟩
      rw [putK_on nin]
      exact k _ q (.inl rfl) ((Kp.of s1).wr (List.mem_cons_of_mem _ (List.mem_singleton.mpr rfl))) ⟨⟨dx, by rw [upd_ne hne]; exact s1 _ _ hp⟩, upd_same⟩
theorem scTKeep : FnScope ["self", "sender", "number"] ["self", "sender", "number"] (defScope sTKeep) := ⟨rfl, rfl, rfl, by decide +kernel, rfl, by decide +kernel, by decide +kernel⟩
theorem ok_tkeep {f C : Addr} {fd : FuncData} (F : Fun K "keep" "Turn.keep" sTKeep f fd) (T : FN K C) : FnOk P w K mg base CX0 1 f fd ["self", "sender", "number"] (spKeep K C .tu) := by
  refine F.ok scTKeep (fun vs H Q E h => ?_) (fun cdv A outer s H vs Q E hr h => ?_)
  · obtain ⟨p, q, sd, n, s, rfl, _⟩ := h
    rfl
  · obtain ⟨p, q, sd, n, s, rfl, ⟨⟨dx, hp⟩, hq⟩, hk, hw, hl, k⟩ := h
    have hu := hu_of hr
    refine ⟨_, (pss_one (ps_dput hu (fldK (K := K) rfl (pv 0) rfl) (pv 1) (pv 2) rfl)), ?_⟩
    cases s with
    | pl => cases hk
    | on m => cases hk
    | tu m =>
      obtain ⟨kvs, hq, hm⟩ := (show DictAt PyData.int K H q m from hq)
      have hne : p ≠ q := ne_of hp hq (by intro z; cases z)
      have sz : kvs.length < sizeLine := by
        rw [hm.len]
        exact Nat.lt_of_le_of_lt hl (by decide)
      refine ⟨_, rfl, _, rfl, p, C, dx, _, _, rfl, hp, T.cl, T.nK, fld1, _, rfl, q, _, rfl, DPut.k (k := Sum.inl sd) hq sz, ?_⟩
      have t1 : TK H (upd H q (.dK (putK kvs (Sum.inl sd) (.int n)))) := (TK.refl _).wr hq rfl
      exact k _ q (.inl rfl) ((Kp.refl _ _).wr (List.mem_cons_of_mem _ (List.mem_singleton.mpr rfl))) ⟨⟨dx, by rw [upd_ne hne]; exact hp⟩, ⟨_, upd_same, (hm.tk t1).put Rp.int⟩⟩
theorem scFTakes : FnScope ["self", "sender", "number", "word"] ["self", "sender", "number"] (defScope sFTakes) := ⟨rfl, rfl, rfl, by decide +kernel, rfl, by decide +kernel, by decide +kernel⟩
theorem ok_takes {f C : Addr} {fd : FuncData} {κ : Kd} (F : Fun K "takes" "Filter.takes" sFTakes f fd) (T : FN K C) (W : FW mg) (cW : Md P w K mg base 1 C "word_for" ["self", "sender", "number"] (spWord K C κ)) (cP : Md P w K mg base 1 C "keep" ["self", "sender", "number"] (spKeep K C κ)) :
    FnOk P w K mg base CX0 2 f fd ["self", "sender", "number"] (spTakes K C κ) := by
  obtain ⟨tH, mH⟩ := W.heard
  obtain ⟨fW, fdW, GW, mW, bW⟩ := cW
  obtain ⟨fP, fdP, GP, mP, bP⟩ := cP
  refine F.ok scFTakes (fun vs H Q E h => ?_) (fun cdv A outer s H vs Q E hr h => ?_)
  · obtain ⟨p, q, sd, n, s, rfl, _⟩ := h
    rfl
  · obtain ⟨p, q, sd, n, s, rfl, hf, hk, hl, k⟩ := h
    have hr1 : Room 1 _ := hr
    obtain ⟨⟨dx, hp⟩, hq⟩ := id hf
    refine ⟨_, (pss_cons (ps_set (i := 3) scFTakes.nd rfl (Or.inl rfl) (pe_meth (pv 0) T.cl mW GW hr1 bW .nil pass0 (pa_cons (pv 1) (pa_cons (pv 2) pa_nil))))
       (pss_cons (ps_if (pt_cmpR op_eq (pv 3) (pe_glob (v := .str "heard") rfl mH ⟨_, rfl⟩) (nomark _))
       (pss_one (ps_expr (pe_meth (pv 0) T.cl mP GP hr1 bP .nil pass0 (pa_cons (pv 1) (pa_cons (pv 2) pa_nil)))))
       pss_nil)
       (pss_one (ps_ret (pv 3))))), ?_⟩
    refine ⟨_, rfl, p, dx, _, rfl, hp, fld1_ne (by decide), _, rfl, _, rfl, ?_⟩
    refine ⟨p, q, sd, n, s, rfl, hf, hk, fun H1 s1 => ?_⟩
    have hf1 := hf.same s1
    obtain ⟨⟨dx1, hp1⟩, hq1⟩ := id hf1
    refine ⟨_, rfl, rfl, _, rfl, ?_⟩
    refine ite2 (fun hc => ?_) (fun hc => ?_)
    · have e : s.word sd n = "heard" := by
        have := of_decide_eq_true hc
        injection this
      refine ⟨_, rfl, p, dx1, _, rfl, hp1, fld1_ne (by decide), _, rfl, _, rfl, ?_⟩
      refine ⟨p, q, sd, n, s, rfl, hf1, hk, e, hl, fun H2 q' hq' k2 f2 => ?_⟩
      refine ⟨_, rfl, k H2 q' (hq'.imp id fun z => ?_) ((Kp.of s1).trans k2) ?_⟩
      · cases e0 : H q' with
        | none => rfl
        | some o =>
          rw [s1 _ _ e0] at z
          cases z
      · unfold FS.take
        rw [if_pos e]
        exact f2
    · have e : ¬ s.word sd n = "heard" := fun z => hc (by rw [z]; rfl)
      refine ⟨_, rfl, k H1 q (.inl rfl) (Kp.of s1) ?_⟩
      unfold FS.take
      rw [if_neg e]
      exact hf1
def nmK : Kd → Str
  | .pl => "loose"
  | .on => "once"
  | .tu => "row"
def spFof (K : PySem.W.Frag) (C : Kd → Addr) : Sp := fun vs H Q _ => ∃ κ : Kd, vs = [.str (nmK κ)] ∧
  ∀ (H' : Hp) (p q : Addr), H p = none → H q = none → Same H H' → FAt K (C κ) H' p q (.init κ) → Q (.ref p) H'
theorem scFof : FnScope ["kind"] ["kind"] (defScope sFof) := ⟨rfl, rfl, rfl, by decide +kernel, rfl, by decide +kernel, by decide +kernel⟩
theorem ok_fof {f fL fO fT : Addr} {fd fdL fdO fdT : FuncData} {C : Kd → Addr} (F : Fun K "filter_of" "filter_of" sFof f fd)
    (ML : Mk K (C .pl) fL) (GL : FnOk P w K mg base CX0 1 fL fdL ["self"] (spFInit K (C .pl) .pl)) (bL : Binds K fdL ["self"] []) (mgL : mg "Loose" = some (.ref (C .pl)))
    (MO : Mk K (C .on) fO) (GO : FnOk P w K mg base CX0 1 fO fdO ["self"] (spFInit K (C .on) (.on []))) (bO : Binds K fdO ["self"] []) (mgO : mg "Once" = some (.ref (C .on)))
    (MT : Mk K (C .tu) fT) (GT : FnOk P w K mg base CX0 1 fT fdT ["self"] (spFInit K (C .tu) (.tu []))) (bT : Binds K fdT ["self"] []) (mgT : mg "Turn" = some (.ref (C .tu))) :
    FnOk P w K mg base CX0 3 f fd ["kind"] (spFof K C) := by
  refine F.ok scFof (fun vs H Q E h => ?_) (fun cdv A outer s H vs Q E hr h => ?_)
  · obtain ⟨κ, rfl, _⟩ := h
    rfl
  · obtain ⟨κ, rfl, k⟩ := h
    have made : ∀ (κ' : Kd), κ' = κ → ∀ x dx, H x = none → H dx = none → dx ≠ x → ∀ (H' : Hp) (q : Addr), upd (upd H dx (.own x)) x (.ins (C κ') dx []) q = none → Kp [x] (upd (upd H dx (.own x)) x (.ins (C κ') dx [])) H' → FAt K (C κ') H' x q (.init κ') → Q (.ref x) H' := by
      rintro κ' rfl x dx hx hdx ndx H' q hq kq f
      have s1 : Same H (upd (upd H dx (.own x)) x (.ins (C κ') dx [])) := ((L2.Same.refl H).new hdx).wrn hx
      refine k H' x q hx ?_ (fun b o e => kq _ _ (nin1 (ne_of_none e hx)) (s1 _ _ e)) f
      cases e : H q with
      | none => rfl
      | some o =>
        rw [s1 _ _ e] at hq
        cases hq
    refine ⟨_, (pss_cons (ps_if (pt_cmpR op_eq (pv 0) pe_str (nomark _))
       (pss_one (ps_ret (pe_make0 MO GO hr rfl mgO bO .nil pass0)))
       pss_nil)
       (pss_cons (ps_if (pt_cmpR op_eq (pv 0) pe_str (nomark _))
       (pss_one (ps_ret (pe_make0 MT GT hr rfl mgT bT .nil pass0)))
       pss_nil)
       (pss_one (ps_ret (pe_make0 ML GL hr rfl mgL bL .nil pass0))))), ?_⟩
    cases κ with
    | pl =>
      refine ⟨_, rfl, rfl, _, rfl, iteF ?_⟩
      refine ⟨_, rfl, rfl, _, rfl, iteF ?_⟩
      intro x dx hx hdx ndx
      exact ⟨x, dx, rfl, upd_same, fun H' q hq kq f => ⟨rfl, made .pl rfl x dx hx hdx ndx H' q hq kq f⟩⟩
    | on =>
      refine ⟨_, rfl, rfl, _, rfl, iteT ?_⟩
      intro x dx hx hdx ndx
      exact ⟨x, dx, rfl, upd_same, fun H' q hq kq f => ⟨rfl, made .on rfl x dx hx hdx ndx H' q hq kq f⟩⟩
    | tu =>
      refine ⟨_, rfl, rfl, _, rfl, iteF ?_⟩
      refine ⟨_, rfl, rfl, _, rfl, iteT ?_⟩
      intro x dx hx hdx ndx
      exact ⟨x, dx, rfl, upd_same, fun H' q hq kq f => ⟨rfl, made .tu rfl x dx hx hdx ndx H' q hq kq f⟩⟩
end
end Wn

namespace Wn
open PySem L2
abbrev PL := List (Int × Int)
def stepF (st : FS × PL) (e : Int × Int) : FS × PL := if st.1.word e.1 e.2 = "heard" then (st.1.keep e.1 e.2, st.2 ++ [e]) else st
def runF (s0 : FS) (L : PL) : FS × PL := L.foldl stepF (s0, [])
theorem runF_snoc (s0 : FS) (L : PL) (e : Int × Int) : runF s0 (L ++ [e]) = stepF (runF s0 L) e := by
  unfold runF
  rw [List.foldl_append]
  rfl
theorem stepF_fst (st : FS × PL) (e : Int × Int) : (stepF st e).1 = st.1.take e.1 e.2 := by
  unfold stepF FS.take
  split <;> rfl
theorem stepF_snd (st : FS × PL) (e : Int × Int) : (stepF st e).2 = if st.1.word e.1 e.2 = "heard" then st.2 ++ [e] else st.2 := by
  unfold stepF
  split <;> rfl
theorem fold_len (L : PL) : ∀ st : FS × PL, (L.foldl stepF st).1.len ≤ st.1.len + L.length ∧ (L.foldl stepF st).2.length ≤ st.2.length + L.length ∧ (L.foldl stepF st).1.kd = st.1.kd := by
  induction L with
  | nil => exact fun st => ⟨Nat.le_refl _, Nat.le_refl _, rfl⟩
  | cons e L ih =>
    intro st
    rw [List.foldl_cons, List.length_cons]
    obtain ⟨h1, h2, h3⟩ := ih (stepF st e)
    have h4 := FS.len_take st.1 e.1 e.2
    have h5 := FS.kd_take st.1 e.1 e.2
    rw [← stepF_fst] at h4 h5
    have h6 : (stepF st e).2.length ≤ st.2.length + 1 := by
      rw [stepF_snd]
      split
      · rw [List.length_append]
        exact Nat.le_refl _
      · omega
    exact ⟨by omega, by omega, h3.trans h5⟩
theorem fold_pl : ∀ (L A : PL), L.foldl stepF (.pl, A) = (.pl, A ++ L)
  | [], A => by rw [List.append_nil]; rfl
  | e :: L, A => by
    rw [List.foldl_cons]
    show L.foldl stepF (.pl, A ++ [e]) = _
    rw [fold_pl L, List.append_assoc]
    rfl
theorem run_pl (L : PL) : (runF (.init .pl) L).2 = L := by
  show (L.foldl stepF (.pl, [])).2 = L
  rw [fold_pl]
  rfl
theorem fold_on : ∀ (L A : PL), A.Nodup → ∃ B : PL, L.foldl stepF (.on A, A) = (.on B, B) ∧ B.Nodup ∧ (∀ e, e ∈ B ↔ e ∈ A ∨ e ∈ L) ∧ ((A ++ L).Nodup → B = A ++ L)
  | [], A, h => ⟨A, rfl, h, fun e => by simp, fun _ => (List.append_nil A).symm⟩
  | e :: L, A, h => by
    rw [List.foldl_cons]
    by_cases he : e ∈ A
    · have e1 : stepF (.on A, A) e = (.on A, A) := by
        have hw : (FS.on A).word e.1 e.2 = "again" := by
          rw [word_on, if_pos he]
        unfold stepF
        rw [if_neg (by show ¬ (FS.on A).word e.1 e.2 = "heard"; rw [hw]; decide)]
      rw [e1]
      obtain ⟨B, h1, h2, h3, h4⟩ := fold_on L A h
      refine ⟨B, h1, h2, fun x => ?_, fun hn => ?_⟩
      · rw [h3 x, List.mem_cons]
        constructor
        · rintro (z | z)
          · exact .inl z
          · exact .inr (.inr z)
        · rintro (z | rfl | z)
          · exact .inl z
          · exact .inl he
          · exact .inr z
      · rw [List.nodup_append] at hn
        exact absurd rfl (hn.2.2 e he e List.mem_cons_self)
    · have e1 : stepF (.on A, A) e = (.on (A ++ [e]), A ++ [e]) := by
        have hw : (FS.on A).word e.1 e.2 = "heard" := by
          rw [word_on, if_neg he]
        unfold stepF
        rw [if_pos (show (FS.on A, A).1.word e.1 e.2 = "heard" from hw)]
        rfl
      rw [e1]
      have hA : (A ++ [e]).Nodup := by
        rw [List.nodup_append]
        refine ⟨h, by simp, fun a ha b hb => ?_⟩
        rw [List.mem_singleton] at hb
        subst hb
        exact fun z => he (z ▸ ha)
      obtain ⟨B, h1, h2, h3, h4⟩ := fold_on L (A ++ [e]) hA
      refine ⟨B, h1, h2, fun x => ?_, fun hn => ?_⟩
      · rw [h3 x, List.mem_append, List.mem_singleton, List.mem_cons, or_assoc]
      · have e2 : A ++ e :: L = A ++ [e] ++ L := by simp
        rw [e2] at hn ⊢
        exact h4 hn
theorem run_on (L : PL) : (runF (.init .on) L).2.Nodup ∧ (∀ e, e ∈ (runF (.init .on) L).2 ↔ e ∈ L) ∧ (L.Nodup → (runF (.init .on) L).2 = L) := by
  obtain ⟨B, h1, h2, h3, h4⟩ := fold_on L [] List.nodup_nil
  have e : runF (.init .on) L = (.on B, B) := h1
  rw [e]
  exact ⟨h2, fun e => by rw [h3 e]; simp, fun h => h4 h⟩
def numsOf (A : PL) (s : Int) : List Int := (A.filter fun e => decide (e.1 = s)).map (·.2)
theorem numsOf_snoc_eq (A : PL) (e : Int × Int) : numsOf (A ++ [e]) e.1 = numsOf A e.1 ++ [e.2] := by
  unfold numsOf
  rw [List.filter_append, List.map_append]
  congr 1
  simp
theorem numsOf_snoc_ne {s : Int} (A : PL) (e : Int × Int) (h : ¬ e.1 = s) : numsOf (A ++ [e]) s = numsOf A s := by
  unfold numsOf
  rw [List.filter_append, List.map_append]
  simp [h]
theorem mem_nums {A : PL} {s n : Int} : n ∈ numsOf A s ↔ (s, n) ∈ A := by
  unfold numsOf
  rw [List.mem_map]
  constructor
  · rintro ⟨e, he, rfl⟩
    rw [List.mem_filter] at he
    have := of_decide_eq_true he.2
    subst this
    exact he.1
  · intro h
    exact ⟨(s, n), List.mem_filter.mpr ⟨h, decide_eq_true rfl⟩, rfl⟩
/-- what the row filter's list A is for the letters L that came -/
structure RowOk (m : PL) (A L : PL) : Prop where
  look : ∀ s, lookA m s = (numsOf A s).getLast?
  rise : ∀ s, (numsOf A s).Pairwise (· < ·)
  first : ∀ s, (numsOf A s).head? = (numsOf L s).head?
  most : ∀ s n, n ∈ numsOf L s → ∃ k, (numsOf A s).getLast? = some k ∧ n ≤ k
  sub : ∀ e ∈ A, e ∈ L
theorem pw_snoc {l : List Int} {x : Int} (h : l.Pairwise (· < ·)) (hx : ∀ k, l.getLast? = some k → k < x) : (l ++ [x]).Pairwise (· < ·) := by
  rw [List.pairwise_append]
  refine ⟨h, by simp, fun a ha b hb => ?_⟩
  rw [List.mem_singleton] at hb
  subst hb
  cases e : l.getLast? with
  | none =>
    rw [List.getLast?_eq_none_iff] at e
    subst e
    cases ha
  | some k =>
    have hk := hx k e
    obtain ⟨ys, rfl⟩ := List.getLast?_eq_some_iff.mp e
    rw [List.mem_append, List.mem_singleton] at ha
    rcases ha with ha | rfl
    · have := (List.pairwise_append.mp h).2.2 a ha k (List.mem_singleton.mpr rfl)
      omega
    · exact hk
theorem tu_word {m : PL} {s n : Int} : (FS.tu m).word s n = "heard" ↔ ∀ k, lookA m s = some k → k < n := by
  rw [word_tu]
  cases e : lookA m s with
  | none => exact ⟨fun _ k z => (by cases z), fun _ => rfl⟩
  | some k =>
    simp only [Option.some.injEq]
    by_cases h : n ≤ k
    · rw [if_pos h]
      constructor
      · intro z
        exact absurd z (by decide)
      · intro z
        have := z k rfl
        omega
    · rw [if_neg h]
      simp only [true_iff]
      omega
theorem RowOk.step {m A L : PL} (R : RowOk m A L) (e : Int × Int) : ∃ m' A', stepF (.tu m, A) e = (.tu m', A') ∧ RowOk m' A' (L ++ [e]) ∧ ((∀ k, (numsOf A e.1).getLast? = some k → k < e.2) → A' = A ++ [e]) := by
  unfold stepF
  have hw := tu_word (m := m) (s := e.1) (n := e.2)
  rw [R.look] at hw
  by_cases h : ∀ k, (numsOf A e.1).getLast? = some k → k < e.2
  · simp only [if_pos (hw.mpr h)]
    refine ⟨putA m e.1 e.2, A ++ [e], rfl, ⟨fun s => ?_, fun s => ?_, fun s => ?_, fun s n hn => ?_, fun x hx => ?_⟩, fun _ => rfl⟩
    · rw [lookA_put]
      by_cases es : s = e.1
      · subst es
        rw [if_pos rfl, numsOf_snoc_eq, List.getLast?_concat]
      · rw [if_neg es, numsOf_snoc_ne _ _ (fun z => es z.symm)]
        exact R.look s
    · by_cases es : e.1 = s
      · subst es
        rw [numsOf_snoc_eq]
        exact pw_snoc (R.rise _) h
      · rw [numsOf_snoc_ne _ _ es]
        exact R.rise s
    · by_cases es : e.1 = s
      · subst es
        rw [numsOf_snoc_eq, numsOf_snoc_eq, List.head?_append, List.head?_append, R.first]
      · rw [numsOf_snoc_ne _ _ es, numsOf_snoc_ne _ _ es]
        exact R.first s
    · by_cases es : e.1 = s
      · subst es
        rw [numsOf_snoc_eq] at hn ⊢
        rw [List.getLast?_concat]
        refine ⟨e.2, rfl, ?_⟩
        rw [List.mem_append, List.mem_singleton] at hn
        rcases hn with hn | hn
        · obtain ⟨k, h1, h2⟩ := R.most _ n hn
          have := h k h1
          omega
        · omega
      · rw [numsOf_snoc_ne _ _ es] at hn ⊢
        exact R.most s n hn
    · rw [List.mem_append] at hx ⊢
      exact hx.imp (R.sub x) id
  · simp only [if_neg (fun z => h (hw.mp z))]
    refine ⟨m, A, rfl, ⟨R.look, R.rise, fun s => ?_, fun s n hn => ?_, fun x hx => List.mem_append_left _ (R.sub x hx)⟩, fun z => absurd z h⟩
    · by_cases es : e.1 = s
      · subst es
        rw [numsOf_snoc_eq, List.head?_append, ← R.first]
        cases e1 : (numsOf A e.1).head? with
        | some _ => rfl
        | none =>
          rw [List.head?_eq_none_iff] at e1
          exact absurd (fun k hk => by rw [e1] at hk; cases hk) h
      · rw [numsOf_snoc_ne _ _ es]
        exact R.first s
    · by_cases es : e.1 = s
      · subst es
        rw [numsOf_snoc_eq, List.mem_append, List.mem_singleton] at hn
        rcases hn with hn | rfl
        · exact R.most _ n hn
        · cases e1 : (numsOf A e.1).getLast? with
          | none => exact absurd (fun k hk => by rw [e1] at hk; cases hk) h
          | some k =>
            refine ⟨k, rfl, ?_⟩
            by_cases hk : e.2 ≤ k
            · exact hk
            · exact absurd (fun j hj => by rw [e1] at hj; cases hj; omega) h
      · rw [numsOf_snoc_ne _ _ es] at hn
        exact R.most s n hn
theorem fold_tu : ∀ (L A L0 m : PL), RowOk m A L0 → ∃ m' A', L.foldl stepF (.tu m, A) = (.tu m', A') ∧ RowOk m' A' (L0 ++ L) ∧ (((A ++ L).map (·.2)).Pairwise (· < ·) → A' = A ++ L)
  | [], A, L0, m, R => ⟨m, A, rfl, by rw [List.append_nil]; exact R, fun _ => (List.append_nil A).symm⟩
  | e :: L, A, L0, m, R => by
    rw [List.foldl_cons]
    obtain ⟨m1, A1, h1, R1, h2⟩ := R.step e
    rw [h1]
    obtain ⟨m2, A2, h3, R2, h4⟩ := fold_tu L A1 (L0 ++ [e]) m1 R1
    rw [List.append_assoc] at R2
    refine ⟨m2, A2, h3, R2, fun hp => ?_⟩
    have e2 : A ++ e :: L = A ++ [e] ++ L := by simp
    have e1 : A1 = A ++ [e] := h2 fun k hk => by
      have hm : k ∈ numsOf A e.1 := List.mem_of_getLast? hk
      rw [mem_nums] at hm
      rw [List.map_append, List.pairwise_append] at hp
      exact hp.2.2 k (List.mem_map.mpr ⟨_, hm, rfl⟩) e.2 (by rw [List.map_cons]; exact List.mem_cons_self)
    subst e1
    rw [e2] at hp ⊢
    exact h4 hp
theorem run_tu (L : PL) : ∃ m, RowOk m (runF (.init .tu) L).2 L ∧ ((L.map (·.2)).Pairwise (· < ·) → (runF (.init .tu) L).2 = L) := by
  obtain ⟨m, A, h1, R, h2⟩ := fold_tu L [] [] [] ⟨fun _ => rfl, fun _ => List.Pairwise.nil, fun _ => rfl, (fun _ _ h => by cases h), (fun _ h => by cases h)⟩
  have e : runF (.init .tu) L = (.tu m, A) := h1
  rw [e]
  exact ⟨m, R, h2⟩
def p2D (e : Int × Int) : PyData := .tuple [.int e.1, .int e.2]
theorem p2D_inv {K : PySem.W.Frag} {H : Hp} {e : Int × Int} {u : V} (r : Rp K H (p2D e) u) : ∃ a, u = .ref a ∧ SqT K H a [.int e.1, .int e.2] := by
  unfold p2D Rp at r
  obtain ⟨a, xs, rfl, ha, hl⟩ := r
  unfold RpL at hl
  obtain ⟨v0, r0, rfl, h0, hl⟩ := hl
  unfold RpL at hl
  obtain ⟨v1, r1, rfl, h1, hl⟩ := hl
  unfold RpL at hl
  subst hl
  unfold Rp at h0 h1
  subst h0 h1
  exact ⟨a, rfl, ha⟩
theorem RpL.perm {β : Type} {enc : β → PyData} {K : PySem.W.Frag} {H : Hp} {xs ys : List V} (p : ys.Perm xs) : ∀ L : List β, RpL K H (L.map enc) xs → ∃ L' : List β, L'.Perm L ∧ RpL K H (L'.map enc) ys := by
  induction p with
  | nil =>
    intro L h
    exact ⟨L, .refl _, h⟩
  | @cons x l1 l2 p ih =>
    intro L h
    cases L with
    | nil =>
      rw [List.map_nil] at h
      unfold RpL at h
      cases h
    | cons b L =>
      rw [List.map_cons] at h
      unfold RpL at h
      obtain ⟨v, r, e, h1, h2⟩ := h
      cases e
      obtain ⟨L', p', h'⟩ := ih L h2
      exact ⟨b :: L', p'.cons b, RpL.cons h1 h'⟩
  | @swap x y l =>
    intro L h
    cases L with
    | nil =>
      rw [List.map_nil] at h
      unfold RpL at h
      cases h
    | cons b L =>
      rw [List.map_cons] at h
      unfold RpL at h
      obtain ⟨v, r, e, h1, h2⟩ := h
      cases e
      cases L with
      | nil =>
        rw [List.map_nil] at h2
        unfold RpL at h2
        cases h2
      | cons c L =>
        rw [List.map_cons] at h2
        unfold RpL at h2
        obtain ⟨v, r, e, h3, h4⟩ := h2
        cases e
        exact ⟨c :: b :: L, .swap b c L, RpL.cons h3 (RpL.cons h1 h4)⟩
  | trans p1 p2 ih1 ih2 =>
    intro L h
    obtain ⟨L1, q1, h1⟩ := ih2 L h
    obtain ⟨L2, q2, h2⟩ := ih1 L1 h1
    exact ⟨L2, q2.trans q1, h2⟩
def cdP (e : Int × Int) : Int := e.1 * 64 + e.2
/-- two rows of pairs, both rising by their code, of the same pairs -/
theorem eq_of_code {X Y : PL} (b : ∀ e ∈ X, 0 ≤ e.2 ∧ e.2 < 64) (c : ∀ e ∈ Y, 0 ≤ e.2 ∧ e.2 < 64) (hX : X.Nodup) (hY : Y.Nodup) (sX : X.Pairwise fun x y => cdP x ≤ cdP y) (sY : Y.Pairwise fun x y => cdP x ≤ cdP y) (h : ∀ e, e ∈ X ↔ e ∈ Y) : X = Y := by
  have inj : ∀ x y : Int × Int, (0 ≤ x.2 ∧ x.2 < 64) → (0 ≤ y.2 ∧ y.2 < 64) → cdP x = cdP y → x = y := by
    intro x y hx hy e
    unfold cdP at e
    exact Prod.ext (by omega) (by omega)
  have rise : ∀ {Z : PL}, (∀ e ∈ Z, 0 ≤ e.2 ∧ e.2 < 64) → Z.Nodup → (Z.Pairwise fun x y => cdP x ≤ cdP y) → (Z.map cdP).Pairwise (· < ·) := by
    intro Z hb hn hs
    rw [List.pairwise_map]
    have hc := hs.and hn
    refine List.Pairwise.imp_of_mem (fun {x y} hx hy z => ?_) hc
    have : cdP x ≠ cdP y := fun e => z.2 (inj x y (hb x hx) (hb y hy) e)
    have := z.1
    omega
  have e : X.map cdP = Y.map cdP := by
    refine eq_of_lt _ _ (rise b hX sX) (rise c hY sY) fun z => ?_
    rw [List.mem_map, List.mem_map]
    constructor
    · rintro ⟨x, hx, rfl⟩
      exact ⟨x, (h x).mp hx, rfl⟩
    · rintro ⟨x, hx, rfl⟩
      exact ⟨x, (h x).mpr hx, rfl⟩
  clear h sX sY hX hY
  induction X generalizing Y with
  | nil =>
    cases Y with
    | nil => rfl
    | cons y Y => cases e
  | cons x X ih =>
    cases Y with
    | nil => cases e
    | cons y Y =>
      rw [List.map_cons, List.map_cons] at e
      injection e with e1 e2
      have := inj x y (b x List.mem_cons_self) (c y List.mem_cons_self) e1
      subst this
      rw [ih (fun z hz => b z (List.mem_cons_of_mem _ hz)) (fun z hz => c z (List.mem_cons_of_mem _ hz)) e2]
theorem shaped_p2 (L : PL) : SeqAt.shaped (.list (L.map p2D)) = true := by
  unfold SeqAt.shaped
  have h1 : ∀ L : PL, PyData.canLayAll0 (L.map p2D) = true := by
    intro L
    induction L with
    | nil => simp [PyData.canLayAll0]
    | cons e L ih => simp [PyData.canLayAll0, PyData.canLay0, p2D] at ih ⊢; exact ih
  have h2 : ∀ L : PL, PyData.depthAll (L.map p2D) ≤ 2 := by
    intro L
    induction L with
    | nil => simp [PyData.depthAll]
    | cons e L ih =>
      rw [List.map_cons]
      have e1 : PyData.depthAll [PyData.int e.1, PyData.int e.2] ≤ 1 := by simp [PyData.depthAll, PyData.depth]
      have e2 : PyData.depth (p2D e) ≤ 2 := by
        unfold p2D
        simp only [PyData.depth]
        omega
      simp only [PyData.depthAll]
      omega
  have h3 := h2 L
  rw [Bool.and_eq_true]
  refine ⟨by simp only [PyData.canLay0]; exact h1 L, decide_eq_true ?_⟩
  simp only [PyData.depth]
  omega
theorem shaped_p (e : Int × Int) : SeqAt.shaped (p2D e) = true := by
  unfold SeqAt.shaped
  rw [Bool.and_eq_true]
  refine ⟨by simp [PyData.canLay0, PyData.canLayAll0, p2D], decide_eq_true ?_⟩
  simp [PyData.depth, PyData.depthAll, p2D]
theorem eqv_p2 (x y : Int × Int) : PyData.eqv (p2D x) (p2D y) = decide (x = y) := by
  by_cases h : x = y
  · subst h
    rw [SeqAt.eqv_refl _ (SeqAt.canLay_of_shaped (shaped_p x)), decide_eq_true rfl]
  · rw [decide_eq_false h]
    have : ¬ (x.1 = y.1 ∧ x.2 = y.2) := fun z => h (Prod.ext z.1 z.2)
    simp only [p2D, PyData.eqv, PyData.eqvAll]
    simp
    omega
theorem any_p2 (e : Int × Int) : ∀ L : PL, ((L.map p2D).any fun z => PyData.eqv z (p2D e)) = decide (e ∈ L)
  | [] => rfl
  | x :: L => by
    rw [List.map_cons, List.any_cons, any_p2 e L, eqv_p2]
    by_cases h : x = e
    · simp [h]
    · have h2 : ¬ e = x := fun z => h z.symm
      simp [h, h2]
end Wn

namespace Wn
open PySem L2
abbrev sFRows : Stmt := inClass (top 5) 4
abbrev sFFresh : Stmt := inClass (top 5) 5
abbrev sFCopy : Stmt := inClass (top 5) 6
abbrev sLFresh : Stmt := inClass (top 6) 0
abbrev sORows : Stmt := inClass (top 7) 2
abbrev sOFresh : Stmt := inClass (top 7) 3
abbrev sTRows : Stmt := inClass (top 8) 2
abbrev sTFresh : Stmt := inClass (top 8) 3
def cdB (e : Int × Int) : Int := e.1 * 1000000 + e.2
def p2L (e : Int × Int) : List Int := [e.1, e.2]
theorem cd_eq (e : Int × Int) : TS.code 1000000 (p2L e) = cdB e := by
  show e.1 * 1000000 ^ 1 + (e.2 * 1000000 ^ 0 + 0) = e.1 * 1000000 + e.2
  have e1 : (1000000 : Int) ^ 1 = 1000000 := by decide
  have e0 : (1000000 : Int) ^ 0 = 1 := by decide
  rw [e1, e0, Int.mul_one, Int.add_zero]
def BdP (L : PL) : Prop := ∀ e ∈ L, 0 ≤ e.1 ∧ e.1 < 16 ∧ 0 ≤ e.2 ∧ e.2 < 1000000
theorem bd_of {e : Int × Int} (h : 0 ≤ e.1 ∧ e.1 < 16 ∧ 0 ≤ e.2 ∧ e.2 < 1000000) : TS.Bd 1000000 (p2L e) := by
  intro m hm
  unfold p2L at hm
  rcases List.mem_cons.mp hm with rfl | hm
  · omega
  · rw [List.mem_singleton] at hm
    subst hm
    omega
theorem on_hash {P : Program} {w : World} {L : PL} (b : BdP L) (h : L.Nodup) : ((L.map onE).map fun e => (tupleKind (mixKind P w)).hash e.1).Nodup := by
  unfold List.Nodup at h ⊢
  rw [List.pairwise_map, List.pairwise_map]
  refine List.Pairwise.imp_of_mem (fun {x y} hx hy ne e => ne ?_) h
  have b1 := b x hx
  have b2 := b y hy
  have := pair_hash_inj (P := P) (w := w) ⟨b1.1, by omega⟩ ⟨b1.2.2.1, by omega⟩ ⟨b2.1, by omega⟩ ⟨b2.2.2.1, by omega⟩ e
  exact Prod.ext this.1 this.2
/-- what rows are due -/
def RowsIs : FS → List PyData → Prop
  | .pl, ds => ds = []
  | .on L, ds => ∃ L' : PL, L'.Perm L ∧ (L'.Pairwise fun x y => cdB x ≤ cdB y) ∧ ds = L'.map p2D
  | .tu m, ds => ds = (sortI (m.map (·.1))).map fun k => p2D (k, (lookA m k).getD 0)
def Small : FS → Prop
  | .pl => True
  | .on L => BdP L ∧ L.Nodup ∧ L.length ≤ 60
  | .tu m => m.length ≤ 60
def spRowsF (K : PySem.W.Frag) (C : Addr) (κ : Kd) : Sp := fun vs H Q _ => ∃ (p q : Addr) (s : FS), vs = [.ref p] ∧ FAt K C H p q s ∧ s.kd = κ ∧ Small s ∧
  ∀ (H' : Hp) (v : V) (ds : List PyData), Same H H' → RowsIs s ds → Rp K H' (.tuple ds) v → Q v H'
def spFresh (K : PySem.W.Frag) (C : Addr) (s0 : FS) : Sp := fun vs H Q _ => ∃ (p : Addr), vs = [.ref p] ∧
  ∀ (H' : Hp) (p' q' : Addr), H p' = none → H q' = none → Same H H' → FAt K C H' p' q' s0 → Q (.ref p') H'
def spCopy (K : PySem.W.Frag) (C : Addr) (κ : Kd) : Sp := fun vs H Q _ => ∃ (p q : Addr) (s : FS), vs = [.ref p] ∧ FAt K C H p q s ∧ s.kd = κ ∧ Small s ∧
  ∀ (H' : Hp) (p' q' : Addr), H p' = none → H q' = none → Same H H' → FAt K C H' p' q' s → Q (.ref p') H'
structure FB (mg : Str → Option Value) : Prop where
  tuple : mg "tuple" = none
  sorted : mg "sorted" = none
  list : mg "list" = none
  dict : mg "dict" = none

section
variable {P : Program} {w : World} {K : PySem.W.Frag} {mg : Str → Option Value} {base : Heap}
theorem scFRows : FnScope ["self"] ["self"] (defScope sFRows) := ⟨rfl, rfl, rfl, by decide +kernel, rfl, by decide +kernel, by decide +kernel⟩
theorem ok_frows {f C : Addr} {fd : FuncData} (F : Fun K "rows" "Filter.rows" sFRows f fd) : FnOk P w K mg base CX0 1 f fd ["self"] (spRowsF K C .pl) := by
  refine F.ok scFRows (fun vs H Q E h => ?_) (fun cdv A outer s H vs Q E hr h => ?_)
  · obtain ⟨p, q, s, rfl, _⟩ := h
    rfl
  · obtain ⟨p, q, s, rfl, hf, hk, hs, k⟩ := h
    refine ⟨_, (pss_one (ps_ret (pe_tup pa_nil))), ?_⟩
    cases s with
    | on L => cases hk
    | tu m => cases hk
    | pl =>
      refine ⟨(by show 0 ≤ sizeLine; decide), fun t nt => ?_⟩
      exact k _ _ [] ((L2.Same.refl _).new nt) rfl (Rp.tup upd_same RpL.nil)
def mkSame {H H' : Hp} {x dx q C : Addr} (hx : H x = none) (hdx : H dx = none) (hq : upd (upd H dx (.own x)) x (.ins C dx []) q = none) (kq : Kp [x] (upd (upd H dx (.own x)) x (.ins C dx [])) H') : H q = none ∧ Same H H' := by
  have s1 : Same H (upd (upd H dx (.own x)) x (.ins C dx [])) := ((L2.Same.refl H).new hdx).wrn hx
  refine ⟨?_, fun b o e => kq _ _ (nin1 (ne_of_none e hx)) (s1 _ _ e)⟩
  cases e : H q with
  | none => rfl
  | some o =>
    rw [s1 _ _ e] at hq
    cases hq
theorem scFFresh : FnScope ["self"] ["self"] (defScope sFFresh) := ⟨rfl, rfl, rfl, by decide +kernel, rfl, by decide +kernel, by decide +kernel⟩
theorem ok_ffresh {f C fI : Addr} {fd fdI : FuncData} {s0 : FS} (F : Fun K "fresh" "Filter.fresh" sFFresh f fd) (M : Mk K C fI) (GI : FnOk P w K mg base CX0 1 fI fdI ["self"] (spFInit K C s0)) (bI : Binds K fdI ["self"] []) (mgC : mg "Filter" = some (.ref C)) :
    FnOk P w K mg base CX0 3 f fd ["self"] (spFresh K C s0) := by
  refine F.ok scFFresh (fun vs H Q E h => ?_) (fun cdv A outer s H vs Q E hr h => ?_)
  · obtain ⟨p, rfl, _⟩ := h
    rfl
  · obtain ⟨p, rfl, k⟩ := h
    have hr2 : Room 2 _ := hr
    refine ⟨_, (pss_one (ps_ret (pe_make0 M GI hr2 rfl mgC bI .nil pass0))), ?_⟩
    intro x dx hx hdx ndx
    refine ⟨x, dx, rfl, upd_same, fun H' q hq kq f => ⟨rfl, ?_⟩⟩
    have := mkSame hx hdx hq kq
    exact k H' x q hx this.1 this.2 f
theorem scLFresh : FnScope ["self"] ["self"] (defScope sLFresh) := ⟨rfl, rfl, rfl, by decide +kernel, rfl, by decide +kernel, by decide +kernel⟩
theorem ok_lfresh {f C fI : Addr} {fd fdI : FuncData} {s0 : FS} (F : Fun K "fresh" "Loose.fresh" sLFresh f fd) (M : Mk K C fI) (GI : FnOk P w K mg base CX0 1 fI fdI ["self"] (spFInit K C s0)) (bI : Binds K fdI ["self"] []) (mgC : mg "Loose" = some (.ref C)) :
    FnOk P w K mg base CX0 3 f fd ["self"] (spFresh K C s0) := by
  refine F.ok scLFresh (fun vs H Q E h => ?_) (fun cdv A outer s H vs Q E hr h => ?_)
  · obtain ⟨p, rfl, _⟩ := h
    rfl
  · obtain ⟨p, rfl, k⟩ := h
    have hr2 : Room 2 _ := hr
    refine ⟨_, (pss_one (ps_ret (pe_make0 M GI hr2 rfl mgC bI .nil pass0))), ?_⟩
    intro x dx hx hdx ndx
    refine ⟨x, dx, rfl, upd_same, fun H' q hq kq f => ⟨rfl, ?_⟩⟩
    have := mkSame hx hdx hq kq
    exact k H' x q hx this.1 this.2 f
theorem scOFresh : FnScope ["self"] ["self"] (defScope sOFresh) := ⟨rfl, rfl, rfl, by decide +kernel, rfl, by decide +kernel, by decide +kernel⟩
theorem ok_ofresh {f C fI : Addr} {fd fdI : FuncData} {s0 : FS} (F : Fun K "fresh" "Once.fresh" sOFresh f fd) (M : Mk K C fI) (GI : FnOk P w K mg base CX0 1 fI fdI ["self"] (spFInit K C s0)) (bI : Binds K fdI ["self"] []) (mgC : mg "Once" = some (.ref C)) :
    FnOk P w K mg base CX0 3 f fd ["self"] (spFresh K C s0) := by
  refine F.ok scOFresh (fun vs H Q E h => ?_) (fun cdv A outer s H vs Q E hr h => ?_)
  · obtain ⟨p, rfl, _⟩ := h
    rfl
  · obtain ⟨p, rfl, k⟩ := h
    have hr2 : Room 2 _ := hr
    refine ⟨_, (pss_one (ps_ret (pe_make0 M GI hr2 rfl mgC bI .nil pass0))), ?_⟩
    intro x dx hx hdx ndx
    refine ⟨x, dx, rfl, upd_same, fun H' q hq kq f => ⟨rfl, ?_⟩⟩
    have := mkSame hx hdx hq kq
    exact k H' x q hx this.1 this.2 f
theorem scTFresh : FnScope ["self"] ["self"] (defScope sTFresh) := ⟨rfl, rfl, rfl, by decide +kernel, rfl, by decide +kernel, by decide +kernel⟩
theorem ok_tfresh {f C fI : Addr} {fd fdI : FuncData} {s0 : FS} (F : Fun K "fresh" "Turn.fresh" sTFresh f fd) (M : Mk K C fI) (GI : FnOk P w K mg base CX0 1 fI fdI ["self"] (spFInit K C s0)) (bI : Binds K fdI ["self"] []) (mgC : mg "Turn" = some (.ref C)) :
    FnOk P w K mg base CX0 3 f fd ["self"] (spFresh K C s0) := by
  refine F.ok scTFresh (fun vs H Q E h => ?_) (fun cdv A outer s H vs Q E hr h => ?_)
  · obtain ⟨p, rfl, _⟩ := h
    rfl
  · obtain ⟨p, rfl, k⟩ := h
    have hr2 : Room 2 _ := hr
    refine ⟨_, (pss_one (ps_ret (pe_make0 M GI hr2 rfl mgC bI .nil pass0))), ?_⟩
    intro x dx hx hdx ndx
    refine ⟨x, dx, rfl, upd_same, fun H' q hq kq f => ⟨rfl, ?_⟩⟩
    have := mkSame hx hdx hq kq
    exact k H' x q hx this.1 this.2 f
theorem scFCopy : FnScope ["self", "found"] ["self"] (defScope sFCopy) := ⟨rfl, rfl, rfl, by decide +kernel, rfl, by decide +kernel, by decide +kernel⟩
theorem ok_fcopy {f C : Addr} {fd : FuncData} {κ : Kd} (F : Fun K "copy" "Filter.copy" sFCopy f fd) (T : FN K C) (B : FB mg) (hκ : κ ≠ .on) (cR : Md P w K mg base 3 C "fresh" ["self"] (spFresh K C (.init κ))) :
    FnOk P w K mg base CX0 4 f fd ["self"] (spCopy K C κ) := by
  obtain ⟨fR, fdR, GR, mR, bR⟩ := cR
  refine F.ok scFCopy (fun vs H Q E h => ?_) (fun cdv A outer s H vs Q E hr h => ?_)
  · obtain ⟨p, q, s, rfl, _⟩ := h
    rfl
  · obtain ⟨p, q, s, rfl, hf, hk, hs, k⟩ := h
    have hr3 : Room 3 _ := hr
    obtain ⟨⟨dx, hp⟩, hq⟩ := id hf
    refine ⟨_, (pss_cons (ps_set (i := 1) scFCopy.nd rfl (Or.inl rfl) (pe_meth0 (pv 0) T.cl mR GR hr3 bR .nil pass0))
       (pss_cons (ps_fld (pv 1) (pe_callTy call_dictD (by rfl) B.dict (by decide +kernel) (pa_cons (fldK (K := K) rfl (pv 0) rfl) pa_nil)) rfl)
       (pss_one (ps_ret (pv 1))))), ?_⟩
    refine ⟨_, rfl, p, dx, _, rfl, hp, fld1_ne (by decide), ?_⟩
    refine ⟨p, rfl, fun H1 p1 q1 np1 nq1 s1 f1 => ?_⟩
    obtain ⟨⟨dx1, hp1⟩, hq1⟩ := id f1
    obtain ⟨kvs, hq, mk⟩ : ∃ kvs, H q = some (.dK kvs) ∧ ∀ (H' : Hp) (d : Addr), TK H H' → H' d = some (.dK kvs) → FKn K H' d s := by
      cases s with
      | on L => exact absurd hk.symm hκ
      | pl => exact ⟨[], hq, fun H' d _ e => e⟩
      | tu m =>
        obtain ⟨kvs, hq, hm⟩ := (show DictAt PyData.int K H q m from hq)
        exact ⟨kvs, hq, fun H' d t e => ⟨kvs, e, hm.tk t⟩⟩
    refine ⟨_, rfl, p, C, dx, _, _, rfl, s1 _ _ hp, T.cl, T.nK, fld1, q, kvs, rfl, .inl (s1 _ _ hq), fun d nd => ?_⟩
    have n1 : p1 ≠ d := ne_of_none hp1 nd
    refine ⟨_, rfl, p1, C, dx1, _, rfl, (by rw [upd_ne n1]; exact hp1), T.cl, T.nK, (by show 1 < 1000; decide), ?_⟩
    rw [putF1]
    have sF : Same H (upd (upd H1 d (.dK kvs)) p1 (.ins C dx1 [("known", .ref d)])) := (s1.new nd).wrn np1
    refine ⟨_, rfl, k _ p1 d np1 ?_ sF ⟨⟨dx1, upd_same⟩, mk _ d (TK.of sF) (by rw [upd_ne n1.symm, upd_same])⟩⟩
    cases e : H d with
    | none => rfl
    | some o =>
      rw [s1 _ _ e] at nd
      cases nd
theorem ok_fcopyT {f C : Addr} {fd : FuncData} {κ : Kd} (F : Fun K "copy" "Filter.copy" sFCopy f fd) (T : FN K C) (B : FB mg) (hκ : κ = .on) (cR : Md P w K mg base 3 C "fresh" ["self"] (spFresh K C (.init κ))) :
    FnOk P w K mg base CX0 4 f fd ["self"] (spCopy K C κ) := by
  obtain ⟨fR, fdR, GR, mR, bR⟩ := cR
  refine F.ok scFCopy (fun vs H Q E h => ?_) (fun cdv A outer s H vs Q E hr h => ?_)
  · obtain ⟨p, q, s, rfl, _⟩ := h
    rfl
  · obtain ⟨p, q, s, rfl, hf, hk, hs, k⟩ := h
    have hr3 : Room 3 _ := hr
    obtain ⟨⟨dx, hp⟩, hq⟩ := id hf
    refine ⟨_, (pss_cons (ps_set (i := 1) scFCopy.nd rfl (Or.inl rfl) (pe_meth0 (pv 0) T.cl mR GR hr3 bR .nil pass0))
       (pss_cons (ps_fld (pv 1) (pe_callTy (dictTK (P := P) (w := w) rfl rfl hr.units) (by rfl) B.dict (by decide +kernel) (pa_cons (fldK (K := K) rfl (pv 0) rfl) pa_nil)) rfl)
       (pss_one (ps_ret (pv 1))))), ?_⟩
    refine ⟨_, rfl, p, dx, _, rfl, hp, fld1_ne (by decide), ?_⟩
    refine ⟨p, rfl, fun H1 p1 q1 np1 nq1 s1 f1 => ?_⟩
    obtain ⟨⟨dx1, hp1⟩, hq1⟩ := id f1
    subst hκ
    cases s with
    | pl => cases hk
    | tu m => cases hk
    | on L =>
      have hq : H q = some (.dT (L.map onE)) := hq
      refine ⟨_, rfl, p, C, dx, _, _, rfl, s1 _ _ hp, T.cl, T.nK, fld1, q, _, rfl, .inl (s1 _ _ hq), on_hash hs.1 hs.2.1, fun d nd => ?_⟩
      have n1 : p1 ≠ d := ne_of_none hp1 nd
      refine ⟨_, rfl, p1, C, dx1, _, rfl, (by rw [upd_ne n1]; exact hp1), T.cl, T.nK, (by show 1 < 1000; decide), ?_⟩
      rw [putF1]
      refine ⟨_, rfl, k _ p1 d np1 ?_ ?_ ⟨⟨dx1, upd_same⟩, by show upd _ _ _ d = _; rw [upd_ne n1.symm, upd_same]⟩⟩
      · cases e : H d with
        | none => rfl
        | some o =>
          rw [s1 _ _ e] at nd
          cases nd
      · exact (s1.new nd).wrn np1
/-- addresses of the key tuples -/
theorem keys_rp {H : Hp} : ∀ {L : PL} {bs : List Addr}, IsKeys H (L.map onE) bs → RpL K H (L.map p2D) (bs.map V.ref)
  | [], bs, h => by
    unfold IsKeys at h
    cases h
    exact RpL.nil
  | e :: L, bs, h => by
    unfold IsKeys at h
    rw [List.map_cons] at h
    cases h with
    | cons h1 h2 =>
      rw [List.map_cons, List.map_cons]
      exact RpL.cons (Rp.tup h1 (RpL.cons Rp.int (RpL.cons Rp.int RpL.nil))) (keys_rp h2)
theorem rise_of {H : Hp} : ∀ {L : PL} {ys : List V}, RpL K H (L.map p2D) ys → ys.Pairwise (fun x y => ∀ n m, TupI K H x n → TupI K H y m → TS.code 1000000 n ≤ TS.code 1000000 m) → L.Pairwise fun x y => cdB x ≤ cdB y
  | [], ys, r, p => List.Pairwise.nil
  | e :: L, ys, r, p => by
    rw [List.map_cons] at r
    unfold RpL at r
    obtain ⟨v, t, rfl, h1, h2⟩ := r
    rw [List.pairwise_cons] at p ⊢
    refine ⟨fun y hy => ?_, rise_of h2 p.2⟩
    obtain ⟨i, hi, ei⟩ := List.mem_iff_getElem.mp hy
    obtain ⟨u, hu, ru⟩ := RpL.get _ _ h2 i (p2D y) (by rw [List.getElem?_map, List.getElem?_eq_getElem hi, ei]; rfl)
    obtain ⟨a, rfl, ha⟩ := p2D_inv h1
    obtain ⟨b, rfl, hb⟩ := p2D_inv ru
    have := p.1 _ (List.mem_of_getElem? hu) (p2L e) (p2L y) ⟨a, rfl, ha⟩ ⟨b, rfl, hb⟩
    rw [cd_eq, cd_eq] at this
    exact this
/-- what sorted asks of a list of pairs -/
theorem tup_all {H : Hp} {L : PL} {xs : List V} (b : BdP L) (r : RpL K H (L.map p2D) xs) : ∀ x ∈ xs, ∃ ns, TupI K H x ns ∧ ns.length = 2 ∧ TS.Bd 1000000 ns := by
  intro x hx
  obtain ⟨i, hi, rfl⟩ := List.mem_iff_getElem.mp hx
  have hl := RpL.len _ _ r
  rw [List.length_map] at hl
  obtain ⟨v, ev, rv⟩ := RpL.get _ _ r i (p2D (L[i]'(by omega))) (by rw [List.getElem?_map, List.getElem?_eq_getElem (by omega)]; rfl)
  have ex : v = xs[i] := by
    rw [List.getElem?_eq_getElem hi] at ev
    exact (Option.some.inj ev).symm
  rw [← ex]
  obtain ⟨t, rfl, ht⟩ := p2D_inv rv
  exact ⟨p2L (L[i]'(by omega)), ⟨t, rfl, ht⟩, rfl, bd_of (b _ (List.getElem_mem _))⟩
theorem scORows : FnScope ["self"] ["self"] (defScope sORows) := ⟨rfl, rfl, rfl, by decide +kernel, rfl, by decide +kernel, by decide +kernel⟩
theorem ok_orows {f C : Addr} {fd : FuncData} (F : Fun K "rows" "Once.rows" sORows f fd) (T : FN K C) (B : FB mg) : FnOk P w K mg base CX0 1 f fd ["self"] (spRowsF K C .on) := by
  refine F.ok scORows (fun vs H Q E h => ?_) (fun cdv A outer s H vs Q E hr h => ?_)
  · obtain ⟨p, q, s, rfl, _⟩ := h
    rfl
  · obtain ⟨p, q, s, rfl, ⟨⟨dx, hp⟩, hq⟩, hk, hs, k⟩ := h
    refine ⟨_, (pss_one (ps_ret (pe_callTy (tupOfK (K := K) rfl) (by rfl) B.tuple PyProof.Rows.boot_tuple (pa_cons (pe_callB (sortUK (K := K) (d := 2) (B := 1000000) rfl (by decide)) (by rfl) B.sorted (by decide +kernel) (pa_cons (pe_callTy (call_list_dT rfl) (by rfl) B.list (by decide +kernel) (pa_cons (fldK (K := K) rfl (pv 0) rfl) pa_nil)) pa_nil)) pa_nil)))), ?_⟩
    cases s with
    | pl => cases hk
    | tu m => cases hk
    | on L =>
      have hq : H q = some (.dT (L.map onE)) := hq
      obtain ⟨hb, hn, hl⟩ := hs
      refine ⟨_, rfl, p, C, dx, _, _, rfl, hp, T.cl, T.nK, fld1, q, _, rfl, .inl hq, fun l bs nl ik => ?_⟩
      have s1 : Same H (upd H l (.lst (bs.map V.ref))) := (L2.Same.refl _).new nl
      have hl1 : upd H l (.lst (bs.map V.ref)) l = some (.lst (bs.map V.ref)) := upd_same
      have r0 := keys_rp (K := K) ik
      generalize upd H l (.lst (bs.map V.ref)) = H1 at s1 hl1
      have r1 := RpL.tk (TK.of s1) _ _ r0
      have lb := RpL.len _ _ r1
      rw [List.length_map, List.length_map] at lb
      refine ⟨l, _, rfl, SqL.of hl1, (by rw [List.length_map]; omega), tup_all hb r1, fun ys p1 perm pw np1 => ?_⟩
      obtain ⟨L', pL, rL⟩ := RpL.perm perm L r1
      have wL := rise_of rL pw
      have s2 : Same H1 (upd H1 p1 (.lst ys)) := (L2.Same.refl _).new np1
      have hp2 : upd H1 p1 (.lst ys) p1 = some (.lst ys) := upd_same
      generalize upd H1 p1 (.lst ys) = H2 at s2 hp2
      refine ⟨p1, ys, rfl, .inl ⟨SqL.of hp2, fun t nt => ?_⟩⟩
      have s3 : Same H2 (upd H2 t (.tup ys)) := (L2.Same.refl _).new nt
      exact k _ _ _ ((s1.trans s2).trans s3) ⟨L', pL, wL, rfl⟩ (Rp.tup upd_same (RpL.tk (TK.of (s2.trans s3)) _ _ rL))
theorem scTRows : FnScope ["self", "sender"] ["self"] (defScope sTRows) := ⟨rfl, rfl, rfl, by decide +kernel, rfl, by decide +kernel, by decide +kernel⟩
theorem ok_trows {f C : Addr} {fd : FuncData} (F : Fun K "rows" "Turn.rows" sTRows f fd) (T : FN K C) (B : FB mg) : FnOk P w K mg base CX0 1 f fd ["self"] (spRowsF K C .tu) := by
  refine F.ok scTRows (fun vs H Q E h => ?_) (fun cdv A outer s H vs Q E hr h => ?_)
  · obtain ⟨p, q, s, rfl, _⟩ := h
    rfl
  · obtain ⟨p, q, s, rfl, ⟨⟨dx, hp⟩, hq⟩, hk, hs, k⟩ := h
    have hu := hu_of hr
    refine ⟨_, (pss_one (ps_ret (pe_callTy (tupOfK (K := K) rfl) (by rfl) B.tuple PyProof.Rows.boot_tuple (pa_cons (pe_lc (own := [("sender", 1)]) (g := (gName 1)) (tt := tYes) rfl scTRows.nd (pi_list (pe_callB (sortIK (K := K) rfl) (by rfl) B.sorted (by decide +kernel) (pa_cons (pe_callTy (call_listD rfl) (by rfl) B.list (by decide +kernel) (pa_cons (fldK (K := K) rfl (pv 0) rfl) pa_nil)) pa_nil))) (blkOk_by (N := ["self", "sender"]) (sc := defScope sTRows) (by decide +kernel))
       (fun _ _ _ _ _ => (pg_name (i := 1) scTRows.nd rfl (Or.inl rfl))) (fun _ _ _ _ _ => pts_nil) (fun _ _ _ _ _ => (pe_tup (pa_cons (pv 1) (pa_cons (pe_dget hu (fldK (K := K) rfl (pv 0) rfl) (pv 1) (fun _ _ => rfl)) pa_nil))))) pa_nil)))), ?_⟩
    cases s with
    | pl => cases hk
    | on m => cases hk
    | tu m =>
      obtain ⟨kvs, hq, hm⟩ := (show DictAt PyData.int K H q m from hq)
      have hs : m.length ≤ 60 := hs
      refine ⟨_, rfl, p, C, dx, _, _, rfl, hp, T.cl, T.nK, fld1, q, kvs, rfl, .inl hq, fun l hl => ?_⟩
      have s1 : Same H (upd H l (.lst (kvs.map fun kv => kV kv.1))) := (L2.Same.refl H).new hl
      have hl1 : upd H l (.lst (kvs.map fun kv => kV kv.1)) l = some (.lst ((m.map (·.1)).map V.int)) := by rw [upd_same, hm.keys]
      generalize upd H l (.lst (kvs.map fun kv => kV kv.1)) = H1 at s1 hl1
      refine ⟨l, m.map (·.1), rfl, SqL.of hl1, fun ns' S perm rising hS => ?_⟩
      have hns : ns' = sortI (m.map (·.1)) := sortI_eq perm rising
      have s2 : Same H1 (upd H1 S (.lst (ns'.map V.int))) := (L2.Same.refl _).new hS
      have hS2 : upd H1 S (.lst (ns'.map V.int)) S = some (.lst (ns'.map V.int)) := upd_same
      generalize upd H1 S (.lst (ns'.map V.int)) = H2 at s2 hS2
      have s02 := s1.trans s2
      refine ⟨S, rfl, ⟨_, SqL.of hS2⟩, fun D hD => ?_⟩
      have lns : ns'.length ≤ 60 := by
        have := perm.length_eq
        rw [List.length_map] at this
        omega
      have rI : RpL K H2 (ns'.map PyData.int) (ns'.map V.int) := by
        clear hns hS2 hS perm rising lns
        induction ns' with
        | nil => exact RpL.nil
        | cons n ns ih => exact RpL.cons Rp.int ih
      refine mapD_it (K := K) (i := 1) (walk_list (a := S)) (fun H' s' => SqL.of (s' _ _ hS2)) (fun k => p2D (k, (lookA m k).getD 0)) rI hD (by omega) ?_ ?_
      · intro b x H' Q' hb rx s' hQ
        have ex := Rp.int_eq rx
        subst ex
        refine ⟨_, rfl, _, rfl, p, C, dx, _, _, rfl, s' _ _ (s02 _ _ hp), T.cl, T.nK, fld1, _, rfl, ?_⟩
        have hbm : b ∈ m.map (·.1) := perm.mem_iff.mp hb
        rcases hm.val (k := b) with ⟨e1, e2⟩ | ⟨y, v, e1, e2, r⟩
        · obtain ⟨z, e3, _⟩ := lookA_mem hbm
          rw [e1] at e3
          cases e3
        · have ev := Rp.int_eq r
          subst ev
          refine ⟨q, .int y, rfl, by rw [← e2]; exact DGet.k (k := Sum.inl b) (s' _ _ (s02 _ _ hq)), (by show 2 ≤ sizeLine; decide), fun t nt => ?_⟩
          refine hQ _ _ ((L2.Same.refl _).new nt) ?_
          show Rp K _ (p2D (b, (lookA m b).getD 0)) _
          rw [e1]
          exact Rp.tup upd_same (RpL.cons Rp.int (RpL.cons Rp.int RpL.nil))
      · intro H3 ys s3 hD3 rys
        refine ⟨D, ys, rfl, .inl ⟨SqL.of hD3, fun t nt => ?_⟩⟩
        have s4 : Same H3 (upd H3 t (.tup ys)) := (L2.Same.refl _).new nt
        rw [hns] at rys
        exact k _ _ _ ((s02.trans s3).trans s4) rfl (Rp.tup upd_same (RpL.tk (TK.of s4) _ _ rys))
end
end Wn

namespace Wn
open PySem L2
abbrev sDue : Stmt := top 15
abbrev sSieve : Stmt := top 16
abbrev sLRows : Stmt := top 17
inductive K4
  | lo | on | tu | pn
def K4.kd : K4 → Kd
  | .lo => .pl
  | .on => .on
  | .tu => .tu
  | .pn => .pl
def K4.nm : K4 → Str
  | .lo => "loose"
  | .on => "once"
  | .tu => "row"
  | .pn => "plain"
/-- what a filter knows, by what it heard -/
def StOk : FS → PL → Prop
  | .pl, L => BdP L
  | .on A, L => A = L ∧ BdP L ∧ L.Nodup
  | .tu m, L => BdP L ∧ (∀ s, lookA m s = (numsOf L s).getLast?) ∧ (∀ s, (numsOf L s).Pairwise (· < ·)) ∧ (m.map (·.1)).Nodup
theorem StOk.bd {s : FS} {L : PL} (h : StOk s L) : BdP L := by
  cases s with
  | pl => exact h
  | on A => exact h.2.1
  | tu m => exact h.1
theorem StOk.init (κ : Kd) : StOk (.init κ) [] := by
  have b : BdP [] := fun e he => by cases he
  cases κ with
  | pl => exact b
  | on => exact ⟨rfl, b, List.nodup_nil⟩
  | tu => exact ⟨b, fun _ => rfl, fun _ => List.Pairwise.nil, List.nodup_nil⟩
theorem StOk.keep {s : FS} {L : PL} (h : StOk s L) {sd n : Int} (hb : 0 ≤ sd ∧ sd < 16 ∧ 0 ≤ n ∧ n < 1000000) (hw : s.word sd n = "heard") : StOk (s.keep sd n) (L ++ [(sd, n)]) := by
  have b : BdP (L ++ [(sd, n)]) := fun e he => by
    rw [List.mem_append, List.mem_singleton] at he
    rcases he with he | rfl
    · exact h.bd e he
    · exact hb
  cases s with
  | pl => exact b
  | on A =>
    obtain ⟨rfl, _, hn⟩ := h
    refine ⟨rfl, b, ?_⟩
    have nin : (sd, n) ∉ A := fun z => by
      rw [word_on, if_pos z] at hw
      exact absurd hw (by decide)
    rw [List.nodup_append]
    refine ⟨hn, by simp, fun x hx y hy e => ?_⟩
    rw [List.mem_singleton] at hy
    rw [e, hy] at hx
    exact nin hx
  | tu m =>
    obtain ⟨_, hl, hr, hn⟩ := h
    have hw := tu_word.mp hw
    refine ⟨b, fun s => ?_, fun s => ?_, nodup_put hn⟩
    · show lookA (putA m sd n) s = _
      rw [lookA_put]
      by_cases es : s = sd
      · subst es
        rw [if_pos rfl, show numsOf (L ++ [(s, n)]) s = numsOf L s ++ [n] from numsOf_snoc_eq L (s, n), List.getLast?_concat]
      · rw [if_neg es, numsOf_snoc_ne L (sd, n) (fun z => es z.symm)]
        exact hl s
    · by_cases es : sd = s
      · subst es
        rw [show numsOf (L ++ [(sd, n)]) sd = numsOf L sd ++ [n] from numsOf_snoc_eq L (sd, n)]
        refine pw_snoc (hr sd) fun k hk => hw k ?_
        rw [hl sd]
        exact hk
      · rw [numsOf_snoc_ne L (sd, n) es]
        exact hr s
theorem nodup_len {α : Type} [DecidableEq α] : ∀ (l D : List α), l.Nodup → (∀ x ∈ l, x ∈ D) → l.length ≤ D.length
  | [], D, _, _ => Nat.zero_le _
  | x :: l, D, hn, h => by
    rw [List.nodup_cons] at hn
    have h1 := nodup_len l (D.erase x) hn.2 fun y hy => (List.mem_erase_of_ne (fun z => hn.1 (by rw [← z]; exact hy))).mpr (h y (List.mem_cons_of_mem _ hy))
    have h2 := h x List.mem_cons_self
    rw [List.length_erase_of_mem h2] at h1
    have := List.length_pos_of_mem h2
    rw [List.length_cons]
    omega
theorem StOk.small {s : FS} {L : PL} (h : StOk s L) (hl : L.length ≤ 60) : Small s := by
  cases s with
  | pl => trivial
  | on A =>
    obtain ⟨rfl, b, hn⟩ := h
    exact ⟨b, hn, hl⟩
  | tu m =>
    obtain ⟨b, hk, hr, hn⟩ := h
    show m.length ≤ 60
    have sub : ∀ x ∈ m.map (·.1), x ∈ (List.range 16).map (fun i : Nat => (i : Int)) := fun x hx => by
      obtain ⟨y, e, _⟩ := lookA_mem hx
      rw [hk] at e
      have := mem_nums.mp (List.mem_of_getLast? e)
      have := b _ this
      rw [List.mem_map]
      exact ⟨x.toNat, List.mem_range.mpr (by omega), by omega⟩
    have := nodup_len _ _ hn sub
    rw [List.length_map, List.length_map, List.length_range] at this
    omega
theorem StOk.len {s : FS} {L : PL} (h : StOk s L) (hl : L.length ≤ 60) : s.len ≤ 1000 := by
  have := h.small hl
  cases s with
  | pl => exact Nat.zero_le _
  | on A =>
    obtain ⟨rfl, _, _⟩ := h
    show A.length ≤ 1000
    omega
  | tu m =>
    have : m.length ≤ 60 := this
    show m.length ≤ 1000
    omega
theorem eq_of_cd {X Y : PL} (b : BdP X) (c : BdP Y) (hX : X.Nodup) (hY : Y.Nodup) (sX : X.Pairwise fun x y => cdB x ≤ cdB y) (sY : Y.Pairwise fun x y => cdB x ≤ cdB y) (h : ∀ e, e ∈ X ↔ e ∈ Y) : X = Y := by
  have inj : ∀ x y : Int × Int, (0 ≤ x.2 ∧ x.2 < 1000000) → (0 ≤ y.2 ∧ y.2 < 1000000) → cdB x = cdB y → x = y := by
    intro x y hx hy e
    unfold cdB at e
    exact Prod.ext (by omega) (by omega)
  have rise : ∀ {Z : PL}, BdP Z → Z.Nodup → (Z.Pairwise fun x y => cdB x ≤ cdB y) → (Z.map cdB).Pairwise (· < ·) := by
    intro Z hb hn hs
    rw [List.pairwise_map]
    have hc := hs.and hn
    refine List.Pairwise.imp_of_mem (fun {x y} hx hy z => ?_) hc
    have h1 := hb x hx
    have h2 := hb y hy
    have : cdB x ≠ cdB y := fun e => z.2 (inj x y (by omega) (by omega) e)
    have := z.1
    omega
  have e : X.map cdB = Y.map cdB := by
    refine eq_of_lt _ _ (rise b hX sX) (rise c hY sY) fun z => ?_
    rw [List.mem_map, List.mem_map]
    constructor
    · rintro ⟨x, hx, rfl⟩
      exact ⟨x, (h x).mp hx, rfl⟩
    · rintro ⟨x, hx, rfl⟩
      exact ⟨x, (h x).mpr hx, rfl⟩
  clear h sX sY hX hY
  induction X generalizing Y with
  | nil =>
    cases Y with
    | nil => rfl
    | cons y Y => cases e
  | cons x X ih =>
    cases Y with
    | nil => cases e
    | cons y Y =>
      rw [List.map_cons, List.map_cons] at e
      injection e with e1 e2
      have h1 := b x List.mem_cons_self
      have h2 := c y List.mem_cons_self
      have := inj x y (by omega) (by omega) e1
      subst this
      rw [ih (fun z hz => b z (List.mem_cons_of_mem _ hz)) (fun z hz => c z (List.mem_cons_of_mem _ hz)) e2]
theorem rows_one {s : FS} {L : PL} {ds ds' : List PyData} (h : StOk s L) (a : RowsIs s ds) (b : RowsIs s ds') : ds = ds' := by
  cases s with
  | pl => rw [show ds = [] from a, show ds' = [] from b]
  | tu m => rw [show ds = _ from a, show ds' = _ from b]
  | on A =>
    obtain ⟨rfl, hb, hn⟩ := h
    obtain ⟨X, pX, sX, rfl⟩ := a
    obtain ⟨Y, pY, sY, rfl⟩ := b
    rw [eq_of_cd (fun e he => hb e (pX.mem_iff.mp he)) (fun e he => hb e (pY.mem_iff.mp he)) (pX.nodup_iff.mpr hn) (pY.nodup_iff.mpr hn) sX sY fun e => by rw [pX.mem_iff, pY.mem_iff]]
def spDueF (K : PySem.W.Frag) : Sp := fun vs H Q _ => ∃ (κ : K4) (ha : Addr) (sd n : Int) (L : PL) (s : FS), vs = [.str κ.nm, .ref ha, .int sd, .int n] ∧ LstAt K H ha (L.map p2D) ∧ s.kd = κ.kd ∧ StOk s L ∧ L.length ≤ 60 ∧
  ∀ H' : Hp, Same H H' → Q (.str (s.word sd n)) H'
def spSieve (K : PySem.W.Frag) (C : K4 → Addr) : Sp := fun vs H Q _ => ∃ (κ : K4) (b : Bool), vs = [.str κ.nm, .bl b] ∧
  ∀ (H' : Hp) (p q : Addr), H p = none → H q = none → Same H H' → FAt K (C κ) H' p q (.init κ.kd) → Q (.ref p) H'
def spLRows (K : PySem.W.Frag) : Sp := fun vs H Q _ => ∃ (κ : K4) (ha : Addr) (L : PL) (s : FS), vs = [.str κ.nm, .ref ha] ∧ LstAt K H ha (L.map p2D) ∧ s.kd = κ.kd ∧ StOk s L ∧ L.length ≤ 60 ∧
  ∀ (H' : Hp) (v : V) (ds : List PyData), Same H H' → RowsIs s ds → Rp K H' (.tuple ds) v → Q v H'
structure LB (mg : Str → Option Value) : Prop where
  len : mg "len" = none
  range : mg "range" = none
  max : mg "max" = none
  sorted : mg "sorted" = none
  tuple : mg "tuple" = none
  list : mg "list" = none
  isinstance : mg "isinstance" = none

section
variable {P : Program} {w : World} {K : PySem.W.Frag} {mg : Str → Option Value} {base : Heap}
theorem at_none {M : List Addr} {H H' : Hp} {a : Addr} (k : Kp M H H') (n : a ∉ M) (h : H' a = none) : H a = none := by
  cases e : H a with
  | none => rfl
  | some o =>
    rw [k _ _ n e] at h
    cases h
/-- [p[1] for p in L if p[0] == s] -/
theorem nums_lc {i : Nat} {tt : TT} {te : TE} {σ : L2.St} {H2 : Hp} {S D : Addr} {xs : List V} {L : PL} {Qd : Hp → Prop} (s : Int) (hS : H2 S = some (.lst xs)) (hr : RpL K H2 (L.map p2D) xs) (hD : H2 D = none) (hl : L.length ≤ 1000000)
    (htt : ∀ (e : Int × Int) (x : V) (H' : Hp) (Q : Bool → Hp → Prop), Rp K H' (p2D e) x → Q (decide (e.1 = s)) H' → tt (σ.set i (some x)) H' Q)
    (hte : ∀ (e : Int × Int) (x : V) (H' : Hp) (Q : VK), Rp K H' (p2D e) x → Q (.int e.2) H' → te (σ.set i (some x)) H' Q)
    (hd : ∀ (H' : Hp), Same H2 H' → H' D = some (.lst ((numsOf L s).map V.int)) → Qd H') :
    ∃ W : Nat → Nat → Hp → Prop, (∃ m, W 0 m (upd H2 D (.lst []))) ∧ ∀ j m H, W j m H →
      ((Itl K S).stop j H ∧ Qd H) ∨ ((Itl K S).go j H ∧ ∃ Nx : Hp → Prop, (∀ H', Nx H' → ∃ m', m' < m ∧ W (j + 1) m' H') ∧ ∀ x H', (Itl K S).yld j H x H' → gName i x (wipe σ [i]) H' fun σ2 H2 => wipe σ2 [i] = wipe σ [i] ∧ tt σ2 H2 fun b H3 =>
        if b = true then te σ2 H3 fun y H4 => ∃ acc, H4 D = some (.lst acc) ∧ acc.length < sizeLine ∧ Nx (upd H4 D (.lst (acc ++ [y]))) else Nx H3) := by
  refine lc_list (K := K) (a := S) (xs := xs) (fun j H => Same H2 H ∧ H D = some (.lst ((numsOf (L.take j) s).map V.int)))
    ⟨(L2.Same.refl H2).new hD, upd_same⟩ (fun j H _ ⟨s, _⟩ => SqL.of (s _ _ hS)) ?_ ?_
  · rintro j x H3 hx ⟨s3, hD3⟩
    have hlen := RpL.len _ _ hr
    have hj : j < L.length := by
      have q := (List.getElem?_eq_some_iff.mp hx).1
      rw [hlen, List.length_map] at q
      exact q
    obtain ⟨v, ev, rv⟩ := RpL.get _ _ hr j (p2D L[j]) (by rw [List.getElem?_map, List.getElem?_eq_getElem hj]; rfl)
    have ex : v = x := Option.some.inj (ev.symm.trans hx)
    rw [ex] at rv
    have rx := Rp.tk (TK.of s3) _ _ rv
    show wipe ((wipe σ [i]).set i (some x)) [i] = wipe σ [i] ∧ _
    rw [set_wipe]
    refine ⟨wipe_set, ?_⟩
    have et : L.take (j + 1) = L.take j ++ [L[j]] := List.take_succ_eq_append_getElem hj
    refine htt L[j] x H3 _ rx ?_
    by_cases e : L[j].1 = s
    · rw [decide_eq_true e]
      refine iteT (hte L[j] x H3 _ rx ⟨_, hD3, ?_, s3.wrn hD, ?_⟩)
      · rw [List.length_map]
        unfold numsOf
        rw [List.length_map]
        have h1 := List.length_filter_le (fun e : Int × Int => decide (e.1 = s)) (L.take j)
        rw [List.length_take] at h1
        exact Nat.lt_of_le_of_lt (show _ ≤ 1000000 by omega) (by decide)
      · rw [upd_same, et, ← e, numsOf_snoc_eq, List.map_append]
        rfl
    · rw [decide_eq_false e]
      refine iteF ⟨s3, ?_⟩
      rw [et, numsOf_snoc_ne _ _ e]
      exact hD3
  · rintro H3 ⟨s3, hD3⟩
    have hlen := RpL.len _ _ hr
    rw [hlen, List.length_map, List.take_length] at hD3
    exact hd H3 s3 hD3
theorem nums_len (L : PL) (s : Int) : (numsOf L s).length ≤ L.length := by
  unfold numsOf
  rw [List.length_map]
  exact List.length_filter_le _ _
theorem dec_int {a b : Int} : decide (V.int a = V.int b) = decide (a = b) := decide_eq_decide.mpr ⟨fun h => by injection h, fun h => by rw [h]⟩
theorem shaped_ints (ns : List Int) : SeqAt.shaped (.list (ns.map PyData.int)) = true := by
  unfold SeqAt.shaped
  have h1 : ∀ ns : List Int, PyData.canLayAll0 (ns.map PyData.int) = true := by
    intro ns
    induction ns with
    | nil => simp [PyData.canLayAll0]
    | cons n ns ih => simp [PyData.canLayAll0, PyData.canLay0] at ih ⊢; exact ih
  have h2 : ∀ ns : List Int, PyData.depthAll (ns.map PyData.int) ≤ 1 := by
    intro ns
    induction ns with
    | nil => simp [PyData.depthAll]
    | cons n ns ih =>
      rw [List.map_cons]
      simp only [PyData.depthAll, PyData.depth]
      omega
  have h3 := h2 ns
  rw [Bool.and_eq_true]
  refine ⟨by simp only [PyData.canLay0]; exact h1 ns, decide_eq_true ?_⟩
  simp only [PyData.depth]
  omega

theorem room65 {k : Nat} {A : Around} (r : Room k A) : A.units + 65 < cLine := by have := r.un; omega
theorem scDue : FnScope ["_law_kind", "_law_heard", "_law_sender", "_law_number", "_law_later", "_law_pair"] ["_law_kind", "_law_heard", "_law_sender", "_law_number"] (defScope sDue) := ⟨rfl, rfl, rfl, by decide +kernel, rfl, by decide +kernel, by decide +kernel⟩
theorem ok_due {f : Addr} {fd : FuncData} (F : Fun K "_law_due" "_law_due" sDue f fd) (B : LB mg) : FnOk P w K mg base CX0 1 f fd ["_law_kind", "_law_heard", "_law_sender", "_law_number"] (spDueF K) := by
  refine F.ok scDue (fun vs H Q E h => ?_) (fun cdv A outer s H vs Q E hr h => ?_)
  · obtain ⟨κ, ha, sd, n, L, s, rfl, _⟩ := h
    rfl
  · obtain ⟨κ, ha, sd, n, L, s, rfl, hla, hk, hst, hl, k⟩ := h
    refine ⟨_, (pss_cons (ps_if (PW.pt (pw_and (pt_cmpR op_eq (pv 0) pe_str (nomark _)) (pw_and1 (pt_cmpR (inDK (K := K) rfl (room65 hr)) (pe_tup (pa_cons (pv 2) (pa_cons (pv 3) pa_nil))) (pv 1) (by rfl)))))
       (pss_one (ps_ret pe_str))
       pss_nil)
       (pss_cons (ps_setLc (i := 4) (own := [("_law_pair", 5)]) (g := (gName 5)) (tt := _) rfl scDue.nd rfl rfl (sw_true rfl rfl rfl (by decide +kernel)) (pi_list (pv 1)) (blkOk_by (N := ["_law_kind", "_law_heard", "_law_sender", "_law_number", "_law_later", "_law_pair"]) (sc := defScope sDue) (by decide +kernel))
       (fun _ _ _ _ _ => (pg_name (i := 5) scDue.nd rfl (Or.inl rfl))) (fun _ _ _ _ _ => (pts_one (PW.pt (pw_and (pt_cmpR op_eq (pe_ix (ixT (K := K) rfl) (pv 5) pe_int (fun _ _ => rfl)) (pv 2) (nomark _)) (pw_and1 (pt_cmpR op_ge (pe_ix (ixT (K := K) rfl) (pv 5) pe_int (fun _ _ => rfl)) (pv 3) (nomark _))))))) (fun _ _ _ _ _ => (pv 5)))
       (pss_cons (ps_if (PW.pt (pw_and (pt_cmpR op_eq (pv 0) pe_str (nomark _)) (pw_and1 (pt_cmpR op_gt (pe_callB (lenK (K := K) rfl) (by rfl) B.len PySem.boot_len (pa_cons (pv 4) pa_nil)) pe_int (nomark _)))))
       (pss_one (ps_ret pe_str))
       pss_nil)
       (pss_one (ps_ret pe_str))))), ?_⟩
    dsimp only [tNext]
    refine seq_if (fun σ' H' => σ' = [some (.str κ.nm), some (.ref ha), some (.int sd), some (.int n), none, none] ∧ Same H H' ∧ (κ = .on → s.word sd n = "heard")) ?rest (fun rest => ?_)
    case rest =>
      rintro σ' H1 ⟨rfl, s1, hw⟩
      obtain ⟨xs, hx, rx⟩ := hla.same s1
      refine ⟨_, rfl, ha, rfl, ⟨_, SqL.of hx⟩, fun D hD => ?_⟩
      refine filt_lc (K := K) (i := 5) (enc := p2D) (fun e => decide (e.1 = sd) && decide (n ≤ e.2)) hx rx hD (by show 5 < 6; decide) (by omega) ?_ ?_
      · intro e x H' Q' he re s' hQ
        obtain ⟨t, rfl, ht⟩ := p2D_inv re
        refine ⟨_, rfl, t, _, _, _, rfl, rfl, ht, rfl, _, rfl, rfl, _, rfl, ?_⟩
        refine ite2 (fun hc => ?_) (fun hc => ?_)
        · have h1 : e.1 = sd := by
            have := of_decide_eq_true hc
            injection this
          refine ⟨_, rfl, t, _, _, _, rfl, rfl, ht, rfl, _, rfl, _, _, rfl, rfl, _, rfl, ?_⟩
          have e2 : (decide (e.1 = sd) && decide (n ≤ e.2)) = decide (n ≤ e.2) := by rw [decide_eq_true h1, Bool.true_and]
          rw [e2] at hQ
          exact hQ
        · have h1 : ¬ e.1 = sd := fun z => hc (by rw [z]; exact decide_eq_true rfl)
          rw [decide_eq_false h1, Bool.false_and] at hQ
          exact hQ
      · intro H2 ys s2 hD2 rys
        have ly := RpL.len _ _ rys
        rw [List.length_map] at ly
        have k2 := k H2 (s1.trans s2)
        refine ⟨_, rfl, rfl, _, rfl, ?_⟩
        cases κ with
        | lo =>
          cases s with
          | on _ => cases hk
          | tu _ => cases hk
          | pl => exact iteF (iteF k2)
        | pn =>
          cases s with
          | on _ => cases hk
          | tu _ => cases hk
          | pl => exact iteF (iteF k2)
        | on =>
          rw [hw rfl] at k2
          exact iteF (iteF k2)
        | tu =>
          cases s with
          | on _ => cases hk
          | pl => cases hk
          | tu m =>
            refine iteT ?_
            refine ⟨_, rfl, _, ys.length, rfl, .inl ⟨_, SqL.of hD2, rfl⟩, _, _, rfl, rfl, _, rfl, ?_⟩
            obtain ⟨_, hlk, hrs, _⟩ := hst
            refine ite2 (fun hc => ?_) (fun hc => ?_)
            · have hc := of_decide_eq_true hc
              have ne : ¬ (FS.tu m).word sd n = "heard" := fun z => by
                have z := tu_word.mp z
                have hpos : 0 < (L.filter fun e => decide (e.1 = sd) && decide (n ≤ e.2)).length := by omega
                obtain ⟨e, he⟩ := List.exists_mem_of_length_pos hpos
                rw [List.mem_filter, Bool.and_eq_true, decide_eq_true_eq, decide_eq_true_eq] at he
                obtain ⟨h1, h2, h3⟩ := he
                have hm : e.2 ∈ numsOf L sd := mem_nums.mpr (by rw [← h2]; exact h1)
                cases e1 : (numsOf L sd).getLast? with
                | none =>
                  rw [List.getLast?_eq_none_iff] at e1
                  rw [e1] at hm
                  cases hm
                | some j =>
                  have h4 := z j (by rw [hlk]; exact e1)
                  have h5 := hrs sd
                  obtain ⟨zs, ez⟩ := List.getLast?_eq_some_iff.mp e1
                  rw [ez, List.mem_append, List.mem_singleton] at hm
                  rcases hm with hm | hm
                  · rw [ez] at h5
                    have := (List.pairwise_append.mp h5).2.2 e.2 hm j (List.mem_singleton.mpr rfl)
                    omega
                  · omega
              have e1 : (FS.tu m).word sd n = "late" := by
                rw [word_tu] at ne ⊢
                cases e2 : lookA m sd with
                | none =>
                  rw [e2] at ne
                  exact absurd rfl ne
                | some j =>
                  rw [e2] at ne
                  by_cases hj : n ≤ j
                  · exact if_pos hj
                  · exact absurd (if_neg hj) ne
              rw [e1] at k2
              exact k2
            · have hc : ¬ 0 < (ys.length : Int) := fun z => hc (decide_eq_true z)
              have e1 : (FS.tu m).word sd n = "heard" := tu_word.mpr fun j hj => by
                rw [hlk] at hj
                have hm := mem_nums.mp (List.mem_of_getLast? hj)
                have : ¬ (0 < (L.filter fun e => decide (e.1 = sd) && decide (n ≤ e.2)).length) := by omega
                by_cases hnj : n ≤ j
                · exact absurd (List.length_pos_of_mem (List.mem_filter.mpr ⟨hm, by simp [hnj]⟩)) this
                · omega
              rw [e1] at k2
              exact k2
    obtain ⟨xs, hx, rx⟩ := id hla
    refine ⟨_, rfl, rfl, _, rfl, ?_⟩
    cases κ with
    | lo => exact iteF (iteF (rest _ _ ⟨rfl, L2.Same.refl _, fun z => by cases z⟩))
    | pn => exact iteF (iteF (rest _ _ ⟨rfl, L2.Same.refl _, fun z => by cases z⟩))
    | tu => exact iteF (iteF (rest _ _ ⟨rfl, L2.Same.refl _, fun z => by cases z⟩))
    | on =>
      cases s with
      | pl => cases hk
      | tu _ => cases hk
      | on A =>
        obtain ⟨rfl, _, _⟩ := hst
        refine iteT ?_
        refine ⟨_, rfl, _, rfl, (by show 2 ≤ sizeLine; decide), fun t nt => ?_⟩
        have s1 : Same H (upd H t (.tup [.int sd, .int n])) := (L2.Same.refl _).new nt
        have rt : Rp K (upd H t (.tup [.int sd, .int n])) (p2D (sd, n)) (.ref t) := Rp.tup upd_same (RpL.cons Rp.int (RpL.cons Rp.int RpL.nil))
        refine ⟨_, rfl, _, _, Rp.dp _ _ rt, .lst (SqL.of (s1 _ _ hx)) (RpL.dp _ _ (RpL.tk (TK.of s1) _ _ rx)), shaped_p _, shaped_p2 _, _, rfl, ?_⟩
        rw [any_p2]
        have k1 := k _ s1
        rw [word_on] at k1
        by_cases hm : (sd, n) ∈ A
        · rw [decide_eq_true hm]
          rw [if_pos hm] at k1
          exact iteT k1
        · rw [decide_eq_false hm]
          exact iteF (rest _ _ ⟨rfl, s1, fun _ => by rw [word_on, if_neg hm]⟩)
theorem scSieve : FnScope ["_law_kind", "_law_by_hand"] ["_law_kind", "_law_by_hand"] (defScope sSieve) := ⟨rfl, rfl, rfl, by decide +kernel, rfl, by decide +kernel, by decide +kernel⟩
theorem ok_sieve {f fP fL fO fT : Addr} {fd fdP fdL fdO fdT : FuncData} {C : K4 → Addr} {Cf : Kd → Addr} (F : Fun K "_law_sieve" "_law_sieve" sSieve f fd) (hCf : Cf .pl = C .lo ∧ Cf .on = C .on ∧ Cf .tu = C .tu)
    (MP : Mk K (C .pn) fP) (GP : FnOk P w K mg base CX0 1 fP fdP ["self"] (spFInit K (C .pn) .pl)) (bP : Binds K fdP ["self"] []) (mgP : mg "Filter" = some (.ref (C .pn)))
    (ML : Mk K (C .lo) fL) (GL : FnOk P w K mg base CX0 1 fL fdL ["self"] (spFInit K (C .lo) .pl)) (bL : Binds K fdL ["self"] []) (mgL : mg "Loose" = some (.ref (C .lo)))
    (MO : Mk K (C .on) fO) (GO : FnOk P w K mg base CX0 1 fO fdO ["self"] (spFInit K (C .on) (.on []))) (bO : Binds K fdO ["self"] []) (mgO : mg "Once" = some (.ref (C .on)))
    (MT : Mk K (C .tu) fT) (GT : FnOk P w K mg base CX0 1 fT fdT ["self"] (spFInit K (C .tu) (.tu []))) (bT : Binds K fdT ["self"] []) (mgT : mg "Turn" = some (.ref (C .tu)))
    (cF : Cd P w K mg base 3 "filter_of" ["kind"] (spFof K Cf)) :
    FnOk P w K mg base CX0 4 f fd ["_law_kind", "_law_by_hand"] (spSieve K C) := by
  obtain ⟨fF, fdF, GF, mF, kF, bF⟩ := cF
  refine F.ok scSieve (fun vs H Q E h => ?_) (fun cdv A outer s H vs Q E hr h => ?_)
  · obtain ⟨κ, b, rfl, _⟩ := h
    rfl
  · obtain ⟨κ, b, rfl, k⟩ := h
    have hr3 : Room 3 _ := hr
    have hr2 : Room 2 _ := hr.mono (by decide)
    have made : ∀ x dx, H x = none → H dx = none → dx ≠ x → ∀ (H' : Hp) (q : Addr), upd (upd H dx (.own x)) x (.ins (C κ) dx []) q = none → Kp [x] (upd (upd H dx (.own x)) x (.ins (C κ) dx [])) H' → FAt K (C κ) H' x q (.init κ.kd) → Q (.ref x) H' :=
      fun x dx hx hdx _ H' q hq kq f => k H' x q hx (mkSame hx hdx hq kq).1 (mkSame hx hdx hq kq).2 f
    refine ⟨_, (pss_cons (ps_if (pt_cmpR op_eq (pv 0) pe_str (nomark _))
       (pss_one (ps_ret (pe_make0 MP GP hr2 rfl mgP bP .nil pass0)))
       pss_nil)
       (pss_cons (ps_if (pt_not (pt_val (pv 1)))
       (pss_one (ps_ret (pe_call GF hr3 rfl mF kF bF .nil pass0 (pa_cons (pv 0) pa_nil))))
       pss_nil)
       (pss_cons (ps_if (pt_cmpR op_eq (pv 0) pe_str (nomark _))
       (pss_one (ps_ret (pe_make0 ML GL hr2 rfl mgL bL .nil pass0)))
       pss_nil)
       (pss_cons (ps_if (pt_cmpR op_eq (pv 0) pe_str (nomark _))
       (pss_one (ps_ret (pe_make0 MO GO hr2 rfl mgO bO .nil pass0)))
       pss_nil)
       (pss_one (ps_ret (pe_make0 MT GT hr2 rfl mgT bT .nil pass0))))))), ?_⟩
    cases κ with
    | pn =>
      refine ⟨_, rfl, rfl, _, rfl, iteT ?_⟩
      intro x dx hx hdx ndx
      exact ⟨x, dx, rfl, upd_same, fun H' q hq kq f => ⟨rfl, made x dx hx hdx ndx H' q hq kq f⟩⟩
    | lo =>
      refine ⟨_, rfl, rfl, _, rfl, iteF ?_⟩
      cases b with
      | false =>
        refine ⟨_, rfl, _, rfl, iteT ?_⟩
        refine ⟨_, rfl, .pl, rfl, fun H' p q np nq s1 f1 => ?_⟩
        rw [hCf.1] at f1
        exact k H' p q np nq s1 f1
      | true =>
        refine ⟨_, rfl, _, rfl, iteF ?_⟩
        refine ⟨_, rfl, rfl, _, rfl, iteT ?_⟩
        intro x dx hx hdx ndx
        exact ⟨x, dx, rfl, upd_same, fun H' q hq kq f => ⟨rfl, made x dx hx hdx ndx H' q hq kq f⟩⟩
    | on =>
      refine ⟨_, rfl, rfl, _, rfl, iteF ?_⟩
      cases b with
      | false =>
        refine ⟨_, rfl, _, rfl, iteT ?_⟩
        refine ⟨_, rfl, .on, rfl, fun H' p q np nq s1 f1 => ?_⟩
        rw [hCf.2.1] at f1
        exact k H' p q np nq s1 f1
      | true =>
        refine ⟨_, rfl, _, rfl, iteF ?_⟩
        refine ⟨_, rfl, rfl, _, rfl, iteF ?_⟩
        refine ⟨_, rfl, rfl, _, rfl, iteT ?_⟩
        intro x dx hx hdx ndx
        exact ⟨x, dx, rfl, upd_same, fun H' q hq kq f => ⟨rfl, made x dx hx hdx ndx H' q hq kq f⟩⟩
    | tu =>
      refine ⟨_, rfl, rfl, _, rfl, iteF ?_⟩
      cases b with
      | false =>
        refine ⟨_, rfl, _, rfl, iteT ?_⟩
        refine ⟨_, rfl, .tu, rfl, fun H' p q np nq s1 f1 => ?_⟩
        rw [hCf.2.2] at f1
        exact k H' p q np nq s1 f1
      | true =>
        refine ⟨_, rfl, _, rfl, iteF ?_⟩
        refine ⟨_, rfl, rfl, _, rfl, iteF ?_⟩
        refine ⟨_, rfl, rfl, _, rfl, iteF ?_⟩
        intro x dx hx hdx ndx
        exact ⟨x, dx, rfl, upd_same, fun H' q hq kq f => ⟨rfl, made x dx hx hdx ndx H' q hq kq f⟩⟩
def lastOf (L : PL) (s : Int) : Int := ((numsOf L s).getLast?).getD 0
def sendersTo (L : PL) (i : Nat) : List Nat := (List.range i).filter fun s => decide (0 < (numsOf L (s : Int)).length)
theorem senders_eq {m L : PL} (h : StOk (.tu m) L) : (sendersTo L 16).map (fun s : Nat => p2D ((s : Int), lastOf L s)) = (sortI (m.map (·.1))).map fun k => p2D (k, (lookA m k).getD 0) := by
  obtain ⟨b, hk, hr, hn⟩ := h
  have e : (sendersTo L 16).map (fun s : Nat => (s : Int)) = sortI (m.map (·.1)) := by
    refine eq_of_lt _ _ ?_ (lt_of_nodup (sortI_sorted _) ((sortI_perm _).nodup_iff.mpr hn)) fun x => ?_
    · rw [List.pairwise_map]
      refine List.Pairwise.imp (fun h => ?_) (List.Pairwise.filter _ (List.pairwise_lt_range (n := 16)))
      omega
    · rw [(sortI_perm _).mem_iff, mem_keys, hk, List.mem_map]
      unfold sendersTo
      constructor
      · rintro ⟨s, hs, rfl⟩
        rw [List.mem_filter, decide_eq_true_eq] at hs
        cases e1 : (numsOf L (s : Int)).getLast? with
        | none =>
          rw [List.getLast?_eq_none_iff] at e1
          rw [e1] at hs
          exact absurd hs.2 (by decide)
        | some j => rfl
      · intro hx
        cases e1 : (numsOf L x).getLast? with
        | none =>
          rw [e1] at hx
          cases hx
        | some j =>
          have hm := List.mem_of_getLast? e1
          have h1 := b _ (mem_nums.mp hm)
          have ex : ((x.toNat : Nat) : Int) = x := by
            have := h1.1
            simp only at this
            omega
          refine ⟨x.toNat, ?_, ex⟩
          rw [List.mem_filter, decide_eq_true_eq, ex, List.mem_range]
          exact ⟨by have := h1.2.1; simp only at this; omega, List.length_pos_of_mem hm⟩
  rw [← e, List.map_map]
  refine List.map_congr_left fun s _ => ?_
  show p2D ((s : Int), lastOf L s) = p2D ((s : Int), (lookA m s).getD 0)
  rw [hk]
  rfl
theorem scLRows : FnScope ["_law_kind", "_law_heard", "_law_found", "_law_sender", "_law_numbers", "_law_pair"] ["_law_kind", "_law_heard"] (defScope sLRows) := ⟨rfl, rfl, rfl, by decide +kernel, rfl, by decide +kernel, by decide +kernel⟩
theorem ok_lrows {f : Addr} {fd : FuncData} (F : Fun K "_law_rows" "_law_rows" sLRows f fd) (B : LB mg) : FnOk P w K mg base CX0 1 f fd ["_law_kind", "_law_heard"] (spLRows K) := by
  refine F.ok scLRows (fun vs H Q E h => ?_) (fun cdv A outer s H vs Q E hr h => ?_)
  · obtain ⟨κ, ha, L, s, rfl, _⟩ := h
    rfl
  · obtain ⟨κ, ha, L, s, rfl, ⟨xs, hx, rx⟩, hk, hst, hl, k⟩ := h
    refine ⟨_, (pss_cons (ps_if (pt_cmpR (inSeqK (K := K) rfl) (pv 0) (pe_tup (pa_cons pe_str (pa_cons pe_str pa_nil))) (by rfl))
       (pss_one (ps_ret (pe_tup pa_nil)))
       pss_nil)
       (pss_cons (ps_if (pt_cmpR op_eq (pv 0) pe_str (nomark _))
       (pss_one (ps_ret (pe_callTy (tupOfK (K := K) rfl) (by rfl) B.tuple PyProof.Rows.boot_tuple (pa_cons (pe_callB (sortUK (K := K) (d := 2) (B := 1000000) rfl (by decide)) (by rfl) B.sorted (by decide +kernel) (pa_cons (pv 1) pa_nil)) pa_nil))))
       pss_nil)
       (pss_cons (ps_set (i := 2) scLRows.nd rfl (Or.inl rfl) (pe_lst pa_nil))
       (pss_cons (ps_for PassesOwn.never rfl (pi_range1 rfl B.range (pa_cons pe_int pa_nil)) (pg_name (i := 3) scLRows.nd rfl (Or.inr rfl))
       (pss_cons (ps_setLc (i := 4) (own := [("_law_pair", 5)]) (g := (gName 5)) (tt := _) rfl scLRows.nd rfl rfl (sw_true rfl rfl rfl (by decide +kernel)) (pi_list (pv 1)) (blkOk_by (N := ["_law_kind", "_law_heard", "_law_found", "_law_sender", "_law_numbers", "_law_pair"]) (sc := defScope sLRows) (by decide +kernel))
       (fun _ _ _ _ _ => (pg_name (i := 5) scLRows.nd rfl (Or.inl rfl))) (fun _ _ _ _ _ => (pts_one (pt_cmpR op_eq (pe_ix (ixT (K := K) rfl) (pv 5) pe_int (fun _ _ => rfl)) (pv 3) (nomark _)))) (fun _ _ _ _ _ => (pe_ix (ixT (K := K) rfl) (pv 5) pe_int (fun _ _ => rfl))))
       (pss_one (ps_if (pt_cmpR op_gt (pe_callB (lenK (K := K) rfl) (by rfl) B.len PySem.boot_len (pa_cons (pv 4) pa_nil)) pe_int (nomark _))
       (pss_one (ps_expr (pe_bm PySem.F.plainAttrs_list PySem.F.slot_list_append PySem.F.type_list_append mt_append (pv 2) (pa_cons (pe_tup (pa_cons (pv 3) (pa_cons (pe_callB (crMaxK (K := K) rfl rfl) (by rfl) B.max (by decide +kernel) (pa_cons (pv 4) pa_nil)) pa_nil))) pa_nil))))
       pss_nil))))
       (pss_one (ps_ret (pe_callTy (tupOfK (K := K) rfl) (by rfl) B.tuple PyProof.Rows.boot_tuple (pa_cons (pv 2) pa_nil)))))))), ?_⟩
    refine ⟨_, rfl, (by show 2 ≤ sizeLine; decide), fun t nt => ?_⟩
    have s1 : Same H (upd H t (.tup [.str "loose", .str "plain"])) := (L2.Same.refl _).new nt
    have ht : upd H t (.tup [.str "loose", .str "plain"]) t = some (.tup [.str "loose", .str "plain"]) := upd_same
    generalize upd H t (.tup [.str "loose", .str "plain"]) = H1 at s1 ht
    refine ⟨t, _, rfl, .inr (SqT.of ht), rfl, rfl, _, rfl, ?_⟩
    have lx := RpL.len _ _ rx
    rw [List.length_map] at lx
    cases κ with
    | lo =>
      cases s with
      | on _ => cases hk
      | tu _ => cases hk
      | pl =>
        refine iteT ?_
        refine ⟨(by show 0 ≤ sizeLine; decide), fun t2 nt2 => ?_⟩
        exact k _ _ [] (s1.new nt2) rfl (Rp.tup upd_same RpL.nil)
    | pn =>
      cases s with
      | on _ => cases hk
      | tu _ => cases hk
      | pl =>
        refine iteT ?_
        refine ⟨(by show 0 ≤ sizeLine; decide), fun t2 nt2 => ?_⟩
        exact k _ _ [] (s1.new nt2) rfl (Rp.tup upd_same RpL.nil)
    | on =>
      cases s with
      | pl => cases hk
      | tu _ => cases hk
      | on A =>
        obtain ⟨rfl, hb, hn⟩ := hst
        refine iteF ?_
        refine ⟨_, rfl, rfl, _, rfl, iteT ?_⟩
        have r1 := RpL.tk (TK.of s1) _ _ rx
        refine ⟨_, rfl, ha, _, rfl, SqL.of (s1 _ _ hx), by omega, tup_all hb r1, fun ys p1 perm pw np1 => ?_⟩
        obtain ⟨L', pL, rL⟩ := RpL.perm perm A r1
        have wL := rise_of rL pw
        have s2 : Same H1 (upd H1 p1 (.lst ys)) := (L2.Same.refl _).new np1
        have hp2 : upd H1 p1 (.lst ys) p1 = some (.lst ys) := upd_same
        generalize upd H1 p1 (.lst ys) = H2 at s2 hp2
        refine ⟨p1, ys, rfl, .inl ⟨SqL.of hp2, fun t nt => ?_⟩⟩
        have s3 : Same H2 (upd H2 t (.tup ys)) := (L2.Same.refl _).new nt
        exact k _ _ _ ((s1.trans s2).trans s3) ⟨L', pL, wL, rfl⟩ (Rp.tup upd_same (RpL.tk (TK.of (s2.trans s3)) _ _ rL))
    | tu =>
      cases s with
      | pl => cases hk
      | on _ => cases hk
      | tu m =>
        refine iteF ?_
        refine ⟨_, rfl, rfl, _, rfl, iteF ?_⟩
        refine ⟨Nat.zero_le _, fun fa nfa => ?_⟩
        have s2 : Same H1 (upd H1 fa (.lst [])) := (L2.Same.refl _).new nfa
        have hfa2 : LstAt K (upd H1 fa (.lst [])) fa ((sendersTo L 0).map fun s : Nat => p2D ((s : Int), lastOf L s)) := ⟨[], upd_same, RpL.nil⟩
        have nfa0 : H fa = none := at_none (M := []) (Kp.of s1) (by simp) nfa
        have s02 := s1.trans s2
        generalize upd H1 fa (.lst []) = H2 at s2 hfa2 s02
        refine ⟨16, rfl, by omega, by omega, ?_⟩
        refine for_range (lo := 0) (fun i σ H' => ∃ (v3 v4 v5 : Option V), σ = [some (.str K4.tu.nm), some (.ref ha), some (.ref fa), v3, v4, v5] ∧ LstAt K H' fa ((sendersTo L i).map fun s : Nat => p2D ((s : Int), lastOf L s)) ∧ Same H H')
          ⟨_, _, _, rfl, hfa2, s02⟩ ?_ ?_
        · rintro i σ H3 hi ⟨v3, v4, v5, rfl, hfa3, s3⟩
          have hi : i < 16 := by omega
          refine ⟨_, rfl, ha, rfl, ⟨_, SqL.of (s3 _ _ hx)⟩, fun D hD => ?_⟩
          refine nums_lc (K := K) (i := 5) (0 + (i : Int)) (s3 _ _ hx) (RpL.tk (TK.of s3) _ _ rx) hD (by omega) ?_ ?_ ?_
          · intro e x H' Q' re hQ
            obtain ⟨t, rfl, ht⟩ := p2D_inv re
            refine ⟨_, rfl, t, _, _, _, rfl, rfl, ht, rfl, _, rfl, rfl, _, rfl, ?_⟩
            show Q' (decide (V.int e.1 = V.int (0 + (i : Int)))) H'
            rw [dec_int]
            exact hQ
          · intro e x H' Q' re hQ
            obtain ⟨t, rfl, ht⟩ := p2D_inv re
            exact ⟨_, rfl, t, _, _, _, rfl, rfl, ht, rfl, hQ⟩
          intro H4 s4 hD4
          have s34 := s3.trans s4
          have hfa4 := hfa3.same s4
          obtain ⟨_, hlk, hrs, _⟩ := id hst
          have e0 : (0 + (i : Int)) = (i : Int) := Int.zero_add _
          rw [e0] at hD4
          have et : sendersTo L (i + 1) = sendersTo L i ++ if 0 < (numsOf L (i : Int)).length then [i] else [] := by
            unfold sendersTo
            rw [List.range_succ, List.filter_append, List.filter_cons, List.filter_nil]
            congr 1
            by_cases h : 0 < (numsOf L (i : Int)).length <;> simp [h]
          refine ⟨_, rfl, _, (numsOf L (i : Int)).length, rfl, .inl ⟨_, SqL.of hD4, (List.length_map _).symm⟩, _, _, rfl, rfl, _, rfl, ?_⟩
          refine ite2 (fun hc => ?_) (fun hc => ?_)
          · have hc : 0 < (numsOf L (i : Int)).length := by
              have := of_decide_eq_true hc
              omega
            obtain ⟨ys, hy4, ry4⟩ := id hfa4
            have ly := RpL.len _ _ ry4
            rw [List.length_map] at ly
            have ls : (sendersTo L i).length ≤ 16 := by
              have := List.length_filter_le (fun s : Nat => decide (0 < (numsOf L (s : Int)).length)) (List.range i)
              rw [List.length_range] at this
              unfold sendersTo
              omega
            refine ⟨_, rfl, .inl ⟨rfl, _, SqL.of hy4⟩, _, rfl, _, rfl, D, _, rfl, SqL.of hD4, hc, fun mx mx1 mx2 => ⟨(by show 2 ≤ sizeLine; decide), fun t5 nt5 => ?_⟩⟩
            have emx : mx = lastOf L i := by
              unfold lastOf
              cases e1 : (numsOf L (i : Int)).getLast? with
              | none =>
                rw [List.getLast?_eq_none_iff] at e1
                rw [e1] at hc
                exact absurd hc (by decide)
              | some j =>
                show mx = j
                have h5 := hrs (i : Int)
                have h6 := mx2 j (List.mem_of_getLast? e1)
                obtain ⟨zs, ez⟩ := List.getLast?_eq_some_iff.mp e1
                rw [ez, List.mem_append, List.mem_singleton] at mx1
                rcases mx1 with hm | hm
                · rw [ez] at h5
                  have := (List.pairwise_append.mp h5).2.2 mx hm j (List.mem_singleton.mpr rfl)
                  omega
                · exact hm
            rw [e0]
            obtain ⟨g1, g2, g3, g4⟩ := push_tup (ds := [.int (i : Int), .int mx]) hy4 ry4 nt5 (RpL.cons Rp.int (RpL.cons Rp.int RpL.nil))
            refine ⟨fa, _, _, rfl, rfl, g1, Nat.lt_of_le_of_lt (show ys.length ≤ 1000 by omega) (by decide), ?_⟩
            refine ⟨_, _, _, rfl, ?_, fun c o e => g4 c o (nin1 (ne_of_none e nfa0)) (s34 c o e)⟩
            have em2 : (List.map (fun s : Nat => p2D ((s : Int), lastOf L s)) [i]) = [PyData.tuple [.int (i : Int), .int mx]] := by
              rw [emx]
              rfl
            rw [et, if_pos hc, List.map_append, em2]
            exact g2
          · have hc : ¬ 0 < (numsOf L (i : Int)).length := fun z => hc (decide_eq_true (by omega))
            refine ⟨_, _, _, rfl, ?_, s34⟩
            rw [et, if_neg hc, List.append_nil]
            exact hfa4
        · rintro σ H3 ⟨v3, v4, v5, rfl, ⟨ys, hy3, ry3⟩, s3⟩
          refine ⟨_, rfl, fa, ys, rfl, .inl ⟨SqL.of hy3, fun t nt => ?_⟩⟩
          have s4 : Same H3 (upd H3 t (.tup ys)) := (L2.Same.refl _).new nt
          refine k _ _ _ (s3.trans s4) (senders_eq hst) (Rp.tup upd_same (RpL.tk (TK.of s4) _ _ ry3))
end
end Wn

namespace Wn
open PySem L2
structure Sv (K : PySem.W.Frag) (C : K4 → Addr) (Z : List Addr) (H : Hp) (A1 A2 A3 : Addr) (n : Nat) (κ : Nat → K4) (p q h : Nat → Addr) (s : Nat → FS) (L : Nat → PL) : Prop where
  l1 : H A1 = some (.lst ((List.range n).map fun j => V.ref (p j)))
  l2 : H A2 = some (.lst ((List.range n).map fun j => V.str (κ j).nm))
  l3 : H A3 = some (.lst ((List.range n).map fun j => V.ref (h j)))
  ok : ∀ j, j < n → FAt K (C (κ j)) H (p j) (q j) (s j)
  he : ∀ j, j < n → LstAt K H (h j) ((L j).map p2D)
  kd : ∀ j, j < n → (s j).kd = (κ j).kd
  dp : ∀ i j, i < n → j < n → i ≠ j → p i ≠ p j
  dq : ∀ i j, i < n → j < n → i ≠ j → q i ≠ q j
  dh : ∀ i j, i < n → j < n → i ≠ j → h i ≠ h j
  dl : ∀ j, j < n → h j ≠ A1 ∧ h j ≠ A2 ∧ h j ≠ A3
  d12 : A1 ≠ A2
  d13 : A1 ≠ A3
  d23 : A2 ≠ A3
  dz : ∀ z ∈ Z, z ≠ A1 ∧ z ≠ A2 ∧ z ≠ A3 ∧ ∀ j, j < n → h j ≠ z
section
variable {K : PySem.W.Frag} {C : K4 → Addr} {Z : List Addr} {H H' : Hp} {A1 A2 A3 : Addr} {n : Nat} {κ : Nat → K4} {p q h : Nat → Addr} {s : Nat → FS} {L : Nat → PL}
theorem Sv.kp {M : List Addr} (R : Sv K C Z H A1 A2 A3 n κ p q h s L) (k : Kp M H H') (t : TK H H') (hM : ∀ x ∈ M, x ≠ A1 ∧ x ≠ A2 ∧ x ≠ A3 ∧ ∀ j, j < n → x ≠ p j ∧ x ≠ q j ∧ x ≠ h j) : Sv K C Z H' A1 A2 A3 n κ p q h s L :=
  { R with
    l1 := k _ _ (fun z => (hM _ z).1 rfl) R.l1
    l2 := k _ _ (fun z => (hM _ z).2.1 rfl) R.l2
    l3 := k _ _ (fun z => (hM _ z).2.2.1 rfl) R.l3
    ok := fun j hj => (R.ok j hj).kp k t (fun z => ((hM _ z).2.2.2 j hj).1 rfl) (fun z => ((hM _ z).2.2.2 j hj).2.1 rfl)
    he := fun j hj => (R.he j hj).kp k t (fun z => ((hM _ z).2.2.2 j hj).2.2 rfl) }
theorem Sv.same (R : Sv K C Z H A1 A2 A3 n κ p q h s L) (s' : Same H H') : Sv K C Z H' A1 A2 A3 n κ p q h s L :=
  R.kp (M := []) (Kp.of s') (TK.of s') fun x hx => by cases hx
/-- a list of Z was written -/
theorem Sv.lst {d : Addr} {zs : List V} (R : Sv K C Z H A1 A2 A3 n κ p q h s L) (k : Kp [d] H H') (t : TK H H') (hd : H d = some (.lst zs)) (hz : d ∈ Z) : Sv K C Z H' A1 A2 A3 n κ p q h s L :=
  R.kp k t fun x hx => by
    rw [List.mem_singleton] at hx
    subst hx
    obtain ⟨z1, z2, z3, z4⟩ := R.dz x hz
    refine ⟨z1, z2, z3, fun j hj => ?_⟩
    obtain ⟨e1, e2⟩ := (R.ok j hj).nl hd
    exact ⟨e1.symm, e2.symm, (z4 j hj).symm⟩
/-- the k-th filter took a letter -/
theorem Sv.took {i : Nat} {q' : Addr} {s' : FS} (R : Sv K C Z H A1 A2 A3 n κ p q h s L) (hi : i < n) (hq : q' = q i ∨ H q' = none) (k : Kp [p i, q i] H H') (t : TK H H') (f : FAt K (C (κ i)) H' (p i) q' s') (hk : s'.kd = (κ i).kd) :
    Sv K C Z H' A1 A2 A3 n κ p (fun j => if j = i then q' else q j) h (fun j => if j = i then s' else s j) L := by
  have fi := R.ok i hi
  have nl : ∀ {a : Addr} {zs : List V}, H a = some (.lst zs) → a ∉ [p i, q i] := fun e => by
    obtain ⟨e1, e2⟩ := fi.nl e
    exact nin2 e1.symm e2.symm
  have nq : ∀ j, j < n → j ≠ i → q j ≠ q' := fun j hj ne => by
    rcases hq with rfl | hq
    · exact R.dq j i hj hi ne
    · obtain ⟨o, ho, _⟩ := (R.ok j hj).2.dict
      exact ne_of_none ho hq
  refine { R with l1 := k _ _ (nl R.l1) R.l1, l2 := k _ _ (nl R.l2) R.l2, l3 := k _ _ (nl R.l3) R.l3, ok := fun j hj => ?_, he := fun j hj => ?_, kd := fun j hj => ?_, dq := fun a b ha hb ne => ?_ }
  · by_cases e : j = i
    · subst e
      simp only [if_true]
      exact f
    · simp only [if_neg e]
      obtain ⟨⟨dx, hp⟩, hd⟩ := R.ok j hj
      obtain ⟨⟨dy, hpi⟩, hdi⟩ := id fi
      obtain ⟨o, ho, d⟩ := hd.dict
      obtain ⟨o', ho', d'⟩ := hdi.dict
      have n1 : p j ≠ q i := fun z => by
        rw [z, ho'] at hp
        rcases d' with ⟨z, d'⟩ | ⟨z, d'⟩ <;> rw [d'] at hp <;> cases hp
      have n2 : q j ≠ p i := fun z => by
        rw [z, hpi] at ho
        rcases d with ⟨z, d⟩ | ⟨z, d⟩ <;> rw [d] at ho <;> cases ho
      exact (R.ok j hj).kp k t (nin2 (R.dp j i hj hi e) n1) (nin2 n2 (R.dq j i hj hi e))
  · obtain ⟨zs, hz⟩ := (R.he j hj).lst
    exact (R.he j hj).kp k t (nl hz)
  · by_cases e : j = i
    · subst e
      simp only [if_true]
      exact hk
    · simp only [if_neg e]
      exact R.kd j hj
  · by_cases ea : a = i
    · have eb : ¬ b = i := by omega
      simp only [if_pos ea, if_neg eb]
      exact (nq b hb eb).symm
    · by_cases eb : b = i
      · simp only [if_neg ea, if_pos eb]
        exact nq a ha ea
      · simp only [if_neg ea, if_neg eb]
        exact R.dq a b ha hb ne
/-- the k-th heard list grew -/
theorem Sv.heard {i : Nat} {Ln : PL} (R : Sv K C Z H A1 A2 A3 n κ p q h s L) (hi : i < n) (k : Kp [h i] H H') (t : TK H H') (e : LstAt K H' (h i) (Ln.map p2D)) : Sv K C Z H' A1 A2 A3 n κ p q h s (fun j => if j = i then Ln else L j) := by
  obtain ⟨zs, hz⟩ := (R.he i hi).lst
  obtain ⟨m1, m2, m3⟩ := R.dl i hi
  refine { R with l1 := k _ _ (nin1 m1.symm) R.l1, l2 := k _ _ (nin1 m2.symm) R.l2, l3 := k _ _ (nin1 m3.symm) R.l3, ok := fun j hj => ?_, he := fun j hj => ?_ }
  · obtain ⟨e1, e2⟩ := (R.ok j hj).nl hz
    exact (R.ok j hj).kp k t (nin1 e1) (nin1 e2)
  · by_cases ej : j = i
    · subst ej
      simp only [if_true]
      exact e
    · simp only [if_neg ej]
      exact (R.he j hj).kp k t (nin1 (R.dh j i hj hi ej))
theorem map_push {α : Type} {f : Nat → α} {g : α → V} {x : α} : (List.range (n + 1)).map (fun j => g (if j = n then x else f j)) = ((List.range n).map fun j => g (f j)) ++ [g x] := by
  rw [List.range_succ, List.map_append, List.map_singleton, if_pos rfl]
  congr 1
  refine List.map_congr_left fun j hj => ?_
  rw [List.mem_range] at hj
  rw [if_neg (by omega)]
/-- one more -/
theorem Sv.push {pn qn hn : Addr} {κn : K4} {sn : FS} {Ln : PL} (R : Sv K C Z H A1 A2 A3 n κ p q h s L) (k : Kp [A1, A2, A3] H H') (t : TK H H')
    (h1 : H' A1 = some (.lst (((List.range n).map fun j => V.ref (p j)) ++ [V.ref pn]))) (h2 : H' A2 = some (.lst (((List.range n).map fun j => V.str (κ j).nm) ++ [V.str κn.nm]))) (h3 : H' A3 = some (.lst (((List.range n).map fun j => V.ref (h j)) ++ [V.ref hn])))
    (f : FAt K (C κn) H' pn qn sn) (l : LstAt K H' hn (Ln.map p2D)) (hk : sn.kd = κn.kd) (np : ∀ j, j < n → p j ≠ pn) (nq : ∀ j, j < n → q j ≠ qn) (nh : ∀ j, j < n → h j ≠ hn) (nl : hn ≠ A1 ∧ hn ≠ A2 ∧ hn ≠ A3) (nz : ∀ z ∈ Z, hn ≠ z) :
    Sv K C Z H' A1 A2 A3 (n + 1) (fun j => if j = n then κn else κ j) (fun j => if j = n then pn else p j) (fun j => if j = n then qn else q j) (fun j => if j = n then hn else h j) (fun j => if j = n then sn else s j) (fun j => if j = n then Ln else L j) := by
  have nin3 : ∀ {x : Addr}, x ≠ A1 → x ≠ A2 → x ≠ A3 → x ∉ [A1, A2, A3] := fun a b c z => by
    rcases List.mem_cons.mp z with z | z
    · exact a z
    · exact nin2 b c z
  have two : ∀ {β : Type} (g : Nat → β) (x : β), (∀ j, j < n → g j ≠ x) → (∀ i j, i < n → j < n → i ≠ j → g i ≠ g j) → ∀ i j, i < n + 1 → j < n + 1 → i ≠ j → (if i = n then x else g i) ≠ (if j = n then x else g j) := by
    intro β g x hx hg i j hi hj ne
    by_cases ei : i = n
    · have ej : ¬ j = n := by omega
      rw [if_pos ei, if_neg ej]
      exact (hx j (by omega)).symm
    · by_cases ej : j = n
      · rw [if_neg ei, if_pos ej]
        exact hx i (by omega)
      · rw [if_neg ei, if_neg ej]
        exact hg i j (by omega) (by omega) ne
  refine ⟨?_, ?_, ?_, fun j hj => ?_, fun j hj => ?_, fun j hj => ?_, two p pn np R.dp, two q qn nq R.dq, two h hn nh R.dh, fun j hj => ?_, R.d12, R.d13, R.d23, fun z hz => ?_⟩
  · rw [map_push (g := V.ref)]
    exact h1
  · rw [map_push (g := fun k : K4 => V.str k.nm)]
    exact h2
  · rw [map_push (g := V.ref)]
    exact h3
  · by_cases e : j = n
    · simp only [if_pos e]
      exact f
    · simp only [if_neg e]
      have fj := R.ok j (by omega)
      obtain ⟨a1, a2⟩ := fj.nl R.l1
      obtain ⟨b1, b2⟩ := fj.nl R.l2
      obtain ⟨c1, c2⟩ := fj.nl R.l3
      exact fj.kp k t (nin3 a1 b1 c1) (nin3 a2 b2 c2)
  · by_cases e : j = n
    · simp only [if_pos e]
      exact l
    · simp only [if_neg e]
      obtain ⟨m1, m2, m3⟩ := R.dl j (by omega)
      exact (R.he j (by omega)).kp k t (nin3 m1 m2 m3)
  · by_cases e : j = n
    · simp only [if_pos e]
      exact hk
    · simp only [if_neg e]
      exact R.kd j (by omega)
  · by_cases e : j = n
    · simp only [if_pos e]
      exact nl
    · simp only [if_neg e]
      exact R.dl j (by omega)
  · obtain ⟨z1, z2, z3, z4⟩ := R.dz z hz
    refine ⟨z1, z2, z3, fun j hj => ?_⟩
    by_cases e : j = n
    · simp only [if_pos e]
      exact nz z hz
    · simp only [if_neg e]
      exact z4 j (by omega)
end
abbrev someV : List V := [.str "loose", .str "once", .str "row", .str "once", .str "row", .str "plain"]
theorem some_at {r : Int} (h0 : 0 ≤ r) (h1 : r < 6) : ∃ κ : K4, atI someV r = some (.str κ.nm) := by
  have h : r = 0 ∨ r = 1 ∨ r = 2 ∨ r = 3 ∨ r = 4 ∨ r = 5 := by omega
  rcases h with rfl | rfl | rfl | rfl | rfl | rfl
  · exact ⟨.lo, rfl⟩
  · exact ⟨.on, rfl⟩
  · exact ⟨.tu, rfl⟩
  · exact ⟨.on, rfl⟩
  · exact ⟨.tu, rfl⟩
  · exact ⟨.pn, rfl⟩
theorem atN {n : Nat} {f : Nat → V} {r : Int} (h0 : 0 ≤ r) (h1 : r < n) : atI ((List.range n).map f) r = some (f r.toNat) := by
  have e : ((r.toNat : Nat) : Int) = r := by omega
  have := atI_nat (xs := (List.range n).map f) (j := r.toNat) (v := f r.toNat) (by
    rw [List.getElem?_map, List.getElem?_range (by omega)]
    rfl)
  rw [e] at this
  exact this
theorem at2 {x y : V} {r : Int} (h : r = 0 ∨ r = 1) : atI [x, y] r = some (if r = 0 then x else y) := by
  rcases h with rfl | rfl <;> rfl
structure InsT (K : PySem.W.Frag) (C : Addr) : Prop where
  cl : Cls K C
  ha : PySem.W.findIn K (.ref C) "__class__" = some (some (.builtin "object.__class__"))
  hn : PySem.W.specialIn K (.builtin "object.__class__") "__get__" = some (some (.builtin "getset_descriptor.__get__"))
  htk : PySem.W.takesIn K (.builtin "object.__class__") = some true
  hm : PySem.W.mroIn K C (.type "object") = some true
def isK : K4 → K4 → Bool
  | _, .pn => true
  | .lo, .lo => true
  | .on, .on => true
  | .tu, .tu => true
  | _, _ => false
end Wn

namespace Wn
open PySem L2
abbrev sLaw : Stmt := top 18
abbrev kindsV : List V := [.str "loose", .str "once", .str "row"]
def kindsD : List PyData := [.str "loose", .str "once", .str "row"]
theorem shaped_kinds : SeqAt.shaped (.tuple kindsD) = true := by decide +kernel

section
variable {P : Program} {w : World} {K : PySem.W.Frag} {mg : Str → Option Value} {base : Heap}
theorem rows_sz {s : FS} {ds : List PyData} (h : Small s) (r : RowsIs s ds) : dep (.tuple ds) < 3 ∧ sz (.tuple ds) ≤ 1000000 := by
  have key : ∀ L : PL, L.length ≤ 60 → dep (.tuple (L.map p2D)) < 3 ∧ sz (.tuple (L.map p2D)) ≤ 1000000 := fun L hL => by
    have h1 := deps_map_le (c := 1) (f := p2D) L fun x _ => (by show deps [.int x.1, .int x.2] + 1 ≤ 1; exact Nat.le_refl _)
    have h2 := szs_map_le (c := 3) (f := p2D) L fun x _ => (by show szs [.int x.1, .int x.2] + 1 ≤ 3; exact Nat.le_refl _)
    unfold dep sz
    omega
  cases s with
  | pl =>
    rw [show ds = [] from r]
    exact ⟨by decide, by decide⟩
  | on L =>
    obtain ⟨L', pL, _, rfl⟩ := r
    have h : _ ∧ _ ∧ L.length ≤ 60 := h
    exact key L' (by rw [pL.length_eq]; exact h.2.2)
  | tu m =>
    rw [show ds = _ from r]
    have h : m.length ≤ 60 := h
    have e : (sortI (m.map (·.1))).map (fun k => p2D (k, (lookA m k).getD 0)) = ((sortI (m.map (·.1))).map fun k => (k, (lookA m k).getD 0)).map p2D := by rw [List.map_map]; rfl
    rw [e]
    refine key _ ?_
    rw [List.length_map, (sortI_perm _).length_eq, List.length_map]
    exact h
theorem bl3 {H : Hp} {r : Addr} {x y z : Bool} (h : H r = some (.lst [.bl x, .bl y, .bl z])) : Dp K H (.ref r) (.list [.bool x, .bool y, .bool z]) := .lst (SqL.of h) (.cons (.bl _) (.cons (.bl _) (.cons (.bl _) .nil)))
theorem shaped_bl3 (x y z : Bool) : SeqAt.shaped (.list [.bool x, .bool y, .bool z]) = true := by
  cases x <;> cases y <;> cases z <;> decide +kernel
theorem scLaw : FnScope ["_law_script", "_law_deck_here", "_law_some", "_law_kinds", "_law_sieves", "_law_heard", "_law_turn", "_law_k", "_law_other", "_law_sender", "_law_number", "_law_due_here", "_law_j", "_law_right"] ["_law_script"] (defScope sLaw) := ⟨rfl, rfl, rfl, by decide +kernel, rfl, by decide +kernel, by decide +kernel⟩
theorem ok_law {f aK : Addr} {fd : FuncData} {C : K4 → Addr} {fTk fRw fCp : K4 → Addr} {fdTk fdRw fdCp : K4 → FuncData} (F : Fun K "law" "law" sLaw f fd) (B : LB mg) (IC : ∀ κ, InsT K (C κ)) (IK : ∀ κ κ', PySem.W.kitOne K (.ref (C κ)) (.ref (C κ')) = some (isK κ κ'))
    (mgK : mg "KINDS" = some (.ref aK)) (hK : ∀ H, SqT K H aK kindsV) (mgFilter : mg "Filter" = some (.ref (C .pn))) (mgLoose : mg "Loose" = some (.ref (C .lo))) (mgOnce : mg "Once" = some (.ref (C .on))) (mgTurn : mg "Turn" = some (.ref (C .tu)))
    (cN : Cd P w K mg base 2 "_law_next" ["_law_deck_here", "_law_many"] spNext) (cD : Cd P w K mg base 2 "_law_deck" ["_law_script"] (spDeck K))
    (cS : Cd P w K mg base 3 "_law_same" ["_law_thing", "_law_due_here"] (spSame K 3))
    (cU : Cd P w K mg base 1 "_law_due" ["_law_kind", "_law_heard", "_law_sender", "_law_number"] (spDueF K))
    (cV : Cd P w K mg base 4 "_law_sieve" ["_law_kind", "_law_by_hand"] (spSieve K C))
    (cW : Cd P w K mg base 1 "_law_rows" ["_law_kind", "_law_heard"] (spLRows K))
    (mTk : ∀ κ, Meth K (C κ) "takes" (fTk κ)) (GTk : ∀ κ : K4, FnOk P w K mg base CX0 2 (fTk κ) (fdTk κ) ["self", "sender", "number"] (spTakes K (C κ) κ.kd)) (bTk : ∀ κ, Binds K (fdTk κ) ["self", "sender", "number"] [])
    (mRw : ∀ κ, Meth K (C κ) "rows" (fRw κ)) (gRw : ∀ κ : K4, FnOk P w K mg base CX0 1 (fRw κ) (fdRw κ) ["self"] (spRowsF K (C κ) κ.kd)) (bRw : ∀ κ, Binds K (fdRw κ) ["self"] [])
    (mCp : ∀ κ, Meth K (C κ) "copy" (fCp κ)) (gCp : ∀ κ : K4, FnOk P w K mg base CX0 4 (fCp κ) (fdCp κ) ["self"] (spCopy K (C κ) κ.kd)) (bCp : ∀ κ, Binds K (fdCp κ) ["self"] []) :
    FnOk P w K mg base CX0 5 f fd ["_law_script"] (spLaw K) := by
  obtain ⟨fN, fdN, GN, mN, kN, bN⟩ := cN.tk
  obtain ⟨fD, fdD, GD, mD, kD, bD⟩ := cD
  obtain ⟨fS, fdS, GS, mS, kS, bS⟩ := cS
  obtain ⟨fU, fdU, GU, mU, kU, bU⟩ := cU
  obtain ⟨fV, fdV, GV, mV, kV, bV⟩ := cV
  obtain ⟨fW, fdW, GW, mW, kW, bW⟩ := cW
  have gTk := fun κ => (GTk κ).tk
  refine F.ok scLaw (fun vs H Q E h => ?_) (fun cdv A outer s H vs Q E hr h => ?_)
  · obtain ⟨a, ns, rfl, _⟩ := h
    rfl
  · obtain ⟨a, ns, rfl, hS, hl, k⟩ := h
    have hr4 : Room 4 _ := hr
    have hr3 : Room 3 _ := hr.mono (by decide)
    have hr2 : Room 2 _ := hr.mono (by decide)
    have hr1 : Room 1 _ := hr.mono (by decide)
    refine ⟨_, (pss_cons (ps_set (i := 1) scLaw.nd rfl (Or.inl rfl) (pe_call GD hr2 rfl mD kD bD .nil pass0 (pa_cons (pv 0) pa_nil)))
       (pss_cons (ps_if (pt_cmpR (neDK (K := K) rfl hr.units) (pe_glob (v := .ref aK) (by rfl) mgK rfl) (pe_tup (pa_cons pe_str (pa_cons pe_str (pa_cons pe_str pa_nil)))) (nomark _))
       (pss_one (ps_ret pe_bl))
       pss_nil)
       (pss_cons (ps_set (i := 2) scLaw.nd rfl (Or.inl rfl) (pe_lst (pa_cons pe_str (pa_cons pe_str (pa_cons pe_str (pa_cons pe_str (pa_cons pe_str (pa_cons pe_str pa_nil))))))))
       (pss_cons (ps_set (i := 3) scLaw.nd rfl (Or.inl rfl) (pe_lst (pa_cons (pe_ix (ixL (K := K) rfl) (pv 2) (pe_call GN hr2 rfl mN kN bN .nil pass0 (pa_cons (pv 1) (pa_cons pe_int pa_nil))) (fun _ _ => rfl)) pa_nil)))
       (pss_cons (ps_set (i := 4) scLaw.nd rfl (Or.inl rfl) (pe_lst (pa_cons (pe_call GV hr4 rfl mV kV bV .nil pass0 (pa_cons (pe_ix (ixL (K := K) rfl) (pv 3) pe_int (fun _ _ => rfl)) (pa_cons (pe_cmpR op_eq (pe_call GN hr2 rfl mN kN bN .nil pass0 (pa_cons (pv 1) (pa_cons pe_int pa_nil))) pe_int (nomark _)) pa_nil))) pa_nil)))
       (pss_cons (ps_set (i := 5) scLaw.nd rfl (Or.inl rfl) (pe_lst (pa_cons (pe_lst pa_nil) pa_nil)))
       (pss_cons (ps_for PassesOwn.never rfl (pi_range1 rfl B.range (pa_cons pe_int pa_nil)) (pg_name (i := 6) scLaw.nd rfl (Or.inl rfl))
       (pss_cons (ps_set (i := 7) scLaw.nd rfl (Or.inl rfl) (pe_call GN hr2 rfl mN kN bN .nil pass0 (pa_cons (pv 1) (pa_cons (pe_callB (lenK (K := K) rfl) (by rfl) B.len PySem.boot_len (pa_cons (pv 4) pa_nil)) pa_nil))))
       (pss_cons (ps_if (PW.pt (pw_and (pt_cmpR op_lt (pe_callB (lenK (K := K) rfl) (by rfl) B.len PySem.boot_len (pa_cons (pv 4) pa_nil)) pe_int (nomark _)) (pw_and1 (pt_cmpR op_eq (pe_call GN hr2 rfl mN kN bN .nil pass0 (pa_cons (pv 1) (pa_cons pe_int pa_nil))) pe_int (nomark _)))))
       (pss_cons (ps_set (i := 8) scLaw.nd rfl (Or.inl rfl) (pe_ix (ixL (K := K) rfl) (pv 2) (pe_call GN hr2 rfl mN kN bN .nil pass0 (pa_cons (pv 1) (pa_cons pe_int pa_nil))) (fun _ _ => rfl)))
       (pss_cons (ps_expr (pe_bm PySem.F.plainAttrs_list PySem.F.slot_list_append PySem.F.type_list_append mt_append (pv 4) (pa_cons (pe_ix (ixL (K := K) rfl) (pe_lst (pa_cons (pe_methI0 (pe_ix (ixL (K := K) rfl) (pv 4) (pv 7) (fun _ _ => rfl)) (fun κ => (IC κ).cl) mCp gCp hr4 bCp .nil pass0) (pa_cons (pe_call GV hr4 rfl mV kV bV .nil pass0 (pa_cons (pv 8) (pa_cons (pe_cmpR op_eq (pe_call GN hr2 rfl mN kN bN .nil pass0 (pa_cons (pv 1) (pa_cons pe_int pa_nil))) pe_int (nomark _)) pa_nil))) pa_nil))) (pe_op op_mod (pv 6) pe_int) (fun _ _ => rfl)) pa_nil)))
       (pss_cons (ps_expr (pe_bm PySem.F.plainAttrs_list PySem.F.slot_list_append PySem.F.type_list_append mt_append (pv 3) (pa_cons (pe_ix (ixL (K := K) rfl) (pe_lst (pa_cons (pe_ix (ixL (K := K) rfl) (pv 3) (pv 7) (fun _ _ => rfl)) (pa_cons (pv 8) pa_nil))) (pe_op op_mod (pv 6) pe_int) (fun _ _ => rfl)) pa_nil)))
       (pss_one (ps_expr (pe_bm PySem.F.plainAttrs_list PySem.F.slot_list_append PySem.F.type_list_append mt_append (pv 5) (pa_cons (pe_ix (ixL (K := K) rfl) (pe_lst (pa_cons (pe_callTy (lstOfK (K := K) rfl) (by rfl) B.list (by decide +kernel) (pa_cons (pe_ix (ixL (K := K) rfl) (pv 5) (pv 7) (fun _ _ => rfl)) pa_nil)) (pa_cons (pe_lst pa_nil) pa_nil))) (pe_op op_mod (pv 6) pe_int) (fun _ _ => rfl)) pa_nil)))))))
       pss_nil)
       (pss_cons (ps_set (i := 9) scLaw.nd rfl (Or.inl rfl) (pe_op op_mul (pe_call GN hr2 rfl mN kN bN .nil pass0 (pa_cons (pv 1) (pa_cons pe_int pa_nil))) (pe_ix (ixL (K := K) rfl) (pe_lst (pa_cons pe_int (pa_cons pe_int pa_nil))) (pe_call GN hr2 rfl mN kN bN .nil pass0 (pa_cons (pv 1) (pa_cons pe_int pa_nil))) (fun _ _ => rfl))))
       (pss_cons (ps_set (i := 10) scLaw.nd rfl (Or.inl rfl) (pe_call GN hr2 rfl mN kN bN .nil pass0 (pa_cons (pv 1) (pa_cons (pe_ix (ixL (K := K) rfl) (pe_lst (pa_cons pe_int (pa_cons pe_int (pa_cons (pe_op op_pow pe_int pe_int) pa_nil)))) (pe_call GN hr2 rfl mN kN bN .nil pass0 (pa_cons (pv 1) (pa_cons pe_int pa_nil))) (fun _ _ => rfl)) pa_nil))))
       (pss_cons (ps_set (i := 11) scLaw.nd rfl (Or.inl rfl) (pe_call GU hr1 rfl mU kU bU .nil pass0 (pa_cons (pe_ix (ixL (K := K) rfl) (pv 3) (pv 7) (fun _ _ => rfl)) (pa_cons (pe_ix (ixL (K := K) rfl) (pv 5) (pv 7) (fun _ _ => rfl)) (pa_cons (pv 9) (pa_cons (pv 10) pa_nil))))))
       (pss_cons (ps_if (pt_not (pt_val (pe_call GS hr3 rfl mS kS bS .nil pass0 (pa_cons (pe_methI (pe_ix (ixL (K := K) rfl) (pv 4) (pv 7) (fun _ _ => rfl)) (fun κ => (IC κ).cl) mTk gTk hr2 bTk .nil pass0 (pa_cons (pv 9) (pa_cons (pv 10) pa_nil))) (pa_cons (pv 11) pa_nil)))))
       (pss_one (ps_ret pe_bl))
       pss_nil)
       (pss_cons (ps_if (pt_cmpR op_eq (pv 11) pe_str (nomark _))
       (pss_one (ps_expr (pe_bm PySem.F.plainAttrs_list PySem.F.slot_list_append PySem.F.type_list_append mt_append (pe_ix (ixL (K := K) rfl) (pv 5) (pv 7) (fun _ _ => rfl)) (pa_cons (pe_tup (pa_cons (pv 9) (pa_cons (pv 10) pa_nil))) pa_nil))))
       pss_nil)
       (pss_one (ps_for PassesOwn.never rfl (pi_range1 rfl B.range (pa_cons (pe_callB (lenK (K := K) rfl) (by rfl) B.len PySem.boot_len (pa_cons (pv 4) pa_nil)) pa_nil)) (pg_name (i := 12) scLaw.nd rfl (Or.inl rfl))
       (pss_one (ps_if (pt_not (pt_val (pe_call GS hr3 rfl mS kS bS .nil pass0 (pa_cons (pe_methI0 (pe_ix (ixL (K := K) rfl) (pv 4) (pv 12) (fun _ _ => rfl)) (fun κ => (IC κ).cl) mRw gRw hr1 bRw .nil pass0) (pa_cons (pe_call GW hr1 rfl mW kW bW .nil pass0 (pa_cons (pe_ix (ixL (K := K) rfl) (pv 3) (pv 12) (fun _ _ => rfl)) (pa_cons (pe_ix (ixL (K := K) rfl) (pv 5) (pv 12) (fun _ _ => rfl)) pa_nil))) pa_nil)))))
       (pss_one (ps_ret pe_bl))
       pss_nil))))))))))))
       (pss_cons (ps_for PassesOwn.never rfl (pi_range1 rfl B.range (pa_cons (pe_callB (lenK (K := K) rfl) (by rfl) B.len PySem.boot_len (pa_cons (pv 4) pa_nil)) pa_nil)) (pg_name (i := 12) scLaw.nd rfl (Or.inl rfl))
       (pss_cons (ps_set (i := 13) scLaw.nd rfl (Or.inl rfl) (pe_lst (pa_cons (pe_callB (isiK (K := K) rfl) (by rfl) B.isinstance (by decide +kernel) (pa_cons (pe_ix (ixL (K := K) rfl) (pv 4) (pv 12) (fun _ _ => rfl)) (pa_cons (pe_glob (v := .ref (C .lo)) (by rfl) mgLoose rfl) pa_nil))) (pa_cons (pe_callB (isiK (K := K) rfl) (by rfl) B.isinstance (by decide +kernel) (pa_cons (pe_ix (ixL (K := K) rfl) (pv 4) (pv 12) (fun _ _ => rfl)) (pa_cons (pe_glob (v := .ref (C .on)) (by rfl) mgOnce rfl) pa_nil))) (pa_cons (pe_callB (isiK (K := K) rfl) (by rfl) B.isinstance (by decide +kernel) (pa_cons (pe_ix (ixL (K := K) rfl) (pv 4) (pv 12) (fun _ _ => rfl)) (pa_cons (pe_glob (v := .ref (C .tu)) (by rfl) mgTurn rfl) pa_nil))) pa_nil)))))
       (pss_one (ps_if (PW.pt (pw_or (pt_cmpR (neDK (K := K) rfl hr.units) (pv 13) (pe_lst (pa_cons (pe_cmpR op_eq (pe_ix (ixL (K := K) rfl) (pv 3) (pv 12) (fun _ _ => rfl)) pe_str (nomark _)) (pa_cons (pe_cmpR op_eq (pe_ix (ixL (K := K) rfl) (pv 3) (pv 12) (fun _ _ => rfl)) pe_str (nomark _)) (pa_cons (pe_cmpR op_eq (pe_ix (ixL (K := K) rfl) (pv 3) (pv 12) (fun _ _ => rfl)) pe_str (nomark _)) pa_nil)))) (nomark _)) (pw_or1 (pt_not (pt_val (pe_callB (isiK (K := K) rfl) (by rfl) B.isinstance (by decide +kernel) (pa_cons (pe_ix (ixL (K := K) rfl) (pv 4) (pv 12) (fun _ _ => rfl)) (pa_cons (pe_glob (v := .ref (C .pn)) (by rfl) mgFilter rfl) pa_nil))))))))
       (pss_one (ps_ret pe_bl))
       pss_nil))))
       (pss_one (ps_ret pe_bl)))))))))), ?_⟩
    refine ⟨_, rfl, a, ns, rfl, hS, hl, fun H1 d f nd nf s1 D1 => ?_⟩
    refine ⟨(by show 3 ≤ sizeLine; decide), fun kt nkt => ?_⟩
    have s2 : Same H1 (upd H1 kt (.tup kindsV)) := (L2.Same.refl _).new nkt
    have rk : ∀ {H : Hp} {a : Addr}, SqT K H a kindsV → Rp K H (.tuple kindsD) (.ref a) := fun h => Rp.tupS h (RpL.cons Rp.str (RpL.cons Rp.str (RpL.cons Rp.str RpL.nil)))
    refine ⟨_, _, Rp.dp _ _ (rk (hK _)), Rp.dp _ _ (rk (SqT.of upd_same)), shaped_kinds, shaped_kinds, _, rfl, ?_⟩
    rw [SeqAt.eqv_refl _ (SeqAt.canLay_of_shaped shaped_kinds)]
    refine iteF ?_
    have D2 := D1.same s2
    generalize upd H1 kt (.tup kindsV) = H2 at s2 D2
    refine ⟨(by show 6 ≤ sizeLine; decide), fun sm nsm => ?_⟩
    have s3 : Same H2 (upd H2 sm (.lst someV)) := (L2.Same.refl _).new nsm
    have hsm3 : upd H2 sm (.lst someV) sm = some (.lst someV) := upd_same
    have D3 := D2.same s3
    have nsmd : sm ≠ d := (ne_of_none D2.lst.choose_spec nsm).symm
    have nsmf : sm ≠ f := (ne_of_none D2.lst2.choose_spec nsm).symm
    skip
    generalize upd H2 sm (.lst someV) = H3 at s3 hsm3 D3
    refine ⟨_, rfl, _, rfl, d, f, 6, 0, rfl, by decide, by omega, D3, fun r H4 r0 r1 k4 D4 t4 => ?_⟩
    have hsm4 := k4 _ _ (nin1 nsmd) hsm3
    obtain ⟨κ0, eκ⟩ := some_at r0 r1
    refine ⟨sm, _, _, _, rfl, rfl, SqL.of hsm4, eκ, (by show 1 ≤ sizeLine; decide), fun A2 nA2 => ?_⟩
    have s5 : Same H4 (upd H4 A2 (.lst [.str κ0.nm])) := (L2.Same.refl _).new nA2
    have hA2 : upd H4 A2 (.lst [.str κ0.nm]) A2 = some (.lst [.str κ0.nm]) := upd_same
    generalize upd H4 A2 (.lst [.str κ0.nm]) = H5 at s5 hA2
    have D5 := D4.same s5
    have hsm5 := s5 _ _ hsm4
    have nA2d : A2 ≠ d := (ne_of_none D4.lst.choose_spec nA2).symm
    have nA2f : A2 ≠ f := (ne_of_none D4.lst2.choose_spec nA2).symm
    have nA2s : A2 ≠ sm := (ne_of_none hsm4 nA2).symm
    refine ⟨_, rfl, A2, _, _, .str κ0.nm, rfl, rfl, SqL.of hA2, rfl, _, rfl, d, f, 2, 0 + 1, rfl, by decide, by omega, D5, fun b H6 b0 b1 k6 D6 t6 => ?_⟩
    have hA26 := k6 _ _ (nin1 nA2d) hA2
    have hsm6 := k6 _ _ (nin1 nsmd) hsm5
    refine ⟨rfl, κ0, _, rfl, fun H7 p0 q0 np0 nq0 s7 f7 => ⟨(by show 1 ≤ sizeLine; decide), fun A1 nA1 => ?_⟩⟩
    have s8 : Same H7 (upd H7 A1 (.lst [.ref p0])) := (L2.Same.refl _).new nA1
    have hA1 : upd H7 A1 (.lst [.ref p0]) A1 = some (.lst [.ref p0]) := upd_same
    have hA27 := s7 _ _ hA26
    have hsm7 := s7 _ _ hsm6
    have D7 := D6.same s7
    have nA1d : A1 ≠ d := (ne_of_none D7.lst.choose_spec nA1).symm
    have nA1f : A1 ≠ f := (ne_of_none D7.lst2.choose_spec nA1).symm
    have nA1s : A1 ≠ sm := (ne_of_none hsm7 nA1).symm
    have nA12 : A1 ≠ A2 := (ne_of_none hA27 nA1).symm
    generalize upd H7 A1 (.lst [.ref p0]) = H8 at s8 hA1
    refine ⟨(by show 0 ≤ sizeLine; decide), fun h0 nh0 => ⟨(by show 1 ≤ sizeLine; decide), fun A3 nA3 => ?_⟩⟩
    have s9 : Same H8 (upd H8 h0 (.lst [])) := (L2.Same.refl _).new nh0
    have hh0 : upd H8 h0 (.lst []) h0 = some (.lst []) := upd_same
    have D8 := D7.same s8
    have nh0d : h0 ≠ d := (ne_of_none D8.lst.choose_spec nh0).symm
    have nh0f : h0 ≠ f := (ne_of_none D8.lst2.choose_spec nh0).symm
    have nh0s : h0 ≠ sm := (ne_of_none (s8 _ _ hsm7) nh0).symm
    have nh01 : h0 ≠ A1 := (ne_of_none hA1 nh0).symm
    have nh02 : h0 ≠ A2 := (ne_of_none (s8 _ _ hA27) nh0).symm
    generalize upd H8 h0 (.lst []) = H9 at s9 hh0 nA3
    have s10 : Same H9 (upd H9 A3 (.lst [.ref h0])) := (L2.Same.refl _).new nA3
    have hA3 : upd H9 A3 (.lst [.ref h0]) A3 = some (.lst [.ref h0]) := upd_same
    have D9 := D8.same s9
    have nA3d : A3 ≠ d := (ne_of_none D9.lst.choose_spec nA3).symm
    have nA3f : A3 ≠ f := (ne_of_none D9.lst2.choose_spec nA3).symm
    have nA3s : A3 ≠ sm := (ne_of_none ((s8.trans s9) _ _ hsm7) nA3).symm
    have nA31 : A3 ≠ A1 := (ne_of_none (s9 _ _ hA1) nA3).symm
    have nA32 : A3 ≠ A2 := (ne_of_none ((s8.trans s9) _ _ hA27) nA3).symm
    have nA3h : A3 ≠ h0 := (ne_of_none hh0 nA3).symm
    generalize upd H9 A3 (.lst [.ref h0]) = H10 at s10 hA3
    have s810 := (s8.trans s9).trans s10
    have R0 : Sv K C [d, f, sm] H10 A1 A2 A3 1 (fun _ => κ0) (fun _ => p0) (fun _ => q0) (fun _ => h0) (fun _ => .init κ0.kd) (fun _ => []) := by
      refine ⟨(s9.trans s10) _ _ hA1, s810 _ _ hA27, hA3, fun j hj => f7.same s810, fun j hj => ⟨[], s10 _ _ hh0, RpL.nil⟩, fun j hj => by cases κ0 <;> rfl, fun i j hi hj ne => by omega, fun i j hi hj ne => by omega, fun i j hi hj ne => by omega, fun j hj => ⟨nh01, nh02, nA3h.symm⟩, nA12, nA31.symm, nA32.symm, fun z hz => ?_⟩
      simp only [List.mem_cons, List.not_mem_nil, or_false] at hz
      rcases hz with rfl | rfl | rfl
      · exact ⟨nA1d.symm, nA2d.symm, nA3d.symm, fun j hj => nh0d⟩
      · exact ⟨nA1f.symm, nA2f.symm, nA3f.symm, fun j hj => nh0f⟩
      · exact ⟨nA1s.symm, nA2s.symm, nA3s.symm, fun j hj => nh0s⟩
    have D10 := D9.same s10
    have hsm10 := s810 _ _ hsm7
    have zd : d ∈ [d, f, sm] := List.mem_cons_self
    have zf : f ∈ [d, f, sm] := List.mem_cons_of_mem _ List.mem_cons_self
    have zs : sm ∈ [d, f, sm] := List.mem_cons_of_mem _ (List.mem_cons_of_mem _ List.mem_cons_self)
    clear hA1 hA2 hA3 hA26 hA27 hh0 hsm3 hsm4 hsm5 hsm6 hsm7 D1 D2 D3 D4 D5 D6 D7 D8 D9 s1 s2 s3 s5 s7 s8 s9 s10 s810 k4 k6 t4 t6 f7
    refine ⟨30, rfl, by omega, by omega, ?_⟩
    refine for_range (lo := 0) (fun i σ H' => ∃ (n : Nat) (κ : Nat → K4) (p q h : Nat → Addr) (s : Nat → FS) (L : Nat → PL) (v6 v7 v8 v9 v10 v11 v12 v13 : Option V), σ = [some (.ref a), some (.ref d), some (.ref sm), some (.ref A2), some (.ref A1), some (.ref A3), v6, v7, v8, v9, v10, v11, v12, v13] ∧
        Sv K C [d, f, sm] H' A1 A2 A3 n κ p q h s L ∧ (∀ j, j < n → StOk (s j) (L j) ∧ (L j).length ≤ i) ∧ 1 ≤ n ∧ n ≤ 4 ∧ H' sm = some (.lst someV) ∧ Deck H' d f (2 + 20 * i))
      ⟨1, _, _, _, _, _, _, _, _, _, _, _, _, _, _, rfl, R0, fun j hj => ⟨StOk.init _, Nat.le_refl _⟩, Nat.le_refl _, by omega, hsm10, D10.mono (by omega)⟩ ?_ ?_
    · rintro i σ H11 hi ⟨n, κ, p, q, h, s, L, v6, v7, v8, v9, v10, v11, v12, v13, rfl, R, st, n1, n4, hsm, D11⟩
      have hi : i < 30 := by omega
      refine ⟨_, rfl, _, rfl, _, n, rfl, .inl ⟨_, SqL.of R.l1, (by rw [List.length_map, List.length_range])⟩, d, f, n, 2 + 20 * i, rfl, by omega, by omega, D11, fun kk H12 kk0 kk1 k12 D12 t12 => ?_⟩
      have R12 := R.lst k12 t12 D11.lst.choose_spec zd
      have hsm12 := k12 _ _ (nin1 nsmd) hsm
      dsimp only [gName, List.set]
      refine seq_if (fun σ' H' => ∃ (n : Nat) (κ : Nat → K4) (p q h : Nat → Addr) (s : Nat → FS) (L : Nat → PL) (v8 : Option V), σ' = [some (.ref a), some (.ref d), some (.ref sm), some (.ref A2), some (.ref A1), some (.ref A3), some (.int (0 + (i : Int))), some (.int kk), v8, v9, v10, v11, v12, v13] ∧
        Sv K C [d, f, sm] H' A1 A2 A3 n κ p q h s L ∧ (∀ j, j < n → StOk (s j) (L j) ∧ (L j).length ≤ i) ∧ kk < n ∧ n ≤ 4 ∧ H' sm = some (.lst someV) ∧ Deck H' d f (2 + 20 * i + 1 + 5)) ?rest (fun rest => ?_)
      case rest =>
        clear R st n1 n4 R12 D12 D11 hsm hsm12 k12 t12 kk1
        rintro σ' H13 ⟨n, κ, p, q, h, s, L, v8, rfl, R, st, kk1, n4, hsm, D13⟩
        obtain ⟨ki, eki, hki⟩ : ∃ ki : Nat, kk = (ki : Int) ∧ ki < n := ⟨kk.toNat, by omega, by omega⟩
        subst eki
        refine ⟨_, rfl, d, f, 4, 2 + 20 * i + 1 + 5, rfl, by decide, by omega, D13, fun x1 H14 a0 a1 k14 D14 t14 => ?_⟩
        have R14 := R.lst k14 t14 D13.lst.choose_spec zd
        refine ⟨(by show 2 ≤ sizeLine; decide), fun lt nlt => ?_⟩
        have s15 : Same H14 (upd H14 lt (.lst [.int 1, .int 5])) := (L2.Same.refl _).new nlt
        have hlt : upd H14 lt (.lst [.int 1, .int 5]) lt = some (.lst [.int 1, .int 5]) := upd_same
        have nltd : lt ≠ d := (ne_of_none D14.lst.choose_spec nlt).symm
        generalize upd H14 lt (.lst [.int 1, .int 5]) = H15 at s15 hlt
        have D15 := D14.same s15
        refine ⟨_, rfl, d, f, 2, 2 + 20 * i + 1 + 5 + 1, rfl, by decide, by omega, D15, fun x2 H16 b0 b1 k16 D16 t16 => ?_⟩
        have R16 := (R14.same s15).lst k16 t16 D15.lst.choose_spec zd
        obtain ⟨mv, emv, hmv⟩ : ∃ mv : Int, atI [V.int 1, .int 5] x2 = some (.int mv) ∧ (mv = 1 ∨ mv = 5) := by
          have h : x2 = 0 ∨ x2 = 1 := by omega
          rcases h with rfl | rfl
          · exact ⟨1, rfl, .inl rfl⟩
          · exact ⟨5, rfl, .inr rfl⟩
        refine ⟨lt, _, _, _, rfl, rfl, SqL.of (k16 _ _ (nin1 nltd) hlt), emv, _, _, rfl, rfl, .inl ⟨by omega, by omega⟩, ?_⟩
        obtain ⟨sd, esd, sd0, sd1⟩ : ∃ sd : Int, x1 * mv = sd ∧ 0 ≤ sd ∧ sd < 16 := ⟨_, rfl, by rcases hmv with rfl | rfl <;> omega, by rcases hmv with rfl | rfl <;> omega⟩
        rw [show (fun i j => V.int (i * j)) x1 mv = V.int sd from congrArg V.int esd]
        refine ⟨_, rfl, _, _, rfl, rfl, ⟨by decide, by decide, by decide⟩, ?_⟩
        rw [show (fun i j : Int => V.int (i ^ j.toNat)) 10 6 = V.int 1000000 from by decide +kernel]
        refine ⟨(by show 3 ≤ sizeLine; decide), fun lu nlu => ?_⟩
        have s17 : Same H16 (upd H16 lu (.lst [.int 3, .int 12, .int 1000000])) := (L2.Same.refl _).new nlu
        have hlu : upd H16 lu (.lst [.int 3, .int 12, .int 1000000]) lu = some (.lst [.int 3, .int 12, .int 1000000]) := upd_same
        have nlud : lu ≠ d := (ne_of_none D16.lst.choose_spec nlu).symm
        generalize upd H16 lu (.lst [.int 3, .int 12, .int 1000000]) = H17 at s17 hlu
        have D17 := D16.same s17
        refine ⟨_, rfl, d, f, 3, 2 + 20 * i + 1 + 5 + 1 + 1, rfl, by decide, by omega, D17, fun x3 H18 c0 c1 k18 D18 t18 => ?_⟩
        have R18 := (R16.same s17).lst k18 t18 D17.lst.choose_spec zd
        obtain ⟨bd, ebd, hbd⟩ : ∃ bd : Int, atI [V.int 3, .int 12, .int 1000000] x3 = some (.int bd) ∧ 0 < bd ∧ bd ≤ 1000000 := by
          have h : x3 = 0 ∨ x3 = 1 ∨ x3 = 2 := by omega
          rcases h with rfl | rfl | rfl
          · exact ⟨3, rfl, by decide, by decide⟩
          · exact ⟨12, rfl, by decide, by decide⟩
          · exact ⟨1000000, rfl, by decide, by decide⟩
        refine ⟨lu, _, _, _, rfl, rfl, SqL.of (k18 _ _ (nin1 nlud) hlu), ebd, ?_⟩
        refine ⟨d, f, bd, 2 + 20 * i + 1 + 5 + 1 + 1 + 1, rfl, hbd.1, by omega, D18, fun nb H19 e0 e1 k19 D19 t19 => ?_⟩
        have R19 := R18.lst k19 t19 D18.lst.choose_spec zd
        obtain ⟨z1, z2, z3, z4⟩ := R19.dz sm zs
        have hsm19 : H19 sm = some (.lst someV) := k19 _ _ (nin1 nsmd) (k18 _ _ (nin1 nsmd) (s17 _ _ (k16 _ _ (nin1 nsmd) (s15 _ _ (k14 _ _ (nin1 nsmd) hsm)))))
        clear hlt hlu emv ebd R R14 R16 R18 D13 D14 D15 D16 D17 D18 k14 k16 k18 k19 t14 t16 t18 t19 s15 s17 hsm
        obtain ⟨stk, lenk⟩ := st ki hki
        have kk2 : ((ki : Nat) : Int) < (n : Int) := by omega
        refine ⟨_, rfl, _, rfl, A2, _, _, _, rfl, rfl, SqL.of R19.l2, atN (f := fun j => V.str (κ j).nm) kk0 kk2, _, rfl, _, rfl, A3, _, _, _, rfl, rfl, SqL.of R19.l3, atN (f := fun j => V.ref (h j)) kk0 kk2, _, rfl, _, rfl, ?_⟩
        refine ⟨κ ki, h ki, sd, nb, L ki, s ki, rfl, R19.he ki hki, R19.kd ki hki, stk, by omega, fun H20 s20 => ?_⟩
        have R20 := R19.same s20
        have D20 := D19.same s20
        have hsm20 := s20 _ _ hsm19
        have fk := R20.ok ki hki
        obtain ⟨⟨dx, hpk⟩, _⟩ := id fk
        refine ⟨_, rfl, _, rfl, A1, _, _, _, rfl, rfl, SqL.of R20.l1, atN (f := fun j => V.ref (p j)) kk0 kk2, κ ki, p ki, dx, _, rfl, hpk, fld1_ne (by decide), _, rfl, _, rfl, ?_⟩
        refine ⟨p ki, q ki, sd, nb, s ki, rfl, fk, R20.kd ki hki, stk.len (by omega), fun H21 q' hq' k21 f21 t21 => ?_⟩
        have R21 := R20.took hki hq' k21 t21 f21 ((FS.kd_take _ _ _).trans (R20.kd ki hki))
        have nlist : ∀ {x : Addr} {zs : List V}, H20 x = some (.lst zs) → x ∉ [p ki, q ki] := fun e => by
          obtain ⟨e1, e2⟩ := fk.nl e
          exact nin2 e1.symm e2.symm
        have D21 := D20.kp k21 (nlist D20.lst.choose_spec) (nlist D20.lst2.choose_spec)
        have hsm21 := k21 _ _ (nlist hsm20) hsm20
        refine ⟨_, rfl, .str ((s ki).word sd nb), .str ((s ki).word sd nb), .str ((s ki).word sd nb), rfl, Rp.str, Rp.str, (by show 0 < 3; decide), (by show 1 ≤ 1000000; decide), fun H22 s22 => ?_⟩
        refine ⟨_, rfl, iteF ?_⟩
        have R22 := R21.same s22
        have D22 := D21.same s22
        have hsm22 := s22 _ _ hsm21
        clear R19 R20 R21 D19 D20 D21 hsm19 hsm20 hsm21 f21 k21 t21 s20 s22 hpk fk nlist hq'
        dsimp only [gName, List.set, tNext]
        refine seq_if (fun σ' H' => ∃ (L' : Nat → PL), σ' = [some (.ref a), some (.ref d), some (.ref sm), some (.ref A2), some (.ref A1), some (.ref A3), some (.int (0 + (i : Int))), some (.int ki), v8, some (.int sd), some (.int nb), some (.str ((s ki).word sd nb)), v12, v13] ∧
          Sv K C [d, f, sm] H' A1 A2 A3 n κ p (fun j => if j = ki then q' else q j) h (fun j => if j = ki then (s ki).take sd nb else s j) L' ∧ (∀ j, j < n → StOk (if j = ki then (s ki).take sd nb else s j) (L' j) ∧ (L' j).length ≤ i + 1) ∧ H' sm = some (.lst someV) ∧ Deck H' d f (2 + 20 * i + 20)) ?rest2 (fun rest2 => ?_)
        case rest2 =>
          rintro σ' H23 ⟨L', rfl, R, st, hsm, D⟩
          generalize (fun j => if j = ki then q' else q j) = qq at R
          have st2 : ∀ j, j < n → StOk ((fun j => if j = ki then (s ki).take sd nb else s j) j) (L' j) ∧ (L' j).length ≤ i + 1 := st
          clear st
          generalize (fun j => if j = ki then (s ki).take sd nb else s j) = ss at R st2
          refine ⟨_, rfl, _, n, rfl, .inl ⟨_, SqL.of R.l1, (by rw [List.length_map, List.length_range])⟩, n, rfl, by omega, by omega, ?_⟩
          refine for_range (lo := 0) (fun j σ H' => ∃ (v12 : Option V), σ = [some (.ref a), some (.ref d), some (.ref sm), some (.ref A2), some (.ref A1), some (.ref A3), some (.int (0 + (i : Int))), some (.int ki), v8, some (.int sd), some (.int nb), some (.str ((s ki).word sd nb)), v12, v13] ∧ Same H23 H')
            ⟨_, rfl, L2.Same.refl _⟩ ?_ ?_
          · rintro j σ H24 hj ⟨v12, rfl, s24⟩
            have hj : j < n := by omega
            have ej : (0 + (j : Int)) = (j : Int) := Int.zero_add _
            have R24 := R.same s24
            have j0 : (0 : Int) ≤ 0 + (j : Int) := by omega
            have j1 : 0 + (j : Int) < (n : Int) := by omega
            have ej2 : (0 + (j : Int)).toNat = j := by omega
            obtain ⟨stj, lenj⟩ := st2 j hj
            have fj := R24.ok j hj
            obtain ⟨⟨dx, hpj⟩, _⟩ := id fj
            refine ⟨_, rfl, _, rfl, A1, _, _, _, rfl, rfl, SqL.of R24.l1, (by rw [atN (f := fun j => V.ref (p j)) j0 j1, ej2]), κ j, p j, dx, _, rfl, hpj, fld1_ne (by decide), ?_⟩
            refine ⟨p j, qq j, ss j, rfl, fj, R24.kd j hj, stj.small (by omega), fun H25 v ds s25 ri rv => ?_⟩
            have R25 := R24.same s25
            refine ⟨_, rfl, _, rfl, A2, _, _, _, rfl, rfl, SqL.of R25.l2, (by rw [atN (f := fun j => V.str (κ j).nm) j0 j1, ej2]), _, rfl, _, rfl, A3, _, _, _, rfl, rfl, SqL.of R25.l3, (by rw [atN (f := fun j => V.ref (h j)) j0 j1, ej2]), ?_⟩
            refine ⟨κ j, h j, L' j, ss j, rfl, R25.he j hj, R25.kd j hj, stj, by omega, fun H26 v' ds' s26 ri' rv' => ?_⟩
            have eds := rows_one stj ri' ri
            subst eds
            obtain ⟨z1, z2⟩ := rows_sz (stj.small (by omega)) ri
            refine ⟨v, v', _, rfl, Rp.tk (TK.of s26) _ _ rv, rv', z1, z2, fun H27 s27 => ?_⟩
            refine ⟨_, rfl, iteF ?_⟩
            exact ⟨_, rfl, ((s24.trans s25).trans s26).trans s27⟩
          · rintro σ H24 ⟨v12, rfl, s24⟩
            exact ⟨n, κ, p, qq, h, ss, L', _, _, _, _, _, _, _, _, rfl, R.same s24, st2, by omega, n4, s24 _ _ hsm, (D.same s24).mono (by omega)⟩
        · refine ⟨_, rfl, rfl, _, rfl, ?_⟩
          refine ite2 (fun hc => ?_) (fun hc => ?_)
          · have hw : (s ki).word sd nb = "heard" := by
              have := of_decide_eq_true hc
              injection this
            obtain ⟨ys, hy, ry⟩ := id (R22.he ki hki)
            have ly := RpL.len _ _ ry
            rw [List.length_map] at ly
            refine ⟨_, rfl, _, rfl, A3, _, _, _, rfl, rfl, SqL.of R22.l3, atN (f := fun j => V.ref (h j)) kk0 kk2, .inl ⟨rfl, _, SqL.of hy⟩, _, rfl, _, rfl, (by show 2 ≤ sizeLine; decide), fun t nt => ?_⟩
            obtain ⟨g1, g2, g3, g4⟩ := push_tup (ds := [.int sd, .int nb]) hy ry nt (RpL.cons Rp.int (RpL.cons Rp.int RpL.nil))
            refine ⟨h ki, _, _, rfl, rfl, g1, Nat.lt_of_le_of_lt (show ys.length ≤ 1000 by omega) (by decide), ?_⟩
            have R23 := R22.heard (Ln := L ki ++ [(sd, nb)]) hki g4 g3 (by rw [List.map_append]; exact g2)
            obtain ⟨u1, u2, u3, u4⟩ := R22.dz d zd
            obtain ⟨w1, w2, w3, w4⟩ := R22.dz f zf
            obtain ⟨x1, x2, x3, x4⟩ := R22.dz sm zs
            refine rest2 _ _ ⟨_, rfl, R23, fun j hj => ?_, g4 _ _ (nin1 (x4 ki hki).symm) hsm22, (D22.kp g4 (nin1 (u4 ki hki).symm) (nin1 (w4 ki hki).symm)).mono (by omega)⟩
            by_cases e : j = ki
            · subst e
              simp only [if_true]
              refine ⟨?_, ?_⟩
              · unfold FS.take
                rw [if_pos hw]
                exact stk.keep ⟨sd0, sd1, e0, by omega⟩ hw
              · rw [List.length_append, List.length_singleton]
                omega
            · simp only [if_neg e]
              obtain ⟨y1, y2⟩ := st j hj
              exact ⟨y1, by omega⟩
          · have hw : ¬ (s ki).word sd nb = "heard" := fun z => hc (by rw [z]; rfl)
            refine rest2 _ _ ⟨L, rfl, R22, fun j hj => ?_, hsm22, D22.mono (by omega)⟩
            obtain ⟨y1, y2⟩ := st j hj
            by_cases e : j = ki
            · subst e
              simp only [if_true]
              refine ⟨?_, by omega⟩
              unfold FS.take
              rw [if_neg hw]
              exact y1
            · simp only [if_neg e]
              exact ⟨y1, by omega⟩
      · refine ⟨_, rfl, _, n, rfl, .inl ⟨_, SqL.of R12.l1, (by rw [List.length_map, List.length_range])⟩, _, _, rfl, rfl, _, rfl, ?_⟩
        refine ite2 (fun hc => ?_) (fun hc => ?_)
        rotate_left
        · exact iteF (rest _ _ ⟨n, κ, p, q, h, s, L, _, rfl, R12, st, kk1, n4, hsm12, D12.mono (by omega)⟩)
        have hn4 : n < 4 := by
          have := of_decide_eq_true hc
          omega
        refine ⟨_, rfl, d, f, 6, 2 + 20 * i + 1, rfl, by decide, by omega, D12, fun c H13 c0 c1 k13 D13 t13 => ?_⟩
        have R13 := R12.lst k13 t13 D12.lst.choose_spec zd
        have hsm13 := k13 _ _ (nin1 nsmd) hsm12
        refine ⟨rfl, _, rfl, ?_⟩
        refine ite2 (fun hc2 => ?_) (fun hc2 => ?_)
        rotate_left
        · exact rest _ _ ⟨n, κ, p, q, h, s, L, _, rfl, R13, st, kk1, n4, hsm13, D13.mono (by omega)⟩
        refine ⟨_, rfl, _, rfl, d, f, 6, 2 + 20 * i + 1 + 1, rfl, by decide, by omega, D13, fun r H14 r0 r1 k14 D14 t14 => ?_⟩
        have R14 := R13.lst k14 t14 D13.lst.choose_spec zd
        have hsm14 := k14 _ _ (nin1 nsmd) hsm13
        obtain ⟨κo, eκo⟩ := some_at r0 r1
        refine ⟨sm, _, _, _, rfl, rfl, SqL.of hsm14, eκo, ?_⟩
        obtain ⟨ki, eki, hki⟩ : ∃ ki : Nat, kk = (ki : Int) ∧ ki < n := ⟨kk.toNat, by omega, by omega⟩
        subst eki
        have fk := R14.ok ki hki
        obtain ⟨⟨dx, hpk⟩, _⟩ := id fk
        obtain ⟨stk, lenk⟩ := st ki hki
        refine ⟨_, rfl, .inl ⟨rfl, _, SqL.of R14.l1⟩, _, rfl, _, rfl, A1, _, _, _, rfl, rfl, SqL.of R14.l1, atN (f := fun j => V.ref (p j)) kk0 kk1, κ ki, p ki, dx, _, rfl, hpk, fld1_ne (by decide), ?_⟩
        refine ⟨p ki, q ki, s ki, rfl, fk, R14.kd ki hki, stk.small (by omega), fun H15 pc qc npc nqc s15 fc => ?_⟩
        have R15 := R14.same s15
        have D15 := D14.same s15
        refine ⟨_, rfl, _, rfl, d, f, 2, 2 + 20 * i + 1 + 1 + 1, rfl, by decide, by omega, D15, fun b H16 b0 b1 k16 D16 t16 => ?_⟩
        have R16 := R15.lst k16 t16 D15.lst.choose_spec zd
        have hsm16 := k16 _ _ (nin1 nsmd) (s15 _ _ hsm14)
        refine ⟨rfl, κo, _, rfl, fun H17 po qo npo nqo s17 fo => ?_⟩
        have R17 := R16.same s17
        have D17 := D16.same s17
        have hsm17 := s17 _ _ hsm16
        have fc17 : FAt K (C (κ ki)) H17 pc qc (s ki) := by
          obtain ⟨e1, e2⟩ := fc.nl D15.lst.choose_spec
          exact (fc.kp k16 t16 (nin1 e1) (nin1 e2)).same s17
        have npc' : ∀ j, j < n → p j ≠ pc := fun j hj => by
          obtain ⟨⟨dx, e⟩, _⟩ := R14.ok j hj
          exact ne_of_none e npc
        have nqc' : ∀ j, j < n → q j ≠ qc := fun j hj => by
          obtain ⟨_, e⟩ := R14.ok j hj
          obtain ⟨o, ho, _⟩ := e.dict
          exact ne_of_none ho nqc
        have npo' : ∀ j, j < n → p j ≠ po := fun j hj => by
          obtain ⟨⟨dx, e⟩, _⟩ := R16.ok j hj
          exact ne_of_none e npo
        have nqo' : ∀ j, j < n → q j ≠ qo := fun j hj => by
          obtain ⟨_, e⟩ := R16.ok j hj
          obtain ⟨o, ho, _⟩ := e.dict
          exact ne_of_none ho nqo
        obtain ⟨r2, er2, hr2'⟩ : ∃ r2 : Int, (0 + (i : Int)) % 2 = r2 ∧ (r2 = 0 ∨ r2 = 1) := ⟨_, rfl, by omega⟩
        obtain ⟨pn, qn, κn, sn, e1, e2, fn, kn, npn, nqn, stn⟩ : ∃ (pn qn : Addr) (κn : K4) (sn : FS), (if r2 = 0 then V.ref pc else V.ref po) = V.ref pn ∧ (if r2 = 0 then V.str (κ ki).nm else V.str κo.nm) = V.str κn.nm ∧ FAt K (C κn) H17 pn qn sn ∧ sn.kd = κn.kd ∧ (∀ j, j < n → p j ≠ pn) ∧ (∀ j, j < n → q j ≠ qn) ∧ StOk sn (if r2 = 0 then L ki else []) := by
          rcases hr2' with rfl | rfl
          · exact ⟨pc, qc, κ ki, s ki, rfl, rfl, fc17, R14.kd ki hki, npc', nqc', stk⟩
          · exact ⟨po, qo, κo, _, rfl, rfl, fo, by cases κo <;> rfl, npo', nqo', StOk.init _⟩
        refine ⟨(by show 2 ≤ sizeLine; decide), fun la nla => ?_⟩
        have s18 : Same H17 (upd H17 la (.lst [.ref pc, .ref po])) := (L2.Same.refl _).new nla
        have hla : upd H17 la (.lst [.ref pc, .ref po]) la = some (.lst [.ref pc, .ref po]) := upd_same
        generalize upd H17 la (.lst [.ref pc, .ref po]) = H18 at s18 hla
        have R18 := R17.same s18
        refine ⟨_, rfl, _, _, rfl, rfl, (by show (0 : Int) < 2; decide), la, _, _, _, rfl, rfl, SqL.of hla, (by rw [er2]; exact at2 hr2'), ?_⟩
        rw [e1]
        have ln3 : ∀ {g : Nat → V}, ((List.range n).map g).length < sizeLine := by
          intro g
          rw [List.length_map, List.length_range]
          exact Nat.lt_of_le_of_lt n4 (by decide)
        refine ⟨A1, _, _, rfl, rfl, R18.l1, ln3, ?_⟩
        have kA : Kp [A1, A2, A3] H18 (upd H18 A1 (.lst (((List.range n).map fun j => V.ref (p j)) ++ [V.ref pn]))) := (Kp.refl _ _).wr List.mem_cons_self
        have tA : TK H18 (upd H18 A1 (.lst (((List.range n).map fun j => V.ref (p j)) ++ [V.ref pn]))) := (TK.refl _).wr R18.l1 rfl
        have hA1 : upd H18 A1 (.lst (((List.range n).map fun j => V.ref (p j)) ++ [V.ref pn])) A1 = some (.lst (((List.range n).map fun j => V.ref (p j)) ++ [V.ref pn])) := upd_same
        have hA2 : upd H18 A1 (.lst (((List.range n).map fun j => V.ref (p j)) ++ [V.ref pn])) A2 = some (.lst ((List.range n).map fun j => V.str (κ j).nm)) := by rw [upd_ne R18.d12.symm]; exact R18.l2
        have hA3 : upd H18 A1 (.lst (((List.range n).map fun j => V.ref (p j)) ++ [V.ref pn])) A3 = some (.lst ((List.range n).map fun j => V.ref (h j))) := by rw [upd_ne R18.d13.symm]; exact R18.l3
        generalize upd H18 A1 (.lst (((List.range n).map fun j => V.ref (p j)) ++ [V.ref pn])) = H19 at kA tA hA1 hA2 hA3
        refine ⟨_, rfl, .inl ⟨rfl, _, SqL.of hA2⟩, _, rfl, _, rfl, A2, _, _, _, rfl, rfl, SqL.of hA2, atN (f := fun j => V.str (κ j).nm) kk0 kk1, _, rfl, (by show 2 ≤ sizeLine; decide), fun lb nlb => ?_⟩
        have s20 : Same H19 (upd H19 lb (.lst [.str (κ (Int.toNat (ki : Int))).nm, .str κo.nm])) := (L2.Same.refl _).new nlb
        have hlb : upd H19 lb (.lst [.str (κ (Int.toNat (ki : Int))).nm, .str κo.nm]) lb = some (.lst [.str (κ ki).nm, .str κo.nm]) := by rw [upd_same, Int.toNat_natCast]
        generalize upd H19 lb (.lst [.str (κ (Int.toNat (ki : Int))).nm, .str κo.nm]) = H20 at s20 hlb
        refine ⟨_, rfl, _, _, rfl, rfl, (by show (0 : Int) < 2; decide), lb, _, _, _, rfl, rfl, SqL.of hlb, (by rw [er2]; exact at2 hr2'), ?_⟩
        rw [e2]
        refine ⟨A2, _, _, rfl, rfl, s20 _ _ hA2, ln3, ?_⟩
        have kB : Kp [A1, A2, A3] H18 (upd H20 A2 (.lst (((List.range n).map fun j => V.str (κ j).nm) ++ [V.str κn.nm]))) := (kA.trans (Kp.of s20)).wr (List.mem_cons_of_mem _ List.mem_cons_self)
        have tB : TK H18 (upd H20 A2 (.lst (((List.range n).map fun j => V.str (κ j).nm) ++ [V.str κn.nm]))) := (tA.trans (TK.of s20)).wr (s20 _ _ hA2) rfl
        have hB1 : upd H20 A2 (.lst (((List.range n).map fun j => V.str (κ j).nm) ++ [V.str κn.nm])) A1 = some (.lst (((List.range n).map fun j => V.ref (p j)) ++ [V.ref pn])) := by rw [upd_ne R18.d12]; exact s20 _ _ hA1
        have hB2 : upd H20 A2 (.lst (((List.range n).map fun j => V.str (κ j).nm) ++ [V.str κn.nm])) A2 = some (.lst (((List.range n).map fun j => V.str (κ j).nm) ++ [V.str κn.nm])) := upd_same
        have hB3 : upd H20 A2 (.lst (((List.range n).map fun j => V.str (κ j).nm) ++ [V.str κn.nm])) A3 = some (.lst ((List.range n).map fun j => V.ref (h j))) := by rw [upd_ne R18.d23.symm]; exact s20 _ _ hA3
        generalize upd H20 A2 (.lst (((List.range n).map fun j => V.str (κ j).nm) ++ [V.str κn.nm])) = H21 at kB tB hB1 hB2 hB3
        clear hA1 hA2 hA3 hlb kA tA s20
        have nin3 : ∀ {x : Addr}, x ≠ A1 → x ≠ A2 → x ≠ A3 → x ∉ [A1, A2, A3] := fun a b c z => by
          rcases List.mem_cons.mp z with z | z
          · exact a z
          · exact nin2 b c z
        obtain ⟨m1, m2, m3⟩ := R18.dl ki hki
        obtain ⟨ys, hy21, ry21⟩ := (R18.he ki hki).kp kB tB (nin3 m1 m2 m3)
        refine ⟨_, rfl, .inl ⟨rfl, _, SqL.of hB3⟩, _, rfl, _, rfl, A3, _, _, _, rfl, rfl, SqL.of hB3, atN (f := fun j => V.ref (h j)) kk0 kk1, h ki, ys, rfl, .inl (SqL.of hy21), fun hc nhc => ?_⟩
        have s22 : Same H21 (upd H21 hc (.lst ys)) := (L2.Same.refl _).new nhc
        have hhc : LstAt K (upd H21 hc (.lst ys)) hc ((L ki).map p2D) := ⟨ys, upd_same, RpL.tk (TK.of s22) _ _ ry21⟩
        have nz18 : ∀ {x : Addr}, H21 x = none → H18 x = none := fun {x} hx => by
          cases e : H18 x with
          | none => rfl
          | some o =>
            by_cases ex : x ∈ [A1, A2, A3]
            · simp only [List.mem_cons, List.not_mem_nil, or_false] at ex
              rcases ex with rfl | rfl | rfl
              · rw [hx] at hB1; cases hB1
              · rw [hx] at hB2; cases hB2
              · rw [hx] at hB3; cases hB3
            · rw [kB _ _ ex e] at hx
              cases hx
        generalize upd H21 hc (.lst ys) = H22 at s22 hhc
        refine ⟨(by show 0 ≤ sizeLine; decide), fun hd nhd => ⟨(by show 2 ≤ sizeLine; decide), fun lc nlc => ?_⟩⟩
        have s23 : Same H22 (upd H22 hd (.lst [])) := (L2.Same.refl _).new nhd
        have hhd : LstAt K (upd H22 hd (.lst [])) hd (([] : PL).map p2D) := ⟨[], upd_same, RpL.nil⟩
        have nhd21 : H21 hd = none := at_none (M := []) (Kp.of s22) (by simp) nhd
        generalize upd H22 hd (.lst []) = H23 at s23 hhd nlc
        have s24 : Same H23 (upd H23 lc (.lst [.ref hc, .ref hd])) := (L2.Same.refl _).new nlc
        have hlc : upd H23 lc (.lst [.ref hc, .ref hd]) lc = some (.lst [.ref hc, .ref hd]) := upd_same
        generalize upd H23 lc (.lst [.ref hc, .ref hd]) = H24 at s24 hlc
        have s2124 := (s22.trans s23).trans s24
        refine ⟨_, rfl, _, _, rfl, rfl, (by show (0 : Int) < 2; decide), lc, _, _, _, rfl, rfl, SqL.of hlc, (by rw [er2]; exact at2 hr2'), ?_⟩
        obtain ⟨hn, e3, hhn, nhn⟩ : ∃ hn, (if r2 = 0 then V.ref hc else V.ref hd) = V.ref hn ∧ LstAt K H24 hn ((if r2 = 0 then L ki else []).map p2D) ∧ H21 hn = none := by
          rcases hr2' with rfl | rfl
          · exact ⟨hc, rfl, (hhc.same s23).same s24, nhc⟩
          · exact ⟨hd, rfl, hhd.same s24, nhd21⟩
        rw [e3]
        refine ⟨A3, _, _, rfl, rfl, s2124 _ _ hB3, ln3, ?_⟩
        have kC : Kp [A1, A2, A3] H18 (upd H24 A3 (.lst (((List.range n).map fun j => V.ref (h j)) ++ [V.ref hn]))) := (kB.trans (Kp.of s2124)).wr (List.mem_cons_of_mem _ (List.mem_cons_of_mem _ List.mem_cons_self))
        have tC : TK H18 (upd H24 A3 (.lst (((List.range n).map fun j => V.ref (h j)) ++ [V.ref hn]))) := (tB.trans (TK.of s2124)).wr (s2124 _ _ hB3) rfl
        have nhA3 : hn ≠ A3 := (ne_of_none hB3 nhn).symm
        have hC0 : LstAt K (upd H24 A3 (.lst (((List.range n).map fun j => V.ref (h j)) ++ [V.ref hn]))) hn ((if r2 = 0 then L ki else []).map p2D) := hhn.kp (M := [A3]) ((Kp.refl _ _).wr (List.mem_singleton.mpr rfl)) ((TK.refl _).wr (s2124 _ _ hB3) rfl) (nin1 nhA3)
        have hC1 : upd H24 A3 (.lst (((List.range n).map fun j => V.ref (h j)) ++ [V.ref hn])) A1 = some (.lst (((List.range n).map fun j => V.ref (p j)) ++ [V.ref pn])) := by rw [upd_ne R18.d13]; exact s2124 _ _ hB1
        have hC2 : upd H24 A3 (.lst (((List.range n).map fun j => V.ref (h j)) ++ [V.ref hn])) A2 = some (.lst (((List.range n).map fun j => V.str (κ j).nm) ++ [V.str κn.nm])) := by rw [upd_ne R18.d23]; exact s2124 _ _ hB2
        have hC3 : upd H24 A3 (.lst (((List.range n).map fun j => V.ref (h j)) ++ [V.ref hn])) A3 = some (.lst (((List.range n).map fun j => V.ref (h j)) ++ [V.ref hn])) := upd_same
        generalize upd H24 A3 (.lst (((List.range n).map fun j => V.ref (h j)) ++ [V.ref hn])) = H25 at kC tC hC0 hC1 hC2 hC3
        have fn18 := fn.same s18
        obtain ⟨g1, g1'⟩ := fn18.nl R18.l1
        obtain ⟨g2, g2'⟩ := fn18.nl R18.l2
        obtain ⟨g3, g3'⟩ := fn18.nl R18.l3
        obtain ⟨u1, u2, u3, u4⟩ := R18.dz d zd
        obtain ⟨w1, w2, w3, w4⟩ := R18.dz f zf
        obtain ⟨x1, x2, x3, x4⟩ := R18.dz sm zs
        have nhn18 := nz18 nhn
        have R25 := R18.push kC tC hC1 hC2 hC3 (fn18.kp kC tC (nin3 g1 g2 g3) (nin3 g1' g2' g3')) hC0 kn npn nqn (fun j hj => ne_of_none (R18.he j hj).lst.choose_spec nhn18)
          ⟨(ne_of_none R18.l1 nhn18).symm, (ne_of_none R18.l2 nhn18).symm, (ne_of_none R18.l3 nhn18).symm⟩ (fun z hz => by
            simp only [List.mem_cons, List.not_mem_nil, or_false] at hz
            rcases hz with rfl | rfl | rfl
            · exact (ne_of_none (D17.same s18).lst.choose_spec nhn18).symm
            · exact (ne_of_none (D17.same s18).lst2.choose_spec nhn18).symm
            · exact (ne_of_none (s18 _ _ hsm17) nhn18).symm)
        refine rest _ _ ⟨n + 1, _, _, _, _, _, _, _, rfl, R25, fun j hj => ?_, by omega, by omega, kC _ _ (nin3 x1 x2 x3) (s18 _ _ hsm17), ((D17.same s18).kp kC (nin3 u1 u2 u3) (nin3 w1 w2 w3)).mono (by omega)⟩
        by_cases e : j = n
        · simp only [if_pos e]
          refine ⟨stn, ?_⟩
          split
          · exact lenk
          · exact Nat.zero_le _
        · simp only [if_neg e]
          exact st j (by omega)
    · rintro σ H11 ⟨n, κ, p, q, h, s, L, v6, v7, v8, v9, v10, v11, v12, v13, rfl, R, st, n1, n4, hsm, D11⟩
      refine ⟨_, rfl, _, n, rfl, .inl ⟨_, SqL.of R.l1, (by rw [List.length_map, List.length_range])⟩, n, rfl, by omega, by omega, ?_⟩
      refine for_range (lo := 0) (fun j σ H' => ∃ (v12 v13 : Option V), σ = [some (.ref a), some (.ref d), some (.ref sm), some (.ref A2), some (.ref A1), some (.ref A3), v6, v7, v8, v9, v10, v11, v12, v13] ∧ Same H11 H')
        ⟨_, _, rfl, L2.Same.refl _⟩ ?_ ?_
      · rintro j σ H12 hj ⟨v12, v13, rfl, s12⟩
        have hj : j < n := by omega
        have R12 := R.same s12
        have j0 : (0 : Int) ≤ 0 + (j : Int) := by omega
        have j1 : 0 + (j : Int) < (n : Int) := by omega
        have ej2 : (0 + (j : Int)).toNat = j := by omega
        have a1 := atN (f := fun j => V.ref (p j)) j0 j1
        have a2 := atN (f := fun j => V.str (κ j).nm) j0 j1
        rw [ej2] at a1 a2
        obtain ⟨⟨dx, hpj⟩, _⟩ := R12.ok j hj
        have ty : ∀ H', Same H12 H' → TyX K H' (.ref (p j)) (.ref (C (κ j))) := fun H' s' => .base (.ins (s' _ _ hpj) (IC (κ j)).cl (IC (κ j)).ha (IC (κ j)).hn (IC (κ j)).htk (IC (κ j)).hm)
        have t0 := ty _ (L2.Same.refl _)
        refine ⟨_, rfl, _, rfl, A1, _, _, _, rfl, rfl, SqL.of R12.l1, a1, _, _, _, _, _, rfl, .own _, t0, IK _ _, _, rfl, _, rfl, A1, _, _, _, rfl, rfl, SqL.of R12.l1, a1, _, _, _, _, _, rfl, .own _, t0, IK _ _, _, rfl, _, rfl, A1, _, _, _, rfl, rfl, SqL.of R12.l1, a1, _, _, _, _, _, rfl, .own _, t0, IK _ _, (by show 3 ≤ sizeLine; decide), fun rt nrt => ?_⟩
        have s13 : Same H12 (upd H12 rt (.lst [.bl (isK (κ j) .lo), .bl (isK (κ j) .on), .bl (isK (κ j) .tu)])) := (L2.Same.refl _).new nrt
        have hrt : upd H12 rt (.lst [.bl (isK (κ j) .lo), .bl (isK (κ j) .on), .bl (isK (κ j) .tu)]) rt = some (.lst [.bl (isK (κ j) .lo), .bl (isK (κ j) .on), .bl (isK (κ j) .tu)]) := upd_same
        generalize upd H12 rt (.lst [.bl (isK (κ j) .lo), .bl (isK (κ j) .on), .bl (isK (κ j) .tu)]) = H13 at s13 hrt
        have R13 := R12.same s13
        refine ⟨_, rfl, _, rfl, _, rfl, A2, _, _, _, rfl, rfl, SqL.of R13.l2, a2, rfl, _, rfl, _, rfl, A2, _, _, _, rfl, rfl, SqL.of R13.l2, a2, rfl, _, rfl, _, rfl, A2, _, _, _, rfl, rfl, SqL.of R13.l2, a2, rfl, (by show 3 ≤ sizeLine; decide), fun ru nru => ?_⟩
        have s14 : Same H13 (upd H13 ru (.lst [.bl (decide (V.str (κ j).nm = V.str "loose")), .bl (decide (V.str (κ j).nm = V.str "once")), .bl (decide (V.str (κ j).nm = V.str "row"))])) := (L2.Same.refl _).new nru
        have hru : upd H13 ru (.lst [.bl (decide (V.str (κ j).nm = V.str "loose")), .bl (decide (V.str (κ j).nm = V.str "once")), .bl (decide (V.str (κ j).nm = V.str "row"))]) ru = some (.lst [.bl (isK (κ j) .lo), .bl (isK (κ j) .on), .bl (isK (κ j) .tu)]) := by
          rw [upd_same]
          cases κ j <;> rfl
        show rNeD K (V.ref rt) (V.ref ru) (upd H13 ru (.lst [.bl (decide (V.str (κ j).nm = V.str "loose")), .bl (decide (V.str (κ j).nm = V.str "once")), .bl (decide (V.str (κ j).nm = V.str "row"))])) _
        generalize upd H13 ru (.lst [.bl (decide (V.str (κ j).nm = V.str "loose")), .bl (decide (V.str (κ j).nm = V.str "once")), .bl (decide (V.str (κ j).nm = V.str "row"))]) = H14 at s14 hru
        refine ⟨_, _, bl3 (s14 _ _ hrt), bl3 hru, shaped_bl3 _ _ _, shaped_bl3 _ _ _, _, rfl, ?_⟩
        rw [SeqAt.eqv_refl _ (SeqAt.canLay_of_shaped (shaped_bl3 _ _ _))]
        refine iteF ?_
        have R14 := R13.same s14
        refine ⟨_, rfl, _, rfl, A1, _, _, _, rfl, rfl, SqL.of R14.l1, a1, _, _, _, _, _, rfl, .own _, ty _ (s13.trans s14), IK _ .pn, _, rfl, ?_⟩
        have epn : isK (κ j) .pn = true := by cases κ j <;> rfl
        rw [epn]
        exact iteF ⟨_, _, rfl, (s12.trans s13).trans s14⟩
      · rintro σ H12 ⟨v12, v13, rfl, s12⟩
        exact k _
end
end Wn

namespace Wn
open PySem L2
theorem all_mk {l : PySem.W.OpenLaw} {w : World} {K : PySem.W.Frag} {h : Heap} {mg : Str → Option Value} {fa A_KINDS C_Filter f_Filter_init f_Filter_word_for f_Filter_keep f_Filter_takes f_Filter_rows f_Filter_fresh f_Filter_copy C_Loose f_Loose_fresh C_Once f_Once_word_for f_Once_keep f_Once_rows f_Once_fresh C_Turn f_Turn_word_for f_Turn_keep f_Turn_rows f_Turn_fresh f_filter_of f_law_mixed f_law_deck f_law_next f_law_same f_law_due f_law_sieve f_law_rows f_law : Addr} (X : K.In h) (G : h.Ns mainGlobals mg) (hfa : mg "law" = some (.ref fa))
    {dd_KINDS od_Filter_init an_Filter_init od_Filter_word_for an_Filter_word_for od_Filter_keep an_Filter_keep od_Filter_takes an_Filter_takes od_Filter_rows an_Filter_rows od_Filter_fresh an_Filter_fresh od_Filter_copy an_Filter_copy od_Loose_fresh an_Loose_fresh od_Once_word_for an_Once_word_for od_Once_keep an_Once_keep od_Once_rows an_Once_rows od_Once_fresh an_Once_fresh od_Turn_word_for an_Turn_word_for od_Turn_keep an_Turn_keep od_Turn_rows an_Turn_rows od_Turn_fresh an_Turn_fresh od_filter_of an_filter_of od_law_mixed an_law_mixed od_law_deck an_law_deck od_law_next an_law_next od_law_same an_law_same od_law_due an_law_due od_law_sieve an_law_sieve od_law_rows an_law_rows od_law an_law : Option Addr} {sl_KINDS sl_Filter_init sl_Filter_word_for sl_Filter_keep sl_Filter_takes sl_Filter_rows sl_Filter_fresh sl_Filter_copy sl_Loose_fresh sl_Once_word_for sl_Once_keep sl_Once_rows sl_Once_fresh sl_Turn_word_for sl_Turn_keep sl_Turn_rows sl_Turn_fresh sl_filter_of sl_law_mixed sl_law_deck sl_law_next sl_law_same sl_law_due sl_law_sieve sl_law_rows sl_law : Array (Option Value)} {oc_Filter_init kV_Filter_init dc_Filter_init pm_Filter_init cd_Filter_init ct_Filter_init oc_Filter_word_for kV_Filter_word_for dc_Filter_word_for pm_Filter_word_for cd_Filter_word_for ct_Filter_word_for oc_Filter_keep kV_Filter_keep dc_Filter_keep pm_Filter_keep cd_Filter_keep ct_Filter_keep oc_Filter_takes kV_Filter_takes dc_Filter_takes pm_Filter_takes cd_Filter_takes ct_Filter_takes oc_Filter_rows kV_Filter_rows dc_Filter_rows pm_Filter_rows cd_Filter_rows ct_Filter_rows oc_Filter_fresh kV_Filter_fresh dc_Filter_fresh pm_Filter_fresh cd_Filter_fresh ct_Filter_fresh oc_Filter_copy kV_Filter_copy dc_Filter_copy pm_Filter_copy cd_Filter_copy ct_Filter_copy oc_Loose_fresh kV_Loose_fresh dc_Loose_fresh pm_Loose_fresh cd_Loose_fresh ct_Loose_fresh oc_Once_word_for kV_Once_word_for dc_Once_word_for pm_Once_word_for cd_Once_word_for ct_Once_word_for oc_Once_keep kV_Once_keep dc_Once_keep pm_Once_keep cd_Once_keep ct_Once_keep oc_Once_rows kV_Once_rows dc_Once_rows pm_Once_rows cd_Once_rows ct_Once_rows oc_Once_fresh kV_Once_fresh dc_Once_fresh pm_Once_fresh cd_Once_fresh ct_Once_fresh oc_Turn_word_for kV_Turn_word_for dc_Turn_word_for pm_Turn_word_for cd_Turn_word_for ct_Turn_word_for oc_Turn_keep kV_Turn_keep dc_Turn_keep pm_Turn_keep cd_Turn_keep ct_Turn_keep oc_Turn_rows kV_Turn_rows dc_Turn_rows pm_Turn_rows cd_Turn_rows ct_Turn_rows oc_Turn_fresh kV_Turn_fresh dc_Turn_fresh pm_Turn_fresh cd_Turn_fresh ct_Turn_fresh oc_filter_of kV_filter_of dc_filter_of pm_filter_of cd_filter_of ct_filter_of oc_law_mixed kV_law_mixed dc_law_mixed pm_law_mixed cd_law_mixed ct_law_mixed oc_law_deck kV_law_deck dc_law_deck pm_law_deck cd_law_deck ct_law_deck oc_law_next kV_law_next dc_law_next pm_law_next cd_law_next ct_law_next oc_law_same kV_law_same dc_law_same pm_law_same cd_law_same ct_law_same oc_law_due kV_law_due dc_law_due pm_law_due cd_law_due ct_law_due oc_law_sieve kV_law_sieve dc_law_sieve pm_law_sieve cd_law_sieve ct_law_sieve oc_law_rows kV_law_rows dc_law_rows pm_law_rows cd_law_rows ct_law_rows oc_law kV_law dc_law pm_law cd_law ct_law : Value} {t_HEARD t_AGAIN t_LATE tk0 tk1 tk2 : Tok}
    {n_tup_KINDS : Nat}
    (a_HEARD : PySem.W.nsIn K mainGlobals "HEARD" = some (some (.str "heard" t_HEARD)))
    (a_AGAIN : PySem.W.nsIn K mainGlobals "AGAIN" = some (some (.str "again" t_AGAIN)))
    (a_LATE : PySem.W.nsIn K mainGlobals "LATE" = some (some (.str "late" t_LATE)))
    (a_KINDS : PySem.W.nsIn K mainGlobals "KINDS" = some (some (.ref A_KINDS)))
    (lk_KINDS : K.lookup A_KINDS = some ⟨.type "tuple", dd_KINDS, .seq #[.str "loose" tk0, .str "once" tk1, .str "row" tk2] n_tup_KINDS, sl_KINDS⟩)
    (a_C_Filter : PySem.W.nsIn K mainGlobals "Filter" = some (some (.ref C_Filter)))
    (pg_C_Filter : PySem.W.plainGet K C_Filter Str.empty = true)
    (hd_C_Filter : PySem.W.hasDictIn K C_Filter = true)
    (po_C_Filter : PySem.W.plainOver K C_Filter = true)
    (sa_C_Filter : PySem.W.findIn K (.ref C_Filter) "__setattr__" = some (some (.builtin "object.__setattr__")))
    (mk_C_Filter : PySem.W.makesIn K C_Filter = true)
    (kc_C_Filter : PySem.W.keepIn K (.ref C_Filter) = true)
    (n_C_Filter_known : PySem.W.findIn K (.ref C_Filter) "known" = some none)
    (a_Filter_init : PySem.W.findIn K (.ref C_Filter) "__init__" = some (some (.ref f_Filter_init)))
    (i_Filter_init : PySem.W.isFn K (.ref f_Filter_init) = true)
    (l_Filter_init : K.lookup f_Filter_init = some ⟨oc_Filter_init, od_Filter_init, .func (PySem.W.fnOf "__init__" "Filter.__init__" (defArgs sFInit) (defBody sFInit) (defScope sFInit) .none kV_Filter_init dc_Filter_init pm_Filter_init an_Filter_init cd_Filter_init ct_Filter_init), sl_Filter_init⟩)
    (c_Filter_init : PySem.W.codeIn K cd_Filter_init "Filter.__init__" = true)
    (k_Filter_init : PySem.W.keepIn K (.ref f_Filter_init) = true)
    (a_Filter_word_for : PySem.W.findIn K (.ref C_Filter) "word_for" = some (some (.ref f_Filter_word_for)))
    (i_Filter_word_for : PySem.W.isFn K (.ref f_Filter_word_for) = true)
    (l_Filter_word_for : K.lookup f_Filter_word_for = some ⟨oc_Filter_word_for, od_Filter_word_for, .func (PySem.W.fnOf "word_for" "Filter.word_for" (defArgs sFWord) (defBody sFWord) (defScope sFWord) .none kV_Filter_word_for dc_Filter_word_for pm_Filter_word_for an_Filter_word_for cd_Filter_word_for ct_Filter_word_for), sl_Filter_word_for⟩)
    (c_Filter_word_for : PySem.W.codeIn K cd_Filter_word_for "Filter.word_for" = true)
    (k_Filter_word_for : PySem.W.keepIn K (.ref f_Filter_word_for) = true)
    (a_Filter_keep : PySem.W.findIn K (.ref C_Filter) "keep" = some (some (.ref f_Filter_keep)))
    (i_Filter_keep : PySem.W.isFn K (.ref f_Filter_keep) = true)
    (l_Filter_keep : K.lookup f_Filter_keep = some ⟨oc_Filter_keep, od_Filter_keep, .func (PySem.W.fnOf "keep" "Filter.keep" (defArgs sFKeep) (defBody sFKeep) (defScope sFKeep) .none kV_Filter_keep dc_Filter_keep pm_Filter_keep an_Filter_keep cd_Filter_keep ct_Filter_keep), sl_Filter_keep⟩)
    (c_Filter_keep : PySem.W.codeIn K cd_Filter_keep "Filter.keep" = true)
    (k_Filter_keep : PySem.W.keepIn K (.ref f_Filter_keep) = true)
    (a_Filter_takes : PySem.W.findIn K (.ref C_Filter) "takes" = some (some (.ref f_Filter_takes)))
    (i_Filter_takes : PySem.W.isFn K (.ref f_Filter_takes) = true)
    (l_Filter_takes : K.lookup f_Filter_takes = some ⟨oc_Filter_takes, od_Filter_takes, .func (PySem.W.fnOf "takes" "Filter.takes" (defArgs sFTakes) (defBody sFTakes) (defScope sFTakes) .none kV_Filter_takes dc_Filter_takes pm_Filter_takes an_Filter_takes cd_Filter_takes ct_Filter_takes), sl_Filter_takes⟩)
    (c_Filter_takes : PySem.W.codeIn K cd_Filter_takes "Filter.takes" = true)
    (k_Filter_takes : PySem.W.keepIn K (.ref f_Filter_takes) = true)
    (a_Filter_rows : PySem.W.findIn K (.ref C_Filter) "rows" = some (some (.ref f_Filter_rows)))
    (i_Filter_rows : PySem.W.isFn K (.ref f_Filter_rows) = true)
    (l_Filter_rows : K.lookup f_Filter_rows = some ⟨oc_Filter_rows, od_Filter_rows, .func (PySem.W.fnOf "rows" "Filter.rows" (defArgs sFRows) (defBody sFRows) (defScope sFRows) .none kV_Filter_rows dc_Filter_rows pm_Filter_rows an_Filter_rows cd_Filter_rows ct_Filter_rows), sl_Filter_rows⟩)
    (c_Filter_rows : PySem.W.codeIn K cd_Filter_rows "Filter.rows" = true)
    (k_Filter_rows : PySem.W.keepIn K (.ref f_Filter_rows) = true)
    (a_Filter_fresh : PySem.W.findIn K (.ref C_Filter) "fresh" = some (some (.ref f_Filter_fresh)))
    (i_Filter_fresh : PySem.W.isFn K (.ref f_Filter_fresh) = true)
    (l_Filter_fresh : K.lookup f_Filter_fresh = some ⟨oc_Filter_fresh, od_Filter_fresh, .func (PySem.W.fnOf "fresh" "Filter.fresh" (defArgs sFFresh) (defBody sFFresh) (defScope sFFresh) .none kV_Filter_fresh dc_Filter_fresh pm_Filter_fresh an_Filter_fresh cd_Filter_fresh ct_Filter_fresh), sl_Filter_fresh⟩)
    (c_Filter_fresh : PySem.W.codeIn K cd_Filter_fresh "Filter.fresh" = true)
    (k_Filter_fresh : PySem.W.keepIn K (.ref f_Filter_fresh) = true)
    (a_Filter_copy : PySem.W.findIn K (.ref C_Filter) "copy" = some (some (.ref f_Filter_copy)))
    (i_Filter_copy : PySem.W.isFn K (.ref f_Filter_copy) = true)
    (l_Filter_copy : K.lookup f_Filter_copy = some ⟨oc_Filter_copy, od_Filter_copy, .func (PySem.W.fnOf "copy" "Filter.copy" (defArgs sFCopy) (defBody sFCopy) (defScope sFCopy) .none kV_Filter_copy dc_Filter_copy pm_Filter_copy an_Filter_copy cd_Filter_copy ct_Filter_copy), sl_Filter_copy⟩)
    (c_Filter_copy : PySem.W.codeIn K cd_Filter_copy "Filter.copy" = true)
    (k_Filter_copy : PySem.W.keepIn K (.ref f_Filter_copy) = true)
    (a_C_Loose : PySem.W.nsIn K mainGlobals "Loose" = some (some (.ref C_Loose)))
    (pg_C_Loose : PySem.W.plainGet K C_Loose Str.empty = true)
    (hd_C_Loose : PySem.W.hasDictIn K C_Loose = true)
    (po_C_Loose : PySem.W.plainOver K C_Loose = true)
    (sa_C_Loose : PySem.W.findIn K (.ref C_Loose) "__setattr__" = some (some (.builtin "object.__setattr__")))
    (mk_C_Loose : PySem.W.makesIn K C_Loose = true)
    (kc_C_Loose : PySem.W.keepIn K (.ref C_Loose) = true)
    (n_C_Loose_known : PySem.W.findIn K (.ref C_Loose) "known" = some none)
    (a_Loose_fresh : PySem.W.findIn K (.ref C_Loose) "fresh" = some (some (.ref f_Loose_fresh)))
    (i_Loose_fresh : PySem.W.isFn K (.ref f_Loose_fresh) = true)
    (l_Loose_fresh : K.lookup f_Loose_fresh = some ⟨oc_Loose_fresh, od_Loose_fresh, .func (PySem.W.fnOf "fresh" "Loose.fresh" (defArgs sLFresh) (defBody sLFresh) (defScope sLFresh) .none kV_Loose_fresh dc_Loose_fresh pm_Loose_fresh an_Loose_fresh cd_Loose_fresh ct_Loose_fresh), sl_Loose_fresh⟩)
    (c_Loose_fresh : PySem.W.codeIn K cd_Loose_fresh "Loose.fresh" = true)
    (k_Loose_fresh : PySem.W.keepIn K (.ref f_Loose_fresh) = true)
    (a_Loose_init : PySem.W.findIn K (.ref C_Loose) "__init__" = some (some (.ref f_Filter_init)))
    (a_Loose_word_for : PySem.W.findIn K (.ref C_Loose) "word_for" = some (some (.ref f_Filter_word_for)))
    (a_Loose_keep : PySem.W.findIn K (.ref C_Loose) "keep" = some (some (.ref f_Filter_keep)))
    (a_Loose_takes : PySem.W.findIn K (.ref C_Loose) "takes" = some (some (.ref f_Filter_takes)))
    (a_Loose_rows : PySem.W.findIn K (.ref C_Loose) "rows" = some (some (.ref f_Filter_rows)))
    (a_Loose_copy : PySem.W.findIn K (.ref C_Loose) "copy" = some (some (.ref f_Filter_copy)))
    (a_C_Once : PySem.W.nsIn K mainGlobals "Once" = some (some (.ref C_Once)))
    (pg_C_Once : PySem.W.plainGet K C_Once Str.empty = true)
    (hd_C_Once : PySem.W.hasDictIn K C_Once = true)
    (po_C_Once : PySem.W.plainOver K C_Once = true)
    (sa_C_Once : PySem.W.findIn K (.ref C_Once) "__setattr__" = some (some (.builtin "object.__setattr__")))
    (mk_C_Once : PySem.W.makesIn K C_Once = true)
    (kc_C_Once : PySem.W.keepIn K (.ref C_Once) = true)
    (n_C_Once_known : PySem.W.findIn K (.ref C_Once) "known" = some none)
    (a_Once_word_for : PySem.W.findIn K (.ref C_Once) "word_for" = some (some (.ref f_Once_word_for)))
    (i_Once_word_for : PySem.W.isFn K (.ref f_Once_word_for) = true)
    (l_Once_word_for : K.lookup f_Once_word_for = some ⟨oc_Once_word_for, od_Once_word_for, .func (PySem.W.fnOf "word_for" "Once.word_for" (defArgs sOWord) (defBody sOWord) (defScope sOWord) .none kV_Once_word_for dc_Once_word_for pm_Once_word_for an_Once_word_for cd_Once_word_for ct_Once_word_for), sl_Once_word_for⟩)
    (c_Once_word_for : PySem.W.codeIn K cd_Once_word_for "Once.word_for" = true)
    (k_Once_word_for : PySem.W.keepIn K (.ref f_Once_word_for) = true)
    (a_Once_keep : PySem.W.findIn K (.ref C_Once) "keep" = some (some (.ref f_Once_keep)))
    (i_Once_keep : PySem.W.isFn K (.ref f_Once_keep) = true)
    (l_Once_keep : K.lookup f_Once_keep = some ⟨oc_Once_keep, od_Once_keep, .func (PySem.W.fnOf "keep" "Once.keep" (defArgs sOKeep) (defBody sOKeep) (defScope sOKeep) .none kV_Once_keep dc_Once_keep pm_Once_keep an_Once_keep cd_Once_keep ct_Once_keep), sl_Once_keep⟩)
    (c_Once_keep : PySem.W.codeIn K cd_Once_keep "Once.keep" = true)
    (k_Once_keep : PySem.W.keepIn K (.ref f_Once_keep) = true)
    (a_Once_rows : PySem.W.findIn K (.ref C_Once) "rows" = some (some (.ref f_Once_rows)))
    (i_Once_rows : PySem.W.isFn K (.ref f_Once_rows) = true)
    (l_Once_rows : K.lookup f_Once_rows = some ⟨oc_Once_rows, od_Once_rows, .func (PySem.W.fnOf "rows" "Once.rows" (defArgs sORows) (defBody sORows) (defScope sORows) .none kV_Once_rows dc_Once_rows pm_Once_rows an_Once_rows cd_Once_rows ct_Once_rows), sl_Once_rows⟩)
    (c_Once_rows : PySem.W.codeIn K cd_Once_rows "Once.rows" = true)
    (k_Once_rows : PySem.W.keepIn K (.ref f_Once_rows) = true)
    (a_Once_fresh : PySem.W.findIn K (.ref C_Once) "fresh" = some (some (.ref f_Once_fresh)))
    (i_Once_fresh : PySem.W.isFn K (.ref f_Once_fresh) = true)
    (l_Once_fresh : K.lookup f_Once_fresh = some ⟨oc_Once_fresh, od_Once_fresh, .func (PySem.W.fnOf "fresh" "Once.fresh" (defArgs sOFresh) (defBody sOFresh) (defScope sOFresh) .none kV_Once_fresh dc_Once_fresh pm_Once_fresh an_Once_fresh cd_Once_fresh ct_Once_fresh), sl_Once_fresh⟩)
    (c_Once_fresh : PySem.W.codeIn K cd_Once_fresh "Once.fresh" = true)
    (k_Once_fresh : PySem.W.keepIn K (.ref f_Once_fresh) = true)
    (a_Once_init : PySem.W.findIn K (.ref C_Once) "__init__" = some (some (.ref f_Filter_init)))
    (a_Once_takes : PySem.W.findIn K (.ref C_Once) "takes" = some (some (.ref f_Filter_takes)))
    (a_Once_copy : PySem.W.findIn K (.ref C_Once) "copy" = some (some (.ref f_Filter_copy)))
    (a_C_Turn : PySem.W.nsIn K mainGlobals "Turn" = some (some (.ref C_Turn)))
    (pg_C_Turn : PySem.W.plainGet K C_Turn Str.empty = true)
    (hd_C_Turn : PySem.W.hasDictIn K C_Turn = true)
    (po_C_Turn : PySem.W.plainOver K C_Turn = true)
    (sa_C_Turn : PySem.W.findIn K (.ref C_Turn) "__setattr__" = some (some (.builtin "object.__setattr__")))
    (mk_C_Turn : PySem.W.makesIn K C_Turn = true)
    (kc_C_Turn : PySem.W.keepIn K (.ref C_Turn) = true)
    (n_C_Turn_known : PySem.W.findIn K (.ref C_Turn) "known" = some none)
    (a_Turn_word_for : PySem.W.findIn K (.ref C_Turn) "word_for" = some (some (.ref f_Turn_word_for)))
    (i_Turn_word_for : PySem.W.isFn K (.ref f_Turn_word_for) = true)
    (l_Turn_word_for : K.lookup f_Turn_word_for = some ⟨oc_Turn_word_for, od_Turn_word_for, .func (PySem.W.fnOf "word_for" "Turn.word_for" (defArgs sTWord) (defBody sTWord) (defScope sTWord) .none kV_Turn_word_for dc_Turn_word_for pm_Turn_word_for an_Turn_word_for cd_Turn_word_for ct_Turn_word_for), sl_Turn_word_for⟩)
    (c_Turn_word_for : PySem.W.codeIn K cd_Turn_word_for "Turn.word_for" = true)
    (k_Turn_word_for : PySem.W.keepIn K (.ref f_Turn_word_for) = true)
    (a_Turn_keep : PySem.W.findIn K (.ref C_Turn) "keep" = some (some (.ref f_Turn_keep)))
    (i_Turn_keep : PySem.W.isFn K (.ref f_Turn_keep) = true)
    (l_Turn_keep : K.lookup f_Turn_keep = some ⟨oc_Turn_keep, od_Turn_keep, .func (PySem.W.fnOf "keep" "Turn.keep" (defArgs sTKeep) (defBody sTKeep) (defScope sTKeep) .none kV_Turn_keep dc_Turn_keep pm_Turn_keep an_Turn_keep cd_Turn_keep ct_Turn_keep), sl_Turn_keep⟩)
    (c_Turn_keep : PySem.W.codeIn K cd_Turn_keep "Turn.keep" = true)
    (k_Turn_keep : PySem.W.keepIn K (.ref f_Turn_keep) = true)
    (a_Turn_rows : PySem.W.findIn K (.ref C_Turn) "rows" = some (some (.ref f_Turn_rows)))
    (i_Turn_rows : PySem.W.isFn K (.ref f_Turn_rows) = true)
    (l_Turn_rows : K.lookup f_Turn_rows = some ⟨oc_Turn_rows, od_Turn_rows, .func (PySem.W.fnOf "rows" "Turn.rows" (defArgs sTRows) (defBody sTRows) (defScope sTRows) .none kV_Turn_rows dc_Turn_rows pm_Turn_rows an_Turn_rows cd_Turn_rows ct_Turn_rows), sl_Turn_rows⟩)
    (c_Turn_rows : PySem.W.codeIn K cd_Turn_rows "Turn.rows" = true)
    (k_Turn_rows : PySem.W.keepIn K (.ref f_Turn_rows) = true)
    (a_Turn_fresh : PySem.W.findIn K (.ref C_Turn) "fresh" = some (some (.ref f_Turn_fresh)))
    (i_Turn_fresh : PySem.W.isFn K (.ref f_Turn_fresh) = true)
    (l_Turn_fresh : K.lookup f_Turn_fresh = some ⟨oc_Turn_fresh, od_Turn_fresh, .func (PySem.W.fnOf "fresh" "Turn.fresh" (defArgs sTFresh) (defBody sTFresh) (defScope sTFresh) .none kV_Turn_fresh dc_Turn_fresh pm_Turn_fresh an_Turn_fresh cd_Turn_fresh ct_Turn_fresh), sl_Turn_fresh⟩)
    (c_Turn_fresh : PySem.W.codeIn K cd_Turn_fresh "Turn.fresh" = true)
    (k_Turn_fresh : PySem.W.keepIn K (.ref f_Turn_fresh) = true)
    (a_Turn_init : PySem.W.findIn K (.ref C_Turn) "__init__" = some (some (.ref f_Filter_init)))
    (a_Turn_takes : PySem.W.findIn K (.ref C_Turn) "takes" = some (some (.ref f_Filter_takes)))
    (a_Turn_copy : PySem.W.findIn K (.ref C_Turn) "copy" = some (some (.ref f_Filter_copy)))
    (kit_lo_lo : PySem.W.kitOne K (.ref C_Loose) (.ref C_Loose) = some true)
    (kit_lo_on : PySem.W.kitOne K (.ref C_Loose) (.ref C_Once) = some false)
    (kit_lo_tu : PySem.W.kitOne K (.ref C_Loose) (.ref C_Turn) = some false)
    (kit_lo_pn : PySem.W.kitOne K (.ref C_Loose) (.ref C_Filter) = some true)
    (kit_on_lo : PySem.W.kitOne K (.ref C_Once) (.ref C_Loose) = some false)
    (kit_on_on : PySem.W.kitOne K (.ref C_Once) (.ref C_Once) = some true)
    (kit_on_tu : PySem.W.kitOne K (.ref C_Once) (.ref C_Turn) = some false)
    (kit_on_pn : PySem.W.kitOne K (.ref C_Once) (.ref C_Filter) = some true)
    (kit_tu_lo : PySem.W.kitOne K (.ref C_Turn) (.ref C_Loose) = some false)
    (kit_tu_on : PySem.W.kitOne K (.ref C_Turn) (.ref C_Once) = some false)
    (kit_tu_tu : PySem.W.kitOne K (.ref C_Turn) (.ref C_Turn) = some true)
    (kit_tu_pn : PySem.W.kitOne K (.ref C_Turn) (.ref C_Filter) = some true)
    (kit_pn_lo : PySem.W.kitOne K (.ref C_Filter) (.ref C_Loose) = some false)
    (kit_pn_on : PySem.W.kitOne K (.ref C_Filter) (.ref C_Once) = some false)
    (kit_pn_tu : PySem.W.kitOne K (.ref C_Filter) (.ref C_Turn) = some false)
    (kit_pn_pn : PySem.W.kitOne K (.ref C_Filter) (.ref C_Filter) = some true)
    (hc_iC_Filter : PySem.W.findIn K (.ref C_Filter) "__class__" = some (some (.builtin "object.__class__")))
    (mo_iC_Filter : PySem.W.mroIn K C_Filter (.type "object") = some true)
    (hc_iC_Loose : PySem.W.findIn K (.ref C_Loose) "__class__" = some (some (.builtin "object.__class__")))
    (mo_iC_Loose : PySem.W.mroIn K C_Loose (.type "object") = some true)
    (hc_iC_Once : PySem.W.findIn K (.ref C_Once) "__class__" = some (some (.builtin "object.__class__")))
    (mo_iC_Once : PySem.W.mroIn K C_Once (.type "object") = some true)
    (hc_iC_Turn : PySem.W.findIn K (.ref C_Turn) "__class__" = some (some (.builtin "object.__class__")))
    (mo_iC_Turn : PySem.W.mroIn K C_Turn (.type "object") = some true)
    (cg_all : PySem.W.specialIn K (.builtin "object.__class__") "__get__" = some (some (.builtin "getset_descriptor.__get__")))
    (tk_all : PySem.W.takesIn K (.builtin "object.__class__") = some true)
    (a_filter_of : PySem.W.nsIn K mainGlobals "filter_of" = some (some (.ref f_filter_of)))
    (l_filter_of : K.lookup f_filter_of = some ⟨oc_filter_of, od_filter_of, .func (PySem.W.fnOf "filter_of" "filter_of" (defArgs sFof) (defBody sFof) (defScope sFof) .none kV_filter_of dc_filter_of pm_filter_of an_filter_of cd_filter_of ct_filter_of), sl_filter_of⟩)
    (c_filter_of : PySem.W.codeIn K cd_filter_of "filter_of" = true)
    (k_filter_of : PySem.W.keepIn K (.ref f_filter_of) = true)
    (a_law_mixed : PySem.W.nsIn K mainGlobals "_law_mixed" = some (some (.ref f_law_mixed)))
    (l_law_mixed : K.lookup f_law_mixed = some ⟨oc_law_mixed, od_law_mixed, .func (PySem.W.fnOf "_law_mixed" "_law_mixed" (defArgs sMixed) (defBody sMixed) (defScope sMixed) .none kV_law_mixed dc_law_mixed pm_law_mixed an_law_mixed cd_law_mixed ct_law_mixed), sl_law_mixed⟩)
    (c_law_mixed : PySem.W.codeIn K cd_law_mixed "_law_mixed" = true)
    (k_law_mixed : PySem.W.keepIn K (.ref f_law_mixed) = true)
    (a_law_deck : PySem.W.nsIn K mainGlobals "_law_deck" = some (some (.ref f_law_deck)))
    (l_law_deck : K.lookup f_law_deck = some ⟨oc_law_deck, od_law_deck, .func (PySem.W.fnOf "_law_deck" "_law_deck" (defArgs sDeck) (defBody sDeck) (defScope sDeck) .none kV_law_deck dc_law_deck pm_law_deck an_law_deck cd_law_deck ct_law_deck), sl_law_deck⟩)
    (c_law_deck : PySem.W.codeIn K cd_law_deck "_law_deck" = true)
    (k_law_deck : PySem.W.keepIn K (.ref f_law_deck) = true)
    (a_law_next : PySem.W.nsIn K mainGlobals "_law_next" = some (some (.ref f_law_next)))
    (l_law_next : K.lookup f_law_next = some ⟨oc_law_next, od_law_next, .func (PySem.W.fnOf "_law_next" "_law_next" (defArgs sNext) (defBody sNext) (defScope sNext) .none kV_law_next dc_law_next pm_law_next an_law_next cd_law_next ct_law_next), sl_law_next⟩)
    (c_law_next : PySem.W.codeIn K cd_law_next "_law_next" = true)
    (k_law_next : PySem.W.keepIn K (.ref f_law_next) = true)
    (a_law_same : PySem.W.nsIn K mainGlobals "_law_same" = some (some (.ref f_law_same)))
    (l_law_same : K.lookup f_law_same = some ⟨oc_law_same, od_law_same, .func (PySem.W.fnOf "_law_same" "_law_same" (defArgs sSame) (defBody sSame) (defScope sSame) .none kV_law_same dc_law_same pm_law_same an_law_same cd_law_same ct_law_same), sl_law_same⟩)
    (c_law_same : PySem.W.codeIn K cd_law_same "_law_same" = true)
    (k_law_same : PySem.W.keepIn K (.ref f_law_same) = true)
    (a_law_due : PySem.W.nsIn K mainGlobals "_law_due" = some (some (.ref f_law_due)))
    (l_law_due : K.lookup f_law_due = some ⟨oc_law_due, od_law_due, .func (PySem.W.fnOf "_law_due" "_law_due" (defArgs sDue) (defBody sDue) (defScope sDue) .none kV_law_due dc_law_due pm_law_due an_law_due cd_law_due ct_law_due), sl_law_due⟩)
    (c_law_due : PySem.W.codeIn K cd_law_due "_law_due" = true)
    (k_law_due : PySem.W.keepIn K (.ref f_law_due) = true)
    (a_law_sieve : PySem.W.nsIn K mainGlobals "_law_sieve" = some (some (.ref f_law_sieve)))
    (l_law_sieve : K.lookup f_law_sieve = some ⟨oc_law_sieve, od_law_sieve, .func (PySem.W.fnOf "_law_sieve" "_law_sieve" (defArgs sSieve) (defBody sSieve) (defScope sSieve) .none kV_law_sieve dc_law_sieve pm_law_sieve an_law_sieve cd_law_sieve ct_law_sieve), sl_law_sieve⟩)
    (c_law_sieve : PySem.W.codeIn K cd_law_sieve "_law_sieve" = true)
    (k_law_sieve : PySem.W.keepIn K (.ref f_law_sieve) = true)
    (a_law_rows : PySem.W.nsIn K mainGlobals "_law_rows" = some (some (.ref f_law_rows)))
    (l_law_rows : K.lookup f_law_rows = some ⟨oc_law_rows, od_law_rows, .func (PySem.W.fnOf "_law_rows" "_law_rows" (defArgs sLRows) (defBody sLRows) (defScope sLRows) .none kV_law_rows dc_law_rows pm_law_rows an_law_rows cd_law_rows ct_law_rows), sl_law_rows⟩)
    (c_law_rows : PySem.W.codeIn K cd_law_rows "_law_rows" = true)
    (k_law_rows : PySem.W.keepIn K (.ref f_law_rows) = true)
    (a_law : PySem.W.nsIn K mainGlobals "law" = some (some (.ref f_law)))
    (l_law : K.lookup f_law = some ⟨oc_law, od_law, .func (PySem.W.fnOf "law" "law" (defArgs sLaw) (defBody sLaw) (defScope sLaw) .none kV_law dc_law pm_law an_law cd_law ct_law), sl_law⟩)
    (c_law : PySem.W.codeIn K cd_law "law" = true)
    (k_law : PySem.W.keepIn K (.ref f_law) = true)
    (z_len : PySem.W.nsIn K mainGlobals "len" = some none)
    (z_range : PySem.W.nsIn K mainGlobals "range" = some none)
    (z_min : PySem.W.nsIn K mainGlobals "min" = some none)
    (z_max : PySem.W.nsIn K mainGlobals "max" = some none)
    (z_isinstance : PySem.W.nsIn K mainGlobals "isinstance" = some none)
    (z_tuple : PySem.W.nsIn K mainGlobals "tuple" = some none)
    (z_bool : PySem.W.nsIn K mainGlobals "bool" = some none)
    (z_str : PySem.W.nsIn K mainGlobals "str" = some none)
    (z_int : PySem.W.nsIn K mainGlobals "int" = some none)
    (z_all : PySem.W.nsIn K mainGlobals "all" = some none)
    (z_sorted : PySem.W.nsIn K mainGlobals "sorted" = some none)
    (z_list : PySem.W.nsIn K mainGlobals "list" = some none)
    (z_dict : PySem.W.nsIn K mainGlobals "dict" = some none) :
    ∃ fd : FuncData, (∀ (s : Shared) (v : Value), BindsTo s fd ⟨[v], []⟩ [("_law_script", v)]) ∧ ∀ base : Heap, K.In base → base.Ns mainGlobals mg → FnOk l.prog w K mg base CX0 5 fa fd ["_law_script"] (spLaw K) := by
  have e := hfa.symm.trans (PySem.W.mg_of X G a_law)
  cases e
  have m_HEARD := PySem.W.mg_of X G a_HEARD
  have m_AGAIN := PySem.W.mg_of X G a_AGAIN
  have m_LATE := PySem.W.mg_of X G a_LATE
  have m_KINDS := PySem.W.mg_of X G a_KINDS
  have m_C_Filter := PySem.W.mg_of X G a_C_Filter
  have cl_C_Filter : Cls K C_Filter := ⟨pg_C_Filter, hd_C_Filter, po_C_Filter, sa_C_Filter⟩
  have F_Filter_init := fun_mk (st := sFInit) l_Filter_init c_Filter_init k_Filter_init
  have b_Filter_init := F_Filter_init.binds (ps := ["self"]) fun _ _ _ _ _ _ us hl => match us, hl with | [_], _ => rfl
  have M_Filter_init : Meth K C_Filter "__init__" f_Filter_init := ⟨a_Filter_init, i_Filter_init, k_Filter_init⟩
  have F_Filter_word_for := fun_mk (st := sFWord) l_Filter_word_for c_Filter_word_for k_Filter_word_for
  have b_Filter_word_for := F_Filter_word_for.binds (ps := ["self", "sender", "number"]) fun _ _ _ _ _ _ us hl => match us, hl with | [_, _, _], _ => rfl
  have M_Filter_word_for : Meth K C_Filter "word_for" f_Filter_word_for := ⟨a_Filter_word_for, i_Filter_word_for, k_Filter_word_for⟩
  have F_Filter_keep := fun_mk (st := sFKeep) l_Filter_keep c_Filter_keep k_Filter_keep
  have b_Filter_keep := F_Filter_keep.binds (ps := ["self", "sender", "number"]) fun _ _ _ _ _ _ us hl => match us, hl with | [_, _, _], _ => rfl
  have M_Filter_keep : Meth K C_Filter "keep" f_Filter_keep := ⟨a_Filter_keep, i_Filter_keep, k_Filter_keep⟩
  have F_Filter_takes := fun_mk (st := sFTakes) l_Filter_takes c_Filter_takes k_Filter_takes
  have b_Filter_takes := F_Filter_takes.binds (ps := ["self", "sender", "number"]) fun _ _ _ _ _ _ us hl => match us, hl with | [_, _, _], _ => rfl
  have M_Filter_takes : Meth K C_Filter "takes" f_Filter_takes := ⟨a_Filter_takes, i_Filter_takes, k_Filter_takes⟩
  have F_Filter_rows := fun_mk (st := sFRows) l_Filter_rows c_Filter_rows k_Filter_rows
  have b_Filter_rows := F_Filter_rows.binds (ps := ["self"]) fun _ _ _ _ _ _ us hl => match us, hl with | [_], _ => rfl
  have M_Filter_rows : Meth K C_Filter "rows" f_Filter_rows := ⟨a_Filter_rows, i_Filter_rows, k_Filter_rows⟩
  have F_Filter_fresh := fun_mk (st := sFFresh) l_Filter_fresh c_Filter_fresh k_Filter_fresh
  have b_Filter_fresh := F_Filter_fresh.binds (ps := ["self"]) fun _ _ _ _ _ _ us hl => match us, hl with | [_], _ => rfl
  have M_Filter_fresh : Meth K C_Filter "fresh" f_Filter_fresh := ⟨a_Filter_fresh, i_Filter_fresh, k_Filter_fresh⟩
  have F_Filter_copy := fun_mk (st := sFCopy) l_Filter_copy c_Filter_copy k_Filter_copy
  have b_Filter_copy := F_Filter_copy.binds (ps := ["self"]) fun _ _ _ _ _ _ us hl => match us, hl with | [_], _ => rfl
  have M_Filter_copy : Meth K C_Filter "copy" f_Filter_copy := ⟨a_Filter_copy, i_Filter_copy, k_Filter_copy⟩
  have m_C_Loose := PySem.W.mg_of X G a_C_Loose
  have cl_C_Loose : Cls K C_Loose := ⟨pg_C_Loose, hd_C_Loose, po_C_Loose, sa_C_Loose⟩
  have F_Loose_fresh := fun_mk (st := sLFresh) l_Loose_fresh c_Loose_fresh k_Loose_fresh
  have b_Loose_fresh := F_Loose_fresh.binds (ps := ["self"]) fun _ _ _ _ _ _ us hl => match us, hl with | [_], _ => rfl
  have M_Loose_fresh : Meth K C_Loose "fresh" f_Loose_fresh := ⟨a_Loose_fresh, i_Loose_fresh, k_Loose_fresh⟩
  have M_Loose_init : Meth K C_Loose "__init__" f_Filter_init := ⟨a_Loose_init, i_Filter_init, k_Filter_init⟩
  have M_Loose_word_for : Meth K C_Loose "word_for" f_Filter_word_for := ⟨a_Loose_word_for, i_Filter_word_for, k_Filter_word_for⟩
  have M_Loose_keep : Meth K C_Loose "keep" f_Filter_keep := ⟨a_Loose_keep, i_Filter_keep, k_Filter_keep⟩
  have M_Loose_takes : Meth K C_Loose "takes" f_Filter_takes := ⟨a_Loose_takes, i_Filter_takes, k_Filter_takes⟩
  have M_Loose_rows : Meth K C_Loose "rows" f_Filter_rows := ⟨a_Loose_rows, i_Filter_rows, k_Filter_rows⟩
  have M_Loose_copy : Meth K C_Loose "copy" f_Filter_copy := ⟨a_Loose_copy, i_Filter_copy, k_Filter_copy⟩
  have m_C_Once := PySem.W.mg_of X G a_C_Once
  have cl_C_Once : Cls K C_Once := ⟨pg_C_Once, hd_C_Once, po_C_Once, sa_C_Once⟩
  have F_Once_word_for := fun_mk (st := sOWord) l_Once_word_for c_Once_word_for k_Once_word_for
  have b_Once_word_for := F_Once_word_for.binds (ps := ["self", "sender", "number"]) fun _ _ _ _ _ _ us hl => match us, hl with | [_, _, _], _ => rfl
  have M_Once_word_for : Meth K C_Once "word_for" f_Once_word_for := ⟨a_Once_word_for, i_Once_word_for, k_Once_word_for⟩
  have F_Once_keep := fun_mk (st := sOKeep) l_Once_keep c_Once_keep k_Once_keep
  have b_Once_keep := F_Once_keep.binds (ps := ["self", "sender", "number"]) fun _ _ _ _ _ _ us hl => match us, hl with | [_, _, _], _ => rfl
  have M_Once_keep : Meth K C_Once "keep" f_Once_keep := ⟨a_Once_keep, i_Once_keep, k_Once_keep⟩
  have F_Once_rows := fun_mk (st := sORows) l_Once_rows c_Once_rows k_Once_rows
  have b_Once_rows := F_Once_rows.binds (ps := ["self"]) fun _ _ _ _ _ _ us hl => match us, hl with | [_], _ => rfl
  have M_Once_rows : Meth K C_Once "rows" f_Once_rows := ⟨a_Once_rows, i_Once_rows, k_Once_rows⟩
  have F_Once_fresh := fun_mk (st := sOFresh) l_Once_fresh c_Once_fresh k_Once_fresh
  have b_Once_fresh := F_Once_fresh.binds (ps := ["self"]) fun _ _ _ _ _ _ us hl => match us, hl with | [_], _ => rfl
  have M_Once_fresh : Meth K C_Once "fresh" f_Once_fresh := ⟨a_Once_fresh, i_Once_fresh, k_Once_fresh⟩
  have M_Once_init : Meth K C_Once "__init__" f_Filter_init := ⟨a_Once_init, i_Filter_init, k_Filter_init⟩
  have M_Once_takes : Meth K C_Once "takes" f_Filter_takes := ⟨a_Once_takes, i_Filter_takes, k_Filter_takes⟩
  have M_Once_copy : Meth K C_Once "copy" f_Filter_copy := ⟨a_Once_copy, i_Filter_copy, k_Filter_copy⟩
  have m_C_Turn := PySem.W.mg_of X G a_C_Turn
  have cl_C_Turn : Cls K C_Turn := ⟨pg_C_Turn, hd_C_Turn, po_C_Turn, sa_C_Turn⟩
  have F_Turn_word_for := fun_mk (st := sTWord) l_Turn_word_for c_Turn_word_for k_Turn_word_for
  have b_Turn_word_for := F_Turn_word_for.binds (ps := ["self", "sender", "number"]) fun _ _ _ _ _ _ us hl => match us, hl with | [_, _, _], _ => rfl
  have M_Turn_word_for : Meth K C_Turn "word_for" f_Turn_word_for := ⟨a_Turn_word_for, i_Turn_word_for, k_Turn_word_for⟩
  have F_Turn_keep := fun_mk (st := sTKeep) l_Turn_keep c_Turn_keep k_Turn_keep
  have b_Turn_keep := F_Turn_keep.binds (ps := ["self", "sender", "number"]) fun _ _ _ _ _ _ us hl => match us, hl with | [_, _, _], _ => rfl
  have M_Turn_keep : Meth K C_Turn "keep" f_Turn_keep := ⟨a_Turn_keep, i_Turn_keep, k_Turn_keep⟩
  have F_Turn_rows := fun_mk (st := sTRows) l_Turn_rows c_Turn_rows k_Turn_rows
  have b_Turn_rows := F_Turn_rows.binds (ps := ["self"]) fun _ _ _ _ _ _ us hl => match us, hl with | [_], _ => rfl
  have M_Turn_rows : Meth K C_Turn "rows" f_Turn_rows := ⟨a_Turn_rows, i_Turn_rows, k_Turn_rows⟩
  have F_Turn_fresh := fun_mk (st := sTFresh) l_Turn_fresh c_Turn_fresh k_Turn_fresh
  have b_Turn_fresh := F_Turn_fresh.binds (ps := ["self"]) fun _ _ _ _ _ _ us hl => match us, hl with | [_], _ => rfl
  have M_Turn_fresh : Meth K C_Turn "fresh" f_Turn_fresh := ⟨a_Turn_fresh, i_Turn_fresh, k_Turn_fresh⟩
  have M_Turn_init : Meth K C_Turn "__init__" f_Filter_init := ⟨a_Turn_init, i_Filter_init, k_Filter_init⟩
  have M_Turn_takes : Meth K C_Turn "takes" f_Filter_takes := ⟨a_Turn_takes, i_Filter_takes, k_Filter_takes⟩
  have M_Turn_copy : Meth K C_Turn "copy" f_Filter_copy := ⟨a_Turn_copy, i_Filter_copy, k_Filter_copy⟩
  have ins_C_Filter : InsT K C_Filter := ⟨cl_C_Filter, hc_iC_Filter, cg_all, tk_all, mo_iC_Filter⟩
  have ins_C_Loose : InsT K C_Loose := ⟨cl_C_Loose, hc_iC_Loose, cg_all, tk_all, mo_iC_Loose⟩
  have ins_C_Once : InsT K C_Once := ⟨cl_C_Once, hc_iC_Once, cg_all, tk_all, mo_iC_Once⟩
  have ins_C_Turn : InsT K C_Turn := ⟨cl_C_Turn, hc_iC_Turn, cg_all, tk_all, mo_iC_Turn⟩
  have F_filter_of := fun_mk (st := sFof) l_filter_of c_filter_of k_filter_of
  have b_filter_of := F_filter_of.binds (ps := ["kind"]) fun _ _ _ _ _ _ us hl => match us, hl with | [_], _ => rfl
  have m_filter_of := PySem.W.mg_of X G a_filter_of
  have F_law_mixed := fun_mk (st := sMixed) l_law_mixed c_law_mixed k_law_mixed
  have b_law_mixed := F_law_mixed.binds (ps := ["_law_cell", "_law_at"]) fun _ _ _ _ _ _ us hl => match us, hl with | [_, _], _ => rfl
  have m_law_mixed := PySem.W.mg_of X G a_law_mixed
  have F_law_deck := fun_mk (st := sDeck) l_law_deck c_law_deck k_law_deck
  have b_law_deck := F_law_deck.binds (ps := ["_law_script"]) fun _ _ _ _ _ _ us hl => match us, hl with | [_], _ => rfl
  have m_law_deck := PySem.W.mg_of X G a_law_deck
  have F_law_next := fun_mk (st := sNext) l_law_next c_law_next k_law_next
  have b_law_next := F_law_next.binds (ps := ["_law_deck_here", "_law_many"]) fun _ _ _ _ _ _ us hl => match us, hl with | [_, _], _ => rfl
  have m_law_next := PySem.W.mg_of X G a_law_next
  have F_law_same := fun_mk (st := sSame) l_law_same c_law_same k_law_same
  have b_law_same := F_law_same.binds (ps := ["_law_thing", "_law_due_here"]) fun _ _ _ _ _ _ us hl => match us, hl with | [_, _], _ => rfl
  have m_law_same := PySem.W.mg_of X G a_law_same
  have F_law_due := fun_mk (st := sDue) l_law_due c_law_due k_law_due
  have b_law_due := F_law_due.binds (ps := ["_law_kind", "_law_heard", "_law_sender", "_law_number"]) fun _ _ _ _ _ _ us hl => match us, hl with | [_, _, _, _], _ => rfl
  have m_law_due := PySem.W.mg_of X G a_law_due
  have F_law_sieve := fun_mk (st := sSieve) l_law_sieve c_law_sieve k_law_sieve
  have b_law_sieve := F_law_sieve.binds (ps := ["_law_kind", "_law_by_hand"]) fun _ _ _ _ _ _ us hl => match us, hl with | [_, _], _ => rfl
  have m_law_sieve := PySem.W.mg_of X G a_law_sieve
  have F_law_rows := fun_mk (st := sLRows) l_law_rows c_law_rows k_law_rows
  have b_law_rows := F_law_rows.binds (ps := ["_law_kind", "_law_heard"]) fun _ _ _ _ _ _ us hl => match us, hl with | [_, _], _ => rfl
  have m_law_rows := PySem.W.mg_of X G a_law_rows
  have F_law := fun_mk (st := sLaw) l_law c_law k_law
  have b_law := F_law.binds (ps := ["_law_script"]) fun _ _ _ _ _ _ us hl => match us, hl with | [_], _ => rfl
  have n_len := PySem.W.mg_none_of X G z_len
  have n_range := PySem.W.mg_none_of X G z_range
  have n_min := PySem.W.mg_none_of X G z_min
  have n_max := PySem.W.mg_none_of X G z_max
  have n_isinstance := PySem.W.mg_none_of X G z_isinstance
  have n_tuple := PySem.W.mg_none_of X G z_tuple
  have n_bool := PySem.W.mg_none_of X G z_bool
  have n_str := PySem.W.mg_none_of X G z_str
  have n_int := PySem.W.mg_none_of X G z_int
  have n_all := PySem.W.mg_none_of X G z_all
  have n_sorted := PySem.W.mg_none_of X G z_sorted
  have n_list := PySem.W.mg_none_of X G z_list
  have n_dict := PySem.W.mg_none_of X G z_dict
  refine ⟨PySem.W.fnOf "law" "law" (defArgs sLaw) (defBody sLaw) (defScope sLaw) .none kV_law dc_law pm_law an_law cd_law ct_law, fun s v => .of_eq rfl, fun base _ _ => ?_⟩
  have B : LB mg := ⟨n_len, n_range, n_max, n_sorted, n_tuple, n_list, n_isinstance⟩
  have FBx : FB mg := ⟨n_tuple, n_sorted, n_list, n_dict⟩
  have SB : SameB mg := ⟨n_isinstance, n_tuple, n_bool, n_str, n_int, n_all, n_len, n_range⟩
  have W : FW mg := ⟨⟨_, m_HEARD⟩, ⟨_, m_AGAIN⟩, ⟨_, m_LATE⟩⟩
  have cM : Cd l.prog w K mg base 1 "_law_mixed" ["_law_cell", "_law_at"] spMixed := ⟨_, _, ok_mixed F_law_mixed, m_law_mixed, k_law_mixed, b_law_mixed⟩
  have cN : Cd l.prog w K mg base 2 "_law_next" ["_law_deck_here", "_law_many"] spNext := ⟨_, _, ok_next F_law_next n_len cM, m_law_next, k_law_next, b_law_next⟩
  have cD : Cd l.prog w K mg base 2 "_law_deck" ["_law_script"] (spDeck K) := ⟨_, _, ok_deck F_law_deck n_len n_range n_min cM, m_law_deck, k_law_deck, b_law_deck⟩
  have cS : Cd l.prog w K mg base 3 "_law_same" ["_law_thing", "_law_due_here"] (spSame K 3) := ⟨_, _, ok_same F_law_same SB m_law_same k_law_same b_law_same 3, m_law_same, k_law_same, b_law_same⟩
  have TLoose : FN K C_Loose := ⟨cl_C_Loose, n_C_Loose_known⟩
  have GLoose := (ok_finit (s0 := .pl) F_Filter_init TLoose (.inl rfl) : FnOk l.prog w K mg base CX0 1 f_Filter_init _ ["self"] (spFInit K C_Loose _))
  have MKLoose : Mk K C_Loose f_Filter_init := ⟨mk_C_Loose, a_Loose_init, i_Filter_init, kc_C_Loose⟩
  have tkLoose := (ok_takes F_Filter_takes TLoose W ⟨_, _, ok_fword F_Filter_word_for W, M_Loose_word_for, b_Filter_word_for⟩ ⟨_, _, ok_fkeep F_Filter_keep TLoose, M_Loose_keep, b_Filter_keep⟩ : FnOk l.prog w K mg base CX0 2 f_Filter_takes _ ["self", "sender", "number"] (spTakes K C_Loose .pl))
  have rwLoose := (ok_frows F_Filter_rows : FnOk l.prog w K mg base CX0 1 f_Filter_rows _ ["self"] (spRowsF K C_Loose .pl))
  have frLoose : Md l.prog w K mg base 3 C_Loose "fresh" ["self"] (spFresh K C_Loose (.init .pl)) := ⟨_, _, ok_lfresh F_Loose_fresh MKLoose GLoose b_Filter_init m_C_Loose, M_Loose_fresh, b_Loose_fresh⟩
  have cpLoose := (ok_fcopy F_Filter_copy TLoose FBx (by intro z; cases z) frLoose : FnOk l.prog w K mg base CX0 4 f_Filter_copy _ ["self"] (spCopy K C_Loose .pl))
  have TOnce : FN K C_Once := ⟨cl_C_Once, n_C_Once_known⟩
  have GOnce := (ok_finitT F_Filter_init TOnce : FnOk l.prog w K mg base CX0 1 f_Filter_init _ ["self"] (spFInit K C_Once _))
  have MKOnce : Mk K C_Once f_Filter_init := ⟨mk_C_Once, a_Once_init, i_Filter_init, kc_C_Once⟩
  have tkOnce := (ok_takes F_Filter_takes TOnce W ⟨_, _, ok_oword F_Once_word_for TOnce W, M_Once_word_for, b_Once_word_for⟩ ⟨_, _, ok_okeep F_Once_keep TOnce, M_Once_keep, b_Once_keep⟩ : FnOk l.prog w K mg base CX0 2 f_Filter_takes _ ["self", "sender", "number"] (spTakes K C_Once .on))
  have rwOnce := (ok_orows F_Once_rows TOnce FBx : FnOk l.prog w K mg base CX0 1 f_Once_rows _ ["self"] (spRowsF K C_Once .on))
  have frOnce : Md l.prog w K mg base 3 C_Once "fresh" ["self"] (spFresh K C_Once (.init .on)) := ⟨_, _, ok_ofresh F_Once_fresh MKOnce GOnce b_Filter_init m_C_Once, M_Once_fresh, b_Once_fresh⟩
  have cpOnce := (ok_fcopyT F_Filter_copy TOnce FBx rfl frOnce : FnOk l.prog w K mg base CX0 4 f_Filter_copy _ ["self"] (spCopy K C_Once .on))
  have TTurn : FN K C_Turn := ⟨cl_C_Turn, n_C_Turn_known⟩
  have GTurn := (ok_finit (s0 := .tu []) F_Filter_init TTurn (.inr rfl) : FnOk l.prog w K mg base CX0 1 f_Filter_init _ ["self"] (spFInit K C_Turn _))
  have MKTurn : Mk K C_Turn f_Filter_init := ⟨mk_C_Turn, a_Turn_init, i_Filter_init, kc_C_Turn⟩
  have tkTurn := (ok_takes F_Filter_takes TTurn W ⟨_, _, ok_tword F_Turn_word_for TTurn W, M_Turn_word_for, b_Turn_word_for⟩ ⟨_, _, ok_tkeep F_Turn_keep TTurn, M_Turn_keep, b_Turn_keep⟩ : FnOk l.prog w K mg base CX0 2 f_Filter_takes _ ["self", "sender", "number"] (spTakes K C_Turn .tu))
  have rwTurn := (ok_trows F_Turn_rows TTurn FBx : FnOk l.prog w K mg base CX0 1 f_Turn_rows _ ["self"] (spRowsF K C_Turn .tu))
  have frTurn : Md l.prog w K mg base 3 C_Turn "fresh" ["self"] (spFresh K C_Turn (.init .tu)) := ⟨_, _, ok_tfresh F_Turn_fresh MKTurn GTurn b_Filter_init m_C_Turn, M_Turn_fresh, b_Turn_fresh⟩
  have cpTurn := (ok_fcopy F_Filter_copy TTurn FBx (by intro z; cases z) frTurn : FnOk l.prog w K mg base CX0 4 f_Filter_copy _ ["self"] (spCopy K C_Turn .tu))
  have TFilter : FN K C_Filter := ⟨cl_C_Filter, n_C_Filter_known⟩
  have GFilter := (ok_finit (s0 := .pl) F_Filter_init TFilter (.inl rfl) : FnOk l.prog w K mg base CX0 1 f_Filter_init _ ["self"] (spFInit K C_Filter _))
  have MKFilter : Mk K C_Filter f_Filter_init := ⟨mk_C_Filter, a_Filter_init, i_Filter_init, kc_C_Filter⟩
  have tkFilter := (ok_takes F_Filter_takes TFilter W ⟨_, _, ok_fword F_Filter_word_for W, M_Filter_word_for, b_Filter_word_for⟩ ⟨_, _, ok_fkeep F_Filter_keep TFilter, M_Filter_keep, b_Filter_keep⟩ : FnOk l.prog w K mg base CX0 2 f_Filter_takes _ ["self", "sender", "number"] (spTakes K C_Filter .pl))
  have rwFilter := (ok_frows F_Filter_rows : FnOk l.prog w K mg base CX0 1 f_Filter_rows _ ["self"] (spRowsF K C_Filter .pl))
  have frFilter : Md l.prog w K mg base 3 C_Filter "fresh" ["self"] (spFresh K C_Filter (.init .pl)) := ⟨_, _, ok_ffresh F_Filter_fresh MKFilter GFilter b_Filter_init m_C_Filter, M_Filter_fresh, b_Filter_fresh⟩
  have cpFilter := (ok_fcopy F_Filter_copy TFilter FBx (by intro z; cases z) frFilter : FnOk l.prog w K mg base CX0 4 f_Filter_copy _ ["self"] (spCopy K C_Filter .pl))
  let Cf : Kd → Addr := fun κ => match κ with | .pl => C_Loose | .on => C_Once | .tu => C_Turn
  let C4 : K4 → Addr := (fun κ : K4 => match κ with | .lo => C_Loose | .on => C_Once | .tu => C_Turn | .pn => C_Filter)
  have cF : Cd l.prog w K mg base 3 "filter_of" ["kind"] (spFof K Cf) := ⟨_, _, ok_fof (C := Cf) F_filter_of MKLoose GLoose b_Filter_init m_C_Loose MKOnce GOnce b_Filter_init m_C_Once MKTurn GTurn b_Filter_init m_C_Turn, m_filter_of, k_filter_of, b_filter_of⟩
  have cV : Cd l.prog w K mg base 4 "_law_sieve" ["_law_kind", "_law_by_hand"] (spSieve K C4) := ⟨_, _, ok_sieve (C := C4) (Cf := Cf) F_law_sieve ⟨rfl, rfl, rfl⟩ MKFilter GFilter b_Filter_init m_C_Filter MKLoose GLoose b_Filter_init m_C_Loose MKOnce GOnce b_Filter_init m_C_Once MKTurn GTurn b_Filter_init m_C_Turn cF, m_law_sieve, k_law_sieve, b_law_sieve⟩
  have IC : ∀ κ, InsT K (C4 κ) := fun κ => by cases κ with | lo => exact ins_C_Loose | on => exact ins_C_Once | tu => exact ins_C_Turn | pn => exact ins_C_Filter
  have IK : ∀ κ κ', PySem.W.kitOne K (.ref (C4 κ)) (.ref (C4 κ')) = some (isK κ κ') := fun κ κ' => by
    cases κ with
    | lo =>
      cases κ' with
      | lo => exact kit_lo_lo
      | on => exact kit_lo_on
      | tu => exact kit_lo_tu
      | pn => exact kit_lo_pn
    | on =>
      cases κ' with
      | lo => exact kit_on_lo
      | on => exact kit_on_on
      | tu => exact kit_on_tu
      | pn => exact kit_on_pn
    | tu =>
      cases κ' with
      | lo => exact kit_tu_lo
      | on => exact kit_tu_on
      | tu => exact kit_tu_tu
      | pn => exact kit_tu_pn
    | pn =>
      cases κ' with
      | lo => exact kit_pn_lo
      | on => exact kit_pn_on
      | tu => exact kit_pn_tu
      | pn => exact kit_pn_pn
  have mTk : ∀ κ, Meth K (C4 κ) "takes" ((fun κ : K4 => match κ with | .lo => f_Filter_takes | .on => f_Filter_takes | .tu => f_Filter_takes | .pn => f_Filter_takes) κ) := fun κ => by cases κ with | lo => exact M_Loose_takes | on => exact M_Once_takes | tu => exact M_Turn_takes | pn => exact M_Filter_takes
  have mRw : ∀ κ, Meth K (C4 κ) "rows" ((fun κ : K4 => match κ with | .lo => f_Filter_rows | .on => f_Once_rows | .tu => f_Turn_rows | .pn => f_Filter_rows) κ) := fun κ => by cases κ with | lo => exact M_Loose_rows | on => exact M_Once_rows | tu => exact M_Turn_rows | pn => exact M_Filter_rows
  have mCp : ∀ κ, Meth K (C4 κ) "copy" ((fun κ : K4 => match κ with | .lo => f_Filter_copy | .on => f_Filter_copy | .tu => f_Filter_copy | .pn => f_Filter_copy) κ) := fun κ => by cases κ with | lo => exact M_Loose_copy | on => exact M_Once_copy | tu => exact M_Turn_copy | pn => exact M_Filter_copy
  let ft := (fun κ : K4 => match κ with | .lo => f_Filter_takes | .on => f_Filter_takes | .tu => f_Filter_takes | .pn => f_Filter_takes)
  let fr := (fun κ : K4 => match κ with | .lo => f_Filter_rows | .on => f_Once_rows | .tu => f_Turn_rows | .pn => f_Filter_rows)
  let fc := (fun κ : K4 => match κ with | .lo => f_Filter_copy | .on => f_Filter_copy | .tu => f_Filter_copy | .pn => f_Filter_copy)
  let dt := (fun κ : K4 => match κ with | .lo => PySem.W.fnOf "takes" "Filter.takes" (defArgs sFTakes) (defBody sFTakes) (defScope sFTakes) .none kV_Filter_takes dc_Filter_takes pm_Filter_takes an_Filter_takes cd_Filter_takes ct_Filter_takes | .on => PySem.W.fnOf "takes" "Filter.takes" (defArgs sFTakes) (defBody sFTakes) (defScope sFTakes) .none kV_Filter_takes dc_Filter_takes pm_Filter_takes an_Filter_takes cd_Filter_takes ct_Filter_takes | .tu => PySem.W.fnOf "takes" "Filter.takes" (defArgs sFTakes) (defBody sFTakes) (defScope sFTakes) .none kV_Filter_takes dc_Filter_takes pm_Filter_takes an_Filter_takes cd_Filter_takes ct_Filter_takes | .pn => PySem.W.fnOf "takes" "Filter.takes" (defArgs sFTakes) (defBody sFTakes) (defScope sFTakes) .none kV_Filter_takes dc_Filter_takes pm_Filter_takes an_Filter_takes cd_Filter_takes ct_Filter_takes)
  let dr := (fun κ : K4 => match κ with | .lo => PySem.W.fnOf "rows" "Filter.rows" (defArgs sFRows) (defBody sFRows) (defScope sFRows) .none kV_Filter_rows dc_Filter_rows pm_Filter_rows an_Filter_rows cd_Filter_rows ct_Filter_rows | .on => PySem.W.fnOf "rows" "Once.rows" (defArgs sORows) (defBody sORows) (defScope sORows) .none kV_Once_rows dc_Once_rows pm_Once_rows an_Once_rows cd_Once_rows ct_Once_rows | .tu => PySem.W.fnOf "rows" "Turn.rows" (defArgs sTRows) (defBody sTRows) (defScope sTRows) .none kV_Turn_rows dc_Turn_rows pm_Turn_rows an_Turn_rows cd_Turn_rows ct_Turn_rows | .pn => PySem.W.fnOf "rows" "Filter.rows" (defArgs sFRows) (defBody sFRows) (defScope sFRows) .none kV_Filter_rows dc_Filter_rows pm_Filter_rows an_Filter_rows cd_Filter_rows ct_Filter_rows)
  let dc := (fun κ : K4 => match κ with | .lo => PySem.W.fnOf "copy" "Filter.copy" (defArgs sFCopy) (defBody sFCopy) (defScope sFCopy) .none kV_Filter_copy dc_Filter_copy pm_Filter_copy an_Filter_copy cd_Filter_copy ct_Filter_copy | .on => PySem.W.fnOf "copy" "Filter.copy" (defArgs sFCopy) (defBody sFCopy) (defScope sFCopy) .none kV_Filter_copy dc_Filter_copy pm_Filter_copy an_Filter_copy cd_Filter_copy ct_Filter_copy | .tu => PySem.W.fnOf "copy" "Filter.copy" (defArgs sFCopy) (defBody sFCopy) (defScope sFCopy) .none kV_Filter_copy dc_Filter_copy pm_Filter_copy an_Filter_copy cd_Filter_copy ct_Filter_copy | .pn => PySem.W.fnOf "copy" "Filter.copy" (defArgs sFCopy) (defBody sFCopy) (defScope sFCopy) .none kV_Filter_copy dc_Filter_copy pm_Filter_copy an_Filter_copy cd_Filter_copy ct_Filter_copy)
  have gt : ∀ κ : K4, FnOk l.prog w K mg base CX0 2 (ft κ) (dt κ) ["self", "sender", "number"] (spTakes K (C4 κ) κ.kd) := fun κ => by
    cases κ with
    | lo => exact tkLoose
    | on => exact tkOnce
    | tu => exact tkTurn
    | pn => exact tkFilter
  have bt : ∀ κ : K4, Binds K (dt κ) ["self", "sender", "number"] [] := fun κ => by
    cases κ with
    | lo => exact b_Filter_takes
    | on => exact b_Filter_takes
    | tu => exact b_Filter_takes
    | pn => exact b_Filter_takes
  have gr : ∀ κ : K4, FnOk l.prog w K mg base CX0 1 (fr κ) (dr κ) ["self"] (spRowsF K (C4 κ) κ.kd) := fun κ => by
    cases κ with
    | lo => exact rwLoose
    | on => exact rwOnce
    | tu => exact rwTurn
    | pn => exact rwFilter
  have br : ∀ κ : K4, Binds K (dr κ) ["self"] [] := fun κ => by
    cases κ with
    | lo => exact b_Filter_rows
    | on => exact b_Once_rows
    | tu => exact b_Turn_rows
    | pn => exact b_Filter_rows
  have gc : ∀ κ : K4, FnOk l.prog w K mg base CX0 4 (fc κ) (dc κ) ["self"] (spCopy K (C4 κ) κ.kd) := fun κ => by
    cases κ with
    | lo => exact cpLoose
    | on => exact cpOnce
    | tu => exact cpTurn
    | pn => exact cpFilter
  have bc : ∀ κ : K4, Binds K (dc κ) ["self"] [] := fun κ => by
    cases κ with
    | lo => exact b_Filter_copy
    | on => exact b_Filter_copy
    | tu => exact b_Filter_copy
    | pn => exact b_Filter_copy
  have hK : ∀ H, SqT K H A_KINDS kindsV := fun H => .inr ⟨_, _, _, lk_KINDS, rfl, rfl, (by show 3 ≤ sizeLine; decide), .cons ⟨_, rfl⟩ (.cons ⟨_, rfl⟩ (.cons ⟨_, rfl⟩ .nil))⟩
  exact ok_law (C := C4) (fTk := ft) (fRw := fr) (fCp := fc) (fdTk := dt) (fdRw := dr) (fdCp := dc) F_law B IC IK m_KINDS hK m_C_Filter m_C_Loose m_C_Once m_C_Turn cN cD cS ⟨_, _, ok_due F_law_due B, m_law_due, k_law_due, b_law_due⟩ cV ⟨_, _, ok_lrows F_law_rows B, m_law_rows, k_law_rows, b_law_rows⟩ mTk gt bt mRw gr br mCp gc bc
theorem walk {l : PySem.W.OpenLaw} {q : Program} {loose : List Str} {XP : (Str → Option Value) → Heap → Prop} {YP : World → Heap → Prop} {d : DefRec} {K : Params → PySem.W.Frag} (hn : l.most = some 63) (hdf : d.params.defaults = [])
    (hY : ∀ (w : World) (h : Heap), YP w h → (K w.params).In h)
    (F : ∀ (w : World) (mg : Str → Option Value) (fa : Addr) (h : Heap), (K w.params).In h → h.Ns mainGlobals mg → mg d.name = some (.ref fa) →
      ∃ fd : FuncData, (∀ (s : Shared) (u : Value), BindsTo s fd ⟨[u], []⟩ [("_law_script", u)]) ∧ ∀ base : Heap, (K w.params).In base → base.Ns mainGlobals mg → FnOk l.prog w (K w.params) mg base CX0 5 fa fd ["_law_script"] (spLaw (K w.params))) :
    PySem.W.WalkO q loose XP YP l.row.toRowW d [] (fun f vs => PySem.call f vs) :=
  L2.walk_of (n := 63) (k := 5) (x := "_law_script") (CX := fun _ => CX0) (sp := fun w => spLaw (K w.params)) hn (by decide) hdf ⟨rfl, by decide, by decide⟩ hY F (fun _ _ a ns hl _ hS => ⟨a, ns, rfl, hS, hl, fun _ => rfl⟩) fun _ _ _ _ _ z => z
end Wn

open PySem PySem.W PyProof.Rows in
set_option maxRecDepth 100000 in
set_option maxHeartbeats 0 in
theorem PySem.Challenge.cw_wrapnets_k20_filters_and_copies_holds : PySem.Challenge.rw_wrapnets_k20_filters_and_copies.Holds := by
  w_on; o_law; k_head; (case hw => w_witness2)
  k_fill
  refine Wn.walk (l := PySem.Challenge.rw_wrapnets_k20_filters_and_copies) rfl rfl (fun w h Y => PySem.W.kIn_of Y) ?F
  case F =>
    intro w mg fa h KX G hmg
    refine' Wn.all_mk KX G hmg ?a_HEARD ?a_AGAIN ?a_LATE ?a_KINDS ?lk_KINDS ?a_C_Filter ?pg_C_Filter ?hd_C_Filter ?po_C_Filter ?sa_C_Filter ?mk_C_Filter ?kc_C_Filter ?n_C_Filter_known ?a_Filter_init ?i_Filter_init ?l_Filter_init ?c_Filter_init ?k_Filter_init ?a_Filter_word_for ?i_Filter_word_for ?l_Filter_word_for ?c_Filter_word_for ?k_Filter_word_for ?a_Filter_keep ?i_Filter_keep ?l_Filter_keep ?c_Filter_keep ?k_Filter_keep ?a_Filter_takes ?i_Filter_takes ?l_Filter_takes ?c_Filter_takes ?k_Filter_takes ?a_Filter_rows ?i_Filter_rows ?l_Filter_rows ?c_Filter_rows ?k_Filter_rows ?a_Filter_fresh ?i_Filter_fresh ?l_Filter_fresh ?c_Filter_fresh ?k_Filter_fresh ?a_Filter_copy ?i_Filter_copy ?l_Filter_copy ?c_Filter_copy ?k_Filter_copy ?a_C_Loose ?pg_C_Loose ?hd_C_Loose ?po_C_Loose ?sa_C_Loose ?mk_C_Loose ?kc_C_Loose ?n_C_Loose_known ?a_Loose_fresh ?i_Loose_fresh ?l_Loose_fresh ?c_Loose_fresh ?k_Loose_fresh ?a_Loose_init ?a_Loose_word_for ?a_Loose_keep ?a_Loose_takes ?a_Loose_rows ?a_Loose_copy ?a_C_Once ?pg_C_Once ?hd_C_Once ?po_C_Once ?sa_C_Once ?mk_C_Once ?kc_C_Once ?n_C_Once_known ?a_Once_word_for ?i_Once_word_for ?l_Once_word_for ?c_Once_word_for ?k_Once_word_for ?a_Once_keep ?i_Once_keep ?l_Once_keep ?c_Once_keep ?k_Once_keep ?a_Once_rows ?i_Once_rows ?l_Once_rows ?c_Once_rows ?k_Once_rows ?a_Once_fresh ?i_Once_fresh ?l_Once_fresh ?c_Once_fresh ?k_Once_fresh ?a_Once_init ?a_Once_takes ?a_Once_copy ?a_C_Turn ?pg_C_Turn ?hd_C_Turn ?po_C_Turn ?sa_C_Turn ?mk_C_Turn ?kc_C_Turn ?n_C_Turn_known ?a_Turn_word_for ?i_Turn_word_for ?l_Turn_word_for ?c_Turn_word_for ?k_Turn_word_for ?a_Turn_keep ?i_Turn_keep ?l_Turn_keep ?c_Turn_keep ?k_Turn_keep ?a_Turn_rows ?i_Turn_rows ?l_Turn_rows ?c_Turn_rows ?k_Turn_rows ?a_Turn_fresh ?i_Turn_fresh ?l_Turn_fresh ?c_Turn_fresh ?k_Turn_fresh ?a_Turn_init ?a_Turn_takes ?a_Turn_copy ?kit_lo_lo ?kit_lo_on ?kit_lo_tu ?kit_lo_pn ?kit_on_lo ?kit_on_on ?kit_on_tu ?kit_on_pn ?kit_tu_lo ?kit_tu_on ?kit_tu_tu ?kit_tu_pn ?kit_pn_lo ?kit_pn_on ?kit_pn_tu ?kit_pn_pn ?hc_iC_Filter ?mo_iC_Filter ?hc_iC_Loose ?mo_iC_Loose ?hc_iC_Once ?mo_iC_Once ?hc_iC_Turn ?mo_iC_Turn ?cg_all ?tk_all ?a_filter_of ?l_filter_of ?c_filter_of ?k_filter_of ?a_law_mixed ?l_law_mixed ?c_law_mixed ?k_law_mixed ?a_law_deck ?l_law_deck ?c_law_deck ?k_law_deck ?a_law_next ?l_law_next ?c_law_next ?k_law_next ?a_law_same ?l_law_same ?c_law_same ?k_law_same ?a_law_due ?l_law_due ?c_law_due ?k_law_due ?a_law_sieve ?l_law_sieve ?c_law_sieve ?k_law_sieve ?a_law_rows ?l_law_rows ?c_law_rows ?k_law_rows ?a_law ?l_law ?c_law ?k_law ?z_len ?z_range ?z_min ?z_max ?z_isinstance ?z_tuple ?z_bool ?z_str ?z_int ?z_all ?z_sorted ?z_list ?z_dict
    (case a_HEARD => k_is)
    (case a_AGAIN => k_is)
    (case a_LATE => k_is)
    (case a_KINDS => k_is)
    (case lk_KINDS => k_is)
    (case a_C_Filter => k_is)
    (case pg_C_Filter => k_is)
    (case hd_C_Filter => k_is)
    (case po_C_Filter => k_is)
    (case sa_C_Filter => k_is)
    (case mk_C_Filter => k_is)
    (case kc_C_Filter => k_is)
    (case n_C_Filter_known => k_is)
    (case a_Filter_init => k_is)
    (case i_Filter_init => k_is)
    (case l_Filter_init => k_is)
    (case c_Filter_init => k_is)
    (case k_Filter_init => k_is)
    (case a_Filter_word_for => k_is)
    (case i_Filter_word_for => k_is)
    (case l_Filter_word_for => k_is)
    (case c_Filter_word_for => k_is)
    (case k_Filter_word_for => k_is)
    (case a_Filter_keep => k_is)
    (case i_Filter_keep => k_is)
    (case l_Filter_keep => k_is)
    (case c_Filter_keep => k_is)
    (case k_Filter_keep => k_is)
    (case a_Filter_takes => k_is)
    (case i_Filter_takes => k_is)
    (case l_Filter_takes => k_is)
    (case c_Filter_takes => k_is)
    (case k_Filter_takes => k_is)
    (case a_Filter_rows => k_is)
    (case i_Filter_rows => k_is)
    (case l_Filter_rows => k_is)
    (case c_Filter_rows => k_is)
    (case k_Filter_rows => k_is)
    (case a_Filter_fresh => k_is)
    (case i_Filter_fresh => k_is)
    (case l_Filter_fresh => k_is)
    (case c_Filter_fresh => k_is)
    (case k_Filter_fresh => k_is)
    (case a_Filter_copy => k_is)
    (case i_Filter_copy => k_is)
    (case l_Filter_copy => k_is)
    (case c_Filter_copy => k_is)
    (case k_Filter_copy => k_is)
    (case a_C_Loose => k_is)
    (case pg_C_Loose => k_is)
    (case hd_C_Loose => k_is)
    (case po_C_Loose => k_is)
    (case sa_C_Loose => k_is)
    (case mk_C_Loose => k_is)
    (case kc_C_Loose => k_is)
    (case n_C_Loose_known => k_is)
    (case a_Loose_fresh => k_is)
    (case i_Loose_fresh => k_is)
    (case l_Loose_fresh => k_is)
    (case c_Loose_fresh => k_is)
    (case k_Loose_fresh => k_is)
    (case a_Loose_init => k_is)
    (case a_Loose_word_for => k_is)
    (case a_Loose_keep => k_is)
    (case a_Loose_takes => k_is)
    (case a_Loose_rows => k_is)
    (case a_Loose_copy => k_is)
    (case a_C_Once => k_is)
    (case pg_C_Once => k_is)
    (case hd_C_Once => k_is)
    (case po_C_Once => k_is)
    (case sa_C_Once => k_is)
    (case mk_C_Once => k_is)
    (case kc_C_Once => k_is)
    (case n_C_Once_known => k_is)
    (case a_Once_word_for => k_is)
    (case i_Once_word_for => k_is)
    (case l_Once_word_for => k_is)
    (case c_Once_word_for => k_is)
    (case k_Once_word_for => k_is)
    (case a_Once_keep => k_is)
    (case i_Once_keep => k_is)
    (case l_Once_keep => k_is)
    (case c_Once_keep => k_is)
    (case k_Once_keep => k_is)
    (case a_Once_rows => k_is)
    (case i_Once_rows => k_is)
    (case l_Once_rows => k_is)
    (case c_Once_rows => k_is)
    (case k_Once_rows => k_is)
    (case a_Once_fresh => k_is)
    (case i_Once_fresh => k_is)
    (case l_Once_fresh => k_is)
    (case c_Once_fresh => k_is)
    (case k_Once_fresh => k_is)
    (case a_Once_init => k_is)
    (case a_Once_takes => k_is)
    (case a_Once_copy => k_is)
    (case a_C_Turn => k_is)
    (case pg_C_Turn => k_is)
    (case hd_C_Turn => k_is)
    (case po_C_Turn => k_is)
    (case sa_C_Turn => k_is)
    (case mk_C_Turn => k_is)
    (case kc_C_Turn => k_is)
    (case n_C_Turn_known => k_is)
    (case a_Turn_word_for => k_is)
    (case i_Turn_word_for => k_is)
    (case l_Turn_word_for => k_is)
    (case c_Turn_word_for => k_is)
    (case k_Turn_word_for => k_is)
    (case a_Turn_keep => k_is)
    (case i_Turn_keep => k_is)
    (case l_Turn_keep => k_is)
    (case c_Turn_keep => k_is)
    (case k_Turn_keep => k_is)
    (case a_Turn_rows => k_is)
    (case i_Turn_rows => k_is)
    (case l_Turn_rows => k_is)
    (case c_Turn_rows => k_is)
    (case k_Turn_rows => k_is)
    (case a_Turn_fresh => k_is)
    (case i_Turn_fresh => k_is)
    (case l_Turn_fresh => k_is)
    (case c_Turn_fresh => k_is)
    (case k_Turn_fresh => k_is)
    (case a_Turn_init => k_is)
    (case a_Turn_takes => k_is)
    (case a_Turn_copy => k_is)
    (case kit_lo_lo => kit_is)
    (case kit_lo_on => kit_is)
    (case kit_lo_tu => kit_is)
    (case kit_lo_pn => kit_is)
    (case kit_on_lo => kit_is)
    (case kit_on_on => kit_is)
    (case kit_on_tu => kit_is)
    (case kit_on_pn => kit_is)
    (case kit_tu_lo => kit_is)
    (case kit_tu_on => kit_is)
    (case kit_tu_tu => kit_is)
    (case kit_tu_pn => kit_is)
    (case kit_pn_lo => kit_is)
    (case kit_pn_on => kit_is)
    (case kit_pn_tu => kit_is)
    (case kit_pn_pn => kit_is)
    (case hc_iC_Filter => k_is)
    (case mo_iC_Filter => k_is)
    (case hc_iC_Loose => k_is)
    (case mo_iC_Loose => k_is)
    (case hc_iC_Once => k_is)
    (case mo_iC_Once => k_is)
    (case hc_iC_Turn => k_is)
    (case mo_iC_Turn => k_is)
    (case cg_all => k_is)
    (case tk_all => k_is)
    (case a_filter_of => k_is)
    (case l_filter_of => k_is)
    (case c_filter_of => k_is)
    (case k_filter_of => k_is)
    (case a_law_mixed => k_is)
    (case l_law_mixed => k_is)
    (case c_law_mixed => k_is)
    (case k_law_mixed => k_is)
    (case a_law_deck => k_is)
    (case l_law_deck => k_is)
    (case c_law_deck => k_is)
    (case k_law_deck => k_is)
    (case a_law_next => k_is)
    (case l_law_next => k_is)
    (case c_law_next => k_is)
    (case k_law_next => k_is)
    (case a_law_same => k_is)
    (case l_law_same => k_is)
    (case c_law_same => k_is)
    (case k_law_same => k_is)
    (case a_law_due => k_is)
    (case l_law_due => k_is)
    (case c_law_due => k_is)
    (case k_law_due => k_is)
    (case a_law_sieve => k_is)
    (case l_law_sieve => k_is)
    (case c_law_sieve => k_is)
    (case k_law_sieve => k_is)
    (case a_law_rows => k_is)
    (case l_law_rows => k_is)
    (case c_law_rows => k_is)
    (case k_law_rows => k_is)
    (case a_law => k_is)
    (case l_law => k_is)
    (case c_law => k_is)
    (case k_law => k_is)
    (case z_len => k_is)
    (case z_range => k_is)
    (case z_min => k_is)
    (case z_max => k_is)
    (case z_isinstance => k_is)
    (case z_tuple => k_is)
    (case z_bool => k_is)
    (case z_str => k_is)
    (case z_int => k_is)
    (case z_all => k_is)
    (case z_sorted => k_is)
    (case z_list => k_is)
    (case z_dict => k_is)
