import PyProof.Rows.All
import Wide.All
import OpenK.AllK
import Wide.FinOn
import HandS.ForMost
import HandS.IsInst
import HandS.Flow
import HandS.SortInts
import HandS.More
import HandS.Text
import PySem.Challenge.RW_wrapnets_k17_tables_and_copies
set_option Elab.async false
set_option maxRecDepth 100000
set_option linter.all false
namespace Wn
open PySem L2

/-- what a caller knows of a def: that it keeps a promise, and where it stands -/
def Cd (P : Program) (w : World) (K : PySem.W.Frag) (mg : Str → Option Value) (base : Heap) (k : Nat) (name : Str) (ps : List Str) (sp : Sp) : Prop :=
  ∃ (f : Addr) (fd : FuncData), FnOk P w K mg base CX0 k f fd ps sp ∧ mg name = some (.ref f) ∧ PySem.W.keepIn K (.ref f) = true ∧ Binds K fd ps []
/-- what a caller knows of a method -/
def Md (P : Program) (w : World) (K : PySem.W.Frag) (mg : Str → Option Value) (base : Heap) (k : Nat) (C : Addr) (name : Str) (ps : List Str) (sp : Sp) : Prop :=
  ∃ (f : Addr) (fd : FuncData), FnOk P w K mg base CX0 k f fd ps sp ∧ Meth K C name f ∧ Binds K fd ps []

/-- all but some addresses stay -/
def Kp (M : List Addr) (H H' : Hp) : Prop := ∀ b o, b ∉ M → H b = some o → H' b = some o
theorem Kp.refl (M : List Addr) (H : Hp) : Kp M H H := fun _ _ _ h => h
theorem Kp.trans {M : List Addr} {H H1 H2 : Hp} (a : Kp M H H1) (b : Kp M H1 H2) : Kp M H H2 := fun c o hc h => b c o hc (a c o hc h)
theorem Kp.mono {M M' : List Addr} {H H1 : Hp} (a : Kp M H H1) (h : ∀ x ∈ M, x ∈ M') : Kp M' H H1 := fun c o hc q => a c o (fun z => hc (h c z)) q
theorem Kp.of {M : List Addr} {H H1 : Hp} (a : Same H H1) : Kp M H H1 := fun c o _ q => a c o q
theorem Kp.new {M : List Addr} {H H1 : Hp} {p : Addr} {o : HO} (a : Kp M H H1) (hp : H1 p = none) : Kp M H (upd H1 p o) := fun c u hc q => by
  rw [upd_ne (ne_of_none (a c u hc q) hp)]
  exact a c u hc q
theorem Kp.wr {M : List Addr} {H H1 : Hp} {p : Addr} {o : HO} (a : Kp M H H1) (hp : p ∈ M) : Kp M H (upd H1 p o) := fun c u hc q => by
  rw [upd_ne (show c ≠ p from fun z => hc (by rw [z]; exact hp))]
  exact a c u hc q
/-- a write to what wasn't there at first -/
theorem Kp.wrn {M : List Addr} {H H1 : Hp} {p : Addr} {o : HO} (a : Kp M H H1) (hp : H p = none) : Kp M H (upd H1 p o) := fun c u hc q => by
  rw [upd_ne (ne_of_none q hp)]
  exact a c u hc q
theorem _root_.L2.Same.new {H H1 : Hp} {p : Addr} {o : HO} (a : Same H H1) (hp : H1 p = none) : Same H (upd H1 p o) := fun c u q => by
  rw [upd_ne (ne_of_none (a c u q) hp)]
  exact a c u q
theorem _root_.L2.Same.wrn {H H1 : Hp} {p : Addr} {o : HO} (a : Same H H1) (hp : H p = none) : Same H (upd H1 p o) := fun c u q => by
  rw [upd_ne (ne_of_none q hp)]
  exact a c u q

/-- a while by a word and a measure -/
theorem while_m {c : TT} {tb : TS} {D : Ends} {σ : L2.St} {H : Hp} (Pv : L2.St → Hp → Prop) (μ : L2.St → Hp → Nat) (h0 : Pv σ H)
    (hs : ∀ m σ H, m = μ σ H → Pv σ H → c σ H fun b H1 => if b = true then ∃ N : L2.St → Hp → Prop, (∀ σ' H', N σ' H' → ∃ m', m' < m ∧ (m' = μ σ' H' ∧ Pv σ' H')) ∧ tb { D with nx := N, ct := N, bk := D.nx } σ H1 else D.nx σ H1) : tWhile c tb D σ H :=
  ⟨fun m σ H => m = μ σ H ∧ Pv σ H, ⟨_, rfl, h0⟩, fun m σ H ⟨e, p⟩ => hs m σ H e p⟩

/-! ### the deck -/
def spMixed : Sp := fun vs H Q _ => ∃ (c a : Int), vs = [.int c, .int a] ∧ -1 ≤ a ∧ a < 2 ^ 60 ∧ ∀ r : Int, Q (.int r) H
/-- a deck at d, of which n draws were taken at most -/
def Deck (H : Hp) (d f : Addr) (n : Int) : Prop :=
  ∃ (a wh : Int) (xs : List Int), H d = some (.lst [.int a, .int wh, .ref f]) ∧ H f = some (.lst (xs.map V.int)) ∧ 0 ≤ a ∧ a ≤ n ∧ xs.length ≤ 100000
def spNext : Sp := fun vs H Q _ => ∃ (d f : Addr) (m n : Int), vs = [.ref d, .int m] ∧ 0 < m ∧ n < 2 ^ 60 ∧ Deck H d f n ∧
  ∀ (r : Int) (H' : Hp), 0 ≤ r → r < m → Kp [d] H H' → Deck H' d f (n + 1) → Q (.int r) H'
def spDeck (K : PySem.W.Frag) : Sp := fun vs H Q _ => ∃ (a : Addr) (ns : List Int), vs = [.ref a] ∧ SqL K H a (ns.map V.int) ∧ ns.length ≤ 63 ∧
  ∀ (H' : Hp) (d f : Addr), H d = none → H f = none → Same H H' → Deck H' d f 0 → Q (.ref d) H'
end Wn

namespace Wn
open PySem L2
/-! ### tuples stay, whatever is called -/
def TK (H H' : Hp) : Prop := (∀ b xs, H b = some (.tup xs) → H' b = some (.tup xs)) ∧ (∀ b o u, H b = some (.frz o u) → H' b = some (.frz o u))
theorem TK.refl (H : Hp) : TK H H := ⟨fun _ _ h => h, fun _ _ _ h => h⟩
theorem TK.trans {H H1 H2 : Hp} (a : TK H H1) (b : TK H1 H2) : TK H H2 := ⟨fun c o h => b.1 c o (a.1 c o h), fun c o u h => b.2 c o u (a.2 c o u h)⟩
theorem TK.of {H H1 : Hp} (a : Same H H1) : TK H H1 := ⟨fun c o h => a _ _ h, fun c o u h => a _ _ h⟩
theorem TK.new {H H1 : Hp} {p : Addr} {o : HO} (a : TK H H1) (hp : H1 p = none) : TK H (upd H1 p o) :=
  ⟨fun c u q => by rw [upd_ne (ne_of_none (a.1 c u q) hp)]; exact a.1 c u q, fun c u z q => by rw [upd_ne (ne_of_none (a.2 c u z q) hp)]; exact a.2 c u z q⟩
/-- what is neither a tuple nor locked may be written -/
def Wrt : HO → Bool
  | .tup _ => false
  | .frz _ _ => false
  | _ => true
theorem TK.wr {H H1 : Hp} {p : Addr} {o u : HO} (a : TK H H1) (hp : H1 p = some u) (hu : Wrt u = true) : TK H (upd H1 p o) :=
  ⟨fun c v q => by
    have h1 := a.1 c v q
    rw [upd_ne (ne_of h1 hp (fun z => by rw [← z] at hu; cases hu))]
    exact h1, fun c v z q => by
    have h1 := a.2 c v z q
    rw [upd_ne (ne_of h1 hp (fun z => by rw [← z] at hu; cases hu))]
    exact h1⟩
theorem _root_.L2.FnOk.tk {P : Program} {w : World} {K : PySem.W.Frag} {mg : Str → Option Value} {base : Heap} {k : Nat} {f : Addr} {fd : FuncData} {ps : List Str} {sp : Sp} (F : FnOk P w K mg base CX0 k f fd ps sp) :
    FnOk P w K mg base CX0 k f fd ps (fun vs H Q E => sp vs H (fun v H' => TK H H' → Q v H') E) := by
  refine ⟨fun vs H Q E q => F.len vs H _ E q, fun A outer s H args us vs Q E hr he hb hv hs => ?_⟩
  refine codeAny_mono (F.run A outer s H args us vs _ E hr he hb hv hs) fun r s' h => ?_
  cases r with
  | ok fl =>
    cases fl with
    | ret u =>
      obtain ⟨v, H', e1, e2, e3, e4, e5, q⟩ := h
      exact ⟨v, H', e1, e2, e3, e4, e5, q ⟨e3.tups, e3.frzs⟩⟩
    | _ => exact h
  | error e => exact h
/-- a promise, tuples kept besides -/
def Tk (sp : Sp) : Sp := fun vs H Q E => sp vs H (fun v H' => TK H H' → Q v H') E
theorem Cd.tk {P : Program} {w : World} {K : PySem.W.Frag} {mg : Str → Option Value} {base : Heap} {k : Nat} {name : Str} {ps : List Str} {sp : Sp} (h : Cd P w K mg base k name ps sp) : Cd P w K mg base k name ps (Tk sp) := by
  obtain ⟨f, fd, G, a, b, c⟩ := h
  exact ⟨f, fd, G.tk, a, b, c⟩
theorem Md.tk {P : Program} {w : World} {K : PySem.W.Frag} {mg : Str → Option Value} {base : Heap} {k : Nat} {C : Addr} {name : Str} {ps : List Str} {sp : Sp} (h : Md P w K mg base k C name ps sp) : Md P w K mg base k C name ps (Tk sp) := by
  obtain ⟨f, fd, G, a, b⟩ := h
  exact ⟨f, fd, G.tk, a, b⟩

/-! ### data: None, truths, ints, texts, tuples of these -/
mutual
def Rp (K : PySem.W.Frag) (H : Hp) : PyData → V → Prop
  | .none, v => v = .non
  | .bool b, v => v = .bl b
  | .int i, v => v = .int i
  | .str s, v => v = .str s
  | .tuple ds, v => ∃ a xs, v = .ref a ∧ SqT K H a xs ∧ RpL K H ds xs
  | .list _, _ => False
  | .dict _, _ => False
def RpL (K : PySem.W.Frag) (H : Hp) : List PyData → List V → Prop
  | [], xs => xs = []
  | d :: ds, xs => ∃ v r, xs = v :: r ∧ Rp K H d v ∧ RpL K H ds r
end
mutual
def dep : PyData → Nat
  | .tuple xs => deps xs + 1
  | _ => 0
def deps : List PyData → Nat
  | [] => 0
  | x :: xs => max (dep x) (deps xs)
end
mutual
def sz : PyData → Nat
  | .tuple xs => szs xs + 1
  | _ => 1
def szs : List PyData → Nat
  | [] => 0
  | x :: xs => sz x + szs xs
end
theorem SqT.tk {K : PySem.W.Frag} {H H' : Hp} {a : Addr} {xs : List V} (h : SqT K H a xs) (e : TK H H') : SqT K H' a xs := by
  rcases h with (h | ⟨o, h⟩) | h
  · exact .inl (.inl (e.1 _ _ h))
  · exact .inl (.inr ⟨o, e.2 _ _ _ h⟩)
  · exact .inr h
mutual
theorem Rp.tk {K : PySem.W.Frag} {H H' : Hp} (e : TK H H') : ∀ (d : PyData) (v : V), Rp K H d v → Rp K H' d v
  | .none, _, h => h
  | .bool _, _, h => h
  | .int _, _, h => h
  | .str _, _, h => h
  | .tuple ds, v, h => by
    unfold Rp at h ⊢
    obtain ⟨a, xs, rfl, hs, hl⟩ := h
    exact ⟨a, xs, rfl, SqT.tk hs e, RpL.tk e ds xs hl⟩
  | .list _, _, h => h
  | .dict _, _, h => h
theorem RpL.tk {K : PySem.W.Frag} {H H' : Hp} (e : TK H H') : ∀ (ds : List PyData) (xs : List V), RpL K H ds xs → RpL K H' ds xs
  | [], _, h => h
  | d :: ds, xs, h => by
    unfold RpL at h ⊢
    obtain ⟨v, r, rfl, h1, h2⟩ := h
    exact ⟨v, r, rfl, Rp.tk e d v h1, RpL.tk e ds r h2⟩
end
theorem RpL.len {K : PySem.W.Frag} {H : Hp} : ∀ (ds : List PyData) (xs : List V), RpL K H ds xs → xs.length = ds.length
  | [], xs, h => by
    unfold RpL at h
    rw [h]
    rfl
  | d :: ds, xs, h => by
    unfold RpL at h
    obtain ⟨v, r, rfl, h1, h2⟩ := h
    rw [List.length_cons, List.length_cons, RpL.len ds r h2]
theorem RpL.get {K : PySem.W.Frag} {H : Hp} : ∀ (ds : List PyData) (xs : List V), RpL K H ds xs → ∀ (i : Nat) (d : PyData), ds[i]? = some d → ∃ v, xs[i]? = some v ∧ Rp K H d v
  | [], xs, h, i, d, e => by cases e
  | d :: ds, xs, h, i, d', e => by
    unfold RpL at h
    obtain ⟨v, r, rfl, h1, h2⟩ := h
    cases i with
    | zero =>
      simp only [List.getElem?_cons_zero, Option.some.injEq] at e
      exact ⟨v, rfl, e ▸ h1⟩
    | succ i =>
      simp only [List.getElem?_cons_succ] at e ⊢
      exact RpL.get ds r h2 i d' e
theorem RpL.of {K : PySem.W.Frag} {H : Hp} : ∀ (ds : List PyData) (xs : List V), xs.length = ds.length → (∀ (i : Nat) (d : PyData) (v : V), ds[i]? = some d → xs[i]? = some v → Rp K H d v) → RpL K H ds xs
  | [], xs, h, _ => by
    unfold RpL
    exact List.length_eq_zero_iff.mp h
  | d :: ds, [], h, _ => by cases h
  | d :: ds, v :: r, h, k => by
    unfold RpL
    refine ⟨v, r, rfl, k 0 d v rfl rfl, RpL.of ds r (by simpa using h) fun i d' v' h1 h2 => k (i + 1) d' v' ?_ ?_⟩
    · simpa using h1
    · simpa using h2
theorem RpL.snoc {K : PySem.W.Frag} {H : Hp} {d : PyData} {v : V} (h : Rp K H d v) : ∀ (ds : List PyData) (xs : List V), RpL K H ds xs → RpL K H (ds ++ [d]) (xs ++ [v])
  | [], xs, q => by
    unfold RpL at q
    subst q
    show RpL K H [d] [v]
    unfold RpL
    exact ⟨v, [], rfl, h, by unfold RpL; rfl⟩
  | d' :: ds, xs, q => by
    unfold RpL at q
    obtain ⟨v', r, rfl, h1, h2⟩ := q
    show RpL K H (d' :: (ds ++ [d])) (v' :: (r ++ [v]))
    unfold RpL
    exact ⟨_, _, rfl, h1, RpL.snoc h ds r h2⟩
theorem dep_get : ∀ (ds : List PyData) (i : Nat) (d : PyData), ds[i]? = some d → dep d ≤ deps ds
  | [], i, d, e => by cases e
  | x :: xs, 0, d, e => by
    simp only [List.getElem?_cons_zero, Option.some.injEq] at e
    unfold deps
    rw [e]
    exact Nat.le_max_left _ _
  | x :: xs, i + 1, d, e => by
    simp only [List.getElem?_cons_succ] at e
    unfold deps
    exact Nat.le_trans (dep_get xs i d e) (Nat.le_max_right _ _)
theorem sz_get : ∀ (ds : List PyData) (i : Nat) (d : PyData), ds[i]? = some d → sz d ≤ szs ds
  | [], i, d, e => by cases e
  | x :: xs, 0, d, e => by
    simp only [List.getElem?_cons_zero, Option.some.injEq] at e
    unfold szs
    rw [e]
    exact Nat.le_add_right _ _
  | x :: xs, i + 1, d, e => by
    simp only [List.getElem?_cons_succ] at e
    unfold szs
    exact Nat.le_trans (sz_get xs i d e) (Nat.le_add_left _ _)
theorem sz_pos : ∀ d : PyData, 1 ≤ sz d
  | .tuple xs => by unfold sz; omega
  | .none | .bool _ | .int _ | .str _ | .list _ | .dict _ => by unfold sz; exact Nat.le_refl _
theorem szs_len : ∀ ds : List PyData, ds.length ≤ szs ds
  | [] => Nat.zero_le _
  | x :: xs => by
    have := szs_len xs
    have := sz_pos x
    unfold szs
    rw [List.length_cons]
    omega
/-- the type of such a thing -/
theorem ty_tup {K : PySem.W.Frag} {H : Hp} {a : Addr} {xs : List V} (h : SqT K H a xs) : TyX K H (.ref a) (.type "tuple") := by
  rcases h with (h | ⟨o, h⟩) | ⟨o, its, n, h, c, _⟩
  · exact .base (.tup h)
  · exact .fTuple h
  · exact .kTuple h c
/-- the same data handed in twice, of depth below n: True -/
def spSame (K : PySem.W.Frag) (n : Nat) : Sp := fun vs H Q _ => ∃ (x y : V) (d : PyData), vs = [x, y] ∧ Rp K H d x ∧ Rp K H d y ∧ dep d < n ∧ sz d ≤ 1000000 ∧ ∀ H', Same H H' → Q (.bl true) H'
end Wn

namespace Wn
open PySem L2
theorem fld1 {f : Str} {v : V} : ([(f, v)] : List (Str × V)).lookup f = some v := by
  show (match f == f with | true => some v | false => _) = some v
  rw [beq_self_eq_true]
theorem fld1_ne {f g : Str} {v : V} (h : (g == f) = false) : ([(f, v)] : List (Str × V)).lookup g = none := by
  show (match g == f with | true => some v | false => _) = none
  rw [h]
  rfl
theorem putF1 {f : Str} {v u : V} : putF f u [(f, v)] = [(f, u)] := by
  show (if f = f then (f, u) :: [] else _) = _
  rw [if_pos rfl]
/-! ### dicts by whole numbers, their values data -/
section
variable {α : Type}
def lookA (m : List (Int × α)) (k : Int) : Option α := (m.find? fun p => decide (p.1 = k)).map (·.2)
def putA (m : List (Int × α)) (k : Int) (v : α) : List (Int × α) :=
  if (m.any fun kv => decide (kv.1 = k)) = true then m.map (fun kv => if kv.1 = k then (kv.1, v) else kv) else m ++ [(k, v)]
def dropA (m : List (Int × α)) (k : Int) : List (Int × α) := m.filter fun kv => decide (kv.1 ≠ k)
theorem putA_len (m : List (Int × α)) (k : Int) (v : α) : (putA m k v).length ≤ m.length + 1 := by
  unfold putA
  split
  · rw [List.length_map]
    omega
  · rw [List.length_append, List.length_singleton]
    exact Nat.le_refl _
theorem dropA_len (m : List (Int × α)) (k : Int) : (dropA m k).length ≤ m.length := List.length_filter_le _ _
def RpD (enc : α → PyData) (K : PySem.W.Frag) (H : Hp) : List (Int × α) → List (Key × V) → Prop
  | [], kvs => kvs = []
  | p :: m, kvs => ∃ v r, kvs = (Sum.inl p.1, v) :: r ∧ Rp K H (enc p.2) v ∧ RpD enc K H m r
variable {enc : α → PyData} {K : PySem.W.Frag} {H H' : Hp}
theorem RpD.tk (e : TK H H') : ∀ {m : List (Int × α)} {kvs : List (Key × V)}, RpD enc K H m kvs → RpD enc K H' m kvs
  | [], _, h => h
  | p :: m, kvs, h => by
    obtain ⟨v, r, rfl, h1, h2⟩ := h
    exact ⟨v, r, rfl, Rp.tk e _ _ h1, RpD.tk e h2⟩
theorem RpD.len : ∀ {m : List (Int × α)} {kvs : List (Key × V)}, RpD enc K H m kvs → kvs.length = m.length
  | [], kvs, h => by rw [show kvs = [] from h]; rfl
  | p :: m, kvs, h => by
    obtain ⟨v, r, rfl, h1, h2⟩ := h
    rw [List.length_cons, List.length_cons, RpD.len h2]
theorem RpD.keys : ∀ {m : List (Int × α)} {kvs : List (Key × V)}, RpD enc K H m kvs → (kvs.map fun kv => kV kv.1) = (m.map (·.1)).map V.int
  | [], kvs, h => by rw [show kvs = [] from h]; rfl
  | p :: m, kvs, h => by
    obtain ⟨v, r, rfl, h1, h2⟩ := h
    rw [List.map_cons, List.map_cons, List.map_cons, RpD.keys h2]
    rfl
theorem inl_iff {a b : Int} : ((Sum.inl a : Key) = Sum.inl b) ↔ a = b := ⟨fun h => by cases h; rfl, fun h => by rw [h]⟩
theorem RpD.val {k : Int} : ∀ {m : List (Int × α)} {kvs : List (Key × V)}, RpD enc K H m kvs → (lookA m k = none ∧ valV kvs (Sum.inl k) = none) ∨ ∃ x v, lookA m k = some x ∧ valV kvs (Sum.inl k) = some v ∧ Rp K H (enc x) v
  | [], kvs, h => by
    rw [show kvs = [] from h]
    exact .inl ⟨rfl, rfl⟩
  | p :: m, kvs, h => by
    obtain ⟨v, r, rfl, h1, h2⟩ := h
    by_cases e : p.1 = k
    · refine .inr ⟨p.2, v, ?_, valV_pos (by rw [e]), h1⟩
      simp [lookA, List.find?_cons, e]
    · have e1 : lookA (p :: m) k = lookA m k := by simp [lookA, List.find?_cons, e]
      rw [e1, valV_neg (p := (Sum.inl p.1, v)) (fun z => e (inl_iff.mp z))]
      exact RpD.val h2
theorem RpD.any {k : Int} : ∀ {m : List (Int × α)} {kvs : List (Key × V)}, RpD enc K H m kvs → (kvs.any fun kv => decide (kv.1 = Sum.inl k)) = (m.any fun kv => decide (kv.1 = k))
  | [], kvs, h => by rw [show kvs = [] from h]; rfl
  | p :: m, kvs, h => by
    obtain ⟨v, r, rfl, h1, h2⟩ := h
    rw [List.any_cons, List.any_cons, RpD.any h2]
    congr 1
    exact decide_eq_decide.mpr inl_iff
theorem RpD.snoc {k : Int} {x : α} {v : V} (hv : Rp K H (enc x) v) : ∀ {m : List (Int × α)} {kvs : List (Key × V)}, RpD enc K H m kvs → RpD enc K H (m ++ [(k, x)]) (kvs ++ [(Sum.inl k, v)])
  | [], kvs, h => by
    rw [show kvs = [] from h]
    exact ⟨v, [], rfl, hv, rfl⟩
  | p :: m, kvs, h => by
    obtain ⟨u, r, rfl, h1, h2⟩ := h
    exact ⟨u, _, rfl, h1, RpD.snoc hv h2⟩
theorem RpD.map {k : Int} {x : α} {v : V} (hv : Rp K H (enc x) v) : ∀ {m : List (Int × α)} {kvs : List (Key × V)}, RpD enc K H m kvs → RpD enc K H (m.map fun kv => if kv.1 = k then (kv.1, x) else kv) (kvs.map fun kv => if kv.1 = Sum.inl k then (kv.1, v) else kv)
  | [], kvs, h => by rw [show kvs = [] from h]; rfl
  | p :: m, kvs, h => by
    obtain ⟨u, r, rfl, h1, h2⟩ := h
    have h3 := RpD.map (k := k) hv h2
    rw [List.map_cons, List.map_cons]
    by_cases e : p.1 = k
    · rw [if_pos e, if_pos (inl_iff.mpr e)]
      exact ⟨v, _, rfl, hv, h3⟩
    · rw [if_neg e, if_neg (fun z => e (inl_iff.mp z))]
      exact ⟨u, _, rfl, h1, h3⟩
theorem RpD.put {k : Int} {x : α} {v : V} {m : List (Int × α)} {kvs : List (Key × V)} (h : RpD enc K H m kvs) (hv : Rp K H (enc x) v) : RpD enc K H (putA m k x) (putK kvs (Sum.inl k) v) := by
  unfold putA putK
  rw [h.any]
  split
  · exact h.map hv
  · exact h.snoc hv
theorem RpD.drop {k : Int} : ∀ {m : List (Int × α)} {kvs : List (Key × V)}, RpD enc K H m kvs → RpD enc K H (dropA m k) (dropK kvs (Sum.inl k))
  | [], kvs, h => by rw [show kvs = [] from h]; rfl
  | p :: m, kvs, h => by
    obtain ⟨u, r, rfl, h1, h2⟩ := h
    have h3 := RpD.drop (k := k) h2
    unfold dropA dropK at *
    by_cases e : p.1 = k
    · rw [List.filter_cons_of_neg (by simp [e]), List.filter_cons_of_neg (by simp [e])]
      exact h3
    · rw [List.filter_cons_of_pos (by simp [e]), List.filter_cons_of_pos (by simp [inl_iff, e])]
      exact ⟨u, _, rfl, h1, h3⟩
/-- a dict at q that stands for m -/
def DictAt (enc : α → PyData) (K : PySem.W.Frag) (H : Hp) (q : Addr) (m : List (Int × α)) : Prop := ∃ kvs, H q = some (.dK kvs) ∧ RpD enc K H m kvs
theorem DictAt.kp {M : List Addr} {q : Addr} {m : List (Int × α)} (h : DictAt enc K H q m) (k : Kp M H H') (t : TK H H') (n : q ∉ M) : DictAt enc K H' q m := by
  obtain ⟨kvs, a, b⟩ := h
  exact ⟨kvs, k _ _ n a, b.tk t⟩
def sortI (ns : List Int) : List Int := ns.mergeSort (fun a b => decide (a ≤ b))
theorem sortI_perm (ns : List Int) : (sortI ns).Perm ns := List.mergeSort_perm _ _
theorem sortI_sorted (ns : List Int) : (sortI ns).Pairwise (· ≤ ·) := by
  have h := List.pairwise_mergeSort (le := fun a b : Int => decide (a ≤ b)) (fun a b c h1 h2 => by simp only [decide_eq_true_eq] at *; omega) (fun a b => by simp only [Bool.or_eq_true, decide_eq_true_eq]; omega) ns
  exact h.imp fun h => of_decide_eq_true h
theorem sortI_eq {ns ms : List Int} (p : ms.Perm ns) (s : ms.Pairwise (· ≤ ·)) : ms = sortI ns :=
  PySem.W.ksm_same (p.trans (sortI_perm ns).symm) s (sortI_sorted ns)
/-- rows by hands: (hand,) and what stands there -/
def rowsD (encL : α → List PyData) (m : List (Int × α)) : PyData := .tuple ((sortI (m.map (·.1))).map fun k => .tuple (.int k :: ((lookA m k).map encL).getD []))
theorem lookA_mem {m : List (Int × α)} {k : Int} (h : k ∈ m.map (·.1)) : ∃ x, lookA m k = some x ∧ (k, x) ∈ m := by
  obtain ⟨p, hp, rfl⟩ := List.mem_map.mp h
  unfold lookA
  cases e : m.find? fun q => decide (q.1 = p.1) with
  | none =>
    have := List.find?_eq_none.mp e p hp
    simp at this
  | some q =>
    have h1 := List.find?_some e
    have h2 := List.mem_of_find?_eq_some e
    simp only [decide_eq_true_eq] at h1
    exact ⟨q.2, rfl, by rw [← h1]; exact h2⟩
theorem szs_map_le {β : Type} {f : β → PyData} {c : Nat} : ∀ (l : List β), (∀ x ∈ l, sz (f x) ≤ c) → szs (l.map f) ≤ c * l.length
  | [], _ => Nat.zero_le _
  | x :: l, h => by
    have h1 := szs_map_le l fun y hy => h y (List.mem_cons_of_mem _ hy)
    have h2 := h x List.mem_cons_self
    rw [List.map_cons, List.length_cons]
    unfold szs
    rw [Nat.mul_succ]
    omega
theorem deps_map_le {β : Type} {f : β → PyData} {c : Nat} : ∀ (l : List β), (∀ x ∈ l, dep (f x) ≤ c) → deps (l.map f) ≤ c
  | [], _ => Nat.zero_le _
  | x :: l, h => by
    have h1 := deps_map_le l fun y hy => h y (List.mem_cons_of_mem _ hy)
    have h2 := h x List.mem_cons_self
    rw [List.map_cons]
    unfold deps
    omega
theorem Rp.tup {ds : List PyData} {a : Addr} {xs : List V} (h : H a = some (.tup xs)) (r : RpL K H ds xs) : Rp K H (.tuple ds) (.ref a) := by
  unfold Rp
  exact ⟨a, xs, rfl, SqT.of h, r⟩
theorem Rp.tupS {ds : List PyData} {a : Addr} {xs : List V} (h : SqT K H a xs) (r : RpL K H ds xs) : Rp K H (.tuple ds) (.ref a) := by
  unfold Rp
  exact ⟨a, xs, rfl, h, r⟩
theorem RpL.cons {d : PyData} {ds : List PyData} {v : V} {xs : List V} (h : Rp K H d v) (r : RpL K H ds xs) : RpL K H (d :: ds) (v :: xs) := by
  unfold RpL
  exact ⟨v, xs, rfl, h, r⟩
theorem RpL.nil : RpL K H [] [] := by
  unfold RpL
  rfl
theorem Rp.int {i : Int} : Rp K H (.int i) (.int i) := by
  unfold Rp
  rfl
theorem Rp.none : Rp K H .none .non := by
  unfold Rp
  rfl
theorem Rp.str {z : Str} : Rp K H (.str z) (.str z) := by
  unfold Rp
  rfl
end
end Wn

namespace Wn
open PySem L2
theorem tYes_t {σ : L2.St} {H : Hp} {F : Bool → Hp → Prop} (h : F true H) : tYes σ H F := h
theorem rows_lc {α : Type} {encL : α → List PyData} {K : PySem.W.Frag} {td : TE} {i : Nat} {σ : L2.St} {H2 : Hp} {S D q : Addr} {ns : List Int} {m : List (Int × α)} {kvs : List (Key × V)} {Qd : Hp → Prop}
    (hS : H2 S = some (.lst (ns.map V.int))) (hq : H2 q = some (.dK kvs)) (hm : RpD (fun x => .tuple (encL x)) K H2 m kvs) (hns : ∀ k ∈ ns, k ∈ m.map (·.1)) (hz : ∀ x, (encL x).length ≤ 100) (hln : ns.length ≤ 1000000)
    (htd : ∀ (σ' : L2.St) (H' : Hp) (Q : VK), wipe σ' [i] = wipe σ [i] → Same H2 H' → Q (.ref q) H' → td σ' H' Q) (hD : H2 D = none) (hσ : i < σ.length)
    (hd : ∀ (H' : Hp) (xs : List V), Same H2 H' → H' D = some (.lst xs) → RpL K H' (ns.map fun k => .tuple (.int k :: ((lookA m k).map encL).getD [])) xs → Qd H') :
    ∃ W : Nat → Nat → Hp → Prop, (∃ m, W 0 m (upd H2 D (.lst []))) ∧ ∀ j m H, W j m H →
      ((Itl K S).stop j H ∧ Qd H) ∨ ((Itl K S).go j H ∧ ∃ Nx : Hp → Prop, (∀ H', Nx H' → ∃ m', m' < m ∧ W (j + 1) m' H') ∧ ∀ x H', (Itl K S).yld j H x H' → gName i x (wipe σ [i]) H' fun σ2 H2 => wipe σ2 [i] = wipe σ [i] ∧ tYes σ2 H2 fun b H3 =>
        if b = true then tOp (rCatT K) (tTup (tCons (tVar i) tNil)) (tDGet td (tVar i)) σ2 H3 fun y H4 => ∃ acc, H4 D = some (.lst acc) ∧ acc.length < sizeLine ∧ Nx (upd H4 D (.lst (acc ++ [y]))) else Nx H3) := by
  have nSD : S ≠ D := ne_of_none hS hD
  refine lc_list (K := K) (a := S) (xs := ns.map V.int) (fun j H => ∃ xs, Same H2 H ∧ H D = some (.lst xs) ∧ RpL K H ((ns.take j).map fun k => .tuple (.int k :: ((lookA m k).map encL).getD [])) xs)
    ⟨[], (L2.Same.refl H2).new hD, upd_same, RpL.nil⟩ (fun j H _ ⟨xs, s, _, _⟩ => SqL.of (s _ _ hS)) ?_ ?_
  · rintro j x H3 hx ⟨xs, s3, hD3, hr⟩
    have hj : j < ns.length := by
      have q := (List.getElem?_eq_some_iff.mp hx).1
      rw [List.length_map] at q
      exact q
    obtain rfl : x = V.int ns[j] := by
      rw [List.getElem?_map, List.getElem?_eq_getElem hj] at hx
      exact (Option.some.inj hx).symm
    have hmem : ns[j] ∈ m.map (·.1) := hns _ (List.getElem_mem hj)
    have eσ : (((wipe σ [i]).set i (some (V.int ns[j]))))[i]? = some (some (V.int ns[j])) := by
      rw [List.getElem?_set_self]
      rw [wipe_length]
      exact hσ
    have ew : wipe ((wipe σ [i]).set i (some (V.int ns[j]))) [i] = wipe σ [i] := by
      show ((σ.set i none).set i (some (V.int ns[j]))).set i none = σ.set i none
      rw [List.set_set, List.set_set]
    refine ⟨ew, ?_⟩
    refine tYes_t (iteT ?_)
    have hlx : xs.length < sizeLine := by
      have := RpL.len _ _ hr
      rw [List.length_map, List.length_take] at this
      exact Nat.lt_of_le_of_lt (show xs.length ≤ 1000000 by omega) (by decide)
    refine ⟨_, eσ, (by show 1 ≤ sizeLine; decide), fun t ht => ?_⟩
    have s4 := s3.new (o := .tup [V.int ns[j]]) ht
    have t4 := TK.of s4
    refine htd _ _ _ ew s4 ⟨_, eσ, ?_⟩
    rcases hm.val (k := ns[j]) with ⟨e1, e2⟩ | ⟨y, v, e1, e2, r⟩
    · obtain ⟨z, e3, _⟩ := lookA_mem hmem
      rw [e1] at e3
      cases e3
    · have r4 := Rp.tk t4 _ _ r
      unfold Rp at r4
      obtain ⟨b, ys, rfl, hb, hl⟩ := r4
      have hly := RpL.len _ _ hl
      refine ⟨q, .ref b, rfl, by rw [← e2]; exact DGet.k (k := Sum.inl ns[j]) (s4 _ _ hq), ?_⟩
      have hD4 : (upd H3 t (.tup [V.int ns[j]])) D = some (.lst xs) := by
        rw [upd_ne (ne_of_none hD3 ht)]
        exact hD3
      have etk : (ns.take (j + 1)).map (fun k => PyData.tuple (.int k :: ((lookA m k).map encL).getD [])) = (ns.take j).map (fun k => PyData.tuple (.int k :: ((lookA m k).map encL).getD [])) ++ [PyData.tuple (.int ns[j] :: encL y)] := by
        rw [List.take_succ_eq_append_getElem hj, List.map_append, List.map_singleton, e1]
        rfl
      have s34 : TK H3 (upd H3 t (.tup [V.int ns[j]])) := (TK.refl _).new ht
      refine ⟨t, b, _, ys, rfl, rfl, SqT.of upd_same, hb, List.cons_ne_nil _ _, ?_, fun ey => ?_, fun _ p hp => ?_⟩
      · have := hz y
        rw [hly, List.length_singleton]
        exact Nat.le_trans (show 1 + (encL y).length ≤ 1000 by omega) (by decide)
      · refine ⟨xs, hD4, hlx, _, s4.wrn hD, upd_same, ?_⟩
        rw [etk]
        have tE : TK (upd H3 t (.tup [V.int ns[j]])) (upd (upd H3 t (.tup [V.int ns[j]])) D (.lst (xs ++ [V.ref t]))) := (TK.refl _).wr hD4 rfl
        refine RpL.snoc (Rp.tk tE _ _ (Rp.tup upd_same ?_)) _ _ (RpL.tk (s34.trans tE) _ _ hr)
        have e0 : encL y = [] := List.length_eq_zero_iff.mp (by rw [← hly, ey]; rfl)
        rw [e0]
        exact RpL.cons Rp.int RpL.nil
      · have s5 := s4.new (o := .tup ([V.int ns[j]] ++ ys)) hp
        have hD5 : upd (upd H3 t (.tup [V.int ns[j]])) p (.tup ([V.int ns[j]] ++ ys)) D = some (.lst xs) := by
          rw [upd_ne (ne_of_none hD4 hp)]
          exact hD4
        have tE : TK (upd (upd H3 t (.tup [V.int ns[j]])) p (.tup ([V.int ns[j]] ++ ys))) (upd (upd (upd H3 t (.tup [V.int ns[j]])) p (.tup ([V.int ns[j]] ++ ys))) D (.lst (xs ++ [V.ref p]))) := (TK.refl _).wr hD5 rfl
        have s45 : TK (upd H3 t (.tup [V.int ns[j]])) (upd (upd H3 t (.tup [V.int ns[j]])) p (.tup ([V.int ns[j]] ++ ys))) := (TK.refl _).new hp
        refine ⟨xs, hD5, hlx, _, s5.wrn hD, upd_same, ?_⟩
        rw [etk]
        refine RpL.snoc (Rp.tk tE _ _ (Rp.tup upd_same ?_)) _ _ (RpL.tk ((s34.trans s45).trans tE) _ _ hr)
        exact RpL.cons Rp.int (RpL.tk s45 _ _ hl)
  · rintro H3 ⟨xs, s3, hD3, hr⟩
    rw [List.length_map, List.take_length] at hr
    exact hd H3 xs s3 hD3 hr
end Wn

namespace Wn
open PySem L2
section
variable {X : Cx} {K : PySem.W.Frag}
theorem ixL (hK : X.K = K) : IxR X (rIxL K) := hK ▸ ix_list
theorem ixT (hK : X.K = K) : IxR X (rIxT K) := hK ▸ ix_tup
theorem opCatT (hK : X.K = K) : OpR X (binaryOp .Add) (rCatT K) := hK ▸ op_catT
theorem slL (hK : X.K = K) : SlR X (rSlL K) := hK ▸ sl_list
theorem slT (hK : X.K = K) : SlR X (rSlT K) := hK ▸ sl_tup
theorem fldK {e : Expr} {ta : TE} {f : Str} {pos : Pos} (hK : X.K = K) (he : PE X e ta) (hb : attributeBase e f X.env (eval e X.env) = eval e X.env) : PE X (.Attribute e f pos) (tFld K ta f) := hK ▸ pe_fld he hb
theorem lenK (hK : X.K = K) : CallR X (.builtin "len") (fun xs H Q => ∃ x n, xs = [x] ∧ LenV K x H n ∧ Q (.int n) H) := hK ▸ call_len
theorem crMaxK (hK : X.K = K) (hc : X.calm = true) : CallR X (.builtin "max") (rMax K) := hK ▸ cr_max hc
theorem crMinK (hK : X.K = K) (hc : X.calm = true) : CallR X (.builtin "min") (rMin K) := hK ▸ cr_min hc
theorem crAllK (hK : X.K = K) (hc : X.calm = true) : CallR X (.builtin "all") (rAll K) := hK ▸ cr_all hc
theorem crAnyK (hK : X.K = K) (hc : X.calm = true) : CallR X (.builtin "any") (rAny K) := hK ▸ cr_any hc
theorem isiK (hK : X.K = K) : CallR X (.builtin "isinstance") (rIsi K) := hK ▸ call_isi
theorem tupOfK (hK : X.K = K) : CallR X (.type "tuple") (fun xs H Q => ∃ p ys, xs = [.ref p] ∧ ((SqL K H p ys ∧ ∀ l, H l = none → Q (.ref l) (upd H l (.tup ys))) ∨ (SqT K H p ys ∧ Q (.ref p) H))) := hK ▸ call_tuple_of
theorem lstOfK (hK : X.K = K) : CallR X (.type "list") (fun xs H Q => ∃ p ys, xs = [.ref p] ∧ (SqL K H p ys ∨ SqT K H p ys) ∧ ∀ l, H l = none → Q (.ref l) (upd H l (.lst ys))) := hK ▸ call_list_of
theorem sortIK (hK : X.K = K) : CallR X (.builtin "sorted") (rSortedI K) := hK ▸ cr_sortedI
theorem inSeqK (hK : X.K = K) : OpR X (compareOp .In) (rIn K false) := hK ▸ op_in_seq
theorem notInSeqK (hK : X.K = K) : OpR X (compareOp .NotIn) (rIn K true) := hK ▸ op_notIn_seq
theorem eqDK (hK : X.K = K) (hu : X.A.units + 64 < cLine) : OpR X (compareOp .Eq) (rEqD K) := hK ▸ op_eqD hu
theorem neDK (hK : X.K = K) (hu : X.A.units + 64 < cLine) : OpR X (compareOp .NotEq) (rNeD K) := hK ▸ op_neD hu
end
end Wn

namespace Wn
open PySem L2
theorem Deck.kp {M : List Addr} {H H' : Hp} {d f : Addr} {n : Int} (h : Deck H d f n) (k : Kp M H H') (n1 : d ∉ M) (n2 : f ∉ M) : Deck H' d f n := by
  obtain ⟨a, wh, xs, h1, h2, h3⟩ := h
  exact ⟨a, wh, xs, k _ _ n1 h1, k _ _ n2 h2, h3⟩
theorem Deck.mono {H : Hp} {d f : Addr} {n m : Int} (h : Deck H d f n) (hm : n ≤ m) : Deck H d f m := by
  obtain ⟨a, wh, xs, h1, h2, h3, h4, h5⟩ := h
  exact ⟨a, wh, xs, h1, h2, h3, by omega, h5⟩
theorem Deck.lst {H : Hp} {d f : Addr} {n : Int} (h : Deck H d f n) : ∃ zs, H d = some (.lst zs) := by
  obtain ⟨a, wh, xs, h1, h2, h3⟩ := h
  exact ⟨_, h1⟩
theorem Deck.lst2 {H : Hp} {d f : Addr} {n : Int} (h : Deck H d f n) : ∃ zs, H f = some (.lst zs) := by
  obtain ⟨a, wh, xs, h1, h2, h3⟩ := h
  exact ⟨_, h2⟩
theorem seq_have {t u : TS} {D : Ends} {σ : L2.St} {H : Hp} (Mid : L2.St → Hp → Prop) (h2 : ∀ σ' H', Mid σ' H' → u D σ' H') (h1 : (∀ σ' H', Mid σ' H' → u D σ' H') → t { D with nx := u D } σ H) : tSeq t u D σ H := h1 h2
theorem seq_if {c : TT} {t1 t2 u : TS} {D : Ends} {σ : L2.St} {H : Hp} (Mid : L2.St → Hp → Prop) (h2 : ∀ σ' H', Mid σ' H' → u D σ' H') (h1 : (∀ σ' H', Mid σ' H' → u D σ' H') → tIfS c t1 t2 { D with nx := u D } σ H) : tSeq (tIfS c t1 t2) u D σ H := h1 h2
theorem nin1 {a b : Addr} (h : a ≠ b) : a ∉ [b] := fun z => h (List.mem_singleton.mp z)
theorem nin2 {a b c : Addr} (h : a ≠ b) (h' : a ≠ c) : a ∉ [b, c] := fun z => by
  rcases List.mem_cons.mp z with z | z
  · exact h z
  · exact h' (List.mem_singleton.mp z)
section
variable {α : Type}
/-- an object at p whose dict by_hand stands at q -/
def HoldAt (enc : α → PyData) (K : PySem.W.Frag) (C : Addr) (H : Hp) (p q : Addr) (m : List (Int × α)) : Prop :=
  (∃ dx, H p = some (.ins C dx [("by_hand", .ref q)])) ∧ DictAt enc K H q m
variable {enc : α → PyData} {K : PySem.W.Frag} {C : Addr} {H H' : Hp}
theorem HoldAt.kp {M : List Addr} {p q : Addr} {m : List (Int × α)} (h : HoldAt enc K C H p q m) (k : Kp M H H') (t : TK H H') (n1 : p ∉ M) (n2 : q ∉ M) : HoldAt enc K C H' p q m := by
  obtain ⟨⟨dx, a⟩, b⟩ := h
  exact ⟨⟨dx, k _ _ n1 a⟩, b.kp k t n2⟩
/-- n objects and n dicts, in two lists -/
structure Rack (enc : α → PyData) (K : PySem.W.Frag) (C : Addr) (H : Hp) (L1 L2 : Addr) (n : Nat) (p q md : Nat → Addr) (m m' : Nat → List (Int × α)) : Prop where
  l1 : H L1 = some (.lst ((List.range n).map fun j => V.ref (p j)))
  l2 : H L2 = some (.lst ((List.range n).map fun j => V.ref (md j)))
  ok : ∀ j, j < n → HoldAt enc K C H (p j) (q j) (m j)
  mo : ∀ j, j < n → DictAt enc K H (md j) (m' j)
  dq : ∀ i j, i < n → j < n → i ≠ j → q i ≠ q j
  dm : ∀ i j, i < n → j < n → i ≠ j → md i ≠ md j
  dx : ∀ i j, i < n → j < n → q i ≠ md j
variable {L1 L2 : Addr} {n : Nat} {p q md : Nat → Addr} {m m' : Nat → List (Int × α)}
theorem Rack.kp {M : List Addr} (R : Rack enc K C H L1 L2 n p q md m m') (k : Kp M H H') (t : TK H H') (h : ∀ x ∈ M, x ≠ L1 ∧ x ≠ L2 ∧ ∀ j, j < n → x ≠ p j ∧ x ≠ q j ∧ x ≠ md j) : Rack enc K C H' L1 L2 n p q md m m' where
  l1 := k _ _ (fun z => (h _ z).1 rfl) R.l1
  l2 := k _ _ (fun z => (h _ z).2.1 rfl) R.l2
  ok := fun j hj => (R.ok j hj).kp k t (fun z => ((h _ z).2.2 j hj).1 rfl) (fun z => ((h _ z).2.2 j hj).2.1 rfl)
  mo := fun j hj => (R.mo j hj).kp k t (fun z => ((h _ z).2.2 j hj).2.2 rfl)
  dq := R.dq
  dm := R.dm
  dx := R.dx
/-- a list beside was written -/
theorem Rack.lst {d : Addr} {zs : List V} (R : Rack enc K C H L1 L2 n p q md m m') (k : Kp [d] H H') (t : TK H H') (hd : H d = some (.lst zs)) (n1 : d ≠ L1) (n2 : d ≠ L2) : Rack enc K C H' L1 L2 n p q md m m' :=
  R.kp k t fun x hx => by
    rw [List.mem_singleton] at hx
    subst hx
    refine ⟨n1, n2, fun j hj => ?_⟩
    obtain ⟨⟨dx, a⟩, kvs, b, _⟩ := R.ok j hj
    obtain ⟨kvs', c, _⟩ := R.mo j hj
    exact ⟨ne_of hd a (by intro z; cases z), ne_of hd b (by intro z; cases z), ne_of hd c (by intro z; cases z)⟩
theorem Rack.same (R : Rack enc K C H L1 L2 n p q md m m') (s : Same H H') : Rack enc K C H' L1 L2 n p q md m m' :=
  R.kp (M := []) (Kp.of s) (TK.of s) fun x hx => by cases hx
/-- the k-th object's dict is another one -/
theorem Rack.setq {i : Nat} {mn : List (Int × α)} (R : Rack enc K C H L1 L2 n p q md m m') (hi : i < n) (k : Kp [q i] H H') (t : TK H H') (h : HoldAt enc K C H' (p i) (q i) mn) :
    Rack enc K C H' L1 L2 n p q md (fun j => if j = i then mn else m j) m' := by
  obtain ⟨_, kvq, hq, _⟩ := R.ok i hi
  refine ⟨k _ _ (nin1 (ne_of R.l1 hq (by intro z; cases z))) R.l1, k _ _ (nin1 (ne_of R.l2 hq (by intro z; cases z))) R.l2, fun j hj => ?_, fun j hj => ?_, R.dq, R.dm, R.dx⟩
  · by_cases e : j = i
    · subst e
      simp only [if_true]
      exact h
    · simp only [if_neg e]
      obtain ⟨⟨dx, a⟩, _⟩ := R.ok j hj
      exact (R.ok j hj).kp k t (nin1 (ne_of a hq (by intro z; cases z))) (nin1 (R.dq j i hj hi e))
  · exact (R.mo j hj).kp k t (nin1 (fun z => R.dx i j hi hj z.symm))
theorem Rack.setm {i : Nat} {mn : List (Int × α)} (R : Rack enc K C H L1 L2 n p q md m m') (hi : i < n) (k : Kp [md i] H H') (t : TK H H') (h : DictAt enc K H' (md i) mn) :
    Rack enc K C H' L1 L2 n p q md m (fun j => if j = i then mn else m' j) := by
  obtain ⟨kvq, hq, _⟩ := R.mo i hi
  refine ⟨k _ _ (nin1 (ne_of R.l1 hq (by intro z; cases z))) R.l1, k _ _ (nin1 (ne_of R.l2 hq (by intro z; cases z))) R.l2, fun j hj => ?_, fun j hj => ?_, R.dq, R.dm, R.dx⟩
  · obtain ⟨⟨dx, a⟩, _⟩ := R.ok j hj
    exact (R.ok j hj).kp k t (nin1 (ne_of a hq (by intro z; cases z))) (nin1 (R.dx j i hj hi))
  · by_cases e : j = i
    · subst e
      simp only [if_true]
      exact h
    · simp only [if_neg e]
      exact (R.mo j hj).kp k t (nin1 (R.dm j i hj hi e))
/-- one more -/
theorem Rack.push {pn qn mdn : Addr} {mn : List (Int × α)} (R : Rack enc K C H L1 L2 n p q md m m') (k : Kp [L1, L2] H H') (t : TK H H') (h1 : H' L1 = some (.lst (((List.range n).map fun j => V.ref (p j)) ++ [V.ref pn]))) (h2 : H' L2 = some (.lst (((List.range n).map fun j => V.ref (md j)) ++ [V.ref mdn])))
    (hp : HoldAt enc K C H' pn qn mn) (hm : DictAt enc K H' mdn mn) (nq : H qn = none) (nm : H mdn = none) (nqm : qn ≠ mdn) :
    Rack enc K C H' L1 L2 (n + 1) (fun j => if j = n then pn else p j) (fun j => if j = n then qn else q j) (fun j => if j = n then mdn else md j) (fun j => if j = n then mn else m j) (fun j => if j = n then mn else m' j) := by
  have e1 : ∀ (f : Nat → Addr) (x : Addr), (List.range (n + 1)).map (fun j => V.ref (if j = n then x else f j)) = ((List.range n).map fun j => V.ref (f j)) ++ [V.ref x] := fun f x => by
    rw [List.range_succ, List.map_append, List.map_singleton, if_pos rfl]
    congr 1
    refine List.map_congr_left fun j hj => ?_
    rw [List.mem_range] at hj
    rw [if_neg (by omega)]
  have hq : ∀ j, j < n → q j ≠ qn ∧ q j ≠ mdn := fun j hj => by
    obtain ⟨_, kv, a, _⟩ := R.ok j hj
    exact ⟨ne_of_none a nq, ne_of_none a nm⟩
  have hmd : ∀ j, j < n → md j ≠ qn ∧ md j ≠ mdn := fun j hj => by
    obtain ⟨kv, a, _⟩ := R.mo j hj
    exact ⟨ne_of_none a nq, ne_of_none a nm⟩
  refine ⟨by rw [e1]; exact h1, by rw [e1]; exact h2, fun j hj => ?_, fun j hj => ?_, fun i j hi hj e => ?_, fun i j hi hj e => ?_, fun i j hi hj => ?_⟩
  · by_cases e : j = n
    · simp only [if_pos e]
      exact hp
    · simp only [if_neg e]
      obtain ⟨⟨dx, a⟩, kv, b, _⟩ := R.ok j (by omega)
      exact (R.ok j (by omega)).kp k t (nin2 (ne_of a R.l1 (by intro z; cases z)) (ne_of a R.l2 (by intro z; cases z))) (nin2 (ne_of b R.l1 (by intro z; cases z)) (ne_of b R.l2 (by intro z; cases z)))
  · by_cases e : j = n
    · simp only [if_pos e]
      exact hm
    · simp only [if_neg e]
      obtain ⟨kv, b, _⟩ := R.mo j (by omega)
      exact (R.mo j (by omega)).kp k t (nin2 (ne_of b R.l1 (by intro z; cases z)) (ne_of b R.l2 (by intro z; cases z)))
  · by_cases ei : i = n
    · have ej : ¬ j = n := by omega
      simp only [if_pos ei, if_neg ej]
      exact (hq j (by omega)).1.symm
    · by_cases ej : j = n
      · simp only [if_neg ei, if_pos ej]
        exact (hq i (by omega)).1
      · simp only [if_neg ei, if_neg ej]
        exact R.dq i j (by omega) (by omega) e
  · by_cases ei : i = n
    · have ej : ¬ j = n := by omega
      simp only [if_pos ei, if_neg ej]
      exact (hmd j (by omega)).2.symm
    · by_cases ej : j = n
      · simp only [if_neg ei, if_pos ej]
        exact (hmd i (by omega)).2
      · simp only [if_neg ei, if_neg ej]
        exact R.dm i j (by omega) (by omega) e
  · by_cases ei : i = n
    · by_cases ej : j = n
      · simp only [if_pos ei, if_pos ej]
        exact nqm
      · simp only [if_pos ei, if_neg ej]
        exact (hmd j (by omega)).1.symm
    · by_cases ej : j = n
      · simp only [if_neg ei, if_pos ej]
        exact (hq i (by omega)).2
      · simp only [if_neg ei, if_neg ej]
        exact R.dx i j (by omega) (by omega)
end
section
variable {α : Type} {enc : α → PyData} {K : PySem.W.Frag} {C : Addr} {H H' : Hp}
theorem HoldAt.lst {d p q : Addr} {zs : List V} {m : List (Int × α)} (h : HoldAt enc K C H p q m) (k : Kp [d] H H') (t : TK H H') (hd : H d = some (.lst zs)) : HoldAt enc K C H' p q m := by
  obtain ⟨⟨dx, a⟩, kv, b, _⟩ := id h
  exact h.kp k t (nin1 (ne_of a hd (by intro z; cases z))) (nin1 (ne_of b hd (by intro z; cases z)))
theorem HoldAt.same {p q : Addr} {m : List (Int × α)} (h : HoldAt enc K C H p q m) (s : Same H H') : HoldAt enc K C H' p q m :=
  h.kp (M := []) (Kp.of s) (TK.of s) (by simp) (by simp)
theorem DictAt.lst {d q : Addr} {zs : List V} {m : List (Int × α)} (h : DictAt enc K H q m) (k : Kp [d] H H') (t : TK H H') (hd : H d = some (.lst zs)) : DictAt enc K H' q m := by
  obtain ⟨kv, b, _⟩ := id h
  exact h.kp k t (nin1 (ne_of b hd (by intro z; cases z)))
theorem DictAt.same {q : Addr} {m : List (Int × α)} (h : DictAt enc K H q m) (s : Same H H') : DictAt enc K H' q m :=
  h.kp (M := []) (Kp.of s) (TK.of s) (by simp)
theorem Deck.same {d f : Addr} {n : Int} (h : Deck H d f n) (s : Same H H') : Deck H' d f n := h.kp (M := []) (Kp.of s) (by simp) (by simp)
/-- a dict beside was written -/
theorem Deck.dict {d f q : Addr} {n : Int} {m : List (Int × α)} (h : Deck H d f n) (k : Kp [q] H H') (hq : DictAt enc K H q m) : Deck H' d f n := by
  obtain ⟨kv, b, _⟩ := hq
  obtain ⟨zs, h1⟩ := h.lst
  obtain ⟨zf, h2⟩ := h.lst2
  exact h.kp k (nin1 (ne_of h1 b (by intro z; cases z))) (nin1 (ne_of h2 b (by intro z; cases z)))
variable {La Lb : Addr} {n : Nat} {p q md : Nat → Addr} {m m' : Nat → List (Int × α)}
/-- the k-th object's dict, the k-th dict and a list beside are others -/
theorem Rack.set2 {d : Addr} {zs : List V} {i : Nat} {mn mn' : List (Int × α)} (R : Rack enc K C H La Lb n p q md m m') (hi : i < n) (k : Kp [d, q i, md i] H H') (t : TK H H') (hd : H d = some (.lst zs)) (n1 : d ≠ La) (n2 : d ≠ Lb)
    (h : HoldAt enc K C H' (p i) (q i) mn) (h' : DictAt enc K H' (md i) mn') :
    Rack enc K C H' La Lb n p q md (fun j => if j = i then mn else m j) (fun j => if j = i then mn' else m' j) := by
  obtain ⟨_, kvq, hq, _⟩ := R.ok i hi
  obtain ⟨kvm, hm, _⟩ := R.mo i hi
  have nin : ∀ {x : Addr}, x ≠ d → x ≠ q i → x ≠ md i → x ∉ [d, q i, md i] := fun a b c z => by
    rcases List.mem_cons.mp z with z | z
    · exact a z
    · exact nin2 b c z
  refine ⟨k _ _ (nin n1.symm (ne_of R.l1 hq (by intro z; cases z)) (ne_of R.l1 hm (by intro z; cases z))) R.l1, k _ _ (nin n2.symm (ne_of R.l2 hq (by intro z; cases z)) (ne_of R.l2 hm (by intro z; cases z))) R.l2, fun j hj => ?_, fun j hj => ?_, R.dq, R.dm, R.dx⟩
  · by_cases e : j = i
    · subst e
      simp only [if_true]
      exact h
    · simp only [if_neg e]
      obtain ⟨⟨dx, a⟩, kv, b, _⟩ := R.ok j hj
      exact (R.ok j hj).kp k t (nin (ne_of a hd (by intro z; cases z)) (ne_of a hq (by intro z; cases z)) (ne_of a hm (by intro z; cases z))) (nin (ne_of b hd (by intro z; cases z)) (R.dq j i hj hi e) (R.dx j i hj hi))
  · by_cases e : j = i
    · subst e
      simp only [if_true]
      exact h'
    · simp only [if_neg e]
      obtain ⟨kv, b, _⟩ := R.mo j hj
      exact (R.mo j hj).kp k t (nin (ne_of b hd (by intro z; cases z)) (fun z => R.dx i j hi hj z.symm) (R.dm j i hj hi e))
end
theorem at3 {x y z : V} {r : Int} (h0 : 0 ≤ r) (h1 : r < 3) : ∃ v, atI [x, y, z] r = some v ∧ (v = x ∨ v = y ∨ v = z) := by
  have h : r = 0 ∨ r = 1 ∨ r = 2 := by omega
  rcases h with rfl | rfl | rfl
  · exact ⟨x, rfl, .inl rfl⟩
  · exact ⟨y, rfl, .inr (.inl rfl)⟩
  · exact ⟨z, rfl, .inr (.inr rfl)⟩
theorem at5 {a b c d e : Int} {r : Int} (h0 : 0 ≤ r) (h1 : r < 5) : ∃ v : Int, atI [V.int a, .int b, .int c, .int d, .int e] r = some (.int v) := by
  have h : r = 0 ∨ r = 1 ∨ r = 2 ∨ r = 3 ∨ r = 4 := by omega
  rcases h with rfl | rfl | rfl | rfl | rfl <;> exact ⟨_, rfl⟩
theorem atR {n : Nat} {f : Nat → Addr} {r : Int} (h0 : 0 ≤ r) (h1 : r < n) : atI ((List.range n).map fun j => V.ref (f j)) r = some (.ref (f r.toNat)) := by
  have e : ((r.toNat : Nat) : Int) = r := by omega
  have := atI_nat (xs := (List.range n).map fun j => V.ref (f j)) (j := r.toNat) (v := .ref (f r.toNat)) (by
    rw [List.getElem?_map, List.getElem?_range (by omega)]
    rfl)
  rw [e] at this
  exact this
def spLaw (K : PySem.W.Frag) : Sp := fun vs H Q _ => ∃ (a : Addr) (ns : List Int), vs = [.ref a] ∧ SqL K H a (ns.map V.int) ∧ ns.length ≤ 63 ∧ ∀ H', Q (.bl true) H'
end Wn

namespace Wn
open PySem L2
def top (i : Nat) : Stmt := PySem.Challenge.pw_wrapnets_k17_tables_and_copies.main.body.getD i (.Pass ⟨0, 0, 0, 0⟩)
abbrev sMixed : Stmt := top 4
abbrev sDeck : Stmt := top 5
abbrev sNext : Stmt := top 6
abbrev sSame : Stmt := top 7
section
variable {P : Program} {w : World} {K : PySem.W.Frag} {mg : Str → Option Value} {base : Heap}
theorem scMixed : FnScope ["_law_cell", "_law_at", "_law_one"] ["_law_cell", "_law_at"] (defScope sMixed) := ⟨rfl, rfl, rfl, by decide +kernel, rfl, by decide +kernel, by decide +kernel⟩
theorem ok_mixed {f : Addr} {fd : FuncData} (F : Fun K "_law_mixed" "_law_mixed" sMixed f fd) : FnOk P w K mg base CX0 1 f fd ["_law_cell", "_law_at"] spMixed := by
  refine F.ok scMixed (fun vs H Q E h => ?_) (fun cdv A outer s H vs Q E hr h => ?_)
  · obtain ⟨c, a, rfl, _⟩ := h
    rfl
  · obtain ⟨c, a, rfl, ha, hb, k⟩ := h
    refine ⟨_, pss_cons (ps_set (i := 2) scMixed.nd rfl (Or.inl rfl) (pe_op op_mod (pe_op op_add (pe_op op_add (pe_op op_mul (pe_op op_mod (pv 0) pe_int) pe_int)
      (pe_op op_mul (pe_op op_mul (pe_op op_add (pv 1) pe_int) (pe_op op_add (pv 1) pe_int)) pe_int)) pe_int) pe_int))
      (pss_one (ps_ret (pe_op op_fdiv (pe_op op_mod (pe_op op_mul (pv 2) (pv 2)) pe_int) pe_int))), ?_⟩
    refine ⟨_, rfl, _, _, rfl, rfl, (by show (0 : Int) < 2147483629; decide), _, _, rfl, rfl, .inr ⟨by decide, by decide⟩, _, rfl, _, _, rfl, rfl, _, rfl, _, _, rfl, rfl, _, _, rfl, rfl, .inl ⟨by omega, by omega⟩, _, _, rfl, rfl, .inr ⟨by decide, by decide⟩,
      _, _, rfl, rfl, _, _, rfl, rfl, _, _, rfl, rfl, (by show (0 : Int) < 2147483647; decide), ?_⟩
    refine ⟨_, rfl, _, rfl, _, _, rfl, rfl, .inl ⟨?_, ?_⟩, _, _, rfl, rfl, (by show (0 : Int) < 2147483629; decide), _, _, rfl, rfl, ⟨by decide, by decide⟩, k _⟩
    · have := Int.emod_nonneg (c % 2147483629 * 48271 + (a + 1) * (a + 1) * 7919 + 11) (show (2147483647 : Int) ≠ 0 by decide)
      omega
    · have := Int.emod_lt_of_pos (c % 2147483629 * 48271 + (a + 1) * (a + 1) * 7919 + 11) (show (0 : Int) < 2147483647 by decide)
      omega
theorem scNext : FnScope ["_law_deck_here", "_law_many", "_law_at"] ["_law_deck_here", "_law_many"] (defScope sNext) := ⟨rfl, rfl, rfl, by decide +kernel, rfl, by decide +kernel, by decide +kernel⟩
theorem ok_next {f : Addr} {fd : FuncData} (F : Fun K "_law_next" "_law_next" sNext f fd) (zL : mg "len" = none) (M : Cd P w K mg base 1 "_law_mixed" ["_law_cell", "_law_at"] spMixed) : FnOk P w K mg base CX0 2 f fd ["_law_deck_here", "_law_many"] spNext := by
  obtain ⟨fM, fdM, GM, mM, kM, bM⟩ := M
  refine F.ok scNext (fun vs H Q E h => ?_) (fun cdv A outer s H vs Q E hr h => ?_)
  · obtain ⟨d, f, m, n, rfl, _⟩ := h
    rfl
  · obtain ⟨d, f, m, n, rfl, hm, hn, ⟨a, wh, xs, hd, hf, a0, an, hx⟩, k⟩ := h
    have ndf : f ≠ d := fun z => by
      rw [z, hd] at hf
      have := congrArg (fun o => match o with | some (HO.lst (_ :: _ :: .ref _ :: _)) => true | _ => false) hf
      simp only at this
      cases xs with
      | nil => cases hf
      | cons x xs => cases xs with
        | nil => cases hf
        | cons y xs => cases xs with
          | nil => cases hf
          | cons z xs => cases hf
    refine ⟨_, pss_cons (ps_set (i := 2) scNext.nd rfl (Or.inl rfl) (pe_ix ix_list (pv 0) pe_int (fun _ _ => rfl)))
      (pss_cons (ps_asg (pe_op op_add (pv 2) pe_int) (pg_sub (pv 0) pe_int set_list))
      (pss_cons (ps_if (pt_cmpR op_lt (pv 2) (pe_callB call_len (by rfl) zL PySem.boot_len (pa_cons (pe_ix ix_list (pv 0) pe_int (fun _ _ => rfl)) pa_nil)) (nomark _))
        (pss_one (ps_ret (pe_op op_mod (pe_ix ix_list (pe_ix ix_list (pv 0) pe_int (fun _ _ => rfl)) (pv 2) (fun _ _ => rfl)) (pv 1)))) pss_nil)
      (pss_one (ps_ret (pe_op op_mod (pe_call GM hr rfl mM kM bM .nil pass0 (pa_cons (pe_ix ix_list (pv 0) pe_int (fun _ _ => rfl)) (pa_cons (pv 2) pa_nil))) (pv 1)))))), ?_⟩
    have hd2 : upd H d (.lst [.int (a + 1), .int wh, .ref f]) d = some (.lst [.int (a + 1), .int wh, .ref f]) := upd_same
    have hf2 : upd H d (.lst [.int (a + 1), .int wh, .ref f]) f = some (.lst (xs.map V.int)) := (upd_ne ndf).trans hf
    have hk : Kp [d] H (upd H d (.lst [.int (a + 1), .int wh, .ref f])) := (Kp.refl _ _).wr (List.mem_singleton.mpr rfl)
    have hD : Deck (upd H d (.lst [.int (a + 1), .int wh, .ref f])) d f (n + 1) := ⟨a + 1, wh, xs, hd2, hf2, by omega, by omega, hx⟩
    refine ⟨_, rfl, d, _, _, .int a, rfl, rfl, SqL.of hd, rfl, ?_⟩
    refine ⟨_, rfl, _, _, rfl, rfl, _, rfl, d, _, _, 0, rfl, rfl, hd, rfl, ?_⟩
    refine ⟨_, rfl, _, rfl, d, _, _, .ref f, rfl, rfl, SqL.of hd2, rfl, _, _, rfl, .inl ⟨_, SqL.of hf2, rfl⟩, _, _, rfl, rfl, _, rfl, ?_⟩
    refine ite2 (fun hl => ?_) (fun _ => ?_)
    · have hl := of_decide_eq_true hl
      rw [List.length_map] at hl
      have hj : a.toNat < xs.length := by omega
      have ha : ((a.toNat : Nat) : Int) = a := by omega
      refine ⟨_, rfl, d, _, _, .ref f, rfl, rfl, SqL.of hd2, rfl, _, rfl, f, _, _, .int (xs[a.toNat]), rfl, rfl, SqL.of hf2, ?_, _, rfl, _, _, rfl, rfl, hm, ?_⟩
      · have := atI_nat (xs := xs.map V.int) (j := a.toNat) (v := .int (xs[a.toNat])) (by simp [hj])
        rw [ha] at this
        exact this
      · exact k _ _ (Int.emod_nonneg _ (by omega)) (Int.emod_lt_of_pos _ hm) hk hD
    · refine ⟨_, rfl, d, _, _, .int wh, rfl, rfl, SqL.of hd2, rfl, _, rfl, wh, a, rfl, by omega, by omega, fun r => ?_⟩
      exact ⟨_, rfl, _, _, rfl, rfl, hm, k _ _ (Int.emod_nonneg _ (by omega)) (Int.emod_lt_of_pos _ hm) hk hD⟩
end
end Wn
namespace Wn
open PySem L2
section
variable {P : Program} {w : World} {K : PySem.W.Frag} {mg : Str → Option Value} {base : Heap}
theorem scDeck : FnScope ["_law_script", "_law_found", "_law_whole", "_law_k", "_law_rest", "_law_at"] ["_law_script"] (defScope sDeck) := ⟨rfl, rfl, rfl, by decide +kernel, rfl, by decide +kernel, by decide +kernel⟩
def restOf (σ : L2.St) (_ : Hp) : Nat := match σ[4]? with | some (some (V.int r)) => r.toNat | _ => 0
theorem ok_deck {f : Addr} {fd : FuncData} (F : Fun K "_law_deck" "_law_deck" sDeck f fd) (zL : mg "len" = none) (zR : mg "range" = none) (zM : mg "min" = none) (M : Cd P w K mg base 1 "_law_mixed" ["_law_cell", "_law_at"] spMixed) : FnOk P w K mg base CX0 2 f fd ["_law_script"] (spDeck K) := by
  obtain ⟨fM, fdM, GM, mM, kM, bM⟩ := M
  refine F.ok scDeck (fun vs H Q E h => ?_) (fun cdv A outer s H vs Q E hr h => ?_)
  · obtain ⟨a, ns, rfl, _⟩ := h
    rfl
  · obtain ⟨a, ns, rfl, hS, hlen, k⟩ := h
    refine ⟨_, pss_cons (ps_set (i := 1) scDeck.nd rfl (Or.inl rfl) (pe_lst pa_nil)) (pss_cons (ps_set (i := 2) scDeck.nd rfl (Or.inl rfl) (pe_callB call_len (by rfl) zL PySem.boot_len (pa_cons (pv 0) pa_nil)))
      (pss_cons (ps_for PassesOwn.never rfl (pi_range1 rfl zR (pa_cons (pe_callB (call_min2 rfl) (by rfl) zM (by decide +kernel) (pa_cons (pe_callB call_len (by rfl) zL PySem.boot_len (pa_cons (pv 0) pa_nil)) (pa_cons pe_int pa_nil))) pa_nil)) (pg_name (i := 3) scDeck.nd rfl (Or.inr rfl))
        (pss_cons (ps_set (i := 4) scDeck.nd rfl (Or.inr rfl) (pe_ix ix_list (pv 0) (pv 3) (fun _ _ => rfl)))
        (pss_cons (ps_if (pt_cmpR op_ge (pv 4) (pe_op op_pow pe_int pe_int) (nomark _))
          (pss_one (ps_while PassesOwn.never (PW.pt (pw_and (pt_cmpR op_gt (pv 4) pe_int (nomark _)) (pw_and1 (pt_cmpR op_lt (pe_callB call_len (by rfl) zL PySem.boot_len (pa_cons (pv 1) pa_nil)) pe_int (nomark _)))))
            (pss_cons (ps_expr (pe_bm PySem.F.plainAttrs_list PySem.F.slot_list_append PySem.F.type_list_append mt_append (pv 1) (pa_cons (pe_op op_mod (pv 4) pe_int) pa_nil)))
            (pss_one (ps_set (i := 4) scDeck.nd rfl (Or.inr rfl) (pe_op op_fdiv (pv 4) pe_int))))))
          (pss_one (ps_expr (pe_bm PySem.F.plainAttrs_list PySem.F.slot_list_extend PySem.F.type_list_extend mt_extend (pv 1) (pa_cons
            (pe_lc (own := [("_law_at", 5)]) (g := gName 5) (tt := tYes) rfl scDeck.nd (pi_range1 rfl zR (pa_cons pe_int pa_nil)) (blkOk_by (N := ["_law_script", "_law_found", "_law_whole", "_law_k", "_law_rest", "_law_at"]) (sc := defScope sDeck) (by decide +kernel))
              (fun _ _ _ _ _ => pg_name (i := 5) scDeck.nd rfl (Or.inl rfl)) (fun _ _ _ _ _ => pts_nil)
              (fun _ _ _ _ _ => pe_call GM hr rfl mM kM bM .nil pass0 (pa_cons (pv 4) (pa_cons (pe_op op_add (pe_op op_mul pe_int (pv 3)) (pv 5)) pa_nil)))) pa_nil)))))
        (pss_one (ps_set (i := 2) scDeck.nd rfl (Or.inl rfl) (pe_op op_mod (pe_op op_add (pe_op op_mul (pv 2) pe_int) (pe_ix ix_list (pv 0) (pv 3) (fun _ _ => rfl))) pe_int))))))
      (pss_one (ps_ret (pe_lst (pa_cons pe_int (pa_cons (pv 2) (pa_cons (pv 1) pa_nil)))))))), ?_⟩
    refine ⟨Nat.zero_le _, fun l hl => ?_⟩
    have s0 : Same H (upd H l (.lst [])) := (L2.Same.refl H).new hl
    have hS0 := s0.seq hS
    refine ⟨_, rfl, _, _, rfl, .inl ⟨_, hS0, rfl⟩, ?_⟩
    refine ⟨_, rfl, _, _, rfl, .inl ⟨_, hS0, rfl⟩, _, _, rfl, _, rfl, ?_⟩
    have hn63 : (ns.map V.int).length ≤ 63 := by rw [List.length_map]; exact hlen
    refine ⟨by split <;> omega, by split <;> omega, ?_⟩
    refine for_range (fun i σ H' => ∃ (wh : Int) (v3 v4 v5 : Option V) (xs : List Int), σ = [some (.ref a), some (.ref l), some (.int wh), v3, v4, v5] ∧ Same H H' ∧ H' l = some (.lst (xs.map V.int)) ∧ xs.length ≤ 3000 + 6 * i)
      ⟨_, _, _, _, [], rfl, s0, upd_same, Nat.zero_le _⟩ ?_ ?_
    · rintro i σ H1 hi ⟨wh, v3, v4, v5, xs, rfl, s1, hl1, hxs⟩
      have hi2 : i < ns.length ∧ i < 63 := by
        rw [List.length_map] at hi
        split at hi <;> omega
      have hat : atI (ns.map V.int) (0 + (i : Int)) = some (V.int ns[i]) := by
        rw [Int.zero_add]
        exact atI_nat (by simp [hi2.1])
      have hS1 := s1.seq hS
      -- what is left of a turn
      have fin : ∀ (H2 : Hp) (v4 v5 : Option V) (ys : List Int), Same H H2 → H2 l = some (.lst (ys.map V.int)) → ys.length ≤ 3000 + 6 * (i + 1) → ∃ (wh' : Int) (v3 v4' v5' : Option V) (xs : List Int),
          [some (V.ref a), some (.ref l), some (.int ((wh * 31 + ns[i]) % 2147483647)), some (.int (0 + (i : Int))), v4, v5] = [some (.ref a), some (.ref l), some (.int wh'), v3, v4', v5'] ∧ Same H H2 ∧ H2 l = some (.lst (xs.map V.int)) ∧ xs.length ≤ 3000 + 6 * (i + 1) :=
        fun H2 v4 v5 ys a b c => ⟨_, _, _, _, ys, rfl, a, b, c⟩
      refine ⟨_, rfl, _, rfl, a, _, _, _, rfl, rfl, hS1, hat, ?_⟩
      refine ⟨_, rfl, _, _, rfl, rfl, ⟨by decide, by decide, by decide⟩, _, _, rfl, rfl, _, rfl, ?_⟩
      refine ite2 (fun _ => ?_) (fun _ => ?_)
      · refine while_m (fun σ H' => ∃ (r : Int) (xs : List Int), σ = [some (.ref a), some (.ref l), some (.int wh), some (.int (0 + (i : Int))), some (.int r), v5] ∧ Same H H' ∧ H' l = some (.lst (xs.map V.int)) ∧ xs.length ≤ 3000 + 6 * (i + 1)) restOf
          ⟨_, xs, rfl, s1, hl1, by omega⟩ ?_
        rintro m σ H2 hm ⟨r, ys, rfl, s2, hl2, hys⟩
        have hm' : m = r.toNat := hm
        refine ⟨_, rfl, _, _, rfl, rfl, _, rfl, ?_⟩
        refine ite2 (fun hr0 => ?_) (fun _ => ?_)
        · have hr0 := of_decide_eq_true hr0
          refine ⟨_, rfl, _, _, rfl, .inl ⟨_, SqL.of hl2, rfl⟩, _, _, rfl, rfl, _, rfl, ?_⟩
          refine ite2 (fun hb => ?_) (fun _ => ?_)
          · have hb := of_decide_eq_true hb
            rw [List.length_map] at hb
            refine ⟨fun σ' H' => (∃ (r : Int) (xs : List Int), σ' = [some (.ref a), some (.ref l), some (.int wh), some (.int (0 + (i : Int))), some (.int r), v5] ∧ Same H H' ∧ H' l = some (.lst (xs.map V.int)) ∧ xs.length ≤ 3000 + 6 * (i + 1)) ∧ restOf σ' H' < m, fun σ' H' q => ⟨_, q.2, rfl, q.1⟩, ?_⟩
            refine ⟨_, rfl, .inl ⟨rfl, _, SqL.of hl2⟩, _, rfl, _, _, rfl, rfl, (by show (0 : Int) < 1000000; decide), l, _, _, rfl, rfl, hl2, (by rw [List.length_map]; exact Nat.lt_of_le_of_lt (show ys.length ≤ 3000 by omega) (by decide)), ?_⟩
            refine ⟨_, rfl, _, _, rfl, rfl, ⟨by decide, by decide⟩, ?_⟩
            refine ⟨⟨_, ys ++ [r % 1000000], rfl, s2.wrn hl, ?_, ?_⟩, ?_⟩
            · rw [upd_same, List.map_append]
              rfl
            · rw [List.length_append, List.length_singleton]
              omega
            · show (r / 1000000).toNat < m
              omega
          · exact ⟨_, rfl, _, _, rfl, rfl, .inr ⟨by decide, by decide⟩, _, rfl, _, rfl, a, _, _, _, rfl, rfl, s2.seq hS, hat, _, _, rfl, rfl, _, _, rfl, rfl, (by show (0 : Int) < 2147483647; decide), fin H2 _ _ ys s2 hl2 hys⟩
        · exact ⟨_, rfl, _, _, rfl, rfl, .inr ⟨by decide, by decide⟩, _, rfl, _, rfl, a, _, _, _, rfl, rfl, s2.seq hS, hat, _, _, rfl, rfl, _, _, rfl, rfl, (by show (0 : Int) < 2147483647; decide), fin H2 _ _ ys s2 hl2 hys⟩
      · refine ⟨_, rfl, .inl ⟨rfl, _, SqL.of hl1⟩, 6, rfl, by decide, by decide, fun D hD => ?_⟩
        have nDl : l ≠ D := ne_of_none hl1 hD
        refine lc_range (lo := 0) (n := 6) (fun j H' => ∃ ys : List Int, H' D = some (.lst (ys.map V.int)) ∧ ys.length = j ∧ Same H1 H' ) ⟨[], upd_same, rfl, (L2.Same.refl H1).new hD⟩ ?_ ?_
        · rintro j H2 hj ⟨ys, hD2, hys, s2⟩
          refine ⟨rfl, _, rfl, _, rfl, _, _, rfl, rfl, .inl ⟨by decide, by decide⟩, _, rfl, _, _, rfl, rfl, _, _, rfl, by omega, by omega, fun r => ?_⟩
          refine ⟨_, hD2, by rw [List.length_map, hys]; exact Nat.lt_trans hj (by decide), ys ++ [r], ?_, by rw [List.length_append, hys]; rfl, s2.wrn hD⟩
          rw [upd_same, List.map_append]
          rfl
        · rintro H2 ⟨ys, hD2, hys, s2⟩
          refine ⟨l, D, _, _, rfl, rfl, s2 _ _ hl1, hD2, ?_, ?_⟩
          · rw [List.length_map, List.length_map, hys]
            exact Nat.le_trans (show xs.length + 6 ≤ 6000 by omega) (by decide)
          · refine ⟨_, rfl, _, _, rfl, rfl, .inr ⟨by decide, by decide⟩, _, rfl, _, rfl, a, _, _, _, rfl, rfl, ((s1.trans s2).wrn hl).seq hS, hat, _, _, rfl, rfl, _, _, rfl, rfl, (by show (0 : Int) < 2147483647; decide), fin _ _ _ (xs ++ ys) ((s1.trans s2).wrn hl) ?_ ?_⟩
            · rw [upd_same, List.map_append]
            · rw [List.length_append, hys]
              omega
    · rintro σ H1 ⟨wh, v3, v4, v5, xs, rfl, s1, hl1, hxs⟩
      refine ⟨_, rfl, _, rfl, (by show 3 ≤ sizeLine; decide), fun d hd => ?_⟩
      have hn : ns.length ≤ 63 := hlen
      have hxs' : xs.length ≤ 100000 := by
        rw [List.length_map] at hxs
        split at hxs <;> omega
      refine k _ d l (s1.free hd) hl (s1.new hd) ⟨0, wh, xs, upd_same, ?_, Int.le_refl _, Int.le_refl _, hxs'⟩
      rw [upd_ne (ne_of_none hl1 hd)]
      exact hl1
end
end Wn
namespace Wn
open PySem L2
section
variable {P : Program} {w : World} {K : PySem.W.Frag} {mg : Str → Option Value} {base : Heap}
theorem scSame : FnScope ["_law_thing", "_law_due", "_law_k"] ["_law_thing", "_law_due"] (defScope sSame) := ⟨rfl, rfl, rfl, by decide +kernel, rfl, by decide +kernel, by decide +kernel⟩
/-- builtins that same asks -/
structure SameB (mg : Str → Option Value) : Prop where
  isi : mg "isinstance" = none
  tup : mg "tuple" = none
  bl : mg "bool" = none
  str : mg "str" = none
  int : mg "int" = none
  all : mg "all" = none
  len : mg "len" = none
  rng : mg "range" = none
theorem ok_same_step {n : Nat} {f : Addr} {fd : FuncData} (F : Fun K "_law_same" "_law_same" sSame f fd) (B : SameB mg) (mS : mg "_law_same" = some (.ref f)) (kS : PySem.W.keepIn K (.ref f) = true) (bS : Binds K fd ["_law_thing", "_law_due"] [])
    (G : FnOk P w K mg base CX0 n f fd ["_law_thing", "_law_due"] (spSame K n)) : FnOk P w K mg base CX0 (n + 1) f fd ["_law_thing", "_law_due"] (spSame K (n + 1)) := by
  refine F.ok scSame (fun vs H Q E h => ?_) (fun cdv A outer s H vs Q E hr h => ?_)
  · obtain ⟨x, y, d, rfl, _⟩ := h
    rfl
  · obtain ⟨x, y, d, rfl, hx, hy, hd, hz, k⟩ := h
    refine ⟨_, pss_cons (ps_if (pt_val (pe_callB call_isi (by rfl) B.isi (by decide +kernel) (pa_cons (pv 1) (pa_cons (pe_bltn (v := .ty "tuple") (by rfl) B.tup PyProof.Rows.boot_tuple rfl) pa_nil))))
        (pss_cons (ps_if (PW.pt (pw_or (pt_not (pt_val (pe_callB call_isi (by rfl) B.isi (by decide +kernel) (pa_cons (pv 0) (pa_cons (pe_bltn (v := .ty "tuple") (by rfl) B.tup PyProof.Rows.boot_tuple rfl) pa_nil)))))
            (pw_or1 (pt_cmpR op_ne (pe_callB call_len (by rfl) B.len PySem.boot_len (pa_cons (pv 0) pa_nil)) (pe_callB call_len (by rfl) B.len PySem.boot_len (pa_cons (pv 1) pa_nil)) (nomark _)))))
          (pss_one (ps_ret pe_bl)) pss_nil)
        (pss_one (ps_ret (pe_callB (cr_all rfl) (by rfl) B.all (by decide +kernel) (pa_cons
          (pe_lc (own := [("_law_k", 2)]) (g := gName 2) (tt := tYes) rfl scSame.nd (pi_range1 rfl B.rng (pa_cons (pe_callB call_len (by rfl) B.len PySem.boot_len (pa_cons (pv 1) pa_nil)) pa_nil)) (blkOk_by (N := ["_law_thing", "_law_due", "_law_k"]) (sc := defScope sSame) (by decide +kernel))
              (fun _ _ _ _ _ => pg_name (i := 2) scSame.nd rfl (Or.inl rfl)) (fun _ _ _ _ _ => pts_nil)
              (fun _ _ _ _ _ => pe_call G hr rfl mS kS bS .nil pass0 (pa_cons (pe_ix (show IxR _ (rIxT K) from ix_tup) (pv 0) (pv 2) (fun _ _ => rfl)) (pa_cons (pe_ix (show IxR _ (rIxT K) from ix_tup) (pv 1) (pv 2) (fun _ _ => rfl)) pa_nil)))) pa_nil))))) pss_nil)
      (pss_cons (ps_if (PW.pt (pw_or (pt_val (pe_callB call_isi (by rfl) B.isi (by decide +kernel) (pa_cons (pv 1) (pa_cons (pe_bltn (v := .ty "bool") (by rfl) B.bl PyProof.Rows.boot_bool rfl) pa_nil)))) (pw_or1 (pt_cmp (pc_isN (pv 1))))))
        (pss_one (ps_ret (pe_and (pe_cmpR op_eq (pe_callB call_isi (by rfl) B.isi (by decide +kernel) (pa_cons (pv 0) (pa_cons (pe_bltn (v := .ty "bool") (by rfl) B.bl PyProof.Rows.boot_bool rfl) pa_nil))) (pe_callB call_isi (by rfl) B.isi (by decide +kernel) (pa_cons (pv 1) (pa_cons (pe_bltn (v := .ty "bool") (by rfl) B.bl PyProof.Rows.boot_bool rfl) pa_nil))) (nomark _))
          (pe_and (pe_cmpR op_eq (pe_cmp (pc_isN (pv 0)) rfl) (pe_cmp (pc_isN (pv 1)) rfl) (nomark _)) (pe_one (pe_cmpR op_eq (pv 0) (pv 1) (nomark _))))))) pss_nil)
      (pss_cons (ps_if (pt_val (pe_callB call_isi (by rfl) B.isi (by decide +kernel) (pa_cons (pv 1) (pa_cons (pe_bltn (v := .ty "str") (by rfl) B.str PyProof.Rows.boot_str rfl) pa_nil))))
        (pss_one (ps_ret (pe_and (pe_callB call_isi (by rfl) B.isi (by decide +kernel) (pa_cons (pv 0) (pa_cons (pe_bltn (v := .ty "str") (by rfl) B.str PyProof.Rows.boot_str rfl) pa_nil))) (pe_one (pe_cmpR op_eq (pv 0) (pv 1) (nomark _)))))) pss_nil)
      (pss_one (ps_ret (pe_and (pe_callB call_isi (by rfl) B.isi (by decide +kernel) (pa_cons (pv 0) (pa_cons (pe_bltn (v := .ty "int") (by rfl) B.int PyProof.Rows.boot_int rfl) pa_nil)))
        (pe_and (pe_not (pe_callB call_isi (by rfl) B.isi (by decide +kernel) (pa_cons (pv 0) (pa_cons (pe_bltn (v := .ty "bool") (by rfl) B.bl PyProof.Rows.boot_bool rfl) pa_nil)))) (pe_one (pe_cmpR op_eq (pv 0) (pv 1) (nomark _))))))))), ?_⟩
    cases d with
    | none =>
      cases hx
      cases hy
      refine ⟨_, rfl, _, _, _, _, false, rfl, .ty _, .base .non, kit_ty (by decide +kernel), _, rfl, iteF ?_⟩
      refine ⟨_, rfl, _, _, _, _, false, rfl, .ty _, .base .non, kit_ty (by decide +kernel), _, rfl, iteF ?_⟩
      refine ⟨_, rfl, _, rfl, iteT ?_⟩
      refine ⟨_, rfl, _, _, _, _, false, rfl, .ty _, .base .non, kit_ty (by decide +kernel), _, rfl, _, _, _, _, false, rfl, .ty _, .base .non, kit_ty (by decide +kernel), rfl, _, rfl, iteT ?_⟩
      refine ⟨_, rfl, _, rfl, rfl, _, rfl, iteT ?_⟩
      exact ⟨_, rfl, _, rfl, rfl, k _ (L2.Same.refl _)⟩
    | bool b =>
      cases hx
      cases hy
      refine ⟨_, rfl, _, _, _, _, false, rfl, .ty _, .base (.bl _), kit_ty (by decide +kernel), _, rfl, iteF ?_⟩
      refine ⟨_, rfl, _, _, _, _, true, rfl, .ty _, .base (.bl _), kit_ty (by decide +kernel), _, rfl, iteT ?_⟩
      refine ⟨_, rfl, _, _, _, _, true, rfl, .ty _, .base (.bl _), kit_ty (by decide +kernel), _, rfl, _, _, _, _, true, rfl, .ty _, .base (.bl _), kit_ty (by decide +kernel), rfl, _, rfl, iteT ?_⟩
      refine ⟨_, rfl, _, rfl, rfl, _, rfl, iteT ?_⟩
      refine ⟨_, rfl, _, rfl, rfl, ?_⟩
      show Q (.bl (decide (V.bl b = V.bl b))) H
      rw [decide_eq_true rfl]
      exact k _ (L2.Same.refl _)
    | int i =>
      cases hx
      cases hy
      refine ⟨_, rfl, _, _, _, _, false, rfl, .ty _, .base (.int _), kit_ty (by decide +kernel), _, rfl, iteF ?_⟩
      refine ⟨_, rfl, _, _, _, _, false, rfl, .ty _, .base (.int _), kit_ty (by decide +kernel), _, rfl, iteF ?_⟩
      refine ⟨_, rfl, _, rfl, iteF ?_⟩
      refine ⟨_, rfl, _, _, _, _, false, rfl, .ty _, .base (.int _), kit_ty (by decide +kernel), _, rfl, iteF ?_⟩
      refine ⟨_, rfl, _, _, _, _, true, rfl, .ty _, .base (.int _), kit_ty (by decide +kernel), _, rfl, iteT ?_⟩
      refine ⟨_, rfl, _, _, _, _, false, rfl, .ty _, .base (.int _), kit_ty (by decide +kernel), _, rfl, _, rfl, iteT ?_⟩
      refine ⟨_, rfl, _, rfl, rfl, ?_⟩
      show Q (.bl (decide (V.int i = V.int i))) H
      rw [decide_eq_true rfl]
      exact k _ (L2.Same.refl _)
    | str z =>
      cases hx
      cases hy
      refine ⟨_, rfl, _, _, _, _, false, rfl, .ty _, .base (.str _), kit_ty (by decide +kernel), _, rfl, iteF ?_⟩
      refine ⟨_, rfl, _, _, _, _, false, rfl, .ty _, .base (.str _), kit_ty (by decide +kernel), _, rfl, iteF ?_⟩
      refine ⟨_, rfl, _, rfl, iteF ?_⟩
      refine ⟨_, rfl, _, _, _, _, true, rfl, .ty _, .base (.str _), kit_ty (by decide +kernel), _, rfl, iteT ?_⟩
      refine ⟨_, rfl, _, _, _, _, true, rfl, .ty _, .base (.str _), kit_ty (by decide +kernel), _, rfl, iteT ?_⟩
      refine ⟨_, rfl, _, rfl, rfl, ?_⟩
      show Q (.bl (decide (V.str z = V.str z))) H
      rw [decide_eq_true rfl]
      exact k _ (L2.Same.refl _)
    | tuple ds =>
      unfold Rp at hx hy
      obtain ⟨a, xs, rfl, sa, la⟩ := hx
      obtain ⟨b, ys, rfl, sb, lb⟩ := hy
      have lx := RpL.len _ _ la
      have ly := RpL.len _ _ lb
      have hl : ds.length ≤ 1000000 := by
        have := szs_len ds
        unfold sz at hz
        omega
      have hlc : ((ds.length : Nat) : Int) ≤ 1000000 := by omega
      refine ⟨_, rfl, _, _, _, _, true, rfl, .ty _, ty_tup sb, kit_ty (by decide +kernel), _, rfl, iteT ?_⟩
      refine ⟨_, rfl, _, _, _, _, true, rfl, .ty _, ty_tup sa, kit_ty (by decide +kernel), _, rfl, iteF ?_⟩
      refine ⟨_, rfl, _, ds.length, rfl, .inr ⟨_, sa, lx.symm⟩, _, rfl, _, ds.length, rfl, .inr ⟨_, sb, ly.symm⟩, rfl, _, rfl, ?_⟩
      refine iteNS rfl ?_
      refine ⟨_, rfl, _, ds.length, rfl, .inr ⟨_, sb, ly.symm⟩, ds.length, rfl, by omega, by omega, fun D hD => ?_⟩
      refine lc_range (lo := 0) (n := _) (fun i H' => H' D = some (.lst ((List.replicate i true).map V.bl)) ∧ Same H H') ⟨upd_same, (L2.Same.refl H).new hD⟩ ?_ ?_
      · rintro i H2 hi ⟨hD2, s2⟩
        have hi : i < ds.length := by simpa using hi
        have e1 : ds[i]? = some ds[i] := by simp [hi]
        obtain ⟨u, eu, ru⟩ := RpL.get _ _ la i _ e1
        obtain ⟨v, ev, rv⟩ := RpL.get _ _ lb i _ e1
        have t2 := TK.of s2
        refine ⟨rfl, _, rfl, _, rfl, a, xs, _, u, rfl, rfl, SqT.tk sa t2, ?_, _, rfl, _, rfl, b, ys, _, v, rfl, rfl, SqT.tk sb t2, ?_, ?_⟩
        · rw [Int.zero_add]
          exact atI_nat eu
        · rw [Int.zero_add]
          exact atI_nat ev
        · refine ⟨u, v, ds[i], rfl, Rp.tk t2 _ _ ru, Rp.tk t2 _ _ rv, ?_, ?_, fun H3 s3 => ?_⟩
          · have := dep_get ds i _ e1
            unfold dep at hd
            omega
          · have := sz_get ds i _ e1
            unfold sz at hz
            omega
          · refine ⟨_, s3 _ _ hD2, ?_, ?_, ?_⟩
            · rw [List.length_map, List.length_replicate]
              exact Nat.lt_of_lt_of_le (Nat.lt_of_lt_of_le hi hl) (by decide)
            · rw [upd_same, List.replicate_succ', List.map_append]
              rfl
            · exact (s2.trans s3).wrn hD
      · rintro H2 ⟨hD2, s2⟩
        refine ⟨D, _, rfl, SqL.of hD2, ?_⟩
        have e : (List.replicate ((ds.length : Nat) : Int).toNat true).all id = true := by simp
        rw [e]
        exact k _ s2
    | list _ => cases hx
    | dict _ => cases hx
theorem ok_same {f : Addr} {fd : FuncData} (F : Fun K "_law_same" "_law_same" sSame f fd) (B : SameB mg) (mS : mg "_law_same" = some (.ref f)) (kS : PySem.W.keepIn K (.ref f) = true) (bS : Binds K fd ["_law_thing", "_law_due"] []) :
    ∀ n, FnOk P w K mg base CX0 n f fd ["_law_thing", "_law_due"] (spSame K n)
  | 0 => ⟨fun vs H Q E ⟨x, y, d, _, _, _, h, _⟩ => absurd h (Nat.not_lt_zero _), fun A outer s H args us vs Q E hr he hb hv ⟨x, y, d, _, _, _, h, _⟩ => absurd h (Nat.not_lt_zero _)⟩
  | n + 1 => ok_same_step F B mS kS bS (ok_same F B mS kS bS n)
end
end Wn

namespace Wn
open PySem L2
abbrev sInit : Stmt := inClass (top 2) 0
abbrev sLearn : Stmt := inClass (top 2) 1
abbrev sLook : Stmt := inClass (top 2) 2
abbrev sDrop : Stmt := inClass (top 2) 3
abbrev sRows : Stmt := inClass (top 2) 4
abbrev sCopy : Stmt := inClass (top 2) 5
abbrev Rw := Int × Int × Int
def rwL (x : Rw) : List PyData := [.int x.1, .int x.2.1, .int x.2.2]
def rwD (x : Rw) : PyData := .tuple (rwL x)
abbrev TabAt (K : PySem.W.Frag) (C : Addr) (H : Hp) (p q : Addr) (m : List (Int × Rw)) : Prop := HoldAt rwD K C H p q m
theorem rwD_inv {K : PySem.W.Frag} {H : Hp} {x : Rw} {u : V} (r : Rp K H (rwD x) u) : ∃ a, u = .ref a ∧ SqT K H a [.int x.1, .int x.2.1, .int x.2.2] := by
  unfold rwD rwL Rp at r
  obtain ⟨a, xs, rfl, ha, hl⟩ := r
  unfold RpL at hl
  obtain ⟨v0, r0, rfl, h0, hl⟩ := hl
  unfold RpL at hl
  obtain ⟨v1, r1, rfl, h1, hl⟩ := hl
  unfold RpL at hl
  obtain ⟨v2, r2, rfl, h2, hl⟩ := hl
  unfold RpL at hl
  subst hl
  unfold Rp at h0 h1 h2
  subst h0 h1 h2
  exact ⟨a, rfl, ha⟩
def learnA (m : List (Int × Rw)) (h : Int) (x : Rw) : List (Int × Rw) := match lookA m h with
  | none => putA m h x
  | some y => if y.2.1 ≤ x.2.1 then putA m h x else m
theorem learnA_len (m : List (Int × Rw)) (h : Int) (x : Rw) : (learnA m h x).length ≤ m.length + 1 := by
  unfold learnA
  split
  · exact putA_len _ _ _
  · split
    · exact putA_len _ _ _
    · omega
def lookT (m : List (Int × Rw)) (h b : Int) : Option Int := match lookA m h with
  | none => none
  | some y => if b - y.2.2 ≤ 10 then some y.1 else none
def optD : Option Int → PyData
  | none => .none
  | some i => .int i
def spInit (K : PySem.W.Frag) (C : Addr) : Sp := fun vs H Q _ => ∃ (p dx : Addr), vs = [.ref p] ∧ H p = some (.ins C dx []) ∧
  ∀ (H' : Hp) (q : Addr), H q = none → Kp [p] H H' → TabAt K C H' p q [] → Q .non H'
def spLearn (K : PySem.W.Frag) (C : Addr) : Sp := fun vs H Q _ => ∃ (p q : Addr) (h pl n b : Int) (m : List (Int × Rw)), vs = [.ref p, .int h, .int pl, .int n, .int b] ∧ TabAt K C H p q m ∧ m.length ≤ 1000 ∧
  ∀ H' : Hp, Kp [q] H H' → TabAt K C H' p q (learnA m h (pl, n, b)) → Q .non H'
def spLook (K : PySem.W.Frag) (C : Addr) : Sp := fun vs H Q _ => ∃ (p q : Addr) (h b : Int) (m : List (Int × Rw)), vs = [.ref p, .int h, .int b] ∧ TabAt K C H p q m ∧
  ∀ v : V, Rp K H (optD (lookT m h b)) v → Q v H
def spDrop (K : PySem.W.Frag) (C : Addr) : Sp := fun vs H Q _ => ∃ (p q : Addr) (h : Int) (m : List (Int × Rw)), vs = [.ref p, .int h] ∧ TabAt K C H p q m ∧
  ∀ H' : Hp, Kp [q] H H' → TabAt K C H' p q (dropA m h) → Q .non H'
def spRows (K : PySem.W.Frag) (C : Addr) : Sp := fun vs H Q _ => ∃ (p q : Addr) (m : List (Int × Rw)), vs = [.ref p] ∧ TabAt K C H p q m ∧ m.length ≤ 1000 ∧
  ∀ (H' : Hp) (v : V), Same H H' → Rp K H' (rowsD rwL m) v → Q v H'
def spCopy (K : PySem.W.Frag) (C : Addr) : Sp := fun vs H Q _ => ∃ (p q : Addr) (m : List (Int × Rw)), vs = [.ref p] ∧ TabAt K C H p q m ∧
  ∀ (H' : Hp) (p' q' : Addr), H p' = none → H q' = none → Same H H' → TabAt K C H' p' q' m → Q (.ref p') H'
structure TN (K : PySem.W.Frag) (mg : Str → Option Value) (C : Addr) : Prop where
  cl : Cls K C
  nB : NoAttr K C "by_hand"
  mgC : mg "Table" = some (.ref C)
  mgA : ∃ t, mg "AGE" = some (.int 10 t)
  tuple : mg "tuple" = none
  list : mg "list" = none
  dict : mg "dict" = none
  sorted : mg "sorted" = none

section
variable {P : Program} {w : World} {K : PySem.W.Frag} {mg : Str → Option Value} {base : Heap}
theorem scInit : FnScope ["self"] ["self"] (defScope sInit) := ⟨rfl, rfl, rfl, by decide +kernel, rfl, by decide +kernel, by decide +kernel⟩
theorem ok_init {f C : Addr} {fd : FuncData} (F : Fun K "__init__" "Table.__init__" sInit f fd) (T : TN K mg C) : FnOk P w K mg base CX0 1 f fd ["self"] (spInit K C) := by
  refine F.ok scInit (fun vs H Q E h => ?_) (fun cdv A outer s H vs Q E hr h => ?_)
  · obtain ⟨p, dx, rfl, _⟩ := h
    rfl
  · obtain ⟨p, dx, rfl, hp, k⟩ := h
    refine ⟨_, (pss_one (ps_fld (pv 0) pe_dnewK rfl)), ?_⟩
    intro q hq
    have npq : p ≠ q := ne_of_none hp hq
    refine ⟨_, rfl, p, C, dx, [], rfl, (by rw [upd_ne npq]; exact hp), T.cl, T.nB, (by show 0 < 1000; decide), ?_⟩
    exact k _ q hq (((Kp.refl _ _).new hq).wr (List.mem_singleton.mpr rfl)) ⟨⟨dx, upd_same⟩, [], by rw [upd_ne npq.symm, upd_same], rfl⟩
theorem scLearn : FnScope ["self", "hand", "place", "number", "beat"] ["self", "hand", "place", "number", "beat"] (defScope sLearn) := ⟨rfl, rfl, rfl, by decide +kernel, rfl, by decide +kernel, by decide +kernel⟩
theorem ok_learn {f C : Addr} {fd : FuncData} (F : Fun K "learn" "Table.learn" sLearn f fd) (T : TN K mg C) : FnOk P w K mg base CX0 1 f fd ["self", "hand", "place", "number", "beat"] (spLearn K C) := by
  refine F.ok scLearn (fun vs H Q E h => ?_) (fun cdv A outer s H vs Q E hr h => ?_)
  · obtain ⟨p, q, h, pl, n, b, m, rfl, _⟩ := h
    rfl
  · obtain ⟨p, q, h, pl, n, b, m, rfl, ⟨⟨dx, hp⟩, kvs, hq, hm⟩, hl, k⟩ := h
    have hu := hu_of hr
    refine ⟨_, (pss_one (ps_if (PW.pt (pw_or (pt_cmp (pc_dnotin hu (pv 1) (fldK (K := K) rfl (pv 0) rfl))) (pw_or1 (pt_cmpR op_le (pe_ix (ixT (K := K) rfl) (pe_dget hu (fldK (K := K) rfl (pv 0) rfl) (pv 1) (fun _ _ => rfl)) pe_int (fun _ _ => rfl)) (pv 3) (nomark _)))))
       (pss_one (ps_dput hu (fldK (K := K) rfl (pv 0) rfl) (pv 1) (pe_tup (pa_cons (pv 2) (pa_cons (pv 3) (pa_cons (pv 4) pa_nil)))) rfl))
       pss_nil)), ?_⟩
    have hne : p ≠ q := ne_of hp hq (by intro z; cases z)
    have put : ∀ (Q' : Hp → Prop), (∀ H', Kp [q] H H' → TabAt K C H' p q (putA m h (pl, n, b)) → Q' H') → ∀ t, H t = none → Q' (upd (upd H t (.tup [.int pl, .int n, .int b])) q (.dK (putK kvs (Sum.inl h) (.ref t)))) := fun Q' hQ t ht => by
      have s1 : Same H (upd H t (.tup [.int pl, .int n, .int b])) := (L2.Same.refl H).new ht
      have t1 := TK.of s1
      have t2 : TK (upd H t (.tup [.int pl, .int n, .int b])) (upd (upd H t (.tup [.int pl, .int n, .int b])) q (.dK (putK kvs (Sum.inl h) (.ref t)))) := (TK.refl _).wr (s1 _ _ hq) rfl
      have htt : Rp K (upd H t (.tup [.int pl, .int n, .int b])) (rwD (pl, n, b)) (.ref t) := Rp.tup upd_same (RpL.cons Rp.int (RpL.cons Rp.int (RpL.cons Rp.int RpL.nil)))
      exact hQ _ ((Kp.of s1).wr (List.mem_singleton.mpr rfl)) ⟨⟨dx, by rw [upd_ne hne]; exact s1 _ _ hp⟩, _, upd_same, ((hm.tk t1).put htt).tk t2⟩
    have sz : kvs.length < sizeLine := by rw [hm.len]; exact Nat.lt_of_le_of_lt hl (by decide)
    have g := DGet.k (k := Sum.inl h) hq
    refine ⟨_, rfl, _, rfl, p, C, dx, _, _, rfl, hp, T.cl, T.nB, fld1, q, _, rfl, g, _, rfl, ?_⟩
    rcases hm.val (k := h) with ⟨e1, e2⟩ | ⟨x, v, e1, e2, r⟩
    · rw [e2]
      refine iteT (iteT ?_)
      refine ⟨_, rfl, _, rfl, _, rfl, (by show 3 ≤ sizeLine; decide), fun t ht => ?_⟩
      have s1 : Same H (upd H t (.tup [.int pl, .int n, .int b])) := (L2.Same.refl H).new ht
      refine ⟨_, rfl, p, C, dx, _, _, rfl, s1 _ _ hp, T.cl, T.nB, fld1, _, rfl, q, _, rfl, DPut.k (k := Sum.inl h) (s1 _ _ hq) sz, ?_⟩
      unfold learnA at k
      rw [e1] at k
      exact put _ k t ht
    · rw [e2]
      rw [e2] at g
      obtain ⟨a, rfl, ha⟩ := rwD_inv r
      unfold learnA at k
      rw [e1] at k
      refine iteF ?_
      refine ⟨_, rfl, p, C, dx, _, _, rfl, hp, T.cl, T.nB, fld1, _, rfl, q, _, rfl, g, a, _, _, _, rfl, rfl, ha, rfl, _, rfl, _, _, rfl, rfl, _, rfl, ?_⟩
      refine ite2 (fun hc => ?_) (fun hc => ?_)
      · have hc := of_decide_eq_true hc
        simp only [if_pos hc] at k
        refine ⟨_, rfl, _, rfl, _, rfl, (by show 3 ≤ sizeLine; decide), fun t ht => ?_⟩
        have s1 : Same H (upd H t (.tup [.int pl, .int n, .int b])) := (L2.Same.refl H).new ht
        refine ⟨_, rfl, p, C, dx, _, _, rfl, s1 _ _ hp, T.cl, T.nB, fld1, _, rfl, q, _, rfl, DPut.k (k := Sum.inl h) (s1 _ _ hq) sz, ?_⟩
        exact put _ k t ht
      · have hc : ¬ x.2.1 ≤ n := fun z => hc (decide_eq_true z)
        simp only [if_neg hc] at k
        exact k _ (Kp.refl _ _) ⟨⟨dx, hp⟩, kvs, hq, hm⟩
theorem scLook : FnScope ["self", "hand", "beat"] ["self", "hand", "beat"] (defScope sLook) := ⟨rfl, rfl, rfl, by decide +kernel, rfl, by decide +kernel, by decide +kernel⟩
theorem ok_look {f C : Addr} {fd : FuncData} (F : Fun K "look" "Table.look" sLook f fd) (T : TN K mg C) : FnOk P w K mg base CX0 1 f fd ["self", "hand", "beat"] (spLook K C) := by
  obtain ⟨tA, mgA⟩ := T.mgA
  refine F.ok scLook (fun vs H Q E h => ?_) (fun cdv A outer s H vs Q E hr h => ?_)
  · obtain ⟨p, q, h, b, m, rfl, _⟩ := h
    rfl
  · obtain ⟨p, q, h, b, m, rfl, ⟨⟨dx, hp⟩, kvs, hq, hm⟩, k⟩ := h
    have hu := hu_of hr
    refine ⟨_, (pss_cons (ps_if (PW.pt (pw_and (pt_cmp (pc_din hu (pv 1) (fldK (K := K) rfl (pv 0) rfl))) (pw_and1 (pt_cmpR op_le (pe_op op_sub (pv 2) (pe_ix (ixT (K := K) rfl) (pe_dget hu (fldK (K := K) rfl (pv 0) rfl) (pv 1) (fun _ _ => rfl)) pe_int (fun _ _ => rfl))) (pe_glob (v := .int 10) rfl mgA ⟨_, rfl⟩) (nomark _)))))
       (pss_one (ps_ret (pe_ix (ixT (K := K) rfl) (pe_dget hu (fldK (K := K) rfl (pv 0) rfl) (pv 1) (fun _ _ => rfl)) pe_int (fun _ _ => rfl))))
       pss_nil)
       (pss_one (ps_ret pe_non))), ?_⟩
    have g := DGet.k (k := Sum.inl h) hq
    refine ⟨_, rfl, _, rfl, p, C, dx, _, _, rfl, hp, T.cl, T.nB, fld1, q, _, rfl, g, _, rfl, ?_⟩
    unfold lookT at k
    rcases hm.val (k := h) with ⟨e1, e2⟩ | ⟨x, v, e1, e2, r⟩
    · rw [e2]
      rw [e1] at k
      exact iteF (iteF (k _ Rp.none))
    · rw [e2]
      rw [e2] at g
      rw [e1] at k
      obtain ⟨a, rfl, ha⟩ := rwD_inv r
      refine iteT ?_
      refine ⟨_, rfl, _, rfl, p, C, dx, _, _, rfl, hp, T.cl, T.nB, fld1, _, rfl, q, _, rfl, g, a, _, _, _, rfl, rfl, ha, rfl, _, _, rfl, rfl, _, _, rfl, rfl, _, rfl, ?_⟩
      refine ite2 (fun hc => ?_) (fun hc => ?_)
      · have hc := of_decide_eq_true hc
        simp only [if_pos hc] at k
        exact ⟨_, rfl, p, C, dx, _, _, rfl, hp, T.cl, T.nB, fld1, _, rfl, q, _, rfl, g, a, _, _, _, rfl, rfl, ha, rfl, k _ Rp.int⟩
      · have hc : ¬ b - x.2.2 ≤ 10 := fun z => hc (decide_eq_true z)
        simp only [if_neg hc] at k
        exact k _ Rp.none
theorem scDrop : FnScope ["self", "hand"] ["self", "hand"] (defScope sDrop) := ⟨rfl, rfl, rfl, by decide +kernel, rfl, by decide +kernel, by decide +kernel⟩
theorem ok_drop {f C : Addr} {fd : FuncData} (F : Fun K "drop" "Table.drop" sDrop f fd) (T : TN K mg C) : FnOk P w K mg base CX0 1 f fd ["self", "hand"] (spDrop K C) := by
  refine F.ok scDrop (fun vs H Q E h => ?_) (fun cdv A outer s H vs Q E hr h => ?_)
  · obtain ⟨p, q, h, m, rfl, _⟩ := h
    rfl
  · obtain ⟨p, q, h, m, rfl, ⟨⟨dx, hp⟩, kvs, hq, hm⟩, k⟩ := h
    have hne : p ≠ q := ne_of hp hq (by intro z; cases z)
    refine ⟨_, (pss_one (ps_expr (pe_dpop2 (fldK (K := K) rfl (pv 0) rfl) (pv 1) pe_non ⟨rfl, rfl, rfl, rfl⟩))), ?_⟩
    refine ⟨_, rfl, p, C, dx, _, _, rfl, hp, T.cl, T.nB, fld1, q, rfl, .inl ⟨kvs, .inl hq⟩, _, rfl, kvs, Sum.inl h, hq, rfl, fun v e => ?_, fun e => ?_⟩
    · exact k _ ((Kp.refl _ _).wr (List.mem_singleton.mpr rfl)) ⟨⟨dx, by rw [upd_ne hne]; exact hp⟩, _, upd_same, hm.drop.tk ((TK.refl _).wr hq rfl)⟩
    · have h1 := hm.drop (k := h)
      rw [dropK_no (valV_not e)] at h1
      exact k _ (Kp.refl _ _) ⟨⟨dx, hp⟩, _, hq, h1⟩
theorem scRows : FnScope ["self", "hand"] ["self"] (defScope sRows) := ⟨rfl, rfl, rfl, by decide +kernel, rfl, by decide +kernel, by decide +kernel⟩
theorem ok_rows {f C : Addr} {fd : FuncData} (F : Fun K "rows" "Table.rows" sRows f fd) (T : TN K mg C) : FnOk P w K mg base CX0 1 f fd ["self"] (spRows K C) := by
  refine F.ok scRows (fun vs H Q E h => ?_) (fun cdv A outer s H vs Q E hr h => ?_)
  · obtain ⟨p, q, m, rfl, _⟩ := h
    rfl
  · obtain ⟨p, q, m, rfl, ⟨⟨dx, hp⟩, kvs, hq, hm⟩, hlen, k⟩ := h
    have hu := hu_of hr
    refine ⟨_, (pss_one (ps_ret (pe_callTy (tupOfK (K := K) rfl) (by rfl) T.tuple PyProof.Rows.boot_tuple (pa_cons (pe_lc (own := [("hand", 1)]) (g := (gName 1)) (tt := tYes) rfl scRows.nd (pi_list (pe_callB (sortIK (K := K) rfl) (by rfl) T.sorted (by decide +kernel) (pa_cons (pe_callTy (call_listD rfl) (by rfl) T.list (by decide +kernel) (pa_cons (fldK (K := K) rfl (pv 0) rfl) pa_nil)) pa_nil))) (blkOk_by (N := ["self", "hand"]) (sc := defScope sRows) (by decide +kernel))
       (fun _ _ _ _ _ => (pg_name (i := 1) scRows.nd rfl (Or.inl rfl))) (fun _ _ _ _ _ => pts_nil) (fun _ _ _ _ _ => (pe_op (opCatT (K := K) rfl) (pe_tup (pa_cons (pv 1) pa_nil)) (pe_dget hu (fldK (K := K) rfl (pv 0) rfl) (pv 1) (fun _ _ => rfl))))) pa_nil)))), ?_⟩
    refine ⟨_, rfl, p, C, dx, _, _, rfl, hp, T.cl, T.nB, fld1, q, kvs, rfl, .inl hq, fun l hl => ?_⟩
    have s1 : Same H (upd H l (.lst (kvs.map fun kv => kV kv.1))) := (L2.Same.refl H).new hl
    refine ⟨l, m.map (·.1), rfl, SqL.of (by rw [upd_same, hm.keys]), fun ns' S perm rising hS => ?_⟩
    have hns : ns' = sortI (m.map (·.1)) := sortI_eq perm rising
    have s2 := s1.new (o := .lst (ns'.map V.int)) hS
    refine ⟨S, rfl, ⟨_, SqL.of upd_same⟩, fun D hD => ?_⟩
    have hS2 : upd (upd H l (.lst (kvs.map fun kv => kV kv.1))) S (.lst (ns'.map V.int)) S = some (.lst (ns'.map V.int)) := upd_same
    refine rows_lc (encL := rwL) (q := q) (m := m) hS2 (s2 _ _ hq) (hm.tk (TK.of s2)) (fun k hk => (perm.mem_iff).mp hk) (fun _ => (by show 3 ≤ 100; decide)) (by have := perm.length_eq; rw [List.length_map] at this; omega) ?_ hD (by show 1 < 2; decide) ?_
    · intro σ' H' Q' ew s' hQ
      have e0 : σ'[0]? = some (some (V.ref p)) := by
        have h1 : (wipe σ' [1])[0]? = some (some (V.ref p)) := by
          rw [ew]
          rfl
        show σ'[0]? = _
        rw [show (wipe σ' [1])[0]? = (σ'.set 1 none)[0]? from rfl, List.getElem?_set_ne (by decide)] at h1
        exact h1
      exact ⟨_, e0, p, C, dx, _, _, rfl, s' _ _ (s2 _ _ hp), T.cl, T.nB, fld1, hQ⟩
    · intro H' xs s' hD' hr'
      refine ⟨D, xs, rfl, .inl ⟨SqL.of hD', fun t ht => ?_⟩⟩
      refine k _ _ ((s2.trans s').new ht) ?_
      rw [hns] at hr'
      exact Rp.tup upd_same (RpL.tk ((TK.refl _).new ht) _ _ hr')
theorem scCopy : FnScope ["self", "found"] ["self"] (defScope sCopy) := ⟨rfl, rfl, rfl, by decide +kernel, rfl, by decide +kernel, by decide +kernel⟩
theorem ok_copy {f C fI : Addr} {fd fdI : FuncData} (F : Fun K "copy" "Table.copy" sCopy f fd) (T : TN K mg C) (M : Mk K C fI) (GI : FnOk P w K mg base CX0 1 fI fdI ["self"] (spInit K C)) (bI : Binds K fdI ["self"] []) : FnOk P w K mg base CX0 3 f fd ["self"] (spCopy K C) := by
  refine F.ok scCopy (fun vs H Q E h => ?_) (fun cdv A outer s H vs Q E hr h => ?_)
  · obtain ⟨p, q, m, rfl, _⟩ := h
    rfl
  · obtain ⟨p, q, m, rfl, ⟨⟨dx, hp⟩, kvs, hq, hm⟩, k⟩ := h
    refine ⟨_, (pss_cons (ps_set (i := 1) scCopy.nd rfl (Or.inl rfl) (pe_make0 M GI hr rfl T.mgC bI .nil pass0))
       (pss_cons (ps_fld (pv 1) (pe_callTy call_dictD (by rfl) T.dict (by decide +kernel) (pa_cons (fldK (K := K) rfl (pv 0) rfl) pa_nil)) rfl)
       (pss_one (ps_ret (pv 1))))), ?_⟩
    intro x dy nx ndy nex
    have s0 : Same H (upd (upd H dy (.own x)) x (.ins C dy [])) := ((L2.Same.refl H).new ndy).new (by rw [upd_ne nex.symm]; exact nx)
    refine ⟨x, dy, rfl, upd_same, fun H1 q1 nq1 k1 ⟨⟨dz, hx1⟩, _⟩ => ?_⟩
    have s1 : Same H H1 := fun b o e => k1 b o (nin1 (ne_of_none e nx)) (s0 b o e)
    refine ⟨rfl, _, rfl, p, C, dx, _, _, rfl, s1 _ _ hp, T.cl, T.nB, fld1, q, kvs, rfl, .inl (s1 _ _ hq), fun q2 hq2 => ?_⟩
    have hx2 : upd H1 q2 (.dK kvs) x = some (.ins C dz [("by_hand", .ref q1)]) := by
      rw [upd_ne (ne_of_none hx1 hq2)]
      exact hx1
    have nxq : x ≠ q2 := ne_of_none hx1 hq2
    refine ⟨_, rfl, x, C, dz, _, rfl, hx2, T.cl, T.nB, (by show 1 < 1000; decide), ?_⟩
    refine ⟨_, rfl, ?_⟩
    have s2 : Same H (upd (upd H1 q2 (.dK kvs)) x (.ins C dz (putF "by_hand" (.ref q2) [("by_hand", .ref q1)]))) := (s1.new hq2).wrn nx
    refine k _ x q2 nx (s1.free hq2) s2 ⟨⟨dz, by rw [upd_same, putF1]⟩, kvs, ?_, hm.tk (TK.of s2)⟩
    rw [upd_ne nxq.symm, upd_same]
end
end Wn

namespace Wn
open PySem L2
abbrev sLearned : Stmt := top 8
abbrev sLRows : Stmt := top 9
abbrev sLooked : Stmt := top 10
abbrev sDeed : Stmt := top 11
abbrev sTells : Stmt := top 12
theorem dep_row (m : List (Int × Rw)) : dep (rowsD rwL m) < 3 := by
  unfold rowsD dep
  have h := deps_map_le (c := 1) (f := fun k => PyData.tuple (.int k :: ((lookA m k).map rwL).getD [])) (sortI (m.map (·.1))) (fun k _ => by
    show deps _ + 1 ≤ 1
    cases lookA m k with
    | none => simp [deps, dep]
    | some x => simp [rwL, deps, dep])
  omega
theorem sz_row (m : List (Int × Rw)) (hl : m.length ≤ 1000) : sz (rowsD rwL m) ≤ 1000000 := by
  unfold rowsD sz
  have h := szs_map_le (c := 5) (f := fun k => PyData.tuple (.int k :: ((lookA m k).map rwL).getD [])) (sortI (m.map (·.1))) (fun k _ => by
    show szs _ + 1 ≤ 5
    cases lookA m k with
    | none => simp [szs, sz]
    | some x => simp [rwL, szs, sz])
  have e : (sortI (m.map (·.1))).length ≤ 1000 := by
    rw [(sortI_perm _).length_eq, List.length_map]
    exact hl
  omega
theorem dep_opt (o : Option Int) : dep (optD o) < 3 := by cases o <;> simp [optD, dep]
theorem sz_opt (o : Option Int) : sz (optD o) ≤ 1000000 := by cases o <;> simp [optD, sz]
def spLearned (K : PySem.W.Frag) : Sp := fun vs H Q _ => ∃ (md : Addr) (h pl n b : Int) (m : List (Int × Rw)), vs = [.ref md, .int h, .int pl, .int n, .int b] ∧ DictAt rwD K H md m ∧ m.length ≤ 1000 ∧
  ∀ H' : Hp, Kp [md] H H' → DictAt rwD K H' md (learnA m h (pl, n, b)) → Q .non H'
def spLRows (K : PySem.W.Frag) : Sp := fun vs H Q _ => ∃ (md : Addr) (m : List (Int × Rw)), vs = [.ref md] ∧ DictAt rwD K H md m ∧ m.length ≤ 1000 ∧
  ∀ (H' : Hp) (v : V), Same H H' → Rp K H' (rowsD rwL m) v → Q v H'
def spLooked (K : PySem.W.Frag) : Sp := fun vs H Q _ => ∃ (md : Addr) (h b : Int) (m : List (Int × Rw)), vs = [.ref md, .int h, .int b] ∧ DictAt rwD K H md m ∧
  ∀ v : V, Rp K H (optD (lookT m h b)) v → Q v H
def spDeed (K : PySem.W.Frag) (C : Addr) : Sp := fun vs H Q _ => ∃ (d f p q md : Addr) (beat n : Int) (m : List (Int × Rw)), vs = [.ref d, .ref p, .ref md, .int beat] ∧ Deck H d f n ∧ n < 2 ^ 59 ∧ TabAt K C H p q m ∧ DictAt rwD K H md m ∧ q ≠ md ∧ m.length ≤ 999 ∧
  ∀ (H' : Hp) (m' : List (Int × Rw)), Kp [d, q, md] H H' → Deck H' d f (n + 6) → TabAt K C H' p q m' → DictAt rwD K H' md m' → m'.length ≤ m.length + 1 → Q .non H'
def spTells (K : PySem.W.Frag) (C : Addr) : Sp := fun vs H Q _ => ∃ (d f p q md : Addr) (beat n : Int) (m : List (Int × Rw)), vs = [.ref d, .ref p, .ref md, .int beat] ∧ Deck H d f n ∧ n < 2 ^ 59 ∧ TabAt K C H p q m ∧ DictAt rwD K H md m ∧ m.length ≤ 1000 ∧
  ∀ H' : Hp, Kp [d] H H' → Deck H' d f (n + 1) → Q (.bl true) H'

section
variable {P : Program} {w : World} {K : PySem.W.Frag} {mg : Str → Option Value} {base : Heap}
theorem scLearned : FnScope ["_law_model", "_law_hand", "_law_place", "_law_number", "_law_beat"] ["_law_model", "_law_hand", "_law_place", "_law_number", "_law_beat"] (defScope sLearned) := ⟨rfl, rfl, rfl, by decide +kernel, rfl, by decide +kernel, by decide +kernel⟩
theorem ok_learned {f : Addr} {fd : FuncData} (F : Fun K "_law_learned" "_law_learned" sLearned f fd) : FnOk P w K mg base CX0 1 f fd ["_law_model", "_law_hand", "_law_place", "_law_number", "_law_beat"] (spLearned K) := by
  refine F.ok scLearned (fun vs H Q E h => ?_) (fun cdv A outer s H vs Q E hr h => ?_)
  · obtain ⟨md, h, pl, n, b, m, rfl, _⟩ := h
    rfl
  · obtain ⟨q, h, pl, n, b, m, rfl, ⟨kvs, hq, hm⟩, hl, k⟩ := h
    have hu := hu_of hr
    refine ⟨_, (pss_one (ps_if (PW.pt (pw_or (pt_cmp (pc_dnotin hu (pv 1) (pv 0))) (pw_or1 (pt_cmpR op_le (pe_ix (ixT (K := K) rfl) (pe_dget hu (pv 0) (pv 1) (fun _ _ => rfl)) pe_int (fun _ _ => rfl)) (pv 3) (nomark _)))))
       (pss_one (ps_dput hu (pv 0) (pv 1) (pe_tup (pa_cons (pv 2) (pa_cons (pv 3) (pa_cons (pv 4) pa_nil)))) rfl))
       pss_nil)), ?_⟩
    have put : ∀ (Q' : Hp → Prop), (∀ H', Kp [q] H H' → DictAt rwD K H' q (putA m h (pl, n, b)) → Q' H') → ∀ t, H t = none → Q' (upd (upd H t (.tup [.int pl, .int n, .int b])) q (.dK (putK kvs (Sum.inl h) (.ref t)))) := fun Q' hQ t ht => by
      have s1 : Same H (upd H t (.tup [.int pl, .int n, .int b])) := (L2.Same.refl H).new ht
      have t1 := TK.of s1
      have t2 : TK (upd H t (.tup [.int pl, .int n, .int b])) (upd (upd H t (.tup [.int pl, .int n, .int b])) q (.dK (putK kvs (Sum.inl h) (.ref t)))) := (TK.refl _).wr (s1 _ _ hq) rfl
      have htt : Rp K (upd H t (.tup [.int pl, .int n, .int b])) (rwD (pl, n, b)) (.ref t) := Rp.tup upd_same (RpL.cons Rp.int (RpL.cons Rp.int (RpL.cons Rp.int RpL.nil)))
      exact hQ _ ((Kp.of s1).wr (List.mem_singleton.mpr rfl)) ⟨_, upd_same, ((hm.tk t1).put htt).tk t2⟩
    have sz : kvs.length < sizeLine := by rw [hm.len]; exact Nat.lt_of_le_of_lt hl (by decide)
    have g := DGet.k (k := Sum.inl h) hq
    refine ⟨_, rfl, _, rfl, q, _, rfl, g, _, rfl, ?_⟩
    rcases hm.val (k := h) with ⟨e1, e2⟩ | ⟨x, v, e1, e2, r⟩
    · rw [e2]
      refine iteT (iteT ?_)
      refine ⟨_, rfl, _, rfl, _, rfl, (by show 3 ≤ sizeLine; decide), fun t ht => ?_⟩
      have s1 : Same H (upd H t (.tup [.int pl, .int n, .int b])) := (L2.Same.refl H).new ht
      refine ⟨_, rfl, _, rfl, q, _, rfl, DPut.k (k := Sum.inl h) (s1 _ _ hq) sz, ?_⟩
      unfold learnA at k
      rw [e1] at k
      exact put _ k t ht
    · rw [e2]
      rw [e2] at g
      obtain ⟨a, rfl, ha⟩ := rwD_inv r
      unfold learnA at k
      rw [e1] at k
      refine iteF ?_
      refine ⟨_, rfl, _, rfl, q, _, rfl, g, a, _, _, _, rfl, rfl, ha, rfl, _, rfl, _, _, rfl, rfl, _, rfl, ?_⟩
      refine ite2 (fun hc => ?_) (fun hc => ?_)
      · have hc := of_decide_eq_true hc
        simp only [if_pos hc] at k
        refine ⟨_, rfl, _, rfl, _, rfl, (by show 3 ≤ sizeLine; decide), fun t ht => ?_⟩
        have s1 : Same H (upd H t (.tup [.int pl, .int n, .int b])) := (L2.Same.refl H).new ht
        refine ⟨_, rfl, _, rfl, q, _, rfl, DPut.k (k := Sum.inl h) (s1 _ _ hq) sz, ?_⟩
        exact put _ k t ht
      · have hc : ¬ x.2.1 ≤ n := fun z => hc (decide_eq_true z)
        simp only [if_neg hc] at k
        exact k _ (Kp.refl _ _) ⟨kvs, hq, hm⟩
theorem scLRows : FnScope ["_law_model", "_law_hand"] ["_law_model"] (defScope sLRows) := ⟨rfl, rfl, rfl, by decide +kernel, rfl, by decide +kernel, by decide +kernel⟩
theorem ok_lrows {f C : Addr} {fd : FuncData} (F : Fun K "_law_rows" "_law_rows" sLRows f fd) (T : TN K mg C) : FnOk P w K mg base CX0 1 f fd ["_law_model"] (spLRows K) := by
  refine F.ok scLRows (fun vs H Q E h => ?_) (fun cdv A outer s H vs Q E hr h => ?_)
  · obtain ⟨md, m, rfl, _⟩ := h
    rfl
  · obtain ⟨q, m, rfl, ⟨kvs, hq, hm⟩, hlen, k⟩ := h
    have hu := hu_of hr
    refine ⟨_, (pss_one (ps_ret (pe_callTy (tupOfK (K := K) rfl) (by rfl) T.tuple PyProof.Rows.boot_tuple (pa_cons (pe_lc (own := [("_law_hand", 1)]) (g := (gName 1)) (tt := tYes) rfl scLRows.nd (pi_list (pe_callB (sortIK (K := K) rfl) (by rfl) T.sorted (by decide +kernel) (pa_cons (pe_callTy (call_listD rfl) (by rfl) T.list (by decide +kernel) (pa_cons (pv 0) pa_nil)) pa_nil))) (blkOk_by (N := ["_law_model", "_law_hand"]) (sc := defScope sLRows) (by decide +kernel))
       (fun _ _ _ _ _ => (pg_name (i := 1) scLRows.nd rfl (Or.inl rfl))) (fun _ _ _ _ _ => pts_nil) (fun _ _ _ _ _ => (pe_op (opCatT (K := K) rfl) (pe_tup (pa_cons (pv 1) pa_nil)) (pe_dget hu (pv 0) (pv 1) (fun _ _ => rfl))))) pa_nil)))), ?_⟩
    refine ⟨_, rfl, q, kvs, rfl, .inl hq, fun l hl => ?_⟩
    have s1 : Same H (upd H l (.lst (kvs.map fun kv => kV kv.1))) := (L2.Same.refl H).new hl
    refine ⟨l, m.map (·.1), rfl, SqL.of (by rw [upd_same, hm.keys]), fun ns' S perm rising hS => ?_⟩
    have hns : ns' = sortI (m.map (·.1)) := sortI_eq perm rising
    have s2 := s1.new (o := .lst (ns'.map V.int)) hS
    refine ⟨S, rfl, ⟨_, SqL.of upd_same⟩, fun D hD => ?_⟩
    have hS2 : upd (upd H l (.lst (kvs.map fun kv => kV kv.1))) S (.lst (ns'.map V.int)) S = some (.lst (ns'.map V.int)) := upd_same
    refine rows_lc (encL := rwL) (q := q) (m := m) hS2 (s2 _ _ hq) (hm.tk (TK.of s2)) (fun k hk => (perm.mem_iff).mp hk) (fun _ => (by show 3 ≤ 100; decide)) (by have := perm.length_eq; rw [List.length_map] at this; omega) ?_ hD (by show 1 < 2; decide) ?_
    · intro σ' H' Q' ew s' hQ
      have e0 : σ'[0]? = some (some (V.ref q)) := by
        have h1 : (wipe σ' [1])[0]? = some (some (V.ref q)) := by
          rw [ew]
          rfl
        show σ'[0]? = _
        rw [show (wipe σ' [1])[0]? = (σ'.set 1 none)[0]? from rfl, List.getElem?_set_ne (by decide)] at h1
        exact h1
      exact ⟨_, e0, hQ⟩
    · intro H' xs s' hD' hr'
      refine ⟨D, xs, rfl, .inl ⟨SqL.of hD', fun t ht => ?_⟩⟩
      refine k _ _ ((s2.trans s').new ht) ?_
      rw [hns] at hr'
      exact Rp.tup upd_same (RpL.tk ((TK.refl _).new ht) _ _ hr')
theorem scLooked : FnScope ["_law_model", "_law_hand", "_law_beat"] ["_law_model", "_law_hand", "_law_beat"] (defScope sLooked) := ⟨rfl, rfl, rfl, by decide +kernel, rfl, by decide +kernel, by decide +kernel⟩
theorem ok_looked {f C : Addr} {fd : FuncData} (F : Fun K "_law_looked" "_law_looked" sLooked f fd) (T : TN K mg C) : FnOk P w K mg base CX0 1 f fd ["_law_model", "_law_hand", "_law_beat"] (spLooked K) := by
  obtain ⟨tA, mgA⟩ := T.mgA
  refine F.ok scLooked (fun vs H Q E h => ?_) (fun cdv A outer s H vs Q E hr h => ?_)
  · obtain ⟨md, h, b, m, rfl, _⟩ := h
    rfl
  · obtain ⟨q, h, b, m, rfl, ⟨kvs, hq, hm⟩, k⟩ := h
    have hu := hu_of hr
    refine ⟨_, (pss_cons (ps_if (PW.pt (pw_and (pt_cmp (pc_din hu (pv 1) (pv 0))) (pw_and1 (pt_cmpR op_ge (pe_ix (ixT (K := K) rfl) (pe_dget hu (pv 0) (pv 1) (fun _ _ => rfl)) pe_int (fun _ _ => rfl)) (pe_op op_sub (pv 2) (pe_glob (v := .int 10) rfl mgA ⟨_, rfl⟩)) (nomark _)))))
       (pss_one (ps_ret (pe_ix (ixT (K := K) rfl) (pe_dget hu (pv 0) (pv 1) (fun _ _ => rfl)) pe_int (fun _ _ => rfl))))
       pss_nil)
       (pss_one (ps_ret pe_non))), ?_⟩
    have g := DGet.k (k := Sum.inl h) hq
    refine ⟨_, rfl, _, rfl, q, _, rfl, g, _, rfl, ?_⟩
    unfold lookT at k
    rcases hm.val (k := h) with ⟨e1, e2⟩ | ⟨x, v, e1, e2, r⟩
    · rw [e2]
      rw [e1] at k
      exact iteF (iteF (k _ Rp.none))
    · rw [e2]
      rw [e2] at g
      rw [e1] at k
      obtain ⟨a, rfl, ha⟩ := rwD_inv r
      refine iteT ?_
      refine ⟨_, rfl, _, rfl, q, _, rfl, g, a, _, _, _, rfl, rfl, ha, rfl, _, rfl, _, _, rfl, rfl, _, _, rfl, rfl, _, rfl, ?_⟩
      refine ite2 (fun hc => ?_) (fun hc => ?_)
      · have hc := of_decide_eq_true hc
        simp only [if_pos (show b - x.2.2 ≤ 10 by omega)] at k
        exact ⟨_, rfl, _, rfl, q, _, rfl, g, a, _, _, _, rfl, rfl, ha, rfl, k _ Rp.int⟩
      · have hc : ¬ b - 10 ≤ x.2.2 := fun z => hc (decide_eq_true z)
        simp only [if_neg (show ¬ b - x.2.2 ≤ 10 by omega)] at k
        exact k _ Rp.none
theorem rg13 {r : Int} (h0 : 0 ≤ r) (h1 : r < 3) : ∃ n, RgC 0 13 (1 + r) n := by
  have h : r = 0 ∨ r = 1 ∨ r = 2 := by omega
  rcases h with rfl | rfl | rfl
  · exact ⟨_, by decide, by decide, by decide, rfl⟩
  · exact ⟨_, by decide, by decide, by decide, rfl⟩
  · exact ⟨_, by decide, by decide, by decide, rfl⟩
theorem scTells : FnScope ["_law_deck_here", "_law_table", "_law_model", "_law_beat", "_law_hand", "_law_later", "_law_when"] ["_law_deck_here", "_law_table", "_law_model", "_law_beat"] (defScope sTells) := ⟨rfl, rfl, rfl, by decide +kernel, rfl, by decide +kernel, by decide +kernel⟩
theorem ok_tells {f C : Addr} {fd : FuncData} (F : Fun K "_law_tells" "_law_tells" sTells f fd) (T : TN K mg C) (zR : mg "range" = none) (zM : mg "max" = none)
    (cN : Cd P w K mg base 2 "_law_next" ["_law_deck_here", "_law_many"] spNext) (cS : Cd P w K mg base 3 "_law_same" ["_law_thing", "_law_due"] (spSame K 3)) (cR : Cd P w K mg base 1 "_law_rows" ["_law_model"] (spLRows K)) (cL : Cd P w K mg base 1 "_law_looked" ["_law_model", "_law_hand", "_law_beat"] (spLooked K))
    (tR : Md P w K mg base 1 C "rows" ["self"] (spRows K C)) (tK : Md P w K mg base 1 C "look" ["self", "hand", "beat"] (spLook K C)) :
    FnOk P w K mg base CX0 4 f fd ["_law_deck_here", "_law_table", "_law_model", "_law_beat"] (spTells K C) := by
  obtain ⟨fN, fdN, GN, mN, kN, bN⟩ := cN.tk
  obtain ⟨fS, fdS, GS, mS, kS, bS⟩ := cS
  obtain ⟨fR, fdR, GR, mR, kR, bR⟩ := cR
  obtain ⟨fL, fdL, GL, mL, kL, bL⟩ := cL
  obtain ⟨ftR, fdtR, GtR, mtR, btR⟩ := tR
  obtain ⟨ftK, fdtK, GtK, mtK, btK⟩ := tK
  obtain ⟨tA, mgA⟩ := T.mgA
  refine F.ok scTells (fun vs H Q E h => ?_) (fun cdv A outer s H vs Q E hr h => ?_)
  · obtain ⟨d, f, p, q, md, beat, n, m, rfl, _⟩ := h
    rfl
  · obtain ⟨d, f, p, q, md, beat, n, m, rfl, D0, hn, hT, hM, hlen, k⟩ := h
    have hu := hu_of hr
    have hr1 : Room 1 _ := hr.mono (by decide)
    have hr2 : Room 2 _ := hr.mono (by decide)
    have hr3 : Room 3 _ := hr
    refine ⟨_, (pss_cons (ps_if (pt_not (pt_val (pe_call GS hr3 rfl mS kS bS .nil pass0 (pa_cons (pe_meth0 (pv 1) T.cl mtR GtR hr1 btR .nil pass0) (pa_cons (pe_call GR hr1 rfl mR kR bR .nil pass0 (pa_cons (pv 2) pa_nil)) pa_nil)))))
       (pss_one (ps_ret pe_bl))
       pss_nil)
       (pss_cons (ps_for PassesOwn.never rfl (pi_range3 rfl zR (pa_cons pe_int (pa_cons pe_int (pa_cons (pe_op op_add pe_int (pe_call GN hr2 rfl mN kN bN .nil pass0 (pa_cons (pv 0) (pa_cons pe_int pa_nil)))) pa_nil)))) (pg_name (i := 4) scTells.nd rfl (Or.inl rfl))
       (pss_one (ps_for PassesOwn.never rfl (pi_list (pe_lst (pa_cons (pe_un un_neg pe_int) (pa_cons (pe_un un_neg pe_int) (pa_cons pe_int (pa_cons (pe_op op_sub (pe_glob (v := .int 10) rfl mgA ⟨_, rfl⟩) pe_int) (pa_cons (pe_glob (v := .int 10) rfl mgA ⟨_, rfl⟩) (pa_cons (pe_op op_add (pe_glob (v := .int 10) rfl mgA ⟨_, rfl⟩) pe_int) (pa_cons pe_int pa_nil))))))))) (pg_name (i := 5) scTells.nd rfl (Or.inl rfl))
       (pss_cons (ps_set (i := 6) scTells.nd rfl (Or.inl rfl) (pe_callB (call_max2 rfl) (by rfl) zM (by decide +kernel) (pa_cons pe_int (pa_cons (pe_op op_add (pv 3) (pv 5)) pa_nil))))
       (pss_one (ps_if (pt_not (pt_val (pe_call GS hr3 rfl mS kS bS .nil pass0 (pa_cons (pe_meth (pv 1) T.cl mtK GtK hr1 btK .nil pass0 (pa_cons (pv 4) (pa_cons (pv 6) pa_nil))) (pa_cons (pe_call GL hr1 rfl mL kL bL .nil pass0 (pa_cons (pv 2) (pa_cons (pv 4) (pa_cons (pv 6) pa_nil)))) pa_nil)))))
       (pss_one (ps_ret pe_bl))
       pss_nil))))))
       (pss_one (ps_ret pe_bl)))), ?_⟩
    obtain ⟨⟨dx, hp⟩, _⟩ := id hT
    refine ⟨_, rfl, p, dx, _, rfl, hp, fld1_ne (by decide +kernel), p, q, m, rfl, hT, hlen, fun H1 v s1 rv => ?_⟩
    have hM1 := hM.kp (M := []) (Kp.of s1) (TK.of s1) (by simp)
    refine ⟨_, rfl, md, m, rfl, hM1, hlen, fun H2 u s2 ru => ?_⟩
    refine ⟨v, u, _, rfl, Rp.tk (TK.of s2) _ _ rv, ru, dep_row m, sz_row m hlen, fun H3 s3 => ?_⟩
    refine ⟨_, rfl, iteF ?_⟩
    have s03 := (s1.trans s2).trans s3
    have D3 := D0.kp (M := []) (Kp.of s03) (by simp) (by simp)
    refine ⟨_, rfl, d, f, 3, n, rfl, by decide, by omega, D3, fun r H4 r0 r1 k4 D4 t4 => ?_⟩
    obtain ⟨N, hN⟩ := rg13 r0 r1
    obtain ⟨zs, hd3⟩ := D3.lst
    have hT3 := HoldAt.kp (M := []) hT (Kp.of s03) (TK.of s03) (by simp) (by simp)
    have hM3 := hM.kp (M := []) (Kp.of s03) (TK.of s03) (by simp)
    have hT4 : TabAt K C H4 p q m := by
      obtain ⟨⟨dx, hp⟩, kv, hq, _⟩ := id hT3
      exact HoldAt.kp hT3 k4 t4 (nin1 (ne_of hp hd3 (by intro z; cases z))) (nin1 (ne_of hq hd3 (by intro z; cases z)))
    have hM4 : DictAt rwD K H4 md m := by
      obtain ⟨kv, hq, _⟩ := id hM3
      exact hM3.kp k4 t4 (nin1 (ne_of hq hd3 (by intro z; cases z)))
    have k04 : Kp [d] H H4 := (Kp.of s03).trans k4
    refine ⟨_, _, rfl, rfl, 0, 13, _, N, rfl, hN, ?_⟩
    refine for_rangeC (lo := 0) (c := 1 + r) (n := N) (fun i σ H' => ∃ v4 v5 v6, σ = [some (.ref d), some (.ref p), some (.ref md), some (.int beat), v4, v5, v6] ∧ Same H4 H') ⟨_, _, _, rfl, L2.Same.refl _⟩ ?_ ?_
    · rintro i σ H5 hi ⟨v4, v5, v6, rfl, s5⟩
      generalize (0 : Int) + (i : Nat) * (1 + r) = hnd
      refine ⟨_, rfl, _, rfl, _, _, rfl, rfl, _, _, rfl, rfl, (by show 7 ≤ sizeLine; decide), fun L hL => ?_⟩
      have s6 := s5.new (o := .lst [.int (-30), .int (-1), .int 0, .int (10 - 1), .int 10, .int (10 + 1), .int 30]) hL
      refine ⟨L, rfl, ⟨_, SqL.of upd_same⟩, ?_⟩
      have hLL : upd H5 L (.lst [.int (-30), .int (-1), .int 0, .int (10 - 1), .int 10, .int (10 + 1), .int 30]) L = some (.lst [.int (-30), .int (-1), .int 0, .int (10 - 1), .int 10, .int (10 + 1), .int 30]) := upd_same
      generalize upd H5 L (.lst [.int (-30), .int (-1), .int 0, .int (10 - 1), .int 10, .int (10 + 1), .int 30]) = H6 at s6 hLL
      refine for_list (K := K) (a := L) (xs := [.int (-30), .int (-1), .int 0, .int (10 - 1), .int 10, .int (10 + 1), .int 30]) (fun i σ H' => ∃ v5 v6, σ = [some (.ref d), some (.ref p), some (.ref md), some (.int beat), some (.int hnd), v5, v6] ∧ Same H4 H' ∧ Same H6 H')
        ⟨_, _, rfl, s6, L2.Same.refl _⟩ (fun i σ H' _ ⟨_, _, _, _, s⟩ => SqL.of (s _ _ hLL)) ?_ ?_
      · rintro j x σ H7 hx ⟨v5, v6, rfl, s7, s67⟩
        obtain ⟨z, rfl⟩ : ∃ z, x = V.int z := by
          match j, hx with
          | 0, hx | 1, hx | 2, hx | 3, hx | 4, hx | 5, hx | 6, hx => exact ⟨_, (Option.some.inj hx).symm⟩
        refine ⟨_, rfl, _, rfl, _, _, rfl, rfl, _, _, rfl, ?_⟩
        generalize (if beat + z > 0 then beat + z else 0) = wh
        have hT7 := HoldAt.kp (M := []) hT4 (Kp.of s7) (TK.of s7) (by simp) (by simp)
        have hM7 := hM4.kp (M := []) (Kp.of s7) (TK.of s7) (by simp)
        obtain ⟨⟨dx7, hp7⟩, _⟩ := id hT7
        refine ⟨_, rfl, p, dx7, _, rfl, hp7, fld1_ne (by decide +kernel), _, rfl, _, rfl, p, q, hnd, wh, m, rfl, hT7, fun v rv => ?_⟩
        refine ⟨_, rfl, _, rfl, _, rfl, md, hnd, wh, m, rfl, hM7, fun u ru => ?_⟩
        refine ⟨v, u, _, rfl, rv, ru, dep_opt _, sz_opt _, fun H8 s8 => ?_⟩
        refine ⟨_, rfl, iteF ?_⟩
        exact ⟨_, _, rfl, s7.trans s8, s67.trans s8⟩
      · rintro σ H7 ⟨v5, v6, rfl, s7, s67⟩
        exact ⟨_, _, _, rfl, s7⟩
    · rintro σ H5 ⟨v4, v5, v6, rfl, s5⟩
      exact k _ (k04.trans (Kp.of s5)) (D4.kp (M := []) (Kp.of s5) (by simp) (by simp))
end
end Wn

namespace Wn
open PySem L2
abbrev sLaw : Stmt := top 13

section
variable {P : Program} {w : World} {K : PySem.W.Frag} {mg : Str → Option Value} {base : Heap}
theorem scDeed : FnScope ["_law_deck_here", "_law_table", "_law_model", "_law_beat", "_law_hand", "_law_way", "_law_place", "_law_number"] ["_law_deck_here", "_law_table", "_law_model", "_law_beat"] (defScope sDeed) := ⟨rfl, rfl, rfl, by decide +kernel, rfl, by decide +kernel, by decide +kernel⟩
theorem ok_deed {f C : Addr} {fd : FuncData} (F : Fun K "_law_deed" "_law_deed" sDeed f fd) (T : TN K mg C)
    (cN : Cd P w K mg base 2 "_law_next" ["_law_deck_here", "_law_many"] spNext) (cE : Cd P w K mg base 1 "_law_learned" ["_law_model", "_law_hand", "_law_place", "_law_number", "_law_beat"] (spLearned K))
    (tL : Md P w K mg base 1 C "learn" ["self", "hand", "place", "number", "beat"] (spLearn K C)) (tD : Md P w K mg base 1 C "drop" ["self", "hand"] (spDrop K C)) :
    FnOk P w K mg base CX0 3 f fd ["_law_deck_here", "_law_table", "_law_model", "_law_beat"] (spDeed K C) := by
  obtain ⟨fN, fdN, GN, mN, kN, bN⟩ := cN.tk
  obtain ⟨fE, fdE, GE, mE, kE, bE⟩ := cE.tk
  obtain ⟨ftL, fdtL, GtL, mtL, btL⟩ := tL.tk
  obtain ⟨ftD, fdtD, GtD, mtD, btD⟩ := tD.tk
  refine F.ok scDeed (fun vs H Q E h => ?_) (fun cdv A outer s H vs Q E hr h => ?_)
  · obtain ⟨d, f, p, q, md, beat, n, m, rfl, _⟩ := h
    rfl
  · obtain ⟨d, f, p, q, md, beat, n, m, rfl, D0, hn, hT, hM, nqm, hlen, k⟩ := h
    have hu := hu_of hr
    have hr1 : Room 1 _ := hr.mono (by decide)
    have hr2 : Room 2 _ := hr
    refine ⟨_, (pss_cons (ps_set (i := 4) scDeed.nd rfl (Or.inl rfl) (pe_op op_mul (pe_call GN hr2 rfl mN kN bN .nil pass0 (pa_cons (pv 0) (pa_cons pe_int pa_nil))) (pe_ix (ixL (K := K) rfl) (pe_lst (pa_cons pe_int (pa_cons pe_int (pa_cons pe_int pa_nil)))) (pe_call GN hr2 rfl mN kN bN .nil pass0 (pa_cons (pv 0) (pa_cons pe_int pa_nil))) (fun _ _ => rfl))))
       (pss_cons (ps_set (i := 5) scDeed.nd rfl (Or.inl rfl) (pe_call GN hr2 rfl mN kN bN .nil pass0 (pa_cons (pv 0) (pa_cons pe_int pa_nil))))
       (pss_one (ps_if (pt_cmpR op_eq (pv 5) pe_int (nomark _))
       (pss_cons (ps_expr (pe_meth (pv 1) T.cl mtD GtD hr1 btD .nil pass0 (pa_cons (pv 4) pa_nil)))
       (pss_one (ps_expr (pe_dpop2 (pv 2) (pv 4) pe_non ⟨rfl, rfl, rfl, rfl⟩))))
       (pss_cons (ps_set (i := 6) scDeed.nd rfl (Or.inl rfl) (pe_call GN hr2 rfl mN kN bN .nil pass0 (pa_cons (pv 0) (pa_cons pe_int pa_nil))))
       (pss_cons (ps_set (i := 7) scDeed.nd rfl (Or.inl rfl) (pe_call GN hr2 rfl mN kN bN .nil pass0 (pa_cons (pv 0) (pa_cons (pe_ix (ixL (K := K) rfl) (pe_lst (pa_cons pe_int (pa_cons pe_int (pa_cons (pe_op op_pow pe_int pe_int) pa_nil)))) (pe_call GN hr2 rfl mN kN bN .nil pass0 (pa_cons (pv 0) (pa_cons pe_int pa_nil))) (fun _ _ => rfl)) pa_nil))))
       (pss_cons (ps_expr (pe_meth (pv 1) T.cl mtL GtL hr1 btL .nil pass0 (pa_cons (pv 4) (pa_cons (pv 6) (pa_cons (pv 7) (pa_cons (pv 3) pa_nil))))))
       (pss_one (ps_expr (pe_call GE hr1 rfl mE kE bE .nil pass0 (pa_cons (pv 2) (pa_cons (pv 4) (pa_cons (pv 6) (pa_cons (pv 7) (pa_cons (pv 3) pa_nil))))))))))))))), ?_⟩
    refine ⟨_, rfl, d, f, 5, n, rfl, by decide, by omega, D0, fun x1 H1 x10 x11 k1 D1 t1 => ?_⟩
    have hT1 := hT.lst k1 t1 D0.lst.choose_spec
    have hM1 := hM.lst k1 t1 D0.lst.choose_spec
    refine ⟨(by show 3 ≤ sizeLine; decide), fun l nl => ?_⟩
    have s2 : Same H1 (upd H1 l (.lst [.int 1, .int 1, .int 3])) := (L2.Same.refl H1).new nl
    have hl2 : upd H1 l (.lst [.int 1, .int 1, .int 3]) l = some (.lst [.int 1, .int 1, .int 3]) := upd_same
    have nld : l ≠ d := (ne_of_none D1.lst.choose_spec nl).symm
    generalize upd H1 l (.lst [.int 1, .int 1, .int 3]) = H2 at s2 hl2
    have D2 := D1.same s2
    refine ⟨_, rfl, d, f, 3, n + 1, rfl, by decide, by omega, D2, fun x2 H3 x20 x21 k3 D3 t3 => ?_⟩
    have hT3 := (hT1.same s2).lst k3 t3 D2.lst.choose_spec
    have hM3 := (hM1.same s2).lst k3 t3 D2.lst.choose_spec
    have k03 : Kp [d] H H3 := (k1.trans (Kp.of s2)).trans k3
    obtain ⟨v, hv, hv'⟩ : ∃ v : Int, atI [V.int 1, .int 1, .int 3] x2 = some (.int v) ∧ True := by
      have h : x2 = 0 ∨ x2 = 1 ∨ x2 = 2 := by omega
      rcases h with rfl | rfl | rfl <;> exact ⟨_, rfl, trivial⟩
    refine ⟨l, _, _, _, rfl, rfl, SqL.of (k3 _ _ (nin1 nld) hl2), hv, _, _, rfl, rfl, .inl ⟨by omega, by omega⟩, ?_⟩
    refine ⟨_, rfl, d, f, 6, n + 1 + 1, rfl, by decide, by omega, D3, fun way H4 w0 w1 k4 D4 t4 => ?_⟩
    have hT4 := hT3.lst k4 t4 D3.lst.choose_spec
    have hM4 := hM3.lst k4 t4 D3.lst.choose_spec
    have k04 := k03.trans k4
    refine ⟨_, rfl, rfl, _, rfl, ?_⟩
    refine ite2 (fun _ => ?_) (fun _ => ?_)
    · obtain ⟨⟨dx, hp4⟩, kq4, hq4, rq4⟩ := id hT4
      refine ⟨_, rfl, p, dx, _, rfl, hp4, fld1_ne (by decide +kernel), _, rfl, p, q, (x1 * v), m, rfl, hT4, fun H5 k5 hT5 t5 => ?_⟩
      have hM5 := hM4.kp k5 t5 (nin1 nqm.symm)
      have D5 := D4.dict k5 ⟨kq4, hq4, rq4⟩
      obtain ⟨kvm, hmk, rmk⟩ := id hM5
      have k05 : Kp [d, q, md] H H5 := (k04.mono (by simp)).trans (k5.mono (by simp))
      refine ⟨_, rfl, md, rfl, .inl ⟨kvm, .inl hmk⟩, _, rfl, kvm, Sum.inl (x1 * v), hmk, rfl, fun v_ e => ?_, fun e => ?_⟩
      · have tE : TK H5 (upd H5 md (.dK (dropK kvm (Sum.inl (x1 * v))))) := (TK.refl _).wr hmk rfl
        have kE : Kp [md] H5 (upd H5 md (.dK (dropK kvm (Sum.inl (x1 * v))))) := (Kp.refl _ _).wr (List.mem_singleton.mpr rfl)
        obtain ⟨⟨dx5, hp5⟩, _⟩ := id hT5
        exact k _ _ (k05.trans (kE.mono (by simp))) ((D5.dict kE hM5).mono (by omega)) (hT5.kp kE tE (nin1 (ne_of hp5 hmk (by intro z; cases z))) (nin1 nqm)) ⟨_, upd_same, rmk.drop.tk tE⟩ (by have := dropA_len m (x1 * v); omega)
      · have hdr := rmk.drop (k := (x1 * v))
        rw [dropK_no (valV_not e)] at hdr
        exact k _ _ k05 (D5.mono (by omega)) hT5 ⟨kvm, hmk, hdr⟩ (by have := dropA_len m (x1 * v); omega)
    · refine ⟨_, rfl, d, f, 8, n + 1 + 1 + 1, rfl, by decide, by omega, D4, fun pl H5 p0 p1 k5 D5 t5 => ?_⟩
      have hT5 := hT4.lst k5 t5 D4.lst.choose_spec
      have hM5 := hM4.lst k5 t5 D4.lst.choose_spec
      refine ⟨_, rfl, _, _, rfl, rfl, ⟨by decide, by decide, by decide⟩, (by show 3 ≤ sizeLine; decide), fun l' nl' => ?_⟩
      have s6 : Same H5 (upd H5 l' (.lst [.int 4, .int 40, .int (10 ^ (6 : Int).toNat)])) := (L2.Same.refl H5).new nl'
      have hl6 : upd H5 l' (.lst [.int 4, .int 40, .int (10 ^ (6 : Int).toNat)]) l' = some (.lst [.int 4, .int 40, .int (10 ^ (6 : Int).toNat)]) := upd_same
      have nld' : l' ≠ d := (ne_of_none D5.lst.choose_spec nl').symm
      generalize upd H5 l' (.lst [.int 4, .int 40, .int (10 ^ (6 : Int).toNat)]) = H6 at s6 hl6
      have D6 := D5.same s6
      refine ⟨_, rfl, d, f, 3, n + 1 + 1 + 1 + 1, rfl, by decide, by omega, D6, fun x3 H7 x30 x31 k7 D7 t7 => ?_⟩
      have hT7 := (hT5.same s6).lst k7 t7 D6.lst.choose_spec
      have hM7 := (hM5.same s6).lst k7 t7 D6.lst.choose_spec
      obtain ⟨u, hu', hu0⟩ : ∃ u : Int, atI [V.int 4, .int 40, .int (10 ^ (6 : Int).toNat)] x3 = some (.int u) ∧ 0 < u := by
        have h : x3 = 0 ∨ x3 = 1 ∨ x3 = 2 := by omega
        rcases h with rfl | rfl | rfl
        · exact ⟨_, rfl, by decide⟩
        · exact ⟨_, rfl, by decide⟩
        · exact ⟨_, rfl, by decide⟩
      refine ⟨l', _, _, _, rfl, rfl, SqL.of (k7 _ _ (nin1 nld') hl6), hu', ?_⟩
      refine ⟨d, f, u, n + 1 + 1 + 1 + 1 + 1, rfl, hu0, by omega, D7, fun num H8 n0 n1 k8 D8 t8 => ?_⟩
      have hT8 := hT7.lst k8 t8 D7.lst.choose_spec
      have hM8 := hM7.lst k8 t8 D7.lst.choose_spec
      have k08 : Kp [d] H H8 := (((k04.trans k5).trans (Kp.of s6)).trans k7).trans k8
      obtain ⟨⟨dx8, hp8⟩, kq8, hq8, rq8⟩ := id hT8
      refine ⟨_, rfl, p, dx8, _, rfl, hp8, fld1_ne (by decide +kernel), _, rfl, _, rfl, _, rfl, _, rfl, p, q, (x1 * v), pl, num, beat, m, rfl, hT8, by omega, fun H9 k9 hT9 t9 => ?_⟩
      have hM9 := hM8.kp k9 t9 (nin1 nqm.symm)
      have D9 := D8.dict k9 ⟨kq8, hq8, rq8⟩
      refine ⟨_, rfl, _, rfl, _, rfl, _, rfl, _, rfl, md, (x1 * v), pl, num, beat, m, rfl, hM9, by omega, fun H10 k10 hM10 t10 => ?_⟩
      obtain ⟨kvm, hmk, rmk⟩ := id hM9
      obtain ⟨⟨dx9, hp9⟩, _⟩ := id hT9
      exact k _ _ (((k08.mono (by simp)).trans (k9.mono (by simp))).trans (k10.mono (by simp))) ((D9.dict k10 hM9).mono (by omega)) (hT9.kp k10 t10 (nin1 (ne_of hp9 hmk (by intro z; cases z))) (nin1 nqm)) hM10 (learnA_len _ _ _)
/-- what stands between two turns -/
def Mid17 (K : PySem.W.Frag) (C a d f La Lb : Addr) (i : Nat) (σ : L2.St) (H : Hp) : Prop :=
  ∃ (n : Nat) (p q md : Nat → Addr) (m : Nat → List (Int × Rw)) (beat nd : Int) (v5 v6 v7 : Option V), σ = [some (.ref a), some (.ref d), some (.ref La), some (.ref Lb), some (.int beat), v5, v6, v7] ∧
    Rack rwD K C H La Lb n p q md m m ∧ 1 ≤ n ∧ n ≤ 4 ∧ (∀ j, j < n → (m j).length ≤ i) ∧ Deck H d f nd ∧ nd ≤ 1 + 20 * i
theorem scLaw : FnScope ["_law_script", "_law_deck_here", "_law_tables", "_law_models", "_law_beat", "_law_turn", "_law_k", "_law_j"] ["_law_script"] (defScope sLaw) := ⟨rfl, rfl, rfl, by decide +kernel, rfl, by decide +kernel, by decide +kernel⟩
theorem ok_law {f C fI : Addr} {fd fdI : FuncData} (F : Fun K "law" "law" sLaw f fd) (T : TN K mg C) (zR : mg "range" = none) (zL : mg "len" = none) (M : Mk K C fI) (GI : FnOk P w K mg base CX0 1 fI fdI ["self"] (spInit K C)) (bI : Binds K fdI ["self"] [])
    (cN : Cd P w K mg base 2 "_law_next" ["_law_deck_here", "_law_many"] spNext) (cD : Cd P w K mg base 2 "_law_deck" ["_law_script"] (spDeck K)) (cE : Cd P w K mg base 3 "_law_deed" ["_law_deck_here", "_law_table", "_law_model", "_law_beat"] (spDeed K C)) (cT : Cd P w K mg base 4 "_law_tells" ["_law_deck_here", "_law_table", "_law_model", "_law_beat"] (spTells K C))
    (mC : Md P w K mg base 3 C "copy" ["self"] (spCopy K C)) :
    FnOk P w K mg base CX0 5 f fd ["_law_script"] (spLaw K) := by
  obtain ⟨fN, fdN, GN, mN, kN, bN⟩ := cN.tk
  obtain ⟨fD, fdD, GD, mD, kD, bD⟩ := cD.tk
  obtain ⟨fE, fdE, GE, mE, kE, bE⟩ := cE.tk
  obtain ⟨fT, fdT, GT, mT, kT, bT⟩ := cT.tk
  obtain ⟨fC, fdC, GC, mC, bC⟩ := mC.tk
  obtain ⟨tA, mgA⟩ := T.mgA
  have GI := GI.tk
  refine F.ok scLaw (fun vs H Q E h => ?_) (fun cdv A outer s H vs Q E hr h => ?_)
  · obtain ⟨a, ns, rfl, _⟩ := h
    rfl
  · obtain ⟨a, ns, rfl, hS, hlen, k⟩ := h
    have hu := hu_of hr
    have hr2 : Room 2 _ := hr.mono (by decide)
    have hr3 : Room 3 _ := hr.mono (by decide)
    have hr4 : Room 4 _ := hr
    refine ⟨_, (pss_cons (ps_set (i := 1) scLaw.nd rfl (Or.inl rfl) (pe_call GD hr2 rfl mD kD bD .nil pass0 (pa_cons (pv 0) pa_nil)))
       (pss_cons (ps_set (i := 2) scLaw.nd rfl (Or.inl rfl) (pe_lst (pa_cons (pe_make0 M GI hr2 rfl T.mgC bI .nil pass0) pa_nil)))
       (pss_cons (ps_set (i := 3) scLaw.nd rfl (Or.inl rfl) (pe_lst (pa_cons pe_dnewK pa_nil)))
       (pss_cons (ps_set (i := 4) scLaw.nd rfl (Or.inl rfl) (pe_call GN hr2 rfl mN kN bN .nil pass0 (pa_cons (pv 1) (pa_cons pe_int pa_nil))))
       (pss_cons (ps_for PassesOwn.never rfl (pi_range1 rfl zR (pa_cons pe_int pa_nil)) (pg_name (i := 5) scLaw.nd rfl (Or.inl rfl))
       (pss_cons (ps_set (i := 6) scLaw.nd rfl (Or.inl rfl) (pe_call GN hr2 rfl mN kN bN .nil pass0 (pa_cons (pv 1) (pa_cons (pe_callB (lenK (K := K) rfl) (by rfl) zL PySem.boot_len (pa_cons (pv 2) pa_nil)) pa_nil))))
       (pss_cons (ps_if (PW.pt (pw_and (pt_cmpR op_lt (pe_callB (lenK (K := K) rfl) (by rfl) zL PySem.boot_len (pa_cons (pv 2) pa_nil)) pe_int (nomark _)) (pw_and1 (pt_cmpR op_eq (pe_call GN hr2 rfl mN kN bN .nil pass0 (pa_cons (pv 1) (pa_cons pe_int pa_nil))) pe_int (nomark _)))))
       (pss_cons (ps_expr (pe_bm PySem.F.plainAttrs_list PySem.F.slot_list_append PySem.F.type_list_append mt_append (pv 2) (pa_cons (pe_meth0 (pe_ix (ixL (K := K) rfl) (pv 2) (pv 6) (fun _ _ => rfl)) T.cl mC GC hr3 bC .nil pass0) pa_nil)))
       (pss_one (ps_expr (pe_bm PySem.F.plainAttrs_list PySem.F.slot_list_append PySem.F.type_list_append mt_append (pv 3) (pa_cons (pe_callTy call_dictD (by rfl) T.dict (by decide +kernel) (pa_cons (pe_ix (ixL (K := K) rfl) (pv 3) (pv 6) (fun _ _ => rfl)) pa_nil)) pa_nil)))))
       pss_nil)
       (pss_cons (ps_expr (pe_call GE hr3 rfl mE kE bE .nil pass0 (pa_cons (pv 1) (pa_cons (pe_ix (ixL (K := K) rfl) (pv 2) (pv 6) (fun _ _ => rfl)) (pa_cons (pe_ix (ixL (K := K) rfl) (pv 3) (pv 6) (fun _ _ => rfl)) (pa_cons (pv 4) pa_nil))))))
       (pss_cons (ps_set (i := 4) scLaw.nd rfl (Or.inl rfl) (pe_op op_add (pv 4) (pe_ix (ixL (K := K) rfl) (pe_lst (pa_cons pe_int (pa_cons pe_int (pa_cons pe_int (pa_cons pe_int (pa_cons (pe_glob (v := .int 10) rfl mgA ⟨_, rfl⟩) pa_nil)))))) (pe_call GN hr2 rfl mN kN bN .nil pass0 (pa_cons (pv 1) (pa_cons pe_int pa_nil))) (fun _ _ => rfl))))
       (pss_one (ps_for PassesOwn.never rfl (pi_range1 rfl zR (pa_cons (pe_callB (lenK (K := K) rfl) (by rfl) zL PySem.boot_len (pa_cons (pv 2) pa_nil)) pa_nil)) (pg_name (i := 7) scLaw.nd rfl (Or.inl rfl))
       (pss_one (ps_if (pt_not (pt_val (pe_call GT hr4 rfl mT kT bT .nil pass0 (pa_cons (pv 1) (pa_cons (pe_ix (ixL (K := K) rfl) (pv 2) (pv 7) (fun _ _ => rfl)) (pa_cons (pe_ix (ixL (K := K) rfl) (pv 3) (pv 7) (fun _ _ => rfl)) (pa_cons (pv 4) pa_nil)))))))
       (pss_one (ps_ret pe_bl))
       pss_nil)))))))))
       (pss_one (ps_ret pe_bl))))))), ?_⟩
    refine ⟨_, rfl, a, ns, rfl, hS, hlen, fun H1 d f nd nf s1 D1 t1 => ?_⟩
    intro x dx nx ndx nex
    have s2 : Same H1 (upd (upd H1 dx (.own x)) x (.ins C dx [])) := ((L2.Same.refl H1).new ndx).new (by rw [upd_ne nex.symm]; exact nx)
    refine ⟨x, dx, rfl, upd_same, fun H2 q2 nq2 k2 hN2 t2 => ⟨rfl, (by show 1 ≤ sizeLine; decide), fun La nLa => ?_⟩⟩
    have s12 : Same H1 H2 := fun b o e => k2 b o (nin1 (ne_of_none e nx)) (s2 b o e)
    intro md0 nmd0
    refine ⟨(by show 1 ≤ sizeLine; decide), fun Lb nLb => ?_⟩
    have s23 : Same H2 (upd H2 La (.lst [.ref x])) := (L2.Same.refl H2).new nLa
    have s34 : Same (upd H2 La (.lst [.ref x])) (upd (upd H2 La (.lst [.ref x])) md0 (.dK [])) := (L2.Same.refl _).new nmd0
    have s45 : Same (upd (upd H2 La (.lst [.ref x])) md0 (.dK [])) (upd (upd (upd H2 La (.lst [.ref x])) md0 (.dK [])) Lb (.lst [.ref md0])) := (L2.Same.refl _).new nLb
    have hLa : (upd (upd (upd H2 La (.lst [.ref x])) md0 (.dK [])) Lb (.lst [.ref md0])) La = some (.lst [.ref x]) := s45 _ _ (s34 _ _ upd_same)
    have hmd : (upd (upd (upd H2 La (.lst [.ref x])) md0 (.dK [])) Lb (.lst [.ref md0])) md0 = some (.dK []) := s45 _ _ upd_same
    have hLb : (upd (upd (upd H2 La (.lst [.ref x])) md0 (.dK [])) Lb (.lst [.ref md0])) Lb = some (.lst [.ref md0]) := upd_same
    have nq0 : q2 ≠ md0 := by
      obtain ⟨_, kv, hq, _⟩ := hN2
      exact ne_of_none (s23 _ _ hq) nmd0
    have s25 := (s23.trans s34).trans s45
    have s15 := s12.trans s25
    generalize (upd (upd (upd H2 La (.lst [.ref x])) md0 (.dK [])) Lb (.lst [.ref md0])) = H5 at hLa hmd hLb s25 s15
    have D5 : Deck H5 d f 0 := D1.same s15
    have R5 : Rack rwD K C H5 La Lb 1 (fun _ => x) (fun _ => q2) (fun _ => md0) (fun _ => []) (fun _ => []) :=
      ⟨hLa, hLb, fun j _ => HoldAt.same hN2 s25, fun j _ => ⟨[], hmd, rfl⟩, fun i j hi hj e => absurd (show i = j by omega) e, fun i j hi hj e => absurd (show i = j by omega) e, fun _ _ _ _ => nq0⟩
    obtain ⟨zs1, hd1⟩ := D1.lst
    obtain ⟨zs2, hf1⟩ := D1.lst2
    have nda : d ≠ La := ne_of_none (s12 _ _ hd1) nLa
    have nfa : f ≠ La := ne_of_none (s12 _ _ hf1) nLa
    have ndb : d ≠ Lb := ne_of_none (s34 _ _ (s23 _ _ (s12 _ _ hd1))) nLb
    have nfb : f ≠ Lb := ne_of_none (s34 _ _ (s23 _ _ (s12 _ _ hf1))) nLb
    have nab : La ≠ Lb := ne_of_none (s34 _ _ upd_same) nLb
    refine ⟨_, rfl, d, f, 4, 0, rfl, by decide, by decide, D5, fun b0 H6 b00 b01 k6 D6 t6 => ?_⟩
    have R6 := R5.lst k6 t6 (D5.lst.choose_spec) nda ndb
    refine ⟨24, rfl, by decide, by decide, ?_⟩
    refine for_range (lo := 0) (Mid17 K C a d f La Lb ·) ⟨1, _, _, _, _, b0, 1, _, _, _, rfl, R6, Nat.le_refl _, by decide, fun j _ => Nat.le_refl _, D6, by omega⟩ ?_ ?_
    · rintro i σ H7 hi ⟨n, p, q, md, m, beat, nd, v5, v6, v7, rfl, R, n1, n3, hm, D7, hnd⟩
      have hi : i < 24 := hi
      refine ⟨_, rfl, _, rfl, _, n, rfl, .inl ⟨_, SqL.of R.l1, by simp⟩, d, f, n, nd, rfl, by omega, by omega, D7, fun kk H8 k0 k1 kp8 D8 t8 => ?_⟩
      have R8 := R.lst kp8 t8 D7.lst.choose_spec nda ndb
      dsimp only [gName, List.set]
      refine seq_if (fun σ' H' => ∃ (n : Nat) (p q md : Nat → Addr) (m : Nat → List (Int × Rw)) (nd : Int), σ' = [some (.ref a), some (.ref d), some (.ref La), some (.ref Lb), some (.int beat), some (.int (0 + (i : Int))), some (.int kk), v7] ∧
        Rack rwD K C H' La Lb n p q md m m ∧ kk < n ∧ n ≤ 4 ∧ (∀ j, j < n → (m j).length ≤ i) ∧ Deck H' d f nd ∧ nd ≤ 1 + 20 * i + 2) ?rest (fun rest => ?_)
      case rest =>
        clear R8 R D7 hnd hm n3 n1
        rintro σ' H9 ⟨n, p, q, md, m, nd, rfl, R9, k1, n3, hm, D9, hnd⟩
        have hkn : kk.toNat < n := by omega
        refine ⟨_, rfl, _, rfl, _, rfl, La, _, _, _, rfl, rfl, SqL.of R9.l1, atR k0 k1, _, rfl, _, rfl, Lb, _, _, _, rfl, rfl, SqL.of R9.l2, atR k0 k1, _, rfl, d, f, p kk.toNat, q kk.toNat, md kk.toNat, beat, nd, m kk.toNat, rfl, D9, by omega, R9.ok _ hkn, R9.mo _ hkn, R9.dx _ _ hkn hkn, by have := hm _ hkn; omega, fun H11 m' k11 D11 hT11 hM11 hl11 t11 => ?_⟩
        have R11 := R9.set2 hkn k11 t11 D9.lst.choose_spec nda ndb hT11 hM11
        refine ⟨_, rfl, (by show 5 ≤ sizeLine; decide), fun l nl => ?_⟩
        have s12 : Same H11 (upd H11 l (.lst [.int 0, .int 0, .int 1, .int 2, .int 10])) := (L2.Same.refl H11).new nl
        have hl12 : upd H11 l (.lst [.int 0, .int 0, .int 1, .int 2, .int 10]) l = some (.lst [.int 0, .int 0, .int 1, .int 2, .int 10]) := upd_same
        have nld : l ≠ d := (ne_of_none D11.lst.choose_spec nl).symm
        generalize upd H11 l (.lst [.int 0, .int 0, .int 1, .int 2, .int 10]) = H12 at s12 hl12
        have R12 := R11.same s12
        have D12 := D11.same s12
        refine ⟨_, rfl, d, f, 5, nd + 6, rfl, by decide, by omega, D12, fun r H13 r0 r1 kp13 D13 t13 => ?_⟩
        have R13 := R12.lst kp13 t13 D12.lst.choose_spec nda ndb
        obtain ⟨v, hv⟩ := at5 (a := 0) (b := 0) (c := 1) (d := 2) (e := 10) r0 r1
        refine ⟨l, _, _, _, rfl, rfl, SqL.of (kp13 _ _ (nin1 nld) hl12), hv, _, _, rfl, rfl, ?_⟩
        refine ⟨_, rfl, _, n, rfl, .inl ⟨_, SqL.of R13.l1, by simp⟩, n, rfl, by omega, by omega, ?_⟩
        have hmm : ∀ j, j < n → (if j = kk.toNat then m' else m j).length ≤ i + 1 := fun j hj => by
          split
          · have := hm _ hkn
            omega
          · have := hm _ hj
            omega
        refine for_range (lo := 0) (fun j σ H' => ∃ v7, σ = [some (.ref a), some (.ref d), some (.ref La), some (.ref Lb), some (.int (beat + v)), some (.int (0 + (i : Int))), some (.int kk), v7] ∧ Rack rwD K C H' La Lb n p q md (fun j => if j = kk.toNat then m' else m j) (fun j => if j = kk.toNat then m' else m j) ∧ Deck H' d f (nd + 6 + 1 + j)) ⟨_, rfl, R13, D13.mono (by omega)⟩ ?_ ?_
        · rintro j σ H14 hj ⟨v9', rfl, R14, D14⟩
          have hj : j < n := by omega
          have e0 : (0 : Int) + (j : Int) = (j : Int) := by omega
          have ea : ∀ g : Nat → Addr, atI ((List.range n).map fun j => V.ref (g j)) (0 + (j : Int)) = some (.ref (g j)) := fun g => by
            rw [e0]
            exact atI_nat (by rw [List.getElem?_map, List.getElem?_range hj]; rfl)
          refine ⟨_, rfl, _, rfl, _, rfl, La, _, _, _, rfl, rfl, SqL.of R14.l1, ea p, _, rfl, _, rfl, Lb, _, _, _, rfl, rfl, SqL.of R14.l2, ea md, _, rfl, d, f, p j, q j, md j, beat + v, nd + 6 + 1 + j, _, rfl, D14, by omega, R14.ok j hj, R14.mo j hj, by have := hmm j hj; omega, fun H15 k15 D15 t15 => ?_⟩
          refine ⟨_, rfl, iteF ?_⟩
          exact ⟨_, rfl, R14.lst k15 t15 D14.lst.choose_spec nda ndb, D15.mono (by omega)⟩
        · rintro σ H14 ⟨v9', rfl, R14, D14⟩
          exact ⟨n, p, q, md, _, _, nd + 6 + 1 + n, _, _, _, rfl, R14, by omega, n3, hmm, D14.mono (by omega), by omega⟩
      refine ⟨_, rfl, _, n, rfl, .inl ⟨_, SqL.of R8.l1, by simp⟩, _, _, rfl, rfl, _, rfl, ?_⟩
      refine ite2 (fun hn2 => ?_) (fun _ => ?_)
      · have hn2 : (n : Int) < 4 := of_decide_eq_true hn2
        refine ⟨_, rfl, d, f, 6, nd + 1, rfl, by decide, by omega, D8, fun r H9 r0 r1 kp9 D9 t9 => ?_⟩
        have R9 := R8.lst kp9 t9 D8.lst.choose_spec nda ndb
        refine ⟨rfl, _, rfl, ?_⟩
        refine ite2 (fun _ => ?_) (fun _ => ?_)
        · have hkn : kk.toNat < n := by omega
          obtain ⟨⟨dxk, hpk⟩, _⟩ := R9.ok _ hkn
          have hlsz : ∀ (g : Nat → Addr), ((List.range n).map fun j => V.ref (g j)).length < sizeLine := fun g => by
            rw [List.length_map, List.length_range]
            exact Nat.lt_of_le_of_lt n3 (by decide)
          refine ⟨_, rfl, .inl ⟨rfl, _, SqL.of R9.l1⟩, _, rfl, _, rfl, La, _, _, _, rfl, rfl, SqL.of R9.l1, atR k0 k1, p kk.toNat, dxk, _, rfl, hpk, fld1_ne (by decide +kernel), p kk.toNat, q kk.toNat, m kk.toNat, rfl, R9.ok _ hkn, fun H10 pn qn npn nqn s10 hN10 t10 => ?_⟩
          refine ⟨La, _, _, rfl, rfl, s10 _ _ R9.l1, hlsz _, ?_⟩
          obtain ⟨kvk, hmk, rmk⟩ := R9.mo _ hkn
          have nLbLa : Lb ≠ La := nab.symm
          have hLb11 : ∀ o, upd H10 La o Lb = some (.lst ((List.range n).map fun j => V.ref (md j))) := fun o => by
            rw [upd_ne nLbLa]
            exact s10 _ _ R9.l2
          have hmk11 : ∀ o, upd H10 La o (md kk.toNat) = some (.dK kvk) := fun o => by
            rw [upd_ne (ne_of hmk R9.l1 (by intro z; cases z))]
            exact s10 _ _ hmk
          refine ⟨_, rfl, .inl ⟨rfl, _, SqL.of (hLb11 _)⟩, _, rfl, _, rfl, Lb, _, _, _, rfl, rfl, SqL.of (hLb11 _), atR k0 k1, md kk.toNat, kvk, rfl, .inl (hmk11 _), fun mdn nmdn => ?_⟩
          have nmL : Lb ≠ mdn := ne_of_none (hLb11 _) nmdn
          have nmLa : La ≠ mdn := ne_of_none upd_same nmdn
          refine ⟨Lb, _, _, rfl, rfl, (upd_ne nmL).trans (hLb11 _), hlsz _, ?_⟩
          have nm10 : H10 mdn = none := by
            rw [upd_ne nmLa.symm] at nmdn
            exact nmdn
          have K11 : Kp [La, Lb] H9 (upd H10 La (.lst (((List.range n).map fun j => V.ref (p j)) ++ [.ref pn]))) := (Kp.of s10).wr (by simp)
          have K13 : Kp [La, Lb] H9 (upd (upd (upd H10 La (.lst (((List.range n).map fun j => V.ref (p j)) ++ [.ref pn]))) mdn (.dK kvk)) Lb (.lst (((List.range n).map fun j => V.ref (md j)) ++ [.ref mdn]))) := (K11.new nmdn).wr (by simp)
          have T11 : TK H10 (upd H10 La (.lst (((List.range n).map fun j => V.ref (p j)) ++ [.ref pn]))) := (TK.refl _).wr (s10 _ _ R9.l1) rfl
          have T13 : TK H10 (upd (upd (upd H10 La (.lst (((List.range n).map fun j => V.ref (p j)) ++ [.ref pn]))) mdn (.dK kvk)) Lb (.lst (((List.range n).map fun j => V.ref (md j)) ++ [.ref mdn]))) := (T11.new nmdn).wr ((upd_ne nmL).trans (hLb11 _)) rfl
          have hN13 : HoldAt rwD K C (upd (upd (upd H10 La (.lst (((List.range n).map fun j => V.ref (p j)) ++ [.ref pn]))) mdn (.dK kvk)) Lb (.lst (((List.range n).map fun j => V.ref (md j)) ++ [.ref mdn]))) pn qn (m kk.toNat) := by
            obtain ⟨⟨dxn, hpn⟩, kvn, hqn, rqn⟩ := id hN10
            refine ⟨⟨dxn, ?_⟩, kvn, ?_, rqn.tk T13⟩
            · rw [upd_ne (ne_of hpn (s10 _ _ R9.l2) (by intro z; cases z)), upd_ne (ne_of_none hpn nm10), upd_ne (ne_of hpn (s10 _ _ R9.l1) (by intro z; cases z))]
              exact hpn
            · rw [upd_ne (ne_of hqn (s10 _ _ R9.l2) (by intro z; cases z)), upd_ne (ne_of_none hqn nm10), upd_ne (ne_of hqn (s10 _ _ R9.l1) (by intro z; cases z))]
              exact hqn
          have hnqm : qn ≠ mdn := by
            obtain ⟨_, kvn, hqn, _⟩ := id hN10
            exact ne_of_none hqn nm10
          have R13 := R9.push K13 (t10.trans T13) (by rw [upd_ne nab, upd_ne nmLa, upd_same]) upd_same hN13 ⟨kvk, by rw [upd_ne nmL.symm, upd_same], rmk.tk (t10.trans T13)⟩ nqn (s10.free nm10) hnqm
          have D13 := D9.kp K13 (nin2 nda ndb) (nin2 nfa nfb)
          refine rest _ _ ⟨n + 1, _, _, _, _, nd + 1 + 1, rfl, R13, by omega, by omega, fun j hj => ?_, D13, by omega⟩
          split
          · exact hm _ hkn
          · exact hm _ (by omega)
        · exact rest _ _ ⟨n, p, q, md, m, nd + 1 + 1, rfl, R9, k1, n3, hm, D9, by omega⟩
      · exact rest _ _ ⟨n, p, q, md, m, nd + 1, rfl, R8, k1, n3, hm, D8, by omega⟩
    · rintro σ H7 ⟨n, p, q, md, m, beat, nd, v5, v6, v7, rfl, _⟩
      exact k _
end
end Wn

namespace Wn
open PySem L2
theorem all_mk {l : PySem.W.OpenLaw} {w : World} {K : PySem.W.Frag} {h : Heap} {mg : Str → Option Value} {fa C_Table f_Table_init f_Table_learn f_Table_look f_Table_drop f_Table_rows f_Table_copy f_law_mixed f_law_deck f_law_next f_law_same f_law_learned f_law_rows f_law_looked f_law_deed f_law_tells f_law : Addr} (X : K.In h) (G : h.Ns mainGlobals mg) (hfa : mg "law" = some (.ref fa))
    {od_Table_init an_Table_init od_Table_learn an_Table_learn od_Table_look an_Table_look od_Table_drop an_Table_drop od_Table_rows an_Table_rows od_Table_copy an_Table_copy od_law_mixed an_law_mixed od_law_deck an_law_deck od_law_next an_law_next od_law_same an_law_same od_law_learned an_law_learned od_law_rows an_law_rows od_law_looked an_law_looked od_law_deed an_law_deed od_law_tells an_law_tells od_law an_law : Option Addr} {sl_Table_init sl_Table_learn sl_Table_look sl_Table_drop sl_Table_rows sl_Table_copy sl_law_mixed sl_law_deck sl_law_next sl_law_same sl_law_learned sl_law_rows sl_law_looked sl_law_deed sl_law_tells sl_law : Array (Option Value)} {oc_Table_init kV_Table_init dc_Table_init pm_Table_init cd_Table_init ct_Table_init oc_Table_learn kV_Table_learn dc_Table_learn pm_Table_learn cd_Table_learn ct_Table_learn oc_Table_look kV_Table_look dc_Table_look pm_Table_look cd_Table_look ct_Table_look oc_Table_drop kV_Table_drop dc_Table_drop pm_Table_drop cd_Table_drop ct_Table_drop oc_Table_rows kV_Table_rows dc_Table_rows pm_Table_rows cd_Table_rows ct_Table_rows oc_Table_copy kV_Table_copy dc_Table_copy pm_Table_copy cd_Table_copy ct_Table_copy oc_law_mixed kV_law_mixed dc_law_mixed pm_law_mixed cd_law_mixed ct_law_mixed oc_law_deck kV_law_deck dc_law_deck pm_law_deck cd_law_deck ct_law_deck oc_law_next kV_law_next dc_law_next pm_law_next cd_law_next ct_law_next oc_law_same kV_law_same dc_law_same pm_law_same cd_law_same ct_law_same oc_law_learned kV_law_learned dc_law_learned pm_law_learned cd_law_learned ct_law_learned oc_law_rows kV_law_rows dc_law_rows pm_law_rows cd_law_rows ct_law_rows oc_law_looked kV_law_looked dc_law_looked pm_law_looked cd_law_looked ct_law_looked oc_law_deed kV_law_deed dc_law_deed pm_law_deed cd_law_deed ct_law_deed oc_law_tells kV_law_tells dc_law_tells pm_law_tells cd_law_tells ct_law_tells oc_law kV_law dc_law pm_law cd_law ct_law : Value} {t_AGE : Tok}
    (a_AGE : PySem.W.nsIn K mainGlobals "AGE" = some (some (.int 10 t_AGE)))
    (a_C_Table : PySem.W.nsIn K mainGlobals "Table" = some (some (.ref C_Table)))
    (pg_C_Table : PySem.W.plainGet K C_Table Str.empty = true)
    (hd_C_Table : PySem.W.hasDictIn K C_Table = true)
    (po_C_Table : PySem.W.plainOver K C_Table = true)
    (sa_C_Table : PySem.W.findIn K (.ref C_Table) "__setattr__" = some (some (.builtin "object.__setattr__")))
    (mk_C_Table : PySem.W.makesIn K C_Table = true)
    (kc_C_Table : PySem.W.keepIn K (.ref C_Table) = true)
    (n_C_Table_by_hand : PySem.W.findIn K (.ref C_Table) "by_hand" = some none)
    (a_Table_init : PySem.W.findIn K (.ref C_Table) "__init__" = some (some (.ref f_Table_init)))
    (i_Table_init : PySem.W.isFn K (.ref f_Table_init) = true)
    (l_Table_init : K.lookup f_Table_init = some ⟨oc_Table_init, od_Table_init, .func (PySem.W.fnOf "__init__" "Table.__init__" (defArgs sInit) (defBody sInit) (defScope sInit) .none kV_Table_init dc_Table_init pm_Table_init an_Table_init cd_Table_init ct_Table_init), sl_Table_init⟩)
    (c_Table_init : PySem.W.codeIn K cd_Table_init "Table.__init__" = true)
    (k_Table_init : PySem.W.keepIn K (.ref f_Table_init) = true)
    (a_Table_learn : PySem.W.findIn K (.ref C_Table) "learn" = some (some (.ref f_Table_learn)))
    (i_Table_learn : PySem.W.isFn K (.ref f_Table_learn) = true)
    (l_Table_learn : K.lookup f_Table_learn = some ⟨oc_Table_learn, od_Table_learn, .func (PySem.W.fnOf "learn" "Table.learn" (defArgs sLearn) (defBody sLearn) (defScope sLearn) .none kV_Table_learn dc_Table_learn pm_Table_learn an_Table_learn cd_Table_learn ct_Table_learn), sl_Table_learn⟩)
    (c_Table_learn : PySem.W.codeIn K cd_Table_learn "Table.learn" = true)
    (k_Table_learn : PySem.W.keepIn K (.ref f_Table_learn) = true)
    (a_Table_look : PySem.W.findIn K (.ref C_Table) "look" = some (some (.ref f_Table_look)))
    (i_Table_look : PySem.W.isFn K (.ref f_Table_look) = true)
    (l_Table_look : K.lookup f_Table_look = some ⟨oc_Table_look, od_Table_look, .func (PySem.W.fnOf "look" "Table.look" (defArgs sLook) (defBody sLook) (defScope sLook) .none kV_Table_look dc_Table_look pm_Table_look an_Table_look cd_Table_look ct_Table_look), sl_Table_look⟩)
    (c_Table_look : PySem.W.codeIn K cd_Table_look "Table.look" = true)
    (k_Table_look : PySem.W.keepIn K (.ref f_Table_look) = true)
    (a_Table_drop : PySem.W.findIn K (.ref C_Table) "drop" = some (some (.ref f_Table_drop)))
    (i_Table_drop : PySem.W.isFn K (.ref f_Table_drop) = true)
    (l_Table_drop : K.lookup f_Table_drop = some ⟨oc_Table_drop, od_Table_drop, .func (PySem.W.fnOf "drop" "Table.drop" (defArgs sDrop) (defBody sDrop) (defScope sDrop) .none kV_Table_drop dc_Table_drop pm_Table_drop an_Table_drop cd_Table_drop ct_Table_drop), sl_Table_drop⟩)
    (c_Table_drop : PySem.W.codeIn K cd_Table_drop "Table.drop" = true)
    (k_Table_drop : PySem.W.keepIn K (.ref f_Table_drop) = true)
    (a_Table_rows : PySem.W.findIn K (.ref C_Table) "rows" = some (some (.ref f_Table_rows)))
    (i_Table_rows : PySem.W.isFn K (.ref f_Table_rows) = true)
    (l_Table_rows : K.lookup f_Table_rows = some ⟨oc_Table_rows, od_Table_rows, .func (PySem.W.fnOf "rows" "Table.rows" (defArgs sRows) (defBody sRows) (defScope sRows) .none kV_Table_rows dc_Table_rows pm_Table_rows an_Table_rows cd_Table_rows ct_Table_rows), sl_Table_rows⟩)
    (c_Table_rows : PySem.W.codeIn K cd_Table_rows "Table.rows" = true)
    (k_Table_rows : PySem.W.keepIn K (.ref f_Table_rows) = true)
    (a_Table_copy : PySem.W.findIn K (.ref C_Table) "copy" = some (some (.ref f_Table_copy)))
    (i_Table_copy : PySem.W.isFn K (.ref f_Table_copy) = true)
    (l_Table_copy : K.lookup f_Table_copy = some ⟨oc_Table_copy, od_Table_copy, .func (PySem.W.fnOf "copy" "Table.copy" (defArgs sCopy) (defBody sCopy) (defScope sCopy) .none kV_Table_copy dc_Table_copy pm_Table_copy an_Table_copy cd_Table_copy ct_Table_copy), sl_Table_copy⟩)
    (c_Table_copy : PySem.W.codeIn K cd_Table_copy "Table.copy" = true)
    (k_Table_copy : PySem.W.keepIn K (.ref f_Table_copy) = true)
    (a_law_mixed : PySem.W.nsIn K mainGlobals "_law_mixed" = some (some (.ref f_law_mixed)))
    (l_law_mixed : K.lookup f_law_mixed = some ⟨oc_law_mixed, od_law_mixed, .func (PySem.W.fnOf "_law_mixed" "_law_mixed" (defArgs sMixed) (defBody sMixed) (defScope sMixed) .none kV_law_mixed dc_law_mixed pm_law_mixed an_law_mixed cd_law_mixed ct_law_mixed), sl_law_mixed⟩)
    (c_law_mixed : PySem.W.codeIn K cd_law_mixed "_law_mixed" = true)
    (k_law_mixed : PySem.W.keepIn K (.ref f_law_mixed) = true)
    (a_law_deck : PySem.W.nsIn K mainGlobals "_law_deck" = some (some (.ref f_law_deck)))
    (l_law_deck : K.lookup f_law_deck = some ⟨oc_law_deck, od_law_deck, .func (PySem.W.fnOf "_law_deck" "_law_deck" (defArgs sDeck) (defBody sDeck) (defScope sDeck) .none kV_law_deck dc_law_deck pm_law_deck an_law_deck cd_law_deck ct_law_deck), sl_law_deck⟩)
    (c_law_deck : PySem.W.codeIn K cd_law_deck "_law_deck" = true)
    (k_law_deck : PySem.W.keepIn K (.ref f_law_deck) = true)
    (a_law_next : PySem.W.nsIn K mainGlobals "_law_next" = some (some (.ref f_law_next)))
    (l_law_next : K.lookup f_law_next = some ⟨oc_law_next, od_law_next, .func (PySem.W.fnOf "_law_next" "_law_next" (defArgs sNext) (defBody sNext) (defScope sNext) .none kV_law_next dc_law_next pm_law_next an_law_next cd_law_next ct_law_next), sl_law_next⟩)
    (c_law_next : PySem.W.codeIn K cd_law_next "_law_next" = true)
    (k_law_next : PySem.W.keepIn K (.ref f_law_next) = true)
    (a_law_same : PySem.W.nsIn K mainGlobals "_law_same" = some (some (.ref f_law_same)))
    (l_law_same : K.lookup f_law_same = some ⟨oc_law_same, od_law_same, .func (PySem.W.fnOf "_law_same" "_law_same" (defArgs sSame) (defBody sSame) (defScope sSame) .none kV_law_same dc_law_same pm_law_same an_law_same cd_law_same ct_law_same), sl_law_same⟩)
    (c_law_same : PySem.W.codeIn K cd_law_same "_law_same" = true)
    (k_law_same : PySem.W.keepIn K (.ref f_law_same) = true)
    (a_law_learned : PySem.W.nsIn K mainGlobals "_law_learned" = some (some (.ref f_law_learned)))
    (l_law_learned : K.lookup f_law_learned = some ⟨oc_law_learned, od_law_learned, .func (PySem.W.fnOf "_law_learned" "_law_learned" (defArgs sLearned) (defBody sLearned) (defScope sLearned) .none kV_law_learned dc_law_learned pm_law_learned an_law_learned cd_law_learned ct_law_learned), sl_law_learned⟩)
    (c_law_learned : PySem.W.codeIn K cd_law_learned "_law_learned" = true)
    (k_law_learned : PySem.W.keepIn K (.ref f_law_learned) = true)
    (a_law_rows : PySem.W.nsIn K mainGlobals "_law_rows" = some (some (.ref f_law_rows)))
    (l_law_rows : K.lookup f_law_rows = some ⟨oc_law_rows, od_law_rows, .func (PySem.W.fnOf "_law_rows" "_law_rows" (defArgs sLRows) (defBody sLRows) (defScope sLRows) .none kV_law_rows dc_law_rows pm_law_rows an_law_rows cd_law_rows ct_law_rows), sl_law_rows⟩)
    (c_law_rows : PySem.W.codeIn K cd_law_rows "_law_rows" = true)
    (k_law_rows : PySem.W.keepIn K (.ref f_law_rows) = true)
    (a_law_looked : PySem.W.nsIn K mainGlobals "_law_looked" = some (some (.ref f_law_looked)))
    (l_law_looked : K.lookup f_law_looked = some ⟨oc_law_looked, od_law_looked, .func (PySem.W.fnOf "_law_looked" "_law_looked" (defArgs sLooked) (defBody sLooked) (defScope sLooked) .none kV_law_looked dc_law_looked pm_law_looked an_law_looked cd_law_looked ct_law_looked), sl_law_looked⟩)
    (c_law_looked : PySem.W.codeIn K cd_law_looked "_law_looked" = true)
    (k_law_looked : PySem.W.keepIn K (.ref f_law_looked) = true)
    (a_law_deed : PySem.W.nsIn K mainGlobals "_law_deed" = some (some (.ref f_law_deed)))
    (l_law_deed : K.lookup f_law_deed = some ⟨oc_law_deed, od_law_deed, .func (PySem.W.fnOf "_law_deed" "_law_deed" (defArgs sDeed) (defBody sDeed) (defScope sDeed) .none kV_law_deed dc_law_deed pm_law_deed an_law_deed cd_law_deed ct_law_deed), sl_law_deed⟩)
    (c_law_deed : PySem.W.codeIn K cd_law_deed "_law_deed" = true)
    (k_law_deed : PySem.W.keepIn K (.ref f_law_deed) = true)
    (a_law_tells : PySem.W.nsIn K mainGlobals "_law_tells" = some (some (.ref f_law_tells)))
    (l_law_tells : K.lookup f_law_tells = some ⟨oc_law_tells, od_law_tells, .func (PySem.W.fnOf "_law_tells" "_law_tells" (defArgs sTells) (defBody sTells) (defScope sTells) .none kV_law_tells dc_law_tells pm_law_tells an_law_tells cd_law_tells ct_law_tells), sl_law_tells⟩)
    (c_law_tells : PySem.W.codeIn K cd_law_tells "_law_tells" = true)
    (k_law_tells : PySem.W.keepIn K (.ref f_law_tells) = true)
    (a_law : PySem.W.nsIn K mainGlobals "law" = some (some (.ref f_law)))
    (l_law : K.lookup f_law = some ⟨oc_law, od_law, .func (PySem.W.fnOf "law" "law" (defArgs sLaw) (defBody sLaw) (defScope sLaw) .none kV_law dc_law pm_law an_law cd_law ct_law), sl_law⟩)
    (c_law : PySem.W.codeIn K cd_law "law" = true)
    (k_law : PySem.W.keepIn K (.ref f_law) = true)
    (z_len : PySem.W.nsIn K mainGlobals "len" = some none)
    (z_range : PySem.W.nsIn K mainGlobals "range" = some none)
    (z_min : PySem.W.nsIn K mainGlobals "min" = some none)
    (z_max : PySem.W.nsIn K mainGlobals "max" = some none)
    (z_isinstance : PySem.W.nsIn K mainGlobals "isinstance" = some none)
    (z_tuple : PySem.W.nsIn K mainGlobals "tuple" = some none)
    (z_bool : PySem.W.nsIn K mainGlobals "bool" = some none)
    (z_str : PySem.W.nsIn K mainGlobals "str" = some none)
    (z_int : PySem.W.nsIn K mainGlobals "int" = some none)
    (z_all : PySem.W.nsIn K mainGlobals "all" = some none)
    (z_list : PySem.W.nsIn K mainGlobals "list" = some none)
    (z_dict : PySem.W.nsIn K mainGlobals "dict" = some none)
    (z_sorted : PySem.W.nsIn K mainGlobals "sorted" = some none) :
    ∃ fd : FuncData, (∀ (s : Shared) (v : Value), BindsTo s fd ⟨[v], []⟩ [("_law_script", v)]) ∧ ∀ base : Heap, K.In base → base.Ns mainGlobals mg → FnOk l.prog w K mg base CX0 5 fa fd ["_law_script"] (spLaw K) := by
  have e := hfa.symm.trans (PySem.W.mg_of X G a_law)
  cases e
  have m_AGE := PySem.W.mg_of X G a_AGE
  have m_C_Table := PySem.W.mg_of X G a_C_Table
  have cl_C_Table : Cls K C_Table := ⟨pg_C_Table, hd_C_Table, po_C_Table, sa_C_Table⟩
  have F_Table_init := fun_mk (st := sInit) l_Table_init c_Table_init k_Table_init
  have b_Table_init := F_Table_init.binds (ps := ["self"]) fun _ _ _ _ _ _ us hl => match us, hl with | [_], _ => rfl
  have M_Table_init : Meth K C_Table "__init__" f_Table_init := ⟨a_Table_init, i_Table_init, k_Table_init⟩
  have F_Table_learn := fun_mk (st := sLearn) l_Table_learn c_Table_learn k_Table_learn
  have b_Table_learn := F_Table_learn.binds (ps := ["self", "hand", "place", "number", "beat"]) fun _ _ _ _ _ _ us hl => match us, hl with | [_, _, _, _, _], _ => rfl
  have M_Table_learn : Meth K C_Table "learn" f_Table_learn := ⟨a_Table_learn, i_Table_learn, k_Table_learn⟩
  have F_Table_look := fun_mk (st := sLook) l_Table_look c_Table_look k_Table_look
  have b_Table_look := F_Table_look.binds (ps := ["self", "hand", "beat"]) fun _ _ _ _ _ _ us hl => match us, hl with | [_, _, _], _ => rfl
  have M_Table_look : Meth K C_Table "look" f_Table_look := ⟨a_Table_look, i_Table_look, k_Table_look⟩
  have F_Table_drop := fun_mk (st := sDrop) l_Table_drop c_Table_drop k_Table_drop
  have b_Table_drop := F_Table_drop.binds (ps := ["self", "hand"]) fun _ _ _ _ _ _ us hl => match us, hl with | [_, _], _ => rfl
  have M_Table_drop : Meth K C_Table "drop" f_Table_drop := ⟨a_Table_drop, i_Table_drop, k_Table_drop⟩
  have F_Table_rows := fun_mk (st := sRows) l_Table_rows c_Table_rows k_Table_rows
  have b_Table_rows := F_Table_rows.binds (ps := ["self"]) fun _ _ _ _ _ _ us hl => match us, hl with | [_], _ => rfl
  have M_Table_rows : Meth K C_Table "rows" f_Table_rows := ⟨a_Table_rows, i_Table_rows, k_Table_rows⟩
  have F_Table_copy := fun_mk (st := sCopy) l_Table_copy c_Table_copy k_Table_copy
  have b_Table_copy := F_Table_copy.binds (ps := ["self"]) fun _ _ _ _ _ _ us hl => match us, hl with | [_], _ => rfl
  have M_Table_copy : Meth K C_Table "copy" f_Table_copy := ⟨a_Table_copy, i_Table_copy, k_Table_copy⟩
  have F_law_mixed := fun_mk (st := sMixed) l_law_mixed c_law_mixed k_law_mixed
  have b_law_mixed := F_law_mixed.binds (ps := ["_law_cell", "_law_at"]) fun _ _ _ _ _ _ us hl => match us, hl with | [_, _], _ => rfl
  have m_law_mixed := PySem.W.mg_of X G a_law_mixed
  have F_law_deck := fun_mk (st := sDeck) l_law_deck c_law_deck k_law_deck
  have b_law_deck := F_law_deck.binds (ps := ["_law_script"]) fun _ _ _ _ _ _ us hl => match us, hl with | [_], _ => rfl
  have m_law_deck := PySem.W.mg_of X G a_law_deck
  have F_law_next := fun_mk (st := sNext) l_law_next c_law_next k_law_next
  have b_law_next := F_law_next.binds (ps := ["_law_deck_here", "_law_many"]) fun _ _ _ _ _ _ us hl => match us, hl with | [_, _], _ => rfl
  have m_law_next := PySem.W.mg_of X G a_law_next
  have F_law_same := fun_mk (st := sSame) l_law_same c_law_same k_law_same
  have b_law_same := F_law_same.binds (ps := ["_law_thing", "_law_due"]) fun _ _ _ _ _ _ us hl => match us, hl with | [_, _], _ => rfl
  have m_law_same := PySem.W.mg_of X G a_law_same
  have F_law_learned := fun_mk (st := sLearned) l_law_learned c_law_learned k_law_learned
  have b_law_learned := F_law_learned.binds (ps := ["_law_model", "_law_hand", "_law_place", "_law_number", "_law_beat"]) fun _ _ _ _ _ _ us hl => match us, hl with | [_, _, _, _, _], _ => rfl
  have m_law_learned := PySem.W.mg_of X G a_law_learned
  have F_law_rows := fun_mk (st := sLRows) l_law_rows c_law_rows k_law_rows
  have b_law_rows := F_law_rows.binds (ps := ["_law_model"]) fun _ _ _ _ _ _ us hl => match us, hl with | [_], _ => rfl
  have m_law_rows := PySem.W.mg_of X G a_law_rows
  have F_law_looked := fun_mk (st := sLooked) l_law_looked c_law_looked k_law_looked
  have b_law_looked := F_law_looked.binds (ps := ["_law_model", "_law_hand", "_law_beat"]) fun _ _ _ _ _ _ us hl => match us, hl with | [_, _, _], _ => rfl
  have m_law_looked := PySem.W.mg_of X G a_law_looked
  have F_law_deed := fun_mk (st := sDeed) l_law_deed c_law_deed k_law_deed
  have b_law_deed := F_law_deed.binds (ps := ["_law_deck_here", "_law_table", "_law_model", "_law_beat"]) fun _ _ _ _ _ _ us hl => match us, hl with | [_, _, _, _], _ => rfl
  have m_law_deed := PySem.W.mg_of X G a_law_deed
  have F_law_tells := fun_mk (st := sTells) l_law_tells c_law_tells k_law_tells
  have b_law_tells := F_law_tells.binds (ps := ["_law_deck_here", "_law_table", "_law_model", "_law_beat"]) fun _ _ _ _ _ _ us hl => match us, hl with | [_, _, _, _], _ => rfl
  have m_law_tells := PySem.W.mg_of X G a_law_tells
  have F_law := fun_mk (st := sLaw) l_law c_law k_law
  have b_law := F_law.binds (ps := ["_law_script"]) fun _ _ _ _ _ _ us hl => match us, hl with | [_], _ => rfl
  have n_len := PySem.W.mg_none_of X G z_len
  have n_range := PySem.W.mg_none_of X G z_range
  have n_min := PySem.W.mg_none_of X G z_min
  have n_max := PySem.W.mg_none_of X G z_max
  have n_isinstance := PySem.W.mg_none_of X G z_isinstance
  have n_tuple := PySem.W.mg_none_of X G z_tuple
  have n_bool := PySem.W.mg_none_of X G z_bool
  have n_str := PySem.W.mg_none_of X G z_str
  have n_int := PySem.W.mg_none_of X G z_int
  have n_all := PySem.W.mg_none_of X G z_all
  have n_list := PySem.W.mg_none_of X G z_list
  have n_dict := PySem.W.mg_none_of X G z_dict
  have n_sorted := PySem.W.mg_none_of X G z_sorted
  refine ⟨PySem.W.fnOf "law" "law" (defArgs sLaw) (defBody sLaw) (defScope sLaw) .none kV_law dc_law pm_law an_law cd_law ct_law, fun s v => .of_eq rfl, fun base _ _ => ?_⟩
  have T : TN K mg C_Table := ⟨cl_C_Table, n_C_Table_by_hand, m_C_Table, ⟨_, m_AGE⟩, n_tuple, n_list, n_dict, n_sorted⟩
  have B : SameB mg := ⟨n_isinstance, n_tuple, n_bool, n_str, n_int, n_all, n_len, n_range⟩
  have cM : Cd l.prog w K mg base 1 "_law_mixed" ["_law_cell", "_law_at"] spMixed := ⟨_, _, ok_mixed F_law_mixed, m_law_mixed, k_law_mixed, b_law_mixed⟩
  have cN : Cd l.prog w K mg base 2 "_law_next" ["_law_deck_here", "_law_many"] spNext := ⟨_, _, ok_next F_law_next n_len cM, m_law_next, k_law_next, b_law_next⟩
  have cD : Cd l.prog w K mg base 2 "_law_deck" ["_law_script"] (spDeck K) := ⟨_, _, ok_deck F_law_deck n_len n_range n_min cM, m_law_deck, k_law_deck, b_law_deck⟩
  have cS : Cd l.prog w K mg base 3 "_law_same" ["_law_thing", "_law_due"] (spSame K 3) := ⟨_, _, ok_same F_law_same B m_law_same k_law_same b_law_same 3, m_law_same, k_law_same, b_law_same⟩
  have GI := ok_init (P := l.prog) (w := w) (base := base) F_Table_init T
  have MK : Mk K C_Table f_Table_init := ⟨mk_C_Table, a_Table_init, i_Table_init, kc_C_Table⟩
  have cE : Cd l.prog w K mg base 1 "_law_learned" ["_law_model", "_law_hand", "_law_place", "_law_number", "_law_beat"] (spLearned K) := ⟨_, _, ok_learned F_law_learned, m_law_learned, k_law_learned, b_law_learned⟩
  have cR : Cd l.prog w K mg base 1 "_law_rows" ["_law_model"] (spLRows K) := ⟨_, _, ok_lrows F_law_rows T, m_law_rows, k_law_rows, b_law_rows⟩
  have cL : Cd l.prog w K mg base 1 "_law_looked" ["_law_model", "_law_hand", "_law_beat"] (spLooked K) := ⟨_, _, ok_looked F_law_looked T, m_law_looked, k_law_looked, b_law_looked⟩
  have cT : Cd l.prog w K mg base 4 "_law_tells" ["_law_deck_here", "_law_table", "_law_model", "_law_beat"] (spTells K C_Table) := ⟨_, _, ok_tells F_law_tells T n_range n_max cN cS cR cL ⟨_, _, ok_rows F_Table_rows T, M_Table_rows, b_Table_rows⟩ ⟨_, _, ok_look F_Table_look T, M_Table_look, b_Table_look⟩, m_law_tells, k_law_tells, b_law_tells⟩
  have cX : Cd l.prog w K mg base 3 "_law_deed" ["_law_deck_here", "_law_table", "_law_model", "_law_beat"] (spDeed K C_Table) := ⟨_, _, ok_deed F_law_deed T cN cE ⟨_, _, ok_learn F_Table_learn T, M_Table_learn, b_Table_learn⟩ ⟨_, _, ok_drop F_Table_drop T, M_Table_drop, b_Table_drop⟩, m_law_deed, k_law_deed, b_law_deed⟩
  exact ok_law F_law T n_range n_len MK GI b_Table_init cN cD cX cT ⟨_, _, ok_copy F_Table_copy T MK GI b_Table_init, M_Table_copy, b_Table_copy⟩
theorem walk {l : PySem.W.OpenLaw} {q : Program} {loose : List Str} {XP : (Str → Option Value) → Heap → Prop} {YP : World → Heap → Prop} {d : DefRec} {K : Params → PySem.W.Frag} (hn : l.most = some 63) (hdf : d.params.defaults = [])
    (hY : ∀ (w : World) (h : Heap), YP w h → (K w.params).In h)
    (F : ∀ (w : World) (mg : Str → Option Value) (fa : Addr) (h : Heap), (K w.params).In h → h.Ns mainGlobals mg → mg d.name = some (.ref fa) →
      ∃ fd : FuncData, (∀ (s : Shared) (u : Value), BindsTo s fd ⟨[u], []⟩ [("_law_script", u)]) ∧ ∀ base : Heap, (K w.params).In base → base.Ns mainGlobals mg → FnOk l.prog w (K w.params) mg base CX0 5 fa fd ["_law_script"] (spLaw (K w.params))) :
    PySem.W.WalkO q loose XP YP l.row.toRowW d [] (fun f vs => PySem.call f vs) :=
  L2.walk_of (n := 63) (k := 5) (x := "_law_script") (CX := fun _ => CX0) (sp := fun w => spLaw (K w.params)) hn (by decide) hdf ⟨rfl, by decide, by decide⟩ hY F (fun _ _ a ns hl _ hS => ⟨a, ns, rfl, hS, hl, fun _ => rfl⟩) fun _ _ _ _ _ z => z
end Wn

open PySem PySem.W PyProof.Rows in
set_option maxRecDepth 100000 in
set_option maxHeartbeats 0 in
theorem PySem.Challenge.cw_wrapnets_k17_tables_and_copies_holds : PySem.Challenge.rw_wrapnets_k17_tables_and_copies.Holds := by
  w_on; o_law; k_head; (case hw => w_witness2)
  k_fill
  refine Wn.walk (l := PySem.Challenge.rw_wrapnets_k17_tables_and_copies) rfl rfl (fun w h Y => PySem.W.kIn_of Y) ?F
  case F =>
    intro w mg fa h KX G hmg
    refine' Wn.all_mk KX G hmg ?a_AGE ?a_C_Table ?pg_C_Table ?hd_C_Table ?po_C_Table ?sa_C_Table ?mk_C_Table ?kc_C_Table ?n_C_Table_by_hand ?a_Table_init ?i_Table_init ?l_Table_init ?c_Table_init ?k_Table_init ?a_Table_learn ?i_Table_learn ?l_Table_learn ?c_Table_learn ?k_Table_learn ?a_Table_look ?i_Table_look ?l_Table_look ?c_Table_look ?k_Table_look ?a_Table_drop ?i_Table_drop ?l_Table_drop ?c_Table_drop ?k_Table_drop ?a_Table_rows ?i_Table_rows ?l_Table_rows ?c_Table_rows ?k_Table_rows ?a_Table_copy ?i_Table_copy ?l_Table_copy ?c_Table_copy ?k_Table_copy ?a_law_mixed ?l_law_mixed ?c_law_mixed ?k_law_mixed ?a_law_deck ?l_law_deck ?c_law_deck ?k_law_deck ?a_law_next ?l_law_next ?c_law_next ?k_law_next ?a_law_same ?l_law_same ?c_law_same ?k_law_same ?a_law_learned ?l_law_learned ?c_law_learned ?k_law_learned ?a_law_rows ?l_law_rows ?c_law_rows ?k_law_rows ?a_law_looked ?l_law_looked ?c_law_looked ?k_law_looked ?a_law_deed ?l_law_deed ?c_law_deed ?k_law_deed ?a_law_tells ?l_law_tells ?c_law_tells ?k_law_tells ?a_law ?l_law ?c_law ?k_law ?z_len ?z_range ?z_min ?z_max ?z_isinstance ?z_tuple ?z_bool ?z_str ?z_int ?z_all ?z_list ?z_dict ?z_sorted
    (case a_AGE => k_is)
    (case a_C_Table => k_is)
    (case pg_C_Table => k_is)
    (case hd_C_Table => k_is)
    (case po_C_Table => k_is)
    (case sa_C_Table => k_is)
    (case mk_C_Table => k_is)
    (case kc_C_Table => k_is)
    (case n_C_Table_by_hand => k_is)
    (case a_Table_init => k_is)
    (case i_Table_init => k_is)
    (case l_Table_init => k_is)
    (case c_Table_init => k_is)
    (case k_Table_init => k_is)
    (case a_Table_learn => k_is)
    (case i_Table_learn => k_is)
    (case l_Table_learn => k_is)
    (case c_Table_learn => k_is)
    (case k_Table_learn => k_is)
    (case a_Table_look => k_is)
    (case i_Table_look => k_is)
    (case l_Table_look => k_is)
    (case c_Table_look => k_is)
    (case k_Table_look => k_is)
    (case a_Table_drop => k_is)
    (case i_Table_drop => k_is)
    (case l_Table_drop => k_is)
    (case c_Table_drop => k_is)
    (case k_Table_drop => k_is)
    (case a_Table_rows => k_is)
    (case i_Table_rows => k_is)
    (case l_Table_rows => k_is)
    (case c_Table_rows => k_is)
    (case k_Table_rows => k_is)
    (case a_Table_copy => k_is)
    (case i_Table_copy => k_is)
    (case l_Table_copy => k_is)
    (case c_Table_copy => k_is)
    (case k_Table_copy => k_is)
    (case a_law_mixed => k_is)
    (case l_law_mixed => k_is)
    (case c_law_mixed => k_is)
    (case k_law_mixed => k_is)
    (case a_law_deck => k_is)
    (case l_law_deck => k_is)
    (case c_law_deck => k_is)
    (case k_law_deck => k_is)
    (case a_law_next => k_is)
    (case l_law_next => k_is)
    (case c_law_next => k_is)
    (case k_law_next => k_is)
    (case a_law_same => k_is)
    (case l_law_same => k_is)
    (case c_law_same => k_is)
    (case k_law_same => k_is)
    (case a_law_learned => k_is)
    (case l_law_learned => k_is)
    (case c_law_learned => k_is)
    (case k_law_learned => k_is)
    (case a_law_rows => k_is)
    (case l_law_rows => k_is)
    (case c_law_rows => k_is)
    (case k_law_rows => k_is)
    (case a_law_looked => k_is)
    (case l_law_looked => k_is)
    (case c_law_looked => k_is)
    (case k_law_looked => k_is)
    (case a_law_deed => k_is)
    (case l_law_deed => k_is)
    (case c_law_deed => k_is)
    (case k_law_deed => k_is)
    (case a_law_tells => k_is)
    (case l_law_tells => k_is)
    (case c_law_tells => k_is)
    (case k_law_tells => k_is)
    (case a_law => k_is)
    (case l_law => k_is)
    (case c_law => k_is)
    (case k_law => k_is)
    (case z_len => k_is)
    (case z_range => k_is)
    (case z_min => k_is)
    (case z_max => k_is)
    (case z_isinstance => k_is)
    (case z_tuple => k_is)
    (case z_bool => k_is)
    (case z_str => k_is)
    (case z_int => k_is)
    (case z_all => k_is)
    (case z_list => k_is)
    (case z_dict => k_is)
    (case z_sorted => k_is)
