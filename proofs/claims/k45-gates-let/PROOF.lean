import PyProof.Rows.All
import Wide.All
import OpenK.AllK
import Wide.FinOn
import HandS.ForMost
import HandS.IsInst
import HandS.Flow
import HandS.SortInts
import HandS.More
import HandS.Text
import HandS.Walk
import HandS.Conv
import HandS.TupAny
import HandS.TryOnly
import HandS.Deep
import HandS.Style
import PyProof.ReprRoads
import PySem.Challenge.RW_wrapnets_k45_gates_let
set_option Elab.async false
set_option maxRecDepth 100000
set_option linter.all false
namespace Wn
open PySem L2

/-- what a caller knows of a def: that it keeps a promise, and where it stands -/
def Cd (P : Program) (w : World) (K : PySem.W.Frag) (mg : Str → Option Value) (base : Heap) (k : Nat) (name : Str) (ps : List Str) (sp : Sp) : Prop :=
  ∃ (f : Addr) (fd : FuncData), FnOk P w K mg base CX0 k f fd ps sp ∧ mg name = some (.ref f) ∧ PySem.W.keepIn K (.ref f) = true ∧ Binds K fd ps []
/-- what a caller knows of a method -/
def Md (P : Program) (w : World) (K : PySem.W.Frag) (mg : Str → Option Value) (base : Heap) (k : Nat) (C : Addr) (name : Str) (ps : List Str) (sp : Sp) : Prop :=
  ∃ (f : Addr) (fd : FuncData), FnOk P w K mg base CX0 k f fd ps sp ∧ Meth K C name f ∧ Binds K fd ps []

/-- all but some addresses stay -/
def Kp (M : List Addr) (H H' : Hp) : Prop := ∀ b o, b ∉ M → H b = some o → H' b = some o
theorem Kp.refl (M : List Addr) (H : Hp) : Kp M H H := fun _ _ _ h => h
theorem Kp.trans {M : List Addr} {H H1 H2 : Hp} (a : Kp M H H1) (b : Kp M H1 H2) : Kp M H H2 := fun c o hc h => b c o hc (a c o hc h)
theorem Kp.mono {M M' : List Addr} {H H1 : Hp} (a : Kp M H H1) (h : ∀ x ∈ M, x ∈ M') : Kp M' H H1 := fun c o hc q => a c o (fun z => hc (h c z)) q
theorem Kp.of {M : List Addr} {H H1 : Hp} (a : Same H H1) : Kp M H H1 := fun c o _ q => a c o q
theorem Kp.new {M : List Addr} {H H1 : Hp} {p : Addr} {o : HO} (a : Kp M H H1) (hp : H1 p = none) : Kp M H (upd H1 p o) := fun c u hc q => by
  rw [upd_ne (ne_of_none (a c u hc q) hp)]
  exact a c u hc q
theorem Kp.wr {M : List Addr} {H H1 : Hp} {p : Addr} {o : HO} (a : Kp M H H1) (hp : p ∈ M) : Kp M H (upd H1 p o) := fun c u hc q => by
  rw [upd_ne (show c ≠ p from fun z => hc (by rw [z]; exact hp))]
  exact a c u hc q
/-- a write to what wasn't there at first -/
theorem Kp.wrn {M : List Addr} {H H1 : Hp} {p : Addr} {o : HO} (a : Kp M H H1) (hp : H p = none) : Kp M H (upd H1 p o) := fun c u hc q => by
  rw [upd_ne (ne_of_none q hp)]
  exact a c u hc q
theorem _root_.L2.Same.new {H H1 : Hp} {p : Addr} {o : HO} (a : Same H H1) (hp : H1 p = none) : Same H (upd H1 p o) := fun c u q => by
  rw [upd_ne (ne_of_none (a c u q) hp)]
  exact a c u q
theorem _root_.L2.Same.wrn {H H1 : Hp} {p : Addr} {o : HO} (a : Same H H1) (hp : H p = none) : Same H (upd H1 p o) := fun c u q => by
  rw [upd_ne (ne_of_none q hp)]
  exact a c u q

/-- a while by a word and a measure -/
theorem while_m {c : TT} {tb : TS} {D : Ends} {σ : L2.St} {H : Hp} (Pv : L2.St → Hp → Prop) (μ : L2.St → Hp → Nat) (h0 : Pv σ H)
    (hs : ∀ m σ H, m = μ σ H → Pv σ H → c σ H fun b H1 => if b = true then ∃ N : L2.St → Hp → Prop, (∀ σ' H', N σ' H' → ∃ m', m' < m ∧ (m' = μ σ' H' ∧ Pv σ' H')) ∧ tb { D with nx := N, ct := N, bk := D.nx } σ H1 else D.nx σ H1) : tWhile c tb D σ H :=
  ⟨fun m σ H => m = μ σ H ∧ Pv σ H, ⟨_, rfl, h0⟩, fun m σ H ⟨e, p⟩ => hs m σ H e p⟩

/-! ### the deck -/
def spMixed : Sp := fun vs H Q _ => ∃ (c a : Int), vs = [.int c, .int a] ∧ -1 ≤ a ∧ a < 2 ^ 60 ∧ ∀ r : Int, Q (.int r) H
/-- a deck at d, of which n draws were taken at most -/
def Deck (H : Hp) (d f : Addr) (n : Int) : Prop :=
  ∃ (a wh : Int) (xs : List Int), H d = some (.lst [.int a, .int wh, .ref f]) ∧ H f = some (.lst (xs.map V.int)) ∧ 0 ≤ a ∧ a ≤ n ∧ xs.length ≤ 100000
def spNext : Sp := fun vs H Q _ => ∃ (d f : Addr) (m n : Int), vs = [.ref d, .int m] ∧ 0 < m ∧ n < 2 ^ 60 ∧ Deck H d f n ∧
  ∀ (r : Int) (H' : Hp), 0 ≤ r → r < m → Kp [d] H H' → Deck H' d f (n + 1) → Q (.int r) H'
def spDeck (K : PySem.W.Frag) : Sp := fun vs H Q _ => ∃ (a : Addr) (ns : List Int), vs = [.ref a] ∧ SqL K H a (ns.map V.int) ∧ ns.length ≤ 63 ∧
  ∀ (H' : Hp) (d f : Addr), H d = none → H f = none → Same H H' → Deck H' d f 0 → Q (.ref d) H'
end Wn

namespace Wn
open PySem L2
/-! ### tuples stay, whatever is called -/
def TK (H H' : Hp) : Prop := (∀ b xs, H b = some (.tup xs) → H' b = some (.tup xs)) ∧ (∀ b o u, H b = some (.frz o u) → H' b = some (.frz o u))
theorem TK.refl (H : Hp) : TK H H := ⟨fun _ _ h => h, fun _ _ _ h => h⟩
theorem TK.trans {H H1 H2 : Hp} (a : TK H H1) (b : TK H1 H2) : TK H H2 := ⟨fun c o h => b.1 c o (a.1 c o h), fun c o u h => b.2 c o u (a.2 c o u h)⟩
theorem TK.of {H H1 : Hp} (a : Same H H1) : TK H H1 := ⟨fun c o h => a _ _ h, fun c o u h => a _ _ h⟩
theorem TK.new {H H1 : Hp} {p : Addr} {o : HO} (a : TK H H1) (hp : H1 p = none) : TK H (upd H1 p o) :=
  ⟨fun c u q => by rw [upd_ne (ne_of_none (a.1 c u q) hp)]; exact a.1 c u q, fun c u z q => by rw [upd_ne (ne_of_none (a.2 c u z q) hp)]; exact a.2 c u z q⟩
/-- what is neither a tuple nor locked may be written -/
def Wrt : HO → Bool
  | .tup _ => false
  | .frz _ _ => false
  | _ => true
theorem TK.wr {H H1 : Hp} {p : Addr} {o u : HO} (a : TK H H1) (hp : H1 p = some u) (hu : Wrt u = true) : TK H (upd H1 p o) :=
  ⟨fun c v q => by
    have h1 := a.1 c v q
    rw [upd_ne (ne_of h1 hp (fun z => by rw [← z] at hu; cases hu))]
    exact h1, fun c v z q => by
    have h1 := a.2 c v z q
    rw [upd_ne (ne_of h1 hp (fun z => by rw [← z] at hu; cases hu))]
    exact h1⟩
theorem _root_.L2.FnOk.tk {P : Program} {w : World} {K : PySem.W.Frag} {mg : Str → Option Value} {base : Heap} {k : Nat} {f : Addr} {fd : FuncData} {ps : List Str} {sp : Sp} (F : FnOk P w K mg base CX0 k f fd ps sp) :
    FnOk P w K mg base CX0 k f fd ps (fun vs H Q E => sp vs H (fun v H' => TK H H' → Q v H') E) := by
  refine ⟨fun vs H Q E q => F.len vs H _ E q, fun A outer s H args us vs Q E hr he hb hv hs => ?_⟩
  refine codeAny_mono (F.run A outer s H args us vs _ E hr he hb hv hs) fun r s' h => ?_
  cases r with
  | ok fl =>
    cases fl with
    | ret u =>
      obtain ⟨v, H', e1, e2, e3, e4, e5, q⟩ := h
      exact ⟨v, H', e1, e2, e3, e4, e5, q ⟨e3.tups, e3.frzs⟩⟩
    | _ => exact h
  | error e => exact h
/-- a promise, tuples kept besides -/
def Tk (sp : Sp) : Sp := fun vs H Q E => sp vs H (fun v H' => TK H H' → Q v H') E
theorem Cd.tk {P : Program} {w : World} {K : PySem.W.Frag} {mg : Str → Option Value} {base : Heap} {k : Nat} {name : Str} {ps : List Str} {sp : Sp} (h : Cd P w K mg base k name ps sp) : Cd P w K mg base k name ps (Tk sp) := by
  obtain ⟨f, fd, G, a, b, c⟩ := h
  exact ⟨f, fd, G.tk, a, b, c⟩
theorem Md.tk {P : Program} {w : World} {K : PySem.W.Frag} {mg : Str → Option Value} {base : Heap} {k : Nat} {C : Addr} {name : Str} {ps : List Str} {sp : Sp} (h : Md P w K mg base k C name ps sp) : Md P w K mg base k C name ps (Tk sp) := by
  obtain ⟨f, fd, G, a, b⟩ := h
  exact ⟨f, fd, G.tk, a, b⟩

/-! ### data: None, truths, ints, texts, tuples of these -/
mutual
def Rp (K : PySem.W.Frag) (H : Hp) : PyData → V → Prop
  | .none, v => v = .non
  | .bool b, v => v = .bl b
  | .int i, v => v = .int i
  | .str s, v => v = .str s
  | .tuple ds, v => ∃ a xs, v = .ref a ∧ SqT K H a xs ∧ RpL K H ds xs
  | .list _, _ => False
  | .dict _, _ => False
def RpL (K : PySem.W.Frag) (H : Hp) : List PyData → List V → Prop
  | [], xs => xs = []
  | d :: ds, xs => ∃ v r, xs = v :: r ∧ Rp K H d v ∧ RpL K H ds r
end
mutual
def dep : PyData → Nat
  | .tuple xs => deps xs + 1
  | _ => 0
def deps : List PyData → Nat
  | [] => 0
  | x :: xs => max (dep x) (deps xs)
end
mutual
def sz : PyData → Nat
  | .tuple xs => szs xs + 1
  | _ => 1
def szs : List PyData → Nat
  | [] => 0
  | x :: xs => sz x + szs xs
end
theorem SqT.tk {K : PySem.W.Frag} {H H' : Hp} {a : Addr} {xs : List V} (h : SqT K H a xs) (e : TK H H') : SqT K H' a xs := by
  rcases h with (h | ⟨o, h⟩) | h
  · exact .inl (.inl (e.1 _ _ h))
  · exact .inl (.inr ⟨o, e.2 _ _ _ h⟩)
  · exact .inr h
mutual
theorem Rp.tk {K : PySem.W.Frag} {H H' : Hp} (e : TK H H') : ∀ (d : PyData) (v : V), Rp K H d v → Rp K H' d v
  | .none, _, h => h
  | .bool _, _, h => h
  | .int _, _, h => h
  | .str _, _, h => h
  | .tuple ds, v, h => by
    unfold Rp at h ⊢
    obtain ⟨a, xs, rfl, hs, hl⟩ := h
    exact ⟨a, xs, rfl, SqT.tk hs e, RpL.tk e ds xs hl⟩
  | .list _, _, h => h
  | .dict _, _, h => h
theorem RpL.tk {K : PySem.W.Frag} {H H' : Hp} (e : TK H H') : ∀ (ds : List PyData) (xs : List V), RpL K H ds xs → RpL K H' ds xs
  | [], _, h => h
  | d :: ds, xs, h => by
    unfold RpL at h ⊢
    obtain ⟨v, r, rfl, h1, h2⟩ := h
    exact ⟨v, r, rfl, Rp.tk e d v h1, RpL.tk e ds r h2⟩
end
theorem RpL.len {K : PySem.W.Frag} {H : Hp} : ∀ (ds : List PyData) (xs : List V), RpL K H ds xs → xs.length = ds.length
  | [], xs, h => by
    unfold RpL at h
    rw [h]
    rfl
  | d :: ds, xs, h => by
    unfold RpL at h
    obtain ⟨v, r, rfl, h1, h2⟩ := h
    rw [List.length_cons, List.length_cons, RpL.len ds r h2]
theorem RpL.get {K : PySem.W.Frag} {H : Hp} : ∀ (ds : List PyData) (xs : List V), RpL K H ds xs → ∀ (i : Nat) (d : PyData), ds[i]? = some d → ∃ v, xs[i]? = some v ∧ Rp K H d v
  | [], xs, h, i, d, e => by cases e
  | d :: ds, xs, h, i, d', e => by
    unfold RpL at h
    obtain ⟨v, r, rfl, h1, h2⟩ := h
    cases i with
    | zero =>
      simp only [List.getElem?_cons_zero, Option.some.injEq] at e
      exact ⟨v, rfl, e ▸ h1⟩
    | succ i =>
      simp only [List.getElem?_cons_succ] at e ⊢
      exact RpL.get ds r h2 i d' e
theorem RpL.of {K : PySem.W.Frag} {H : Hp} : ∀ (ds : List PyData) (xs : List V), xs.length = ds.length → (∀ (i : Nat) (d : PyData) (v : V), ds[i]? = some d → xs[i]? = some v → Rp K H d v) → RpL K H ds xs
  | [], xs, h, _ => by
    unfold RpL
    exact List.length_eq_zero_iff.mp h
  | d :: ds, [], h, _ => by cases h
  | d :: ds, v :: r, h, k => by
    unfold RpL
    refine ⟨v, r, rfl, k 0 d v rfl rfl, RpL.of ds r (by simpa using h) fun i d' v' h1 h2 => k (i + 1) d' v' ?_ ?_⟩
    · simpa using h1
    · simpa using h2
theorem RpL.snoc {K : PySem.W.Frag} {H : Hp} {d : PyData} {v : V} (h : Rp K H d v) : ∀ (ds : List PyData) (xs : List V), RpL K H ds xs → RpL K H (ds ++ [d]) (xs ++ [v])
  | [], xs, q => by
    unfold RpL at q
    subst q
    show RpL K H [d] [v]
    unfold RpL
    exact ⟨v, [], rfl, h, by unfold RpL; rfl⟩
  | d' :: ds, xs, q => by
    unfold RpL at q
    obtain ⟨v', r, rfl, h1, h2⟩ := q
    show RpL K H (d' :: (ds ++ [d])) (v' :: (r ++ [v]))
    unfold RpL
    exact ⟨_, _, rfl, h1, RpL.snoc h ds r h2⟩
theorem dep_get : ∀ (ds : List PyData) (i : Nat) (d : PyData), ds[i]? = some d → dep d ≤ deps ds
  | [], i, d, e => by cases e
  | x :: xs, 0, d, e => by
    simp only [List.getElem?_cons_zero, Option.some.injEq] at e
    unfold deps
    rw [e]
    exact Nat.le_max_left _ _
  | x :: xs, i + 1, d, e => by
    simp only [List.getElem?_cons_succ] at e
    unfold deps
    exact Nat.le_trans (dep_get xs i d e) (Nat.le_max_right _ _)
theorem sz_get : ∀ (ds : List PyData) (i : Nat) (d : PyData), ds[i]? = some d → sz d ≤ szs ds
  | [], i, d, e => by cases e
  | x :: xs, 0, d, e => by
    simp only [List.getElem?_cons_zero, Option.some.injEq] at e
    unfold szs
    rw [e]
    exact Nat.le_add_right _ _
  | x :: xs, i + 1, d, e => by
    simp only [List.getElem?_cons_succ] at e
    unfold szs
    exact Nat.le_trans (sz_get xs i d e) (Nat.le_add_left _ _)
theorem sz_pos : ∀ d : PyData, 1 ≤ sz d
  | .tuple xs => by unfold sz; omega
  | .none | .bool _ | .int _ | .str _ | .list _ | .dict _ => by unfold sz; exact Nat.le_refl _
theorem szs_len : ∀ ds : List PyData, ds.length ≤ szs ds
  | [] => Nat.zero_le _
  | x :: xs => by
    have := szs_len xs
    have := sz_pos x
    unfold szs
    rw [List.length_cons]
    omega
/-- the type of such a thing -/
theorem ty_tup {K : PySem.W.Frag} {H : Hp} {a : Addr} {xs : List V} (h : SqT K H a xs) : TyX K H (.ref a) (.type "tuple") := by
  rcases h with (h | ⟨o, h⟩) | ⟨o, its, n, h, c, _⟩
  · exact .base (.tup h)
  · exact .fTuple h
  · exact .kTuple h c
/-- the same data handed in twice, of depth below n: True -/
def spSame (K : PySem.W.Frag) (n : Nat) : Sp := fun vs H Q _ => ∃ (x y : V) (d : PyData), vs = [x, y] ∧ Rp K H d x ∧ Rp K H d y ∧ dep d < n ∧ sz d ≤ 1000000 ∧ ∀ H', Same H H' → Q (.bl true) H'
end Wn

namespace Wn
open PySem L2
theorem fld1 {f : Str} {v : V} : ([(f, v)] : List (Str × V)).lookup f = some v := by
  show (match f == f with | true => some v | false => _) = some v
  rw [beq_self_eq_true]
theorem fld1_ne {f g : Str} {v : V} (h : (g == f) = false) : ([(f, v)] : List (Str × V)).lookup g = none := by
  show (match g == f with | true => some v | false => _) = none
  rw [h]
  rfl
theorem putF1 {f : Str} {v u : V} : putF f u [(f, v)] = [(f, u)] := by
  show (if f = f then (f, u) :: [] else _) = _
  rw [if_pos rfl]
/-! ### dicts by whole numbers, their values data -/
section
variable {α : Type}
def lookA (m : List (Int × α)) (k : Int) : Option α := (m.find? fun p => decide (p.1 = k)).map (·.2)
def putA (m : List (Int × α)) (k : Int) (v : α) : List (Int × α) :=
  if (m.any fun kv => decide (kv.1 = k)) = true then m.map (fun kv => if kv.1 = k then (kv.1, v) else kv) else m ++ [(k, v)]
def dropA (m : List (Int × α)) (k : Int) : List (Int × α) := m.filter fun kv => decide (kv.1 ≠ k)
theorem putA_len (m : List (Int × α)) (k : Int) (v : α) : (putA m k v).length ≤ m.length + 1 := by
  unfold putA
  split
  · rw [List.length_map]
    omega
  · rw [List.length_append, List.length_singleton]
    exact Nat.le_refl _
theorem dropA_len (m : List (Int × α)) (k : Int) : (dropA m k).length ≤ m.length := List.length_filter_le _ _
def RpD (enc : α → PyData) (K : PySem.W.Frag) (H : Hp) : List (Int × α) → List (Key × V) → Prop
  | [], kvs => kvs = []
  | p :: m, kvs => ∃ v r, kvs = (Sum.inl p.1, v) :: r ∧ Rp K H (enc p.2) v ∧ RpD enc K H m r
variable {enc : α → PyData} {K : PySem.W.Frag} {H H' : Hp}
theorem RpD.tk (e : TK H H') : ∀ {m : List (Int × α)} {kvs : List (Key × V)}, RpD enc K H m kvs → RpD enc K H' m kvs
  | [], _, h => h
  | p :: m, kvs, h => by
    obtain ⟨v, r, rfl, h1, h2⟩ := h
    exact ⟨v, r, rfl, Rp.tk e _ _ h1, RpD.tk e h2⟩
theorem RpD.len : ∀ {m : List (Int × α)} {kvs : List (Key × V)}, RpD enc K H m kvs → kvs.length = m.length
  | [], kvs, h => by rw [show kvs = [] from h]; rfl
  | p :: m, kvs, h => by
    obtain ⟨v, r, rfl, h1, h2⟩ := h
    rw [List.length_cons, List.length_cons, RpD.len h2]
theorem RpD.keys : ∀ {m : List (Int × α)} {kvs : List (Key × V)}, RpD enc K H m kvs → (kvs.map fun kv => kV kv.1) = (m.map (·.1)).map V.int
  | [], kvs, h => by rw [show kvs = [] from h]; rfl
  | p :: m, kvs, h => by
    obtain ⟨v, r, rfl, h1, h2⟩ := h
    rw [List.map_cons, List.map_cons, List.map_cons, RpD.keys h2]
    rfl
theorem inl_iff {a b : Int} : ((Sum.inl a : Key) = Sum.inl b) ↔ a = b := ⟨fun h => by cases h; rfl, fun h => by rw [h]⟩
theorem RpD.val {k : Int} : ∀ {m : List (Int × α)} {kvs : List (Key × V)}, RpD enc K H m kvs → (lookA m k = none ∧ valV kvs (Sum.inl k) = none) ∨ ∃ x v, lookA m k = some x ∧ valV kvs (Sum.inl k) = some v ∧ Rp K H (enc x) v
  | [], kvs, h => by
    rw [show kvs = [] from h]
    exact .inl ⟨rfl, rfl⟩
  | p :: m, kvs, h => by
    obtain ⟨v, r, rfl, h1, h2⟩ := h
    by_cases e : p.1 = k
    · refine .inr ⟨p.2, v, ?_, valV_pos (by rw [e]), h1⟩
      simp [lookA, List.find?_cons, e]
    · have e1 : lookA (p :: m) k = lookA m k := by simp [lookA, List.find?_cons, e]
      rw [e1, valV_neg (p := (Sum.inl p.1, v)) (fun z => e (inl_iff.mp z))]
      exact RpD.val h2
theorem RpD.any {k : Int} : ∀ {m : List (Int × α)} {kvs : List (Key × V)}, RpD enc K H m kvs → (kvs.any fun kv => decide (kv.1 = Sum.inl k)) = (m.any fun kv => decide (kv.1 = k))
  | [], kvs, h => by rw [show kvs = [] from h]; rfl
  | p :: m, kvs, h => by
    obtain ⟨v, r, rfl, h1, h2⟩ := h
    rw [List.any_cons, List.any_cons, RpD.any h2]
    congr 1
    exact decide_eq_decide.mpr inl_iff
theorem RpD.snoc {k : Int} {x : α} {v : V} (hv : Rp K H (enc x) v) : ∀ {m : List (Int × α)} {kvs : List (Key × V)}, RpD enc K H m kvs → RpD enc K H (m ++ [(k, x)]) (kvs ++ [(Sum.inl k, v)])
  | [], kvs, h => by
    rw [show kvs = [] from h]
    exact ⟨v, [], rfl, hv, rfl⟩
  | p :: m, kvs, h => by
    obtain ⟨u, r, rfl, h1, h2⟩ := h
    exact ⟨u, _, rfl, h1, RpD.snoc hv h2⟩
theorem RpD.map {k : Int} {x : α} {v : V} (hv : Rp K H (enc x) v) : ∀ {m : List (Int × α)} {kvs : List (Key × V)}, RpD enc K H m kvs → RpD enc K H (m.map fun kv => if kv.1 = k then (kv.1, x) else kv) (kvs.map fun kv => if kv.1 = Sum.inl k then (kv.1, v) else kv)
  | [], kvs, h => by rw [show kvs = [] from h]; rfl
  | p :: m, kvs, h => by
    obtain ⟨u, r, rfl, h1, h2⟩ := h
    have h3 := RpD.map (k := k) hv h2
    rw [List.map_cons, List.map_cons]
    by_cases e : p.1 = k
    · rw [if_pos e, if_pos (inl_iff.mpr e)]
      exact ⟨v, _, rfl, hv, h3⟩
    · rw [if_neg e, if_neg (fun z => e (inl_iff.mp z))]
      exact ⟨u, _, rfl, h1, h3⟩
theorem RpD.put {k : Int} {x : α} {v : V} {m : List (Int × α)} {kvs : List (Key × V)} (h : RpD enc K H m kvs) (hv : Rp K H (enc x) v) : RpD enc K H (putA m k x) (putK kvs (Sum.inl k) v) := by
  unfold putA putK
  rw [h.any]
  split
  · exact h.map hv
  · exact h.snoc hv
theorem RpD.drop {k : Int} : ∀ {m : List (Int × α)} {kvs : List (Key × V)}, RpD enc K H m kvs → RpD enc K H (dropA m k) (dropK kvs (Sum.inl k))
  | [], kvs, h => by rw [show kvs = [] from h]; rfl
  | p :: m, kvs, h => by
    obtain ⟨u, r, rfl, h1, h2⟩ := h
    have h3 := RpD.drop (k := k) h2
    unfold dropA dropK at *
    by_cases e : p.1 = k
    · rw [List.filter_cons_of_neg (by simp [e]), List.filter_cons_of_neg (by simp [e])]
      exact h3
    · rw [List.filter_cons_of_pos (by simp [e]), List.filter_cons_of_pos (by simp [inl_iff, e])]
      exact ⟨u, _, rfl, h1, h3⟩
/-- a dict at q that stands for m -/
def DictAt (enc : α → PyData) (K : PySem.W.Frag) (H : Hp) (q : Addr) (m : List (Int × α)) : Prop := ∃ kvs, H q = some (.dK kvs) ∧ RpD enc K H m kvs
theorem DictAt.kp {M : List Addr} {q : Addr} {m : List (Int × α)} (h : DictAt enc K H q m) (k : Kp M H H') (t : TK H H') (n : q ∉ M) : DictAt enc K H' q m := by
  obtain ⟨kvs, a, b⟩ := h
  exact ⟨kvs, k _ _ n a, b.tk t⟩
def sortI (ns : List Int) : List Int := ns.mergeSort (fun a b => decide (a ≤ b))
theorem sortI_perm (ns : List Int) : (sortI ns).Perm ns := List.mergeSort_perm _ _
theorem sortI_sorted (ns : List Int) : (sortI ns).Pairwise (· ≤ ·) := by
  have h := List.pairwise_mergeSort (le := fun a b : Int => decide (a ≤ b)) (fun a b c h1 h2 => by simp only [decide_eq_true_eq] at *; omega) (fun a b => by simp only [Bool.or_eq_true, decide_eq_true_eq]; omega) ns
  exact h.imp fun h => of_decide_eq_true h
theorem sortI_eq {ns ms : List Int} (p : ms.Perm ns) (s : ms.Pairwise (· ≤ ·)) : ms = sortI ns :=
  PySem.W.ksm_same (p.trans (sortI_perm ns).symm) s (sortI_sorted ns)
/-- rows by hands: (hand,) and what stands there -/
def rowsD (encL : α → List PyData) (m : List (Int × α)) : PyData := .tuple ((sortI (m.map (·.1))).map fun k => .tuple (.int k :: ((lookA m k).map encL).getD []))
theorem lookA_mem {m : List (Int × α)} {k : Int} (h : k ∈ m.map (·.1)) : ∃ x, lookA m k = some x ∧ (k, x) ∈ m := by
  obtain ⟨p, hp, rfl⟩ := List.mem_map.mp h
  unfold lookA
  cases e : m.find? fun q => decide (q.1 = p.1) with
  | none =>
    have := List.find?_eq_none.mp e p hp
    simp at this
  | some q =>
    have h1 := List.find?_some e
    have h2 := List.mem_of_find?_eq_some e
    simp only [decide_eq_true_eq] at h1
    exact ⟨q.2, rfl, by rw [← h1]; exact h2⟩
theorem szs_map_le {β : Type} {f : β → PyData} {c : Nat} : ∀ (l : List β), (∀ x ∈ l, sz (f x) ≤ c) → szs (l.map f) ≤ c * l.length
  | [], _ => Nat.zero_le _
  | x :: l, h => by
    have h1 := szs_map_le l fun y hy => h y (List.mem_cons_of_mem _ hy)
    have h2 := h x List.mem_cons_self
    rw [List.map_cons, List.length_cons]
    unfold szs
    rw [Nat.mul_succ]
    omega
theorem deps_map_le {β : Type} {f : β → PyData} {c : Nat} : ∀ (l : List β), (∀ x ∈ l, dep (f x) ≤ c) → deps (l.map f) ≤ c
  | [], _ => Nat.zero_le _
  | x :: l, h => by
    have h1 := deps_map_le l fun y hy => h y (List.mem_cons_of_mem _ hy)
    have h2 := h x List.mem_cons_self
    rw [List.map_cons]
    unfold deps
    omega
theorem Rp.tup {ds : List PyData} {a : Addr} {xs : List V} (h : H a = some (.tup xs)) (r : RpL K H ds xs) : Rp K H (.tuple ds) (.ref a) := by
  unfold Rp
  exact ⟨a, xs, rfl, SqT.of h, r⟩
theorem Rp.tupS {ds : List PyData} {a : Addr} {xs : List V} (h : SqT K H a xs) (r : RpL K H ds xs) : Rp K H (.tuple ds) (.ref a) := by
  unfold Rp
  exact ⟨a, xs, rfl, h, r⟩
theorem RpL.cons {d : PyData} {ds : List PyData} {v : V} {xs : List V} (h : Rp K H d v) (r : RpL K H ds xs) : RpL K H (d :: ds) (v :: xs) := by
  unfold RpL
  exact ⟨v, xs, rfl, h, r⟩
theorem RpL.nil : RpL K H [] [] := by
  unfold RpL
  rfl
theorem Rp.int {i : Int} : Rp K H (.int i) (.int i) := by
  unfold Rp
  rfl
theorem Rp.none : Rp K H .none .non := by
  unfold Rp
  rfl
theorem Rp.str {z : Str} : Rp K H (.str z) (.str z) := by
  unfold Rp
  rfl
end
end Wn

namespace Wn
open PySem L2
theorem tYes_t {σ : L2.St} {H : Hp} {F : Bool → Hp → Prop} (h : F true H) : tYes σ H F := h
theorem rows_lc {α : Type} {encL : α → List PyData} {K : PySem.W.Frag} {td : TE} {i : Nat} {σ : L2.St} {H2 : Hp} {S D q : Addr} {ns : List Int} {m : List (Int × α)} {kvs : List (Key × V)} {Qd : Hp → Prop}
    (hS : H2 S = some (.lst (ns.map V.int))) (hq : H2 q = some (.dK kvs)) (hm : RpD (fun x => .tuple (encL x)) K H2 m kvs) (hns : ∀ k ∈ ns, k ∈ m.map (·.1)) (hz : ∀ x, (encL x).length ≤ 100) (hln : ns.length ≤ 1000000)
    (htd : ∀ (σ' : L2.St) (H' : Hp) (Q : VK), wipe σ' [i] = wipe σ [i] → Same H2 H' → Q (.ref q) H' → td σ' H' Q) (hD : H2 D = none) (hσ : i < σ.length)
    (hd : ∀ (H' : Hp) (xs : List V), Same H2 H' → H' D = some (.lst xs) → RpL K H' (ns.map fun k => .tuple (.int k :: ((lookA m k).map encL).getD [])) xs → Qd H') :
    ∃ W : Nat → Nat → Hp → Prop, (∃ m, W 0 m (upd H2 D (.lst []))) ∧ ∀ j m H, W j m H →
      ((Itl K S).stop j H ∧ Qd H) ∨ ((Itl K S).go j H ∧ ∃ Nx : Hp → Prop, (∀ H', Nx H' → ∃ m', m' < m ∧ W (j + 1) m' H') ∧ ∀ x H', (Itl K S).yld j H x H' → gName i x (wipe σ [i]) H' fun σ2 H2 => wipe σ2 [i] = wipe σ [i] ∧ tYes σ2 H2 fun b H3 =>
        if b = true then tOp (rCatT K) (tTup (tCons (tVar i) tNil)) (tDGet td (tVar i)) σ2 H3 fun y H4 => ∃ acc, H4 D = some (.lst acc) ∧ acc.length < sizeLine ∧ Nx (upd H4 D (.lst (acc ++ [y]))) else Nx H3) := by
  have nSD : S ≠ D := ne_of_none hS hD
  refine lc_list (K := K) (a := S) (xs := ns.map V.int) (fun j H => ∃ xs, Same H2 H ∧ H D = some (.lst xs) ∧ RpL K H ((ns.take j).map fun k => .tuple (.int k :: ((lookA m k).map encL).getD [])) xs)
    ⟨[], (L2.Same.refl H2).new hD, upd_same, RpL.nil⟩ (fun j H _ ⟨xs, s, _, _⟩ => SqL.of (s _ _ hS)) ?_ ?_
  · rintro j x H3 hx ⟨xs, s3, hD3, hr⟩
    have hj : j < ns.length := by
      have q := (List.getElem?_eq_some_iff.mp hx).1
      rw [List.length_map] at q
      exact q
    obtain rfl : x = V.int ns[j] := by
      rw [List.getElem?_map, List.getElem?_eq_getElem hj] at hx
      exact (Option.some.inj hx).symm
    have hmem : ns[j] ∈ m.map (·.1) := hns _ (List.getElem_mem hj)
    have eσ : (((wipe σ [i]).set i (some (V.int ns[j]))))[i]? = some (some (V.int ns[j])) := by
      rw [List.getElem?_set_self]
      rw [wipe_length]
      exact hσ
    have ew : wipe ((wipe σ [i]).set i (some (V.int ns[j]))) [i] = wipe σ [i] := by
      show ((σ.set i none).set i (some (V.int ns[j]))).set i none = σ.set i none
      rw [List.set_set, List.set_set]
    refine ⟨ew, ?_⟩
    refine tYes_t (iteT ?_)
    have hlx : xs.length < sizeLine := by
      have := RpL.len _ _ hr
      rw [List.length_map, List.length_take] at this
      exact Nat.lt_of_le_of_lt (show xs.length ≤ 1000000 by omega) (by decide)
    refine ⟨_, eσ, (by show 1 ≤ sizeLine; decide), fun t ht => ?_⟩
    have s4 := s3.new (o := .tup [V.int ns[j]]) ht
    have t4 := TK.of s4
    refine htd _ _ _ ew s4 ⟨_, eσ, ?_⟩
    rcases hm.val (k := ns[j]) with ⟨e1, e2⟩ | ⟨y, v, e1, e2, r⟩
    · obtain ⟨z, e3, _⟩ := lookA_mem hmem
      rw [e1] at e3
      cases e3
    · have r4 := Rp.tk t4 _ _ r
      unfold Rp at r4
      obtain ⟨b, ys, rfl, hb, hl⟩ := r4
      have hly := RpL.len _ _ hl
      refine ⟨q, .ref b, rfl, by rw [← e2]; exact DGet.k (k := Sum.inl ns[j]) (s4 _ _ hq), ?_⟩
      have hD4 : (upd H3 t (.tup [V.int ns[j]])) D = some (.lst xs) := by
        rw [upd_ne (ne_of_none hD3 ht)]
        exact hD3
      have etk : (ns.take (j + 1)).map (fun k => PyData.tuple (.int k :: ((lookA m k).map encL).getD [])) = (ns.take j).map (fun k => PyData.tuple (.int k :: ((lookA m k).map encL).getD [])) ++ [PyData.tuple (.int ns[j] :: encL y)] := by
        rw [List.take_succ_eq_append_getElem hj, List.map_append, List.map_singleton, e1]
        rfl
      have s34 : TK H3 (upd H3 t (.tup [V.int ns[j]])) := (TK.refl _).new ht
      refine ⟨t, b, _, ys, rfl, rfl, SqT.of upd_same, hb, List.cons_ne_nil _ _, ?_, fun ey => ?_, fun _ p hp => ?_⟩
      · have := hz y
        rw [hly, List.length_singleton]
        exact Nat.le_trans (show 1 + (encL y).length ≤ 1000 by omega) (by decide)
      · refine ⟨xs, hD4, hlx, _, s4.wrn hD, upd_same, ?_⟩
        rw [etk]
        have tE : TK (upd H3 t (.tup [V.int ns[j]])) (upd (upd H3 t (.tup [V.int ns[j]])) D (.lst (xs ++ [V.ref t]))) := (TK.refl _).wr hD4 rfl
        refine RpL.snoc (Rp.tk tE _ _ (Rp.tup upd_same ?_)) _ _ (RpL.tk (s34.trans tE) _ _ hr)
        have e0 : encL y = [] := List.length_eq_zero_iff.mp (by rw [← hly, ey]; rfl)
        rw [e0]
        exact RpL.cons Rp.int RpL.nil
      · have s5 := s4.new (o := .tup ([V.int ns[j]] ++ ys)) hp
        have hD5 : upd (upd H3 t (.tup [V.int ns[j]])) p (.tup ([V.int ns[j]] ++ ys)) D = some (.lst xs) := by
          rw [upd_ne (ne_of_none hD4 hp)]
          exact hD4
        have tE : TK (upd (upd H3 t (.tup [V.int ns[j]])) p (.tup ([V.int ns[j]] ++ ys))) (upd (upd (upd H3 t (.tup [V.int ns[j]])) p (.tup ([V.int ns[j]] ++ ys))) D (.lst (xs ++ [V.ref p]))) := (TK.refl _).wr hD5 rfl
        have s45 : TK (upd H3 t (.tup [V.int ns[j]])) (upd (upd H3 t (.tup [V.int ns[j]])) p (.tup ([V.int ns[j]] ++ ys))) := (TK.refl _).new hp
        refine ⟨xs, hD5, hlx, _, s5.wrn hD, upd_same, ?_⟩
        rw [etk]
        refine RpL.snoc (Rp.tk tE _ _ (Rp.tup upd_same ?_)) _ _ (RpL.tk ((s34.trans s45).trans tE) _ _ hr)
        exact RpL.cons Rp.int (RpL.tk s45 _ _ hl)
  · rintro H3 ⟨xs, s3, hD3, hr⟩
    rw [List.length_map, List.take_length] at hr
    exact hd H3 xs s3 hD3 hr
end Wn

namespace Wn
open PySem L2
section
variable {X : Cx} {K : PySem.W.Frag}
theorem ixL (hK : X.K = K) : IxR X (rIxL K) := hK ▸ ix_list
theorem ixT (hK : X.K = K) : IxR X (rIxT K) := hK ▸ ix_tup
theorem opCatT (hK : X.K = K) : OpR X (binaryOp .Add) (rCatT K) := hK ▸ op_catT
theorem slL (hK : X.K = K) : SlR X (rSlL K) := hK ▸ sl_list
theorem slT (hK : X.K = K) : SlR X (rSlT K) := hK ▸ sl_tup
theorem fldK {e : Expr} {ta : TE} {f : Str} {pos : Pos} (hK : X.K = K) (he : PE X e ta) (hb : attributeBase e f X.env (eval e X.env) = eval e X.env) : PE X (.Attribute e f pos) (tFld K ta f) := hK ▸ pe_fld he hb
theorem lenK (hK : X.K = K) : CallR X (.builtin "len") (fun xs H Q => ∃ x n, xs = [x] ∧ LenV K x H n ∧ Q (.int n) H) := hK ▸ call_len
theorem crMaxK (hK : X.K = K) (hc : X.calm = true) : CallR X (.builtin "max") (rMax K) := hK ▸ cr_max hc
theorem crMinK (hK : X.K = K) (hc : X.calm = true) : CallR X (.builtin "min") (rMin K) := hK ▸ cr_min hc
theorem crAllK (hK : X.K = K) (hc : X.calm = true) : CallR X (.builtin "all") (rAll K) := hK ▸ cr_all hc
theorem crAnyK (hK : X.K = K) (hc : X.calm = true) : CallR X (.builtin "any") (rAny K) := hK ▸ cr_any hc
theorem isiK (hK : X.K = K) : CallR X (.builtin "isinstance") (rIsi K) := hK ▸ call_isi
theorem tupOfK (hK : X.K = K) : CallR X (.type "tuple") (fun xs H Q => ∃ p ys, xs = [.ref p] ∧ ((SqL K H p ys ∧ ∀ l, H l = none → Q (.ref l) (upd H l (.tup ys))) ∨ (SqT K H p ys ∧ Q (.ref p) H))) := hK ▸ call_tuple_of
theorem lstOfK (hK : X.K = K) : CallR X (.type "list") (fun xs H Q => ∃ p ys, xs = [.ref p] ∧ (SqL K H p ys ∨ SqT K H p ys) ∧ ∀ l, H l = none → Q (.ref l) (upd H l (.lst ys))) := hK ▸ call_list_of
theorem sortIK (hK : X.K = K) : CallR X (.builtin "sorted") (rSortedI K) := hK ▸ cr_sortedI
theorem inSeqK (hK : X.K = K) : OpR X (compareOp .In) (rIn K false) := hK ▸ op_in_seq
theorem notInSeqK (hK : X.K = K) : OpR X (compareOp .NotIn) (rIn K true) := hK ▸ op_notIn_seq
theorem eqDK (hK : X.K = K) (hu : X.A.units + 64 < cLine) : OpR X (compareOp .Eq) (rEqD K) := hK ▸ op_eqD hu
theorem neDK (hK : X.K = K) (hu : X.A.units + 64 < cLine) : OpR X (compareOp .NotEq) (rNeD K) := hK ▸ op_neD hu
end
end Wn

namespace Wn
open PySem L2
theorem Deck.kp {M : List Addr} {H H' : Hp} {d f : Addr} {n : Int} (h : Deck H d f n) (k : Kp M H H') (n1 : d ∉ M) (n2 : f ∉ M) : Deck H' d f n := by
  obtain ⟨a, wh, xs, h1, h2, h3⟩ := h
  exact ⟨a, wh, xs, k _ _ n1 h1, k _ _ n2 h2, h3⟩
theorem Deck.mono {H : Hp} {d f : Addr} {n m : Int} (h : Deck H d f n) (hm : n ≤ m) : Deck H d f m := by
  obtain ⟨a, wh, xs, h1, h2, h3, h4, h5⟩ := h
  exact ⟨a, wh, xs, h1, h2, h3, by omega, h5⟩
theorem Deck.lst {H : Hp} {d f : Addr} {n : Int} (h : Deck H d f n) : ∃ zs, H d = some (.lst zs) := by
  obtain ⟨a, wh, xs, h1, h2, h3⟩ := h
  exact ⟨_, h1⟩
theorem Deck.lst2 {H : Hp} {d f : Addr} {n : Int} (h : Deck H d f n) : ∃ zs, H f = some (.lst zs) := by
  obtain ⟨a, wh, xs, h1, h2, h3⟩ := h
  exact ⟨_, h2⟩
theorem seq_have {t u : TS} {D : Ends} {σ : L2.St} {H : Hp} (Mid : L2.St → Hp → Prop) (h2 : ∀ σ' H', Mid σ' H' → u D σ' H') (h1 : (∀ σ' H', Mid σ' H' → u D σ' H') → t { D with nx := u D } σ H) : tSeq t u D σ H := h1 h2
theorem seq_if {c : TT} {t1 t2 u : TS} {D : Ends} {σ : L2.St} {H : Hp} (Mid : L2.St → Hp → Prop) (h2 : ∀ σ' H', Mid σ' H' → u D σ' H') (h1 : (∀ σ' H', Mid σ' H' → u D σ' H') → tIfS c t1 t2 { D with nx := u D } σ H) : tSeq (tIfS c t1 t2) u D σ H := h1 h2
theorem nin1 {a b : Addr} (h : a ≠ b) : a ∉ [b] := fun z => h (List.mem_singleton.mp z)
theorem nin2 {a b c : Addr} (h : a ≠ b) (h' : a ≠ c) : a ∉ [b, c] := fun z => by
  rcases List.mem_cons.mp z with z | z
  · exact h z
  · exact h' (List.mem_singleton.mp z)
section
variable {α : Type}
/-- an object at p whose dict by_hand stands at q -/
def HoldAt (enc : α → PyData) (K : PySem.W.Frag) (C : Addr) (H : Hp) (p q : Addr) (m : List (Int × α)) : Prop :=
  (∃ dx, H p = some (.ins C dx [("by_hand", .ref q)])) ∧ DictAt enc K H q m
variable {enc : α → PyData} {K : PySem.W.Frag} {C : Addr} {H H' : Hp}
theorem HoldAt.kp {M : List Addr} {p q : Addr} {m : List (Int × α)} (h : HoldAt enc K C H p q m) (k : Kp M H H') (t : TK H H') (n1 : p ∉ M) (n2 : q ∉ M) : HoldAt enc K C H' p q m := by
  obtain ⟨⟨dx, a⟩, b⟩ := h
  exact ⟨⟨dx, k _ _ n1 a⟩, b.kp k t n2⟩
/-- n objects and n dicts, in two lists -/
structure Rack (enc : α → PyData) (K : PySem.W.Frag) (C : Addr) (H : Hp) (L1 L2 : Addr) (n : Nat) (p q md : Nat → Addr) (m m' : Nat → List (Int × α)) : Prop where
  l1 : H L1 = some (.lst ((List.range n).map fun j => V.ref (p j)))
  l2 : H L2 = some (.lst ((List.range n).map fun j => V.ref (md j)))
  ok : ∀ j, j < n → HoldAt enc K C H (p j) (q j) (m j)
  mo : ∀ j, j < n → DictAt enc K H (md j) (m' j)
  dq : ∀ i j, i < n → j < n → i ≠ j → q i ≠ q j
  dm : ∀ i j, i < n → j < n → i ≠ j → md i ≠ md j
  dx : ∀ i j, i < n → j < n → q i ≠ md j
variable {L1 L2 : Addr} {n : Nat} {p q md : Nat → Addr} {m m' : Nat → List (Int × α)}
theorem Rack.kp {M : List Addr} (R : Rack enc K C H L1 L2 n p q md m m') (k : Kp M H H') (t : TK H H') (h : ∀ x ∈ M, x ≠ L1 ∧ x ≠ L2 ∧ ∀ j, j < n → x ≠ p j ∧ x ≠ q j ∧ x ≠ md j) : Rack enc K C H' L1 L2 n p q md m m' where
  l1 := k _ _ (fun z => (h _ z).1 rfl) R.l1
  l2 := k _ _ (fun z => (h _ z).2.1 rfl) R.l2
  ok := fun j hj => (R.ok j hj).kp k t (fun z => ((h _ z).2.2 j hj).1 rfl) (fun z => ((h _ z).2.2 j hj).2.1 rfl)
  mo := fun j hj => (R.mo j hj).kp k t (fun z => ((h _ z).2.2 j hj).2.2 rfl)
  dq := R.dq
  dm := R.dm
  dx := R.dx
/-- a list beside was written -/
theorem Rack.lst {d : Addr} {zs : List V} (R : Rack enc K C H L1 L2 n p q md m m') (k : Kp [d] H H') (t : TK H H') (hd : H d = some (.lst zs)) (n1 : d ≠ L1) (n2 : d ≠ L2) : Rack enc K C H' L1 L2 n p q md m m' :=
  R.kp k t fun x hx => by
    rw [List.mem_singleton] at hx
    subst hx
    refine ⟨n1, n2, fun j hj => ?_⟩
    obtain ⟨⟨dx, a⟩, kvs, b, _⟩ := R.ok j hj
    obtain ⟨kvs', c, _⟩ := R.mo j hj
    exact ⟨ne_of hd a (by intro z; cases z), ne_of hd b (by intro z; cases z), ne_of hd c (by intro z; cases z)⟩
theorem Rack.same (R : Rack enc K C H L1 L2 n p q md m m') (s : Same H H') : Rack enc K C H' L1 L2 n p q md m m' :=
  R.kp (M := []) (Kp.of s) (TK.of s) fun x hx => by cases hx
/-- the k-th object's dict is another one -/
theorem Rack.setq {i : Nat} {mn : List (Int × α)} (R : Rack enc K C H L1 L2 n p q md m m') (hi : i < n) (k : Kp [q i] H H') (t : TK H H') (h : HoldAt enc K C H' (p i) (q i) mn) :
    Rack enc K C H' L1 L2 n p q md (fun j => if j = i then mn else m j) m' := by
  obtain ⟨_, kvq, hq, _⟩ := R.ok i hi
  refine ⟨k _ _ (nin1 (ne_of R.l1 hq (by intro z; cases z))) R.l1, k _ _ (nin1 (ne_of R.l2 hq (by intro z; cases z))) R.l2, fun j hj => ?_, fun j hj => ?_, R.dq, R.dm, R.dx⟩
  · by_cases e : j = i
    · subst e
      simp only [if_true]
      exact h
    · simp only [if_neg e]
      obtain ⟨⟨dx, a⟩, _⟩ := R.ok j hj
      exact (R.ok j hj).kp k t (nin1 (ne_of a hq (by intro z; cases z))) (nin1 (R.dq j i hj hi e))
  · exact (R.mo j hj).kp k t (nin1 (fun z => R.dx i j hi hj z.symm))
theorem Rack.setm {i : Nat} {mn : List (Int × α)} (R : Rack enc K C H L1 L2 n p q md m m') (hi : i < n) (k : Kp [md i] H H') (t : TK H H') (h : DictAt enc K H' (md i) mn) :
    Rack enc K C H' L1 L2 n p q md m (fun j => if j = i then mn else m' j) := by
  obtain ⟨kvq, hq, _⟩ := R.mo i hi
  refine ⟨k _ _ (nin1 (ne_of R.l1 hq (by intro z; cases z))) R.l1, k _ _ (nin1 (ne_of R.l2 hq (by intro z; cases z))) R.l2, fun j hj => ?_, fun j hj => ?_, R.dq, R.dm, R.dx⟩
  · obtain ⟨⟨dx, a⟩, _⟩ := R.ok j hj
    exact (R.ok j hj).kp k t (nin1 (ne_of a hq (by intro z; cases z))) (nin1 (R.dx j i hj hi))
  · by_cases e : j = i
    · subst e
      simp only [if_true]
      exact h
    · simp only [if_neg e]
      exact (R.mo j hj).kp k t (nin1 (R.dm j i hj hi e))
/-- one more -/
theorem Rack.push {pn qn mdn : Addr} {mn : List (Int × α)} (R : Rack enc K C H L1 L2 n p q md m m') (k : Kp [L1, L2] H H') (t : TK H H') (h1 : H' L1 = some (.lst (((List.range n).map fun j => V.ref (p j)) ++ [V.ref pn]))) (h2 : H' L2 = some (.lst (((List.range n).map fun j => V.ref (md j)) ++ [V.ref mdn])))
    (hp : HoldAt enc K C H' pn qn mn) (hm : DictAt enc K H' mdn mn) (nq : H qn = none) (nm : H mdn = none) (nqm : qn ≠ mdn) :
    Rack enc K C H' L1 L2 (n + 1) (fun j => if j = n then pn else p j) (fun j => if j = n then qn else q j) (fun j => if j = n then mdn else md j) (fun j => if j = n then mn else m j) (fun j => if j = n then mn else m' j) := by
  have e1 : ∀ (f : Nat → Addr) (x : Addr), (List.range (n + 1)).map (fun j => V.ref (if j = n then x else f j)) = ((List.range n).map fun j => V.ref (f j)) ++ [V.ref x] := fun f x => by
    rw [List.range_succ, List.map_append, List.map_singleton, if_pos rfl]
    congr 1
    refine List.map_congr_left fun j hj => ?_
    rw [List.mem_range] at hj
    rw [if_neg (by omega)]
  have hq : ∀ j, j < n → q j ≠ qn ∧ q j ≠ mdn := fun j hj => by
    obtain ⟨_, kv, a, _⟩ := R.ok j hj
    exact ⟨ne_of_none a nq, ne_of_none a nm⟩
  have hmd : ∀ j, j < n → md j ≠ qn ∧ md j ≠ mdn := fun j hj => by
    obtain ⟨kv, a, _⟩ := R.mo j hj
    exact ⟨ne_of_none a nq, ne_of_none a nm⟩
  refine ⟨by rw [e1]; exact h1, by rw [e1]; exact h2, fun j hj => ?_, fun j hj => ?_, fun i j hi hj e => ?_, fun i j hi hj e => ?_, fun i j hi hj => ?_⟩
  · by_cases e : j = n
    · simp only [if_pos e]
      exact hp
    · simp only [if_neg e]
      obtain ⟨⟨dx, a⟩, kv, b, _⟩ := R.ok j (by omega)
      exact (R.ok j (by omega)).kp k t (nin2 (ne_of a R.l1 (by intro z; cases z)) (ne_of a R.l2 (by intro z; cases z))) (nin2 (ne_of b R.l1 (by intro z; cases z)) (ne_of b R.l2 (by intro z; cases z)))
  · by_cases e : j = n
    · simp only [if_pos e]
      exact hm
    · simp only [if_neg e]
      obtain ⟨kv, b, _⟩ := R.mo j (by omega)
      exact (R.mo j (by omega)).kp k t (nin2 (ne_of b R.l1 (by intro z; cases z)) (ne_of b R.l2 (by intro z; cases z)))
  · by_cases ei : i = n
    · have ej : ¬ j = n := by omega
      simp only [if_pos ei, if_neg ej]
      exact (hq j (by omega)).1.symm
    · by_cases ej : j = n
      · simp only [if_neg ei, if_pos ej]
        exact (hq i (by omega)).1
      · simp only [if_neg ei, if_neg ej]
        exact R.dq i j (by omega) (by omega) e
  · by_cases ei : i = n
    · have ej : ¬ j = n := by omega
      simp only [if_pos ei, if_neg ej]
      exact (hmd j (by omega)).2.symm
    · by_cases ej : j = n
      · simp only [if_neg ei, if_pos ej]
        exact (hmd i (by omega)).2
      · simp only [if_neg ei, if_neg ej]
        exact R.dm i j (by omega) (by omega) e
  · by_cases ei : i = n
    · by_cases ej : j = n
      · simp only [if_pos ei, if_pos ej]
        exact nqm
      · simp only [if_pos ei, if_neg ej]
        exact (hmd j (by omega)).1.symm
    · by_cases ej : j = n
      · simp only [if_neg ei, if_pos ej]
        exact (hq i (by omega)).2
      · simp only [if_neg ei, if_neg ej]
        exact R.dx i j (by omega) (by omega)
end
section
variable {α : Type} {enc : α → PyData} {K : PySem.W.Frag} {C : Addr} {H H' : Hp}
theorem HoldAt.lst {d p q : Addr} {zs : List V} {m : List (Int × α)} (h : HoldAt enc K C H p q m) (k : Kp [d] H H') (t : TK H H') (hd : H d = some (.lst zs)) : HoldAt enc K C H' p q m := by
  obtain ⟨⟨dx, a⟩, kv, b, _⟩ := id h
  exact h.kp k t (nin1 (ne_of a hd (by intro z; cases z))) (nin1 (ne_of b hd (by intro z; cases z)))
theorem HoldAt.same {p q : Addr} {m : List (Int × α)} (h : HoldAt enc K C H p q m) (s : Same H H') : HoldAt enc K C H' p q m :=
  h.kp (M := []) (Kp.of s) (TK.of s) (by simp) (by simp)
theorem DictAt.lst {d q : Addr} {zs : List V} {m : List (Int × α)} (h : DictAt enc K H q m) (k : Kp [d] H H') (t : TK H H') (hd : H d = some (.lst zs)) : DictAt enc K H' q m := by
  obtain ⟨kv, b, _⟩ := id h
  exact h.kp k t (nin1 (ne_of b hd (by intro z; cases z)))
theorem DictAt.same {q : Addr} {m : List (Int × α)} (h : DictAt enc K H q m) (s : Same H H') : DictAt enc K H' q m :=
  h.kp (M := []) (Kp.of s) (TK.of s) (by simp)
theorem Deck.same {d f : Addr} {n : Int} (h : Deck H d f n) (s : Same H H') : Deck H' d f n := h.kp (M := []) (Kp.of s) (by simp) (by simp)
/-- a dict beside was written -/
theorem Deck.dict {d f q : Addr} {n : Int} {m : List (Int × α)} (h : Deck H d f n) (k : Kp [q] H H') (hq : DictAt enc K H q m) : Deck H' d f n := by
  obtain ⟨kv, b, _⟩ := hq
  obtain ⟨zs, h1⟩ := h.lst
  obtain ⟨zf, h2⟩ := h.lst2
  exact h.kp k (nin1 (ne_of h1 b (by intro z; cases z))) (nin1 (ne_of h2 b (by intro z; cases z)))
variable {La Lb : Addr} {n : Nat} {p q md : Nat → Addr} {m m' : Nat → List (Int × α)}
/-- the k-th object's dict, the k-th dict and a list beside are others -/
theorem Rack.set2 {d : Addr} {zs : List V} {i : Nat} {mn mn' : List (Int × α)} (R : Rack enc K C H La Lb n p q md m m') (hi : i < n) (k : Kp [d, q i, md i] H H') (t : TK H H') (hd : H d = some (.lst zs)) (n1 : d ≠ La) (n2 : d ≠ Lb)
    (h : HoldAt enc K C H' (p i) (q i) mn) (h' : DictAt enc K H' (md i) mn') :
    Rack enc K C H' La Lb n p q md (fun j => if j = i then mn else m j) (fun j => if j = i then mn' else m' j) := by
  obtain ⟨_, kvq, hq, _⟩ := R.ok i hi
  obtain ⟨kvm, hm, _⟩ := R.mo i hi
  have nin : ∀ {x : Addr}, x ≠ d → x ≠ q i → x ≠ md i → x ∉ [d, q i, md i] := fun a b c z => by
    rcases List.mem_cons.mp z with z | z
    · exact a z
    · exact nin2 b c z
  refine ⟨k _ _ (nin n1.symm (ne_of R.l1 hq (by intro z; cases z)) (ne_of R.l1 hm (by intro z; cases z))) R.l1, k _ _ (nin n2.symm (ne_of R.l2 hq (by intro z; cases z)) (ne_of R.l2 hm (by intro z; cases z))) R.l2, fun j hj => ?_, fun j hj => ?_, R.dq, R.dm, R.dx⟩
  · by_cases e : j = i
    · subst e
      simp only [if_true]
      exact h
    · simp only [if_neg e]
      obtain ⟨⟨dx, a⟩, kv, b, _⟩ := R.ok j hj
      exact (R.ok j hj).kp k t (nin (ne_of a hd (by intro z; cases z)) (ne_of a hq (by intro z; cases z)) (ne_of a hm (by intro z; cases z))) (nin (ne_of b hd (by intro z; cases z)) (R.dq j i hj hi e) (R.dx j i hj hi))
  · by_cases e : j = i
    · subst e
      simp only [if_true]
      exact h'
    · simp only [if_neg e]
      obtain ⟨kv, b, _⟩ := R.mo j hj
      exact (R.mo j hj).kp k t (nin (ne_of b hd (by intro z; cases z)) (fun z => R.dx i j hi hj z.symm) (R.dm j i hj hi e))
end
theorem at3 {x y z : V} {r : Int} (h0 : 0 ≤ r) (h1 : r < 3) : ∃ v, atI [x, y, z] r = some v ∧ (v = x ∨ v = y ∨ v = z) := by
  have h : r = 0 ∨ r = 1 ∨ r = 2 := by omega
  rcases h with rfl | rfl | rfl
  · exact ⟨x, rfl, .inl rfl⟩
  · exact ⟨y, rfl, .inr (.inl rfl)⟩
  · exact ⟨z, rfl, .inr (.inr rfl)⟩
theorem at5 {a b c d e : Int} {r : Int} (h0 : 0 ≤ r) (h1 : r < 5) : ∃ v : Int, atI [V.int a, .int b, .int c, .int d, .int e] r = some (.int v) := by
  have h : r = 0 ∨ r = 1 ∨ r = 2 ∨ r = 3 ∨ r = 4 := by omega
  rcases h with rfl | rfl | rfl | rfl | rfl <;> exact ⟨_, rfl⟩
theorem atR {n : Nat} {f : Nat → Addr} {r : Int} (h0 : 0 ≤ r) (h1 : r < n) : atI ((List.range n).map fun j => V.ref (f j)) r = some (.ref (f r.toNat)) := by
  have e : ((r.toNat : Nat) : Int) = r := by omega
  have := atI_nat (xs := (List.range n).map fun j => V.ref (f j)) (j := r.toNat) (v := .ref (f r.toNat)) (by
    rw [List.getElem?_map, List.getElem?_range (by omega)]
    rfl)
  rw [e] at this
  exact this
def spLaw (K : PySem.W.Frag) : Sp := fun vs H Q _ => ∃ (a : Addr) (ns : List Int), vs = [.ref a] ∧ SqL K H a (ns.map V.int) ∧ ns.length ≤ 63 ∧ ∀ H', Q (.bl true) H'
/-! ### lists of data -/
def LstAt (K : PySem.W.Frag) (H : Hp) (a : Addr) (ds : List PyData) : Prop := ∃ xs, H a = some (.lst xs) ∧ RpL K H ds xs
section
variable {K : PySem.W.Frag} {H H' : Hp}
theorem LstAt.kp {M : List Addr} {a : Addr} {ds : List PyData} (h : LstAt K H a ds) (k : Kp M H H') (t : TK H H') (n : a ∉ M) : LstAt K H' a ds := by
  obtain ⟨xs, h1, h2⟩ := h
  exact ⟨xs, k _ _ n h1, RpL.tk t _ _ h2⟩
theorem LstAt.same {a : Addr} {ds : List PyData} (h : LstAt K H a ds) (s : Same H H') : LstAt K H' a ds := h.kp (M := []) (Kp.of s) (TK.of s) (by simp)
theorem LstAt.lst {a : Addr} {ds : List PyData} (h : LstAt K H a ds) : ∃ zs, H a = some (.lst zs) := ⟨_, h.choose_spec.1⟩
theorem RpL.app : ∀ {ds es : List PyData} {xs ys : List V}, RpL K H ds xs → RpL K H es ys → RpL K H (ds ++ es) (xs ++ ys)
  | [], es, xs, ys, h1, h2 => by
    unfold RpL at h1
    subst h1
    exact h2
  | d :: ds, es, xs, ys, h1, h2 => by
    unfold RpL at h1
    obtain ⟨v, r, rfl, a, b⟩ := h1
    show RpL K H (d :: (ds ++ es)) (v :: (r ++ ys))
    exact RpL.cons a (RpL.app b h2)
theorem RpL.take : ∀ (k : Nat) {ds : List PyData} {xs : List V}, RpL K H ds xs → RpL K H (ds.take k) (xs.take k)
  | 0, ds, xs, _ => by
    rw [List.take_zero, List.take_zero]
    exact RpL.nil
  | k + 1, [], xs, h => by
    unfold RpL at h
    subst h
    exact RpL.nil
  | k + 1, d :: ds, xs, h => by
    unfold RpL at h
    obtain ⟨v, r, rfl, a, b⟩ := h
    exact RpL.cons a (RpL.take k b)
theorem RpL.drop : ∀ (k : Nat) {ds : List PyData} {xs : List V}, RpL K H ds xs → RpL K H (ds.drop k) (xs.drop k)
  | 0, ds, xs, h => h
  | k + 1, [], xs, h => by
    unfold RpL at h
    subst h
    exact RpL.nil
  | k + 1, d :: ds, xs, h => by
    unfold RpL at h
    obtain ⟨v, r, rfl, a, b⟩ := h
    exact RpL.drop k b
theorem inV_int {k : Int} : ∀ ns : List Int, inV (.int k) (ns.map V.int) = decide (k ∈ ns)
  | [] => by simp [inV]
  | n :: ns => by
    have h := inV_int (k := k) ns
    unfold inV at h ⊢
    rw [List.map_cons, List.any_cons, h]
    show ((n == k) || _) = _
    by_cases e : n = k
    · simp [e]
    · have e2 : ¬ k = n := fun z => e z.symm
      simp [e, e2]
theorem flat_ints (ns : List Int) : (ns.map V.int).all flatV = true := by
  rw [List.all_eq_true]
  intro x hx
  obtain ⟨n, _, rfl⟩ := List.mem_map.mp hx
  rfl
theorem set_wipe {σ : L2.St} {i : Nat} {x : Option V} : (wipe σ [i]).set i x = σ.set i x := by
  show (σ.set i none).set i x = _
  rw [List.set_set]
theorem wipe_set {σ : L2.St} {i : Nat} {x : Option V} : wipe (σ.set i x) [i] = wipe σ [i] := by
  show (σ.set i x).set i none = σ.set i none
  rw [List.set_set]
/-- [x for x in xs if test] -/
theorem filt_lc {β : Type} {enc : β → PyData} {tt : TT} {i : Nat} {σ : L2.St} {H2 : Hp} {S D : Addr} {xs : List V} {L : List β} {Qd : Hp → Prop} (p : β → Bool) (hS : H2 S = some (.lst xs)) (hr : RpL K H2 (L.map enc) xs) (hD : H2 D = none) (hσ : i < σ.length) (hl : L.length ≤ 1000000)
    (htt : ∀ (b : β) (x : V) (H' : Hp) (Q : Bool → Hp → Prop), b ∈ L → Rp K H' (enc b) x → Same H2 H' → Q (p b) H' → tt (σ.set i (some x)) H' Q)
    (hd : ∀ (H' : Hp) (ys : List V), Same H2 H' → H' D = some (.lst ys) → RpL K H' ((L.filter p).map enc) ys → Qd H') :
    ∃ W : Nat → Nat → Hp → Prop, (∃ m, W 0 m (upd H2 D (.lst []))) ∧ ∀ j m H, W j m H →
      ((Itl K S).stop j H ∧ Qd H) ∨ ((Itl K S).go j H ∧ ∃ Nx : Hp → Prop, (∀ H', Nx H' → ∃ m', m' < m ∧ W (j + 1) m' H') ∧ ∀ x H', (Itl K S).yld j H x H' → gName i x (wipe σ [i]) H' fun σ2 H2 => wipe σ2 [i] = wipe σ [i] ∧ tt σ2 H2 fun b H3 =>
        if b = true then tVar i σ2 H3 fun y H4 => ∃ acc, H4 D = some (.lst acc) ∧ acc.length < sizeLine ∧ Nx (upd H4 D (.lst (acc ++ [y]))) else Nx H3) := by
  refine lc_list (K := K) (a := S) (xs := xs) (fun j H => ∃ ys, Same H2 H ∧ H D = some (.lst ys) ∧ RpL K H (((L.take j).filter p).map enc) ys)
    ⟨[], (L2.Same.refl H2).new hD, upd_same, RpL.nil⟩ (fun j H _ ⟨ys, s, _, _⟩ => SqL.of (s _ _ hS)) ?_ ?_
  · rintro j x H3 hx ⟨ys, s3, hD3, hr3⟩
    have hlen := RpL.len _ _ hr
    have hj : j < L.length := by
      have q := (List.getElem?_eq_some_iff.mp hx).1
      rw [hlen, List.length_map] at q
      exact q
    obtain ⟨v, ev, rv⟩ := RpL.get _ _ hr j (enc L[j]) (by rw [List.getElem?_map, List.getElem?_eq_getElem hj]; rfl)
    have ex : v = x := Option.some.inj (ev.symm.trans hx)
    rw [ex] at rv
    have rx := Rp.tk (TK.of s3) _ _ rv
    show wipe ((wipe σ [i]).set i (some x)) [i] = wipe σ [i] ∧ _
    rw [set_wipe]
    refine ⟨wipe_set, ?_⟩
    have hly : ys.length < sizeLine := by
      have := RpL.len _ _ hr3
      rw [List.length_map] at this
      have h2 := List.length_filter_le p (L.take j)
      rw [List.length_take] at h2
      exact Nat.lt_of_le_of_lt (show ys.length ≤ 1000000 by omega) (by decide)
    refine htt L[j] x H3 _ (List.getElem_mem hj) rx s3 ?_
    have et : L.take (j + 1) = L.take j ++ [L[j]] := List.take_succ_eq_append_getElem hj
    cases e : p L[j] with
    | false =>
      refine iteF ⟨ys, s3, hD3, ?_⟩
      rw [et, List.filter_append, List.filter_cons, e]
      simpa using hr3
    | true =>
      refine iteT ⟨x, ?_, ys, hD3, hly, ys ++ [x], s3.wrn hD, upd_same, ?_⟩
      · rw [List.getElem?_set_self hσ]
      · have tE : TK H3 (upd H3 D (.lst (ys ++ [x]))) := (TK.refl _).wr hD3 rfl
        rw [et, List.filter_append, List.filter_cons, e, List.map_append]
        exact RpL.app (RpL.tk tE _ _ hr3) (RpL.cons (Rp.tk tE _ _ rx) RpL.nil)
  · rintro H3 ⟨ys, s3, hD3, hr3⟩
    have hlen := RpL.len _ _ hr
    rw [hlen, List.length_map, List.take_length] at hr3
    exact hd H3 ys s3 hD3 hr3
/-- [number of x for x in xs] -/
theorem mapI_lc {β : Type} {enc : β → PyData} {te : TE} {i : Nat} {σ : L2.St} {H2 : Hp} {S D : Addr} {xs : List V} {L : List β} {Qd : Hp → Prop} (f : β → Int) (hS : H2 S = some (.lst xs)) (hr : RpL K H2 (L.map enc) xs) (hD : H2 D = none) (hl : L.length ≤ 1000000)
    (hte : ∀ (b : β) (x : V) (H' : Hp) (Q : VK), b ∈ L → Rp K H' (enc b) x → Same H2 H' → Q (.int (f b)) H' → te (σ.set i (some x)) H' Q)
    (hd : ∀ (H' : Hp), Same H2 H' → H' D = some (.lst ((L.map f).map V.int)) → Qd H') :
    ∃ W : Nat → Nat → Hp → Prop, (∃ m, W 0 m (upd H2 D (.lst []))) ∧ ∀ j m H, W j m H →
      ((Itl K S).stop j H ∧ Qd H) ∨ ((Itl K S).go j H ∧ ∃ Nx : Hp → Prop, (∀ H', Nx H' → ∃ m', m' < m ∧ W (j + 1) m' H') ∧ ∀ x H', (Itl K S).yld j H x H' → gName i x (wipe σ [i]) H' fun σ2 H2 => wipe σ2 [i] = wipe σ [i] ∧ tYes σ2 H2 fun b H3 =>
        if b = true then te σ2 H3 fun y H4 => ∃ acc, H4 D = some (.lst acc) ∧ acc.length < sizeLine ∧ Nx (upd H4 D (.lst (acc ++ [y]))) else Nx H3) := by
  refine lc_list (K := K) (a := S) (xs := xs) (fun j H => Same H2 H ∧ H D = some (.lst (((L.take j).map f).map V.int)))
    ⟨(L2.Same.refl H2).new hD, upd_same⟩ (fun j H _ ⟨s, _⟩ => SqL.of (s _ _ hS)) ?_ ?_
  · rintro j x H3 hx ⟨s3, hD3⟩
    have hlen := RpL.len _ _ hr
    have hj : j < L.length := by
      have q := (List.getElem?_eq_some_iff.mp hx).1
      rw [hlen, List.length_map] at q
      exact q
    obtain ⟨v, ev, rv⟩ := RpL.get _ _ hr j (enc L[j]) (by rw [List.getElem?_map, List.getElem?_eq_getElem hj]; rfl)
    have ex : v = x := Option.some.inj (ev.symm.trans hx)
    rw [ex] at rv
    have rx := Rp.tk (TK.of s3) _ _ rv
    show wipe ((wipe σ [i]).set i (some x)) [i] = wipe σ [i] ∧ _
    rw [set_wipe]
    refine ⟨wipe_set, tYes_t (iteT ?_)⟩
    refine hte L[j] x H3 _ (List.getElem_mem hj) rx s3 ⟨_, hD3, ?_, s3.wrn hD, ?_⟩
    · rw [List.length_map, List.length_map, List.length_take]
      exact Nat.lt_of_le_of_lt (show min j L.length ≤ 1000000 by omega) (by decide)
    · rw [upd_same, List.take_succ_eq_append_getElem hj, List.map_append, List.map_append]
      rfl
  · rintro H3 ⟨s3, hD3⟩
    have hlen := RpL.len _ _ hr
    rw [hlen, List.length_map, List.take_length] at hD3
    exact hd H3 s3 hD3
end
section
variable {K : PySem.W.Frag} {H H' : Hp}
/-- [e for x in xs], each e data -/
theorem mapD_it {J : It} {G : Hp → Prop} {β : Type} {enc : β → PyData} {te : TE} {i : Nat} {σ : L2.St} {H2 : Hp} {D : Addr} {xs : List V} {L : List β} {Qd : Hp → Prop} (w : Walk J xs.length G (YAt xs)) (hG : ∀ H', Same H2 H' → G H') (g : β → PyData) (hr : RpL K H2 (L.map enc) xs) (hD : H2 D = none) (hl : L.length ≤ 1000000)
    (hte : ∀ (b : β) (x : V) (H' : Hp) (Q : VK), b ∈ L → Rp K H' (enc b) x → Same H2 H' → (∀ (H'' : Hp) (y : V), Same H' H'' → Rp K H'' (g b) y → Q y H'') → te (σ.set i (some x)) H' Q)
    (hd : ∀ (H' : Hp) (ys : List V), Same H2 H' → H' D = some (.lst ys) → RpL K H' (L.map g) ys → Qd H') :
    ∃ W : Nat → Nat → Hp → Prop, (∃ m, W 0 m (upd H2 D (.lst []))) ∧ ∀ j m H, W j m H →
      (J.stop j H ∧ Qd H) ∨ (J.go j H ∧ ∃ Nx : Hp → Prop, (∀ H', Nx H' → ∃ m', m' < m ∧ W (j + 1) m' H') ∧ ∀ x H', J.yld j H x H' → gName i x (wipe σ [i]) H' fun σ2 H2 => wipe σ2 [i] = wipe σ [i] ∧ tYes σ2 H2 fun b H3 =>
        if b = true then te σ2 H3 fun y H4 => ∃ acc, H4 D = some (.lst acc) ∧ acc.length < sizeLine ∧ Nx (upd H4 D (.lst (acc ++ [y]))) else Nx H3) := by
  refine lc_it w (fun j H => ∃ ys, Same H2 H ∧ H D = some (.lst ys) ∧ RpL K H ((L.take j).map g) ys)
    ⟨[], (L2.Same.refl H2).new hD, upd_same, RpL.nil⟩ (fun j H _ ⟨ys, s, _⟩ => hG H s) ?_ ?_
  · rintro j x H3 H3' hj ⟨ys, s3, hD3, hr3⟩ ⟨rfl, hx⟩
    have hlen := RpL.len _ _ hr
    rw [List.length_map] at hlen
    have hj : j < L.length := by omega
    obtain ⟨v, ev, rv⟩ := RpL.get _ _ hr j (enc L[j]) (by rw [List.getElem?_map, List.getElem?_eq_getElem hj]; rfl)
    have ex : v = x := Option.some.inj (ev.symm.trans hx)
    rw [ex] at rv
    have rx := Rp.tk (TK.of s3) _ _ rv
    show wipe ((wipe σ [i]).set i (some x)) [i] = wipe σ [i] ∧ _
    rw [set_wipe]
    refine ⟨wipe_set, tYes_t (iteT ?_)⟩
    refine hte L[j] x H3' _ (List.getElem_mem hj) rx s3 fun H4 y s4 ry => ⟨ys, s4 _ _ hD3, ?_, ys ++ [y], (s3.trans s4).wrn hD, upd_same, ?_⟩
    · have := RpL.len _ _ hr3
      rw [List.length_map, List.length_take] at this
      exact Nat.lt_of_le_of_lt (show ys.length ≤ 1000000 by omega) (by decide)
    · have tE : TK H4 (upd H4 D (.lst (ys ++ [y]))) := (TK.refl _).wr (s4 _ _ hD3) rfl
      rw [List.take_succ_eq_append_getElem hj, List.map_append]
      exact RpL.app (RpL.tk ((TK.of s4).trans tE) _ _ hr3) (RpL.cons (Rp.tk tE _ _ ry) RpL.nil)
  · rintro H3 ⟨ys, s3, hD3, hr3⟩
    have hlen := RpL.len _ _ hr
    rw [hlen, List.length_map, List.take_length] at hr3
    exact hd H3 ys s3 hD3 hr3
theorem RpL.ints : ∀ {ns : List Int} {ys : List V}, RpL K H (ns.map PyData.int) ys → ys = ns.map V.int
  | [], ys, h => by
    unfold List.map RpL at h
    exact h
  | n :: ns, ys, h => by
    rw [List.map_cons] at h
    unfold RpL at h
    obtain ⟨v, r, rfl, h1, h2⟩ := h
    unfold Rp at h1
    rw [RpL.ints h2, h1]
    rfl
theorem dp_ints : ∀ (ns : List Int), DpAll K H (ns.map V.int) (ns.map PyData.int)
  | [] => .nil
  | n :: ns => .cons (.int n) (dp_ints ns)
theorem LstAt.dict {α : Type} {enc : α → PyData} {a q : Addr} {ds : List PyData} {m : List (Int × α)} (h : LstAt K H a ds) (k : Kp [q] H H') (t : TK H H') (hq : DictAt enc K H q m) : LstAt K H' a ds := by
  obtain ⟨xs, h1, _⟩ := id h
  obtain ⟨kv, h2, _⟩ := hq
  exact h.kp k t (nin1 (ne_of h1 h2 (by intro z; cases z)))
theorem dep_ints (ns : List Int) : dep (.tuple (ns.map PyData.int)) ≤ 1 := by
  unfold dep
  have := deps_map_le (c := 0) (f := PyData.int) ns fun x _ => Nat.le_refl _
  omega
end
section
variable {K : PySem.W.Frag} {H H' : Hp}
/-- [e for i in range(..)], each e data -/
theorem mapR_it {J : It} {n : Nat} {fv : Nat → V} {te : TE} {i : Nat} {σ : L2.St} {H2 : Hp} {D : Addr} {Qd : Hp → Prop} (w : Walk J n (fun _ => True) (YFn fv)) (g : Nat → PyData) (hD : H2 D = none) (hl : n ≤ 1000000)
    (hte : ∀ (j : Nat) (H' : Hp) (Q : VK), j < n → Same H2 H' → (∀ (H'' : Hp) (y : V), Same H' H'' → Rp K H'' (g j) y → Q y H'') → te (σ.set i (some (fv j))) H' Q)
    (hd : ∀ (H' : Hp) (ys : List V), Same H2 H' → H' D = some (.lst ys) → RpL K H' ((List.range n).map g) ys → Qd H') :
    ∃ W : Nat → Nat → Hp → Prop, (∃ m, W 0 m (upd H2 D (.lst []))) ∧ ∀ j m H, W j m H →
      (J.stop j H ∧ Qd H) ∨ (J.go j H ∧ ∃ Nx : Hp → Prop, (∀ H', Nx H' → ∃ m', m' < m ∧ W (j + 1) m' H') ∧ ∀ x H', J.yld j H x H' → gName i x (wipe σ [i]) H' fun σ2 H2 => wipe σ2 [i] = wipe σ [i] ∧ tYes σ2 H2 fun b H3 =>
        if b = true then te σ2 H3 fun y H4 => ∃ acc, H4 D = some (.lst acc) ∧ acc.length < sizeLine ∧ Nx (upd H4 D (.lst (acc ++ [y]))) else Nx H3) := by
  refine lc_it w (fun j H => ∃ ys, Same H2 H ∧ H D = some (.lst ys) ∧ RpL K H ((List.range j).map g) ys)
    ⟨[], (L2.Same.refl H2).new hD, upd_same, RpL.nil⟩ (fun j H _ _ => trivial) ?_ ?_
  · rintro j x H3 H3' hj ⟨ys, s3, hD3, hr3⟩ ⟨rfl, rfl⟩
    show wipe ((wipe σ [i]).set i (some (fv j))) [i] = wipe σ [i] ∧ _
    rw [set_wipe]
    refine ⟨wipe_set, tYes_t (iteT ?_)⟩
    refine hte j H3' _ hj s3 fun H4 y s4 ry => ⟨ys, s4 _ _ hD3, ?_, ys ++ [y], (s3.trans s4).wrn hD, upd_same, ?_⟩
    · have := RpL.len _ _ hr3
      rw [List.length_map, List.length_range] at this
      exact Nat.lt_of_le_of_lt (show ys.length ≤ 1000000 by omega) (by decide)
    · have tE : TK H4 (upd H4 D (.lst (ys ++ [y]))) := (TK.refl _).wr (s4 _ _ hD3) rfl
      rw [List.range_succ, List.map_append]
      exact RpL.app (RpL.tk ((TK.of s4).trans tE) _ _ hr3) (RpL.cons (Rp.tk tE _ _ ry) RpL.nil)
  · rintro H3 ⟨ys, s3, hD3, hr3⟩
    exact hd H3 ys s3 hD3 hr3
end
end Wn

namespace Wn
open PySem L2
/-- a new tuple is appended to a list of data -/
theorem push_tup {K : PySem.W.Frag} {G : Hp} {t fa : Addr} {zs vs : List V} {U ds : List PyData} (hG : G fa = some (.lst zs)) (rG : RpL K G U zs) (nt : G t = none) (rv : RpL K G ds vs) :
    upd G t (.tup vs) fa = some (.lst zs) ∧ LstAt K (upd (upd G t (.tup vs)) fa (.lst (zs ++ [.ref t]))) fa (U ++ [.tuple ds]) ∧ TK G (upd (upd G t (.tup vs)) fa (.lst (zs ++ [.ref t]))) ∧ Kp [fa] G (upd (upd G t (.tup vs)) fa (.lst (zs ++ [.ref t]))) := by
  have s6 : Same G (upd G t (.tup vs)) := (L2.Same.refl _).new nt
  have rt : Rp K (upd G t (.tup vs)) (.tuple ds) (.ref t) := Rp.tup upd_same (RpL.tk (TK.of s6) _ _ rv)
  have tE : TK (upd G t (.tup vs)) (upd (upd G t (.tup vs)) fa (.lst (zs ++ [.ref t]))) := (TK.refl _).wr (s6 _ _ hG) rfl
  exact ⟨s6 _ _ hG, ⟨_, upd_same, RpL.tk tE _ _ (RpL.app (RpL.tk (TK.of s6) _ _ rG) (RpL.cons rt RpL.nil))⟩, (TK.of s6).trans tE, (Kp.of s6).wr (List.mem_singleton.mpr rfl)⟩
/-- a thing that stands is appended -/
theorem push_old {K : PySem.W.Frag} {G : Hp} {fa : Addr} {zs : List V} {v : V} {U : List PyData} {d : PyData} (hG : G fa = some (.lst zs)) (rG : RpL K G U zs) (rv : Rp K G d v) :
    LstAt K (upd G fa (.lst (zs ++ [v]))) fa (U ++ [d]) ∧ TK G (upd G fa (.lst (zs ++ [v]))) ∧ Kp [fa] G (upd G fa (.lst (zs ++ [v]))) := by
  have tE : TK G (upd G fa (.lst (zs ++ [v]))) := (TK.refl _).wr hG rfl
  exact ⟨⟨_, upd_same, RpL.tk tE _ _ (RpL.app rG (RpL.cons rv RpL.nil))⟩, tE, (Kp.refl _ _).wr (List.mem_singleton.mpr rfl)⟩
/-- flat data: the very values -/
theorem RpL.flat {β : Type} {K : PySem.W.Frag} {H : Hp} {f : β → PyData} {g : β → V} (h : ∀ b v, Rp K H (f b) v → v = g b) : ∀ {L : List β} {ys : List V}, RpL K H (L.map f) ys → ys = L.map g
  | [], ys, r => by
    rw [List.map_nil] at r
    unfold RpL at r
    exact r
  | b :: L, ys, r => by
    rw [List.map_cons] at r
    unfold RpL at r
    obtain ⟨v, t, rfl, h1, h2⟩ := r
    rw [h b v h1, RpL.flat h h2]
    rfl
theorem Rp.bool_eq {K : PySem.W.Frag} {H : Hp} {b : Bool} {v : V} (r : Rp K H (.bool b) v) : v = .bl b := by
  unfold Rp at r
  exact r
theorem Rp.str_eq {K : PySem.W.Frag} {H : Hp} {z : Str} {v : V} (r : Rp K H (.str z) v) : v = .str z := by
  unfold Rp at r
  exact r
theorem Rp.int_eq {K : PySem.W.Frag} {H : Hp} {i : Int} {v : V} (r : Rp K H (.int i) v) : v = .int i := by
  unfold Rp at r
  exact r
theorem Rp.bool {K : PySem.W.Frag} {H : Hp} {b : Bool} : Rp K H (.bool b) (.bl b) := by
  unfold Rp
  rfl
mutual
theorem Rp.dp {K : PySem.W.Frag} {H : Hp} : ∀ (d : PyData) (v : V), Rp K H d v → Dp K H v d
  | .none, _, h => by
    unfold Rp at h
    subst h
    exact .non
  | .bool b, _, h => by
    unfold Rp at h
    subst h
    exact .bl b
  | .int i, _, h => by
    unfold Rp at h
    subst h
    exact .int i
  | .str s, _, h => by
    unfold Rp at h
    subst h
    exact .str s
  | .tuple ds, v, h => by
    unfold Rp at h
    obtain ⟨a, xs, rfl, hs, hl⟩ := h
    exact .tup hs (RpL.dp ds xs hl)
  | .list _, _, h => by
    unfold Rp at h
    exact h.elim
  | .dict _, _, h => by
    unfold Rp at h
    exact h.elim
theorem RpL.dp {K : PySem.W.Frag} {H : Hp} : ∀ (ds : List PyData) (xs : List V), RpL K H ds xs → DpAll K H xs ds
  | [], xs, h => by
    unfold RpL at h
    subst h
    exact .nil
  | d :: ds, xs, h => by
    unfold RpL at h
    obtain ⟨v, r, rfl, h1, h2⟩ := h
    exact .cons (Rp.dp d v h1) (RpL.dp ds r h2)
end
end Wn

namespace Wn
open PySem L2 PySem.Spec PyProof.Rows
section
variable {X : Cx} {K : PySem.W.Frag}
theorem slA (hK : X.K = K) : SlR X (rSlA K) := hK ▸ sl_tupA
theorem opCatA (hK : X.K = K) : OpR X (binaryOp .Add) (rCatA K) := hK ▸ op_catA
/-- x in a tuple of data -/
def rInDT (K : PySem.W.Frag) : R2 := fun x y H Q => ∃ d ds, Dp K H x d ∧ Dp K H y (.tuple ds) ∧ SeqAt.shaped d = true ∧ SeqAt.shaped (.tuple ds) = true ∧ Q (.bl (ds.any fun z => PyData.eqv z d)) H
def rNotInDT (K : PySem.W.Frag) : R2 := fun x y H Q => ∃ d ds, Dp K H x d ∧ Dp K H y (.tuple ds) ∧ SeqAt.shaped d = true ∧ SeqAt.shaped (.tuple ds) = true ∧ Q (.bl (!ds.any fun z => PyData.eqv z d)) H
theorem room_inT {A : Around} {d : PyData} {xs : List PyData} (h : SeqAt.shaped d = true) (hu : A.units + 65 < cLine) : A.units + 1 + min (PyData.depthAll xs) d.depth < cLine := by
  have h1 := SeqAt.depth_of_shaped h
  have h2 : min (PyData.depthAll xs) d.depth ≤ d.depth := Nat.min_le_right _ _
  omega
theorem op_inDT (hu : X.A.units + 65 < cLine) : OpR X (compareOp .In) (rInDT X.K) := by
  intro pins s σ H x y v u Q I rx ry h
  obtain ⟨d, ds, hd, he, sd, se, q⟩ := h
  obtain ⟨as, r1⟩ := Dp.reads I d x v hd rx
  obtain ⟨bs, r2⟩ := Dp.reads I (.tuple ds) y u he ry
  exact SeqAt.in_tuple_reads r2 r1 (SeqAt.canLay_of_shaped se) (SeqAt.canLay_of_shaped sd) (room_inT sd hu) ⟨.bl _, H, I, rfl, q⟩
theorem op_notInDT (hu : X.A.units + 65 < cLine) : OpR X (compareOp .NotIn) (rNotInDT X.K) := by
  intro pins s σ H x y v u Q I rx ry h
  obtain ⟨d, ds, hd, he, sd, se, q⟩ := h
  obtain ⟨as, r1⟩ := Dp.reads I d x v hd rx
  obtain ⟨bs, r2⟩ := Dp.reads I (.tuple ds) y u he ry
  exact SeqAt.notIn_tuple_reads r2 r1 (SeqAt.canLay_of_shaped se) (SeqAt.canLay_of_shaped sd) (room_inT sd hu) ⟨.bl _, H, I, rfl, q⟩
theorem inDTK (hK : X.K = K) (hu : X.A.units + 65 < cLine) : OpR X (compareOp .In) (rInDT K) := hK ▸ op_inDT hu
theorem notInDTK (hK : X.K = K) (hu : X.A.units + 65 < cLine) : OpR X (compareOp .NotIn) (rNotInDT K) := hK ▸ op_notInDT hu
theorem room65 {k : Nat} {A : Around} (r : Room k A) : A.units + 65 < cLine := by have := r.un; omega
end
end Wn

namespace Wn
open PySem L2
def top (i : Nat) : Stmt := PySem.Challenge.pw_wrapnets_k45_gates_let.main.body.getD i (.Pass ⟨0, 0, 0, 0⟩)
abbrev sDeck : Stmt := top 7
abbrev sDraw : Stmt := top 8
abbrev sOne : Stmt := top 9
/-- a deck at d: its cells at cs, what is left of them at rs; n draws were taken at most -/
def Deck2 (H : Hp) (d cs rs : Addr) (n : Int) : Prop :=
  ∃ (a b : Int) (xs ys : List Int), H d = some (.lst [.ref cs, .int a, .ref rs, .int b]) ∧ H cs = some (.lst (xs.map V.int)) ∧ H rs = some (.lst (ys.map V.int)) ∧ 0 ≤ a ∧ a ≤ n ∧ 0 < xs.length ∧ xs.length ≤ 100 ∧ ys.length = xs.length ∧ -2 ^ 60 < b ∧ b < 2 ^ 60 ∧ cs ≠ d ∧ rs ≠ d ∧ cs ≠ rs
def spDraw : Sp := fun vs H Q _ => ∃ (d cs rs : Addr) (m n : Int), vs = [.ref d, .int m] ∧ 0 < m ∧ m < 1000000000 ∧ n < 2 ^ 60 ∧ Deck2 H d cs rs n ∧
  ∀ (r : Int) (H' : Hp), 0 ≤ r → r < m → Kp [d, rs] H H' → Deck2 H' d cs rs (n + 1) → Q (.int r) H'
def spDeck2 (K : PySem.W.Frag) : Sp := fun vs H Q _ => ∃ (a : Addr) (ns : List Int), vs = [.ref a] ∧ SqL K H a (ns.map V.int) ∧ ns.length ≤ 63 ∧
  ∀ (H' : Hp) (d cs rs : Addr), H d = none → H cs = none → H rs = none → Same H H' → Deck2 H' d cs rs 0 → Q (.ref d) H'
section
variable {H H' : Hp} {d cs rs : Addr} {n : Int}
theorem Deck2.kp {M : List Addr} (h : Deck2 H d cs rs n) (k : Kp M H H') (n1 : d ∉ M) (n2 : cs ∉ M) (n3 : rs ∉ M) : Deck2 H' d cs rs n := by
  obtain ⟨a, b, xs, ys, h1, h2, h3, r⟩ := h
  exact ⟨a, b, xs, ys, k _ _ n1 h1, k _ _ n2 h2, k _ _ n3 h3, r⟩
theorem Deck2.mono {m : Int} (h : Deck2 H d cs rs n) (hm : n ≤ m) : Deck2 H d cs rs m := by
  obtain ⟨a, b, xs, ys, h1, h2, h3, h4, h5, r⟩ := h
  exact ⟨a, b, xs, ys, h1, h2, h3, h4, by omega, r⟩
theorem Deck2.same (h : Deck2 H d cs rs n) (s : Same H H') : Deck2 H' d cs rs n := h.kp (M := []) (Kp.of s) (by simp) (by simp) (by simp)
theorem Deck2.l1 (h : Deck2 H d cs rs n) : ∃ zs, H d = some (.lst zs) := by
  obtain ⟨a, b, xs, ys, h1, h2, h3, r⟩ := h
  exact ⟨_, h1⟩
theorem Deck2.l2 (h : Deck2 H d cs rs n) : ∃ zs, H cs = some (.lst zs) := by
  obtain ⟨a, b, xs, ys, h1, h2, h3, r⟩ := h
  exact ⟨_, h2⟩
theorem Deck2.l3 (h : Deck2 H d cs rs n) : ∃ zs, H rs = some (.lst zs) := by
  obtain ⟨a, b, xs, ys, h1, h2, h3, r⟩ := h
  exact ⟨_, h3⟩
/-- a new thing is none of the deck's -/
theorem Deck2.new {p : Addr} (h : Deck2 H d cs rs n) (hp : H p = none) : p ≠ d ∧ p ≠ cs ∧ p ≠ rs :=
  ⟨(ne_of_none h.l1.choose_spec hp).symm, (ne_of_none h.l2.choose_spec hp).symm, (ne_of_none h.l3.choose_spec hp).symm⟩
end
theorem atInt {xs : List Int} {r : Int} (h0 : 0 ≤ r) (h1 : r < xs.length) : ∃ x, xs[r.toNat]? = some x ∧ atI (xs.map V.int) r = some (.int x) := by
  have hl : r.toNat < xs.length := by omega
  refine ⟨xs[r.toNat], List.getElem?_eq_getElem hl, ?_⟩
  have e : ((r.toNat : Nat) : Int) = r := by omega
  have := atI_nat (xs := xs.map V.int) (j := r.toNat) (v := .int xs[r.toNat]) (by rw [List.getElem?_map, List.getElem?_eq_getElem hl]; rfl)
  rw [e] at this
  exact this
theorem SqL.sm {K : PySem.W.Frag} {H H' : Hp} {a : Addr} {xs : List V} (h : SqL K H a xs) (e : Same H H') : SqL K H' a xs := by
  rcases h with (h | ⟨o, h⟩) | h
  · exact .inl (.inl (e _ _ h))
  · exact .inl (.inr ⟨o, e _ _ h⟩)
  · exact .inr h
theorem SqL.kp {K : PySem.W.Frag} {M : List Addr} {H H' : Hp} {a : Addr} {xs : List V} (h : SqL K H a xs) (e : Kp M H H') (n : a ∉ M) : SqL K H' a xs := by
  rcases h with (h | ⟨o, h⟩) | h
  · exact .inl (.inl (e _ _ n h))
  · exact .inl (.inr ⟨o, e _ _ n h⟩)
  · exact .inr h
structure DB (mg : Str → Option Value) : Prop where
  len : mg "len" = none
  list : mg "list" = none
  int : mg "int" = none


section
variable {P : Program} {w : World} {K : PySem.W.Frag} {mg : Str → Option Value} {base : Heap}
theorem scDraw : FnScope ["_law_deck_here", "_law_many", "_law_cells", "_law_turn", "_law_rests", "_law_blend", "_law_spot", "_law_digit"] ["_law_deck_here", "_law_many"] (defScope sDraw) := ⟨rfl, rfl, rfl, by decide +kernel, rfl, by decide +kernel, by decide +kernel⟩
theorem ok_draw {f : Addr} {fd : FuncData} (F : Fun K "_law_draw" "_law_draw" sDraw f fd) (B : DB mg) : FnOk P w K mg base CX0 1 f fd ["_law_deck_here", "_law_many"] spDraw := by
  refine F.ok scDraw (fun vs H Q E h => ?_) (fun cdv A outer s H vs Q E hr h => ?_)
  · obtain ⟨d, cs, rs, m, n, rfl, _⟩ := h
    rfl
  · obtain ⟨d, cs, rs, m, n, rfl, m0, m1, hn, ⟨a, b, xs, ys, h1, h2, h3, a0, a1, x0, x1, lxy, b0, b1, ncd, nrd, ncr⟩, k⟩ := h
    refine ⟨_, (pss_cons (ps_asg (pv 0) (pg_lst rfl (pgs_cons (pg_name (i := 2) scDraw.nd rfl (Or.inl rfl)) (pgs_cons (pg_name (i := 3) scDraw.nd rfl (Or.inl rfl)) (pgs_cons (pg_name (i := 4) scDraw.nd rfl (Or.inl rfl)) (pgs_cons (pg_name (i := 5) scDraw.nd rfl (Or.inl rfl)) pgs_nil))))))
       (pss_cons (ps_set (i := 6) scDraw.nd rfl (Or.inl rfl) (pe_op op_mod (pv 3) (pe_callB (lenK (K := K) rfl) (by rfl) B.len PySem.boot_len (pa_cons (pv 2) pa_nil))))
       (pss_cons (ps_asg (pe_op op_add (pv 3) pe_int) (pg_sub (pv 0) pe_int set_list))
       (pss_cons (ps_if (pt_cmpR op_gt (pe_ix (ixL (K := K) rfl) (pv 4) (pv 6) (fun _ _ => rfl)) pe_int (nomark _))
       (pss_cons (ps_set (i := 7) scDraw.nd rfl (Or.inl rfl) (pe_op op_mod (pe_ix (ixL (K := K) rfl) (pv 4) (pv 6) (fun _ _ => rfl)) (pv 1)))
       (pss_cons (ps_asg (pe_op op_fdiv (pe_ix (ixL (K := K) rfl) (pv 4) (pv 6) (fun _ _ => rfl)) (pv 1)) (pg_sub (pv 4) (pv 6) set_list))
       (pss_one (ps_ret (pv 7)))))
       pss_nil)
       (pss_cons (ps_asg (pe_op op_mod (pe_op op_add (pe_op op_add (pe_op op_mul (pv 5) pe_int) (pe_op op_mod (pe_ix (ixL (K := K) rfl) (pv 2) (pv 6) (fun _ _ => rfl)) pe_int)) (pe_op op_mul pe_int (pv 3))) pe_int) (pg_sub (pv 0) pe_int set_list))
       (pss_one (ps_ret (pe_op op_mod (pe_op op_fdiv (pe_op op_mod (pe_op op_mul (pe_ix (ixL (K := K) rfl) (pv 0) pe_int (fun _ _ => rfl)) (pe_ix (ixL (K := K) rfl) (pv 0) pe_int (fun _ _ => rfl))) pe_int) pe_int) (pv 1))))))))), ?_⟩
    refine ⟨_, rfl, d, _, rfl, SqL.of h1, rfl, _, _, rfl, _, _, rfl, _, _, rfl, _, _, rfl, rfl, ?_⟩
    have lx0 : (0 : Int) < (xs.length : Int) := by omega
    refine ⟨_, rfl, _, rfl, _, xs.length, rfl, .inl ⟨_, SqL.of h2, (List.length_map _).symm⟩, _, _, rfl, rfl, lx0, ?_⟩
    obtain ⟨sp, esp, sp0, sp1⟩ : ∃ sp : Int, a % (xs.length : Int) = sp ∧ 0 ≤ sp ∧ sp < xs.length := ⟨_, rfl, Int.emod_nonneg _ (by omega), Int.emod_lt_of_pos _ lx0⟩
    rw [show (fun i j => V.int (i % j)) a (xs.length : Int) = V.int sp from congrArg V.int esp]
    refine ⟨_, rfl, _, _, rfl, rfl, _, rfl, d, _, _, 1, rfl, rfl, h1, rfl, ?_⟩
    show tSeq _ _ _ _ (upd H d (.lst [.ref cs, .int (a + 1), .ref rs, .int b]))
    have g1 : upd H d (.lst [.ref cs, .int (a + 1), .ref rs, .int b]) d = some (.lst [.ref cs, .int (a + 1), .ref rs, .int b]) := upd_same
    have g2 : upd H d (.lst [.ref cs, .int (a + 1), .ref rs, .int b]) cs = some (.lst (xs.map V.int)) := (upd_ne ncd).trans h2
    have g3 : upd H d (.lst [.ref cs, .int (a + 1), .ref rs, .int b]) rs = some (.lst (ys.map V.int)) := (upd_ne nrd).trans h3
    have gk : Kp [d, rs] H (upd H d (.lst [.ref cs, .int (a + 1), .ref rs, .int b])) := (Kp.refl _ _).wr List.mem_cons_self
    generalize upd H d (.lst [.ref cs, .int (a + 1), .ref rs, .int b]) = H1 at g1 g2 g3 gk
    obtain ⟨y, ey, ay⟩ := atInt (xs := ys) sp0 (by omega)
    obtain ⟨x, ex, ax⟩ := atInt (xs := xs) sp0 sp1
    refine ⟨_, rfl, _, rfl, rs, _, _, _, rfl, rfl, SqL.of g3, ay, _, _, rfl, rfl, _, rfl, ?_⟩
    refine ite2 (fun hc => ?_) (fun hc => ?_)
    · refine ⟨_, rfl, _, rfl, rs, _, _, _, rfl, rfl, SqL.of g3, ay, _, rfl, _, _, rfl, rfl, m0, ?_⟩
      refine ⟨_, rfl, _, rfl, rs, _, _, _, rfl, rfl, SqL.of g3, ay, _, rfl, _, _, rfl, rfl, ⟨m0, by omega⟩, ?_⟩
      have ej : ixN (ys.map V.int).length sp = some sp.toNat := by
        unfold ixN
        rw [List.length_map, if_pos sp0, if_pos (by omega)]
      refine ⟨_, rfl, _, rfl, rs, _, _, sp.toNat, rfl, rfl, g3, ej, ?_⟩
      refine ⟨_, rfl, k _ _ (Int.emod_nonneg _ (by omega)) (Int.emod_lt_of_pos _ m0) (gk.wr (List.mem_cons_of_mem _ (List.mem_singleton.mpr rfl))) ⟨a + 1, b, xs, ys.set sp.toNat (y / m), ?_, ?_, ?_, by omega, by omega, x0, x1, by rw [List.length_set]; exact lxy, b0, b1, ncd, nrd, ncr⟩⟩
      · rw [upd_ne nrd.symm]
        exact g1
      · rw [upd_ne ncr]
        exact g2
      · rw [upd_same, List.map_set]
    · refine ⟨_, rfl, _, _, rfl, rfl, .inr ⟨by decide, by decide⟩, _, rfl, _, rfl, cs, _, _, _, rfl, rfl, SqL.of g2, ax, _, _, rfl, rfl, (by show (0 : Int) < 2147483629; decide), _, _, rfl, rfl, _, rfl, _, _, rfl, rfl, .inl ⟨by decide, by decide⟩, _, _, rfl, rfl, _, _, rfl, rfl, (by show (0 : Int) < 2147483647; decide), ?_⟩
      obtain ⟨z, ez, z0, z1⟩ : ∃ z : Int, (b * 48271 + x % 2147483629 + 30011 * a) % 2147483647 = z ∧ 0 ≤ z ∧ z < 2147483647 := ⟨_, rfl, Int.emod_nonneg _ (by decide), Int.emod_lt_of_pos _ (by decide)⟩
      rw [show (fun i j => V.int (i % j)) (b * 48271 + x % 2147483629 + 30011 * a) 2147483647 = V.int z from congrArg V.int ez]
      refine ⟨_, rfl, d, _, _, 3, rfl, rfl, g1, rfl, ?_⟩
      rw [show [V.ref cs, .int (a + 1), .ref rs, .int b].set 3 (.int z) = [V.ref cs, .int (a + 1), .ref rs, .int z] from rfl]
      have e1 : upd H1 d (.lst [.ref cs, .int (a + 1), .ref rs, .int z]) d = some (.lst [.ref cs, .int (a + 1), .ref rs, .int z]) := upd_same
      refine ⟨_, rfl, d, _, _, .int z, rfl, rfl, SqL.of e1, rfl, _, rfl, d, _, _, .int z, rfl, rfl, SqL.of e1, rfl, _, _, rfl, rfl, .inl ⟨by omega, by omega⟩, _, _, rfl, rfl, (by show (0 : Int) < 2147483629; decide), _, _, rfl, rfl, ⟨by decide, by decide⟩, _, rfl, _, _, rfl, rfl, m0, ?_⟩
      exact k _ _ (Int.emod_nonneg _ (by omega)) (Int.emod_lt_of_pos _ m0) (gk.wr List.mem_cons_self) ⟨a + 1, z, xs, ys, e1, (upd_ne ncd).trans g2, (upd_ne nrd).trans g3, by omega, by omega, x0, x1, lxy, by omega, by omega, ncd, nrd, ncr⟩
theorem scDeck : FnScope ["_law_script", "_law_cells", "_law_cell"] ["_law_script"] (defScope sDeck) := ⟨rfl, rfl, rfl, by decide +kernel, rfl, by decide +kernel, by decide +kernel⟩
theorem ok_deck2 {f : Addr} {fd : FuncData} (F : Fun K "_law_deck" "_law_deck" sDeck f fd) (B : DB mg) : FnOk P w K mg base CX0 1 f fd ["_law_script"] (spDeck2 K) := by
  refine F.ok scDeck (fun vs H Q E h => ?_) (fun cdv A outer s H vs Q E hr h => ?_)
  · obtain ⟨a, ns, rfl, _⟩ := h
    rfl
  · obtain ⟨a, ns, rfl, hS, hl, k⟩ := h
    refine ⟨_, (pss_cons (ps_set (i := 1) scDeck.nd rfl (Or.inl rfl) (pe_op op_cat (pe_callTy (lstOfK (K := K) rfl) (by rfl) B.list (by decide +kernel) (pa_cons (pe_slice (slL (K := K) rfl) (pv 0) po_none (po_some pe_int)) pa_nil)) (pe_op op_rep (pe_lst (pa_cons pe_int pa_nil)) (pe_callTy call_int1 (by rfl) B.int PyProof.Rows.boot_int (pa_cons (pe_cmpR op_eq (pe_callB (lenK (K := K) rfl) (by rfl) B.len PySem.boot_len (pa_cons (pv 0) pa_nil)) pe_int (nomark _)) pa_nil)))))
       (pss_one (ps_ret (pe_lst (pa_cons (pv 1) (pa_cons pe_int (pa_cons (pe_lc (own := [("_law_cell", 2)]) (g := (gName 2)) (tt := tYes) rfl scDeck.nd (pi_list (pv 1)) (blkOk_by (N := ["_law_script", "_law_cells", "_law_cell"]) (sc := defScope sDeck) (by decide +kernel))
       (fun _ _ _ _ _ => (pg_name (i := 2) scDeck.nd rfl (Or.inl rfl))) (fun _ _ _ _ _ => pts_nil) (fun _ _ _ _ _ => (pe_op op_mul (pv 2) (pe_callTy call_int1 (by rfl) B.int PyProof.Rows.boot_int (pa_cons (pe_cmpR op_ge (pv 2) (pe_op op_pow pe_int pe_int) (nomark _)) pa_nil))))) (pa_cons pe_int pa_nil)))))))), ?_⟩
    refine ⟨_, rfl, _, rfl, a, _, rfl, hS, fun l1 n1 => ?_⟩
    obtain ⟨ms, ems, lms⟩ : ∃ ms : List Int, cutV (ns.map V.int) none (some 63) = ms.map V.int ∧ ms.length = ns.length := by
      refine ⟨ns, ?_, rfl⟩
      unfold cutV
      have e : HT.sIx (ns.map V.int).length (ns.map V.int).length (some 63) = min 63 (ns.map V.int).length := HT.sIx_nat _ _ 63
      rw [e, HT.sIx_none, List.drop_zero, Nat.sub_zero, List.length_map, Nat.min_eq_right hl]
      exact List.take_of_length_le (by rw [List.length_map]; exact Nat.le_refl _)
    rw [ems]
    have s1 : Same H (upd H l1 (.lst (ms.map V.int))) := (L2.Same.refl _).new n1
    have e1 : upd H l1 (.lst (ms.map V.int)) l1 = some (.lst (ms.map V.int)) := upd_same
    generalize upd H l1 (.lst (ms.map V.int)) = H1 at s1 e1
    refine ⟨l1, _, rfl, .inl (SqL.of e1), fun l2 n2 => ?_⟩
    have s2 : Same H1 (upd H1 l2 (.lst (ms.map V.int))) := (L2.Same.refl _).new n2
    have e2 : upd H1 l2 (.lst (ms.map V.int)) l2 = some (.lst (ms.map V.int)) := upd_same
    generalize upd H1 l2 (.lst (ms.map V.int)) = H2 at s2 e2
    refine ⟨(by show 1 ≤ sizeLine; decide), fun l3 n3 => ?_⟩
    have s3 : Same H2 (upd H2 l3 (.lst [.int 7])) := (L2.Same.refl _).new n3
    have e3 : upd H2 l3 (.lst [.int 7]) l3 = some (.lst [.int 7]) := upd_same
    generalize upd H2 l3 (.lst [.int 7]) = H3 at s3 e3
    have s03 := (s1.trans s2).trans s3
    refine ⟨_, rfl, _, ns.length, rfl, .inl ⟨_, SqL.sm hS s03, (List.length_map _).symm⟩, rfl, .inr ⟨_, rfl, ?_⟩⟩
    obtain ⟨c, ec, c0, c1, c2⟩ : ∃ c : Int, (if decide (V.int (ns.length : Int) = V.int 0) = true then (1 : Int) else 0) = c ∧ 0 ≤ c ∧ c ≤ 1 ∧ (ns.length = 0 → c = 1) := by
      refine ⟨_, rfl, ?_, ?_, fun z => ?_⟩
      · split <;> omega
      · split <;> omega
      · rw [z]
        rfl
    rw [ec]
    refine ⟨l3, c, _, rfl, rfl, e3, by omega, by omega, ?_, fun l4 n4 => ?_⟩
    · have : [V.int 7].length * c.toNat ≤ 1 := by
        rw [List.length_singleton]
        omega
      exact Nat.le_trans this (by decide)
    obtain ⟨zs, ez, lz⟩ : ∃ zs : List Int, (List.replicate c.toNat [V.int 7]).flatten = zs.map V.int ∧ zs.length = c.toNat := by
      have h : c = 0 ∨ c = 1 := by omega
      rcases h with rfl | rfl
      · exact ⟨[], rfl, rfl⟩
      · exact ⟨[7], rfl, rfl⟩
    rw [ez]
    have s4 : Same H3 (upd H3 l4 (.lst (zs.map V.int))) := (L2.Same.refl _).new n4
    have e4 : upd H3 l4 (.lst (zs.map V.int)) l4 = some (.lst (zs.map V.int)) := upd_same
    generalize upd H3 l4 (.lst (zs.map V.int)) = H4 at s4 e4
    have e24 := (s3.trans s4) _ _ e2
    refine ⟨l2, l4, _, _, rfl, rfl, e24, e4, ?_, fun cs ncs => ?_⟩
    · rw [List.length_map, List.length_map]
      exact Nat.le_trans (show ms.length + zs.length ≤ 1000 by omega) (by decide)
    rw [← List.map_append]
    have s5 : Same H4 (upd H4 cs (.lst ((ms ++ zs).map V.int))) := (L2.Same.refl _).new ncs
    have e5 : upd H4 cs (.lst ((ms ++ zs).map V.int)) cs = some (.lst ((ms ++ zs).map V.int)) := upd_same
    have lc : 0 < (ms ++ zs).length ∧ (ms ++ zs).length ≤ 100 := by
      rw [List.length_append]
      omega
    generalize upd H4 cs (.lst ((ms ++ zs).map V.int)) = H5 at s5 e5
    generalize ms ++ zs = xs at e5 lc
    have s05 := (s03.trans s4).trans s5
    refine ⟨_, rfl, _, rfl, cs, rfl, ⟨_, SqL.of e5⟩, fun rs nrs => ?_⟩
    have rI : RpL K H5 (xs.map PyData.int) (xs.map V.int) := by
      clear e5 lc nrs
      induction xs with
      | nil => exact RpL.nil
      | cons n ns ih => exact RpL.cons Rp.int ih
    refine mapI_lc (K := K) (i := 2) (enc := PyData.int) (fun x => x * (if decide (10 ^ 18 ≤ x) = true then 1 else 0)) e5 rI nrs (by omega) ?_ ?_
    · intro b x H' Q' hb rx s' hQ
      have ex := Rp.int_eq rx
      subst ex
      refine ⟨_, rfl, _, rfl, _, _, rfl, rfl, ⟨by decide, by decide, by decide⟩, ?_⟩
      rw [show (fun i j : Int => V.int (i ^ j.toNat)) 10 18 = V.int (10 ^ 18) from by decide +kernel]
      refine ⟨_, _, rfl, rfl, .inr ⟨_, rfl, _, _, rfl, rfl, .inr ⟨?_, ?_⟩, hQ⟩⟩
      · split <;> omega
      · split <;> omega
    · intro H6 s6 e6
      have e56 := s6 _ _ e5
      refine ⟨(by show 4 ≤ sizeLine; decide), fun d nd => ?_⟩
      have s7 : Same H6 (upd H6 d (.lst [.ref cs, .int 0, .ref rs, .int 1])) := (L2.Same.refl _).new nd
      have s56 : Same H5 H6 := s6
      have back : ∀ {G G' : Hp} {p : Addr}, Same G G' → G' p = none → G p = none := fun {G G' p} sm h => by
        cases e : G p with
        | none => rfl
        | some o =>
          rw [sm _ _ e] at h
          cases h
      refine k _ d cs rs (back (s05.trans s56) nd) (back (s03.trans s4) ncs) (back s05 nrs) ((s05.trans s56).trans s7) ⟨0, 1, xs, _, upd_same, s7 _ _ e56, s7 _ _ e6, by omega, by omega, lc.1, lc.2, by rw [List.length_map], by omega, by omega, ne_of_none e56 nd, ne_of_none e6 nd, ne_of_none e5 nrs⟩
theorem scOne : FnScope ["_law_deck_here", "_law_some"] ["_law_deck_here", "_law_some"] (defScope sOne) := ⟨rfl, rfl, rfl, by decide +kernel, rfl, by decide +kernel, by decide +kernel⟩
/-- a list, of which one is drawn -/
def spOneL (K : PySem.W.Frag) : Sp := fun vs H Q _ => ∃ (d cs rs a : Addr) (n : Int) (xs : List V), vs = [.ref d, .ref a] ∧ SqL K H a xs ∧ a ≠ d ∧ a ≠ rs ∧ 0 < xs.length ∧ xs.length ≤ 1000 ∧ n < 2 ^ 60 ∧ Deck2 H d cs rs n ∧
  ∀ (j : Nat) (x : V) (H' : Hp), xs[j]? = some x → Kp [d, rs] H H' → Deck2 H' d cs rs (n + 1) → Q x H'
def spOneT (K : PySem.W.Frag) : Sp := fun vs H Q _ => ∃ (d cs rs a : Addr) (n : Int) (xs : List V), vs = [.ref d, .ref a] ∧ SqT K H a xs ∧ 0 < xs.length ∧ xs.length ≤ 1000 ∧ n < 2 ^ 60 ∧ Deck2 H d cs rs n ∧
  ∀ (j : Nat) (x : V) (H' : Hp), xs[j]? = some x → Kp [d, rs] H H' → Deck2 H' d cs rs (n + 1) → Q x H'
theorem ok_oneL {f : Addr} {fd : FuncData} (F : Fun K "_law_one" "_law_one" sOne f fd) (B : DB mg) (cR : Cd P w K mg base 1 "_law_draw" ["_law_deck_here", "_law_many"] spDraw) : FnOk P w K mg base CX0 2 f fd ["_law_deck_here", "_law_some"] (spOneL K) := by
  obtain ⟨fR, fdR, GR, mR, kR, bR⟩ := cR.tk
  refine F.ok scOne (fun vs H Q E h => ?_) (fun cdv A outer s H vs Q E hr h => ?_)
  · obtain ⟨d, cs, rs, a, n, xs, rfl, _⟩ := h
    rfl
  · obtain ⟨d, cs, rs, a, n, xs, rfl, hS, na, nb, l0, l1, hn, D, k⟩ := h
    have hr1 : Room 1 _ := hr
    refine ⟨_, (pss_one (ps_ret (pe_ix (ixL (K := K) rfl) (pv 1) (pe_call GR hr1 rfl mR kR bR .nil pass0 (pa_cons (pv 0) (pa_cons (pe_callB (lenK (K := K) rfl) (by rfl) B.len PySem.boot_len (pa_cons (pv 1) pa_nil)) pa_nil))) (fun _ _ => rfl)))), ?_⟩
    refine ⟨_, rfl, _, rfl, _, rfl, _, xs.length, rfl, .inl ⟨_, hS, rfl⟩, d, cs, rs, xs.length, n, rfl, by omega, by omega, hn, D, fun r H1 r0 r1 k1 D1 t1 => ?_⟩
    have hj : r.toNat < xs.length := by omega
    have ex : xs[r.toNat]? = some xs[r.toNat] := List.getElem?_eq_getElem hj
    have ea : atI xs r = some xs[r.toNat] := by
      have := atI_nat (xs := xs) (j := r.toNat) ex
      rw [show ((r.toNat : Nat) : Int) = r by omega] at this
      exact this
    exact ⟨a, xs, r, _, rfl, rfl, SqL.kp hS k1 (nin2 na nb), ea, k _ _ H1 ex k1 D1⟩
theorem ok_oneT {f : Addr} {fd : FuncData} (F : Fun K "_law_one" "_law_one" sOne f fd) (B : DB mg) (cR : Cd P w K mg base 1 "_law_draw" ["_law_deck_here", "_law_many"] spDraw) : FnOk P w K mg base CX0 2 f fd ["_law_deck_here", "_law_some"] (spOneT K) := by
  obtain ⟨fR, fdR, GR, mR, kR, bR⟩ := cR.tk
  refine F.ok scOne (fun vs H Q E h => ?_) (fun cdv A outer s H vs Q E hr h => ?_)
  · obtain ⟨d, cs, rs, a, n, xs, rfl, _⟩ := h
    rfl
  · obtain ⟨d, cs, rs, a, n, xs, rfl, hS, l0, l1, hn, D, k⟩ := h
    have hr1 : Room 1 _ := hr
    refine ⟨_, (pss_one (ps_ret (pe_ix (ixT (K := K) rfl) (pv 1) (pe_call GR hr1 rfl mR kR bR .nil pass0 (pa_cons (pv 0) (pa_cons (pe_callB (lenK (K := K) rfl) (by rfl) B.len PySem.boot_len (pa_cons (pv 1) pa_nil)) pa_nil))) (fun _ _ => rfl)))), ?_⟩
    refine ⟨_, rfl, _, rfl, _, rfl, _, xs.length, rfl, .inr ⟨_, hS, rfl⟩, d, cs, rs, xs.length, n, rfl, by omega, by omega, hn, D, fun r H1 r0 r1 k1 D1 t1 => ?_⟩
    have hj : r.toNat < xs.length := by omega
    have ex : xs[r.toNat]? = some xs[r.toNat] := List.getElem?_eq_getElem hj
    have ea : atI xs r = some xs[r.toNat] := by
      have := atI_nat (xs := xs) (j := r.toNat) ex
      rw [show ((r.toNat : Nat) : Int) = r by omega] at this
      exact this
    exact ⟨a, xs, r, _, rfl, rfl, SqT.tk hS t1, ea, k _ _ H1 ex k1 D1⟩
end
end Wn

set_option maxHeartbeats 2000000
namespace Wn
open PySem L2
abbrev sHandOf : Stmt := top 3
abbrev sAliasOf : Stmt := top 4
abbrev sMay : Stmt := top 5
abbrev PL := List (Int × Int)
def p2D (e : Int × Int) : PyData := .tuple [.int e.1, .int e.2]
theorem p2D_inv {K : PySem.W.Frag} {H : Hp} {e : Int × Int} {u : V} (r : Rp K H (p2D e) u) : ∃ a, u = .ref a ∧ SqT K H a [.int e.1, .int e.2] := by
  unfold p2D Rp at r
  obtain ⟨a, xs, rfl, ha, hl⟩ := r
  unfold RpL at hl
  obtain ⟨v0, r0, rfl, h0, hl⟩ := hl
  unfold RpL at hl
  obtain ⟨v1, r1, rfl, h1, hl⟩ := hl
  unfold RpL at hl
  subst hl
  unfold Rp at h0 h1
  subst h0 h1
  exact ⟨a, rfl, ha⟩
abbrev Rule := Str × Int × Int
def ruleD (r : Rule) : PyData := .tuple [.str r.1, .int r.2.1, .int r.2.2]
def handOf : PL → Int → Option Int
  | [], _ => none
  | e :: L, al => if e.2 = al then some e.1 else handOf L al
def aliasOf : PL → Int → Option Int
  | [], _ => none
  | e :: L, h => if e.1 = h then some e.2 else aliasOf L h
theorem handOf_none {al : Int} : ∀ {L : PL}, handOf L al = none ↔ ∀ e ∈ L, e.2 ≠ al
  | [] => ⟨(fun _ e he => by cases he), fun _ => rfl⟩
  | e :: L => by
    unfold handOf
    by_cases h : e.2 = al
    · rw [if_pos h]
      exact ⟨(fun z => by cases z), fun z => absurd h (z e List.mem_cons_self)⟩
    · rw [if_neg h, handOf_none]
      exact ⟨fun z x hx => (List.mem_cons.mp hx).elim (fun q => q ▸ h) (z x), fun z x hx => z x (List.mem_cons_of_mem _ hx)⟩
theorem aliasOf_none {al : Int} : ∀ {L : PL}, aliasOf L al = none ↔ ∀ e ∈ L, e.1 ≠ al
  | [] => ⟨(fun _ e he => by cases he), fun _ => rfl⟩
  | e :: L => by
    unfold aliasOf
    by_cases h : e.1 = al
    · rw [if_pos h]
      exact ⟨(fun z => by cases z), fun z => absurd h (z e List.mem_cons_self)⟩
    · rw [if_neg h, aliasOf_none]
      exact ⟨fun z x hx => (List.mem_cons.mp hx).elim (fun q => q ▸ h) (z x), fun z x hx => z x (List.mem_cons_of_mem _ hx)⟩
theorem handOf_some {al h : Int} : ∀ {L : PL}, handOf L al = some h → (h, al) ∈ L
  | e :: L, z => by
    unfold handOf at z
    by_cases q : e.2 = al
    · rw [if_pos q] at z
      have : e.1 = h := Option.some.inj z
      rw [← this, ← q]
      exact List.mem_cons_self
    · rw [if_neg q] at z
      exact List.mem_cons_of_mem _ (handOf_some z)
theorem aliasOf_some {al h : Int} : ∀ {L : PL}, aliasOf L h = some al → (h, al) ∈ L
  | e :: L, z => by
    unfold aliasOf at z
    by_cases q : e.1 = h
    · rw [if_pos q] at z
      have : e.2 = al := Option.some.inj z
      rw [← this, ← q]
      exact List.mem_cons_self
    · rw [if_neg q] at z
      exact List.mem_cons_of_mem _ (aliasOf_some z)
theorem handOf_mem {e : Int × Int} : ∀ {L : PL}, (L.map (·.2)).Nodup → e ∈ L → handOf L e.2 = some e.1
  | x :: L, n, h => by
    rw [List.map_cons, List.nodup_cons] at n
    unfold handOf
    rcases List.mem_cons.mp h with rfl | h
    · rw [if_pos rfl]
    · rw [if_neg (fun z => n.1 (List.mem_map.mpr ⟨e, h, z.symm⟩))]
      exact handOf_mem n.2 h
theorem aliasOf_mem {e : Int × Int} : ∀ {L : PL}, (L.map (·.1)).Nodup → e ∈ L → aliasOf L e.1 = some e.2
  | x :: L, n, h => by
    rw [List.map_cons, List.nodup_cons] at n
    unfold aliasOf
    rcases List.mem_cons.mp h with rfl | h
    · rw [if_pos rfl]
    · rw [if_neg (fun z => n.1 (List.mem_map.mpr ⟨e, h, z.symm⟩))]
      exact aliasOf_mem n.2 h
theorem handOf_take {L : PL} {al : Int} {i : Nat} (hi : i < L.length) (hn : ∀ e ∈ L.take i, e.2 ≠ al) (h : L[i].2 = al) : handOf L al = some L[i].1 := by
  induction L generalizing i with
  | nil => cases hi
  | cons x L ih =>
    cases i with
    | zero =>
      have h : x.2 = al := h
      unfold handOf
      rw [if_pos h]
      rfl
    | succ i =>
      unfold handOf
      rw [if_neg (hn x (by rw [List.take_succ_cons]; exact List.mem_cons_self))]
      exact ih (by simpa using hi) (fun e he => hn e (by rw [List.take_succ_cons]; exact List.mem_cons_of_mem _ he)) h
theorem aliasOf_take {L : PL} {al : Int} {i : Nat} (hi : i < L.length) (hn : ∀ e ∈ L.take i, e.1 ≠ al) (h : L[i].1 = al) : aliasOf L al = some L[i].2 := by
  induction L generalizing i with
  | nil => cases hi
  | cons x L ih =>
    cases i with
    | zero =>
      have h : x.1 = al := h
      unfold aliasOf
      rw [if_pos h]
      rfl
    | succ i =>
      unfold aliasOf
      rw [if_neg (hn x (by rw [List.take_succ_cons]; exact List.mem_cons_self))]
      exact ih (by simpa using hi) (fun e he => hn e (by rw [List.take_succ_cons]; exact List.mem_cons_of_mem _ he)) h
def optV : Option Int → V
  | none => .non
  | some i => .int i
/-- a gate -/
structure Gt where
  number : Int
  place : Int
  one : Int
  other : Int
  ours : PL
  theirs : PL
  may : List Rule
def RulesOk (L : List Rule) : Prop := ∀ r ∈ L, r.1 = "out" ∨ r.1 = "in"
def TupAt (K : PySem.W.Frag) (H : Hp) (a : Addr) (ds : List PyData) : Prop := Rp K H (.tuple ds) (.ref a)
theorem TupAt.inv {K : PySem.W.Frag} {H : Hp} {a : Addr} {ds : List PyData} (h : TupAt K H a ds) : ∃ xs, SqT K H a xs ∧ RpL K H ds xs := by
  unfold TupAt Rp at h
  obtain ⟨b, xs, e, h1, h2⟩ := h
  cases e
  exact ⟨xs, h1, h2⟩
def GateAt (K : PySem.W.Frag) (H : Hp) (g : Addr) (G : Gt) : Prop :=
  ∃ (ao at' am : Addr), SqT K H g [.int G.number, .int G.place, .int G.one, .int G.other, .ref ao, .ref at', .ref am] ∧ TupAt K H ao (G.ours.map p2D) ∧ TupAt K H at' (G.theirs.map p2D) ∧ TupAt K H am (G.may.map ruleD) ∧ RulesOk G.may
theorem GateAt.tk {K : PySem.W.Frag} {H H' : Hp} {g : Addr} {G : Gt} (h : GateAt K H g G) (t : TK H H') : GateAt K H' g G := by
  obtain ⟨ao, at', am, h1, h2, h3, h4, h5⟩ := h
  exact ⟨ao, at', am, SqT.tk h1 t, Rp.tk t _ _ h2, Rp.tk t _ _ h3, Rp.tk t _ _ h4, h5⟩
/-- what a side lets by: there, the word, the hearer's pairs, the sender's pairs -/
def sideF (may : List Rule) (there : Int) (word : Str) (mine back : PL) (sender als : Int) : Option (Int × Int × Int) :=
  match handOf mine als, aliasOf back sender with
  | some h, some n => if (word, sender, h) ∈ may then some (there, n, h) else none
  | _, _ => none
def mayF (G : Gt) (room sender als : Int) : Option (Int × Int × Int) :=
  if room = G.one then sideF G.may G.other "out" G.ours G.theirs sender als
  else if room = G.other then sideF G.may G.one "in" G.theirs G.ours sender als
  else none
def resD : Option (Int × Int × Int) → PyData
  | none => .none
  | some r => .tuple [.int r.1, .int r.2.1, .int r.2.2]
def spHandOf (K : PySem.W.Frag) : Sp := fun vs H Q _ => ∃ (a : Addr) (al : Int) (L : PL), vs = [.ref a, .int al] ∧ TupAt K H a (L.map p2D) ∧ Q (optV (handOf L al)) H
def spAliasOf (K : PySem.W.Frag) : Sp := fun vs H Q _ => ∃ (a : Addr) (al : Int) (L : PL), vs = [.ref a, .int al] ∧ TupAt K H a (L.map p2D) ∧ Q (optV (aliasOf L al)) H
def spMay (K : PySem.W.Frag) : Sp := fun vs H Q _ => ∃ (g : Addr) (room sender als : Int) (G : Gt), vs = [.ref g, .int room, .int sender, .int als] ∧ GateAt K H g G ∧
  ∀ (H' : Hp) (v : V), Same H H' → Rp K H' (resD (mayF G room sender als)) v → Q v H'
theorem strOk_w {r : Rule} (h : r.1 = "out" ∨ r.1 = "in") : PyData.strOk r.1 = true := by
  rcases h with h | h <;> rw [h] <;> decide +kernel
theorem shaped_rules {L : List Rule} (hL : RulesOk L) : SeqAt.shaped (.tuple (L.map ruleD)) = true := by
  unfold SeqAt.shaped
  have h1 : ∀ L : List Rule, RulesOk L → PyData.canLayAll0 (L.map ruleD) = true := by
    intro L
    induction L with
    | nil => simp [PyData.canLayAll0]
    | cons e L ih =>
      intro h
      have h2 := ih fun r hr => h r (List.mem_cons_of_mem _ hr)
      have h3 := strOk_w (h e List.mem_cons_self)
      simp [PyData.canLayAll0, PyData.canLay0, ruleD] at h2 ⊢
      exact ⟨h3, h2⟩
  have h2 : ∀ L : List Rule, PyData.depthAll (L.map ruleD) ≤ 2 := by
    intro L
    induction L with
    | nil => simp [PyData.depthAll]
    | cons e L ih =>
      rw [List.map_cons]
      have e1 : PyData.depthAll [PyData.str e.1, PyData.int e.2.1, PyData.int e.2.2] ≤ 1 := by simp [PyData.depthAll, PyData.depth]
      have e2 : PyData.depth (ruleD e) ≤ 2 := by
        unfold ruleD
        simp only [PyData.depth]
        omega
      simp only [PyData.depthAll]
      omega
  have h3 := h2 L
  rw [Bool.and_eq_true]
  refine ⟨by simp only [PyData.canLay0]; exact h1 L hL, decide_eq_true ?_⟩
  simp only [PyData.depth]
  omega
theorem shaped_rule {e : Rule} (h : e.1 = "out" ∨ e.1 = "in") : SeqAt.shaped (ruleD e) = true := by
  unfold SeqAt.shaped
  have h3 := strOk_w h
  rw [Bool.and_eq_true]
  refine ⟨by simp [PyData.canLay0, PyData.canLayAll0, ruleD, h3], decide_eq_true ?_⟩
  simp [PyData.depth, PyData.depthAll, ruleD]
theorem eqv_rule {x y : Rule} (hx : x.1 = "out" ∨ x.1 = "in") : PyData.eqv (ruleD x) (ruleD y) = decide (x = y) := by
  by_cases h : x = y
  · subst h
    rw [SeqAt.eqv_refl _ (SeqAt.canLay_of_shaped (shaped_rule hx)), decide_eq_true rfl]
  · rw [decide_eq_false h]
    have : ¬ (x.1 = y.1 ∧ x.2.1 = y.2.1 ∧ x.2.2 = y.2.2) := fun z => h (Prod.ext z.1 (Prod.ext z.2.1 z.2.2))
    simp only [ruleD, PyData.eqv, PyData.eqvAll]
    simp
    intro a b c
    exact this ⟨a, b, c⟩
theorem any_rule (e : Rule) : ∀ {L : List Rule}, RulesOk L → ((L.map ruleD).any fun z => PyData.eqv z (ruleD e)) = decide (e ∈ L)
  | [], _ => rfl
  | x :: L, hL => by
    rw [List.map_cons, List.any_cons, any_rule e (fun r hr => hL r (List.mem_cons_of_mem _ hr)), eqv_rule (hL x List.mem_cons_self)]
    by_cases h : x = e
    · simp [h]
    · have h2 : ¬ e = x := fun z => h z.symm
      simp [h, h2]
structure GW (mg : Str → Option Value) : Prop where
  out : ∃ t, mg "OUT" = some (.str "out" t)
  into : ∃ t, mg "INTO" = some (.str "in" t)

section
variable {P : Program} {w : World} {K : PySem.W.Frag} {mg : Str → Option Value} {base : Heap}
theorem dec_int {a b : Int} : decide (V.int a = V.int b) = decide (a = b) := decide_eq_decide.mpr ⟨fun h => by injection h, fun h => by rw [h]⟩
theorem scHandOf : FnScope ["pairs", "alias", "hand", "other"] ["pairs", "alias"] (defScope sHandOf) := ⟨rfl, rfl, rfl, by decide +kernel, rfl, by decide +kernel, by decide +kernel⟩
theorem ok_handof {f : Addr} {fd : FuncData} (F : Fun K "hand_of" "hand_of" sHandOf f fd) : FnOk P w K mg base CX0 1 f fd ["pairs", "alias"] (spHandOf K) := by
  refine F.ok scHandOf (fun vs H Q E h => ?_) (fun cdv A outer s H vs Q E hr h => ?_)
  · obtain ⟨a, al, L, rfl, _⟩ := h
    rfl
  · obtain ⟨a, al, L, rfl, hT, k⟩ := h
    obtain ⟨xs, hx, rx⟩ := hT.inv
    have lx := RpL.len _ _ rx
    rw [List.length_map] at lx
    refine ⟨_, (pss_cons (ps_for PassesOwn.never rfl (pi_tup (pv 0)) (pg_tup rfl (pgs_cons (pg_name (i := 2) scHandOf.nd rfl (Or.inl rfl)) (pgs_cons (pg_name (i := 3) scHandOf.nd rfl (Or.inl rfl)) pgs_nil)))
       (pss_one (ps_if (pt_cmpR op_eq (pv 3) (pv 1) (nomark _))
       (pss_one (ps_ret (pv 2)))
       pss_nil)))
       (pss_one (ps_ret pe_non))), ?_⟩
    refine ⟨_, rfl, a, rfl, ⟨_, hx⟩, ?_⟩
    refine for_tup (K := K) (a := a) (xs := xs) (fun i σ H' => ∃ (v2 v3 : Option V), σ = [some (.ref a), some (.int al), v2, v3] ∧ H' = H ∧ ∀ e ∈ L.take i, e.2 ≠ al) ⟨_, _, rfl, rfl, fun e he => by cases he⟩ (fun i σ H' _ ⟨_, _, _, e, _⟩ => by rw [e]; exact hx) ?_ ?_
    · rintro i x σ H1 hxi ⟨v2, v3, rfl, rfl, hn⟩
      have hi : i < L.length := by
        have q := (List.getElem?_eq_some_iff.mp hxi).1
        omega
      obtain ⟨v, ev, rv⟩ := RpL.get _ _ rx i (p2D L[i]) (by rw [List.getElem?_map, List.getElem?_eq_getElem hi]; rfl)
      have ex : v = x := Option.some.inj (ev.symm.trans hxi)
      rw [ex] at rv
      obtain ⟨t, rfl, ht⟩ := p2D_inv rv
      refine ⟨t, _, rfl, ht, rfl, _, _, rfl, _, _, rfl, rfl, ?_⟩
      refine ⟨_, rfl, _, rfl, rfl, _, rfl, ?_⟩
      refine ite2 (fun hc => ?_) (fun hc => ?_)
      · have hc : L[i].2 = al := by
          have := of_decide_eq_true hc
          injection this
        rw [handOf_take hi hn hc] at k
        exact ⟨_, rfl, k⟩
      · have hc : ¬ L[i].2 = al := fun z => hc (by rw [z]; exact decide_eq_true rfl)
        refine ⟨_, _, rfl, rfl, fun e he => ?_⟩
        rw [List.take_succ_eq_append_getElem hi, List.mem_append, List.mem_singleton] at he
        rcases he with he | rfl
        · exact hn e he
        · exact hc
    · rintro σ H1 ⟨v2, v3, rfl, rfl, hn⟩
      rw [lx, List.take_length] at hn
      rw [handOf_none.mpr hn] at k
      exact k
theorem scAliasOf : FnScope ["pairs", "hand", "one", "alias"] ["pairs", "hand"] (defScope sAliasOf) := ⟨rfl, rfl, rfl, by decide +kernel, rfl, by decide +kernel, by decide +kernel⟩
theorem ok_aliasof {f : Addr} {fd : FuncData} (F : Fun K "alias_of" "alias_of" sAliasOf f fd) : FnOk P w K mg base CX0 1 f fd ["pairs", "hand"] (spAliasOf K) := by
  refine F.ok scAliasOf (fun vs H Q E h => ?_) (fun cdv A outer s H vs Q E hr h => ?_)
  · obtain ⟨a, al, L, rfl, _⟩ := h
    rfl
  · obtain ⟨a, al, L, rfl, hT, k⟩ := h
    obtain ⟨xs, hx, rx⟩ := hT.inv
    have lx := RpL.len _ _ rx
    rw [List.length_map] at lx
    refine ⟨_, (pss_cons (ps_for PassesOwn.never rfl (pi_tup (pv 0)) (pg_tup rfl (pgs_cons (pg_name (i := 2) scAliasOf.nd rfl (Or.inl rfl)) (pgs_cons (pg_name (i := 3) scAliasOf.nd rfl (Or.inl rfl)) pgs_nil)))
       (pss_one (ps_if (pt_cmpR op_eq (pv 2) (pv 1) (nomark _))
       (pss_one (ps_ret (pv 3)))
       pss_nil)))
       (pss_one (ps_ret pe_non))), ?_⟩
    refine ⟨_, rfl, a, rfl, ⟨_, hx⟩, ?_⟩
    refine for_tup (K := K) (a := a) (xs := xs) (fun i σ H' => ∃ (v2 v3 : Option V), σ = [some (.ref a), some (.int al), v2, v3] ∧ H' = H ∧ ∀ e ∈ L.take i, e.1 ≠ al) ⟨_, _, rfl, rfl, fun e he => by cases he⟩ (fun i σ H' _ ⟨_, _, _, e, _⟩ => by rw [e]; exact hx) ?_ ?_
    · rintro i x σ H1 hxi ⟨v2, v3, rfl, rfl, hn⟩
      have hi : i < L.length := by
        have q := (List.getElem?_eq_some_iff.mp hxi).1
        omega
      obtain ⟨v, ev, rv⟩ := RpL.get _ _ rx i (p2D L[i]) (by rw [List.getElem?_map, List.getElem?_eq_getElem hi]; rfl)
      have ex : v = x := Option.some.inj (ev.symm.trans hxi)
      rw [ex] at rv
      obtain ⟨t, rfl, ht⟩ := p2D_inv rv
      refine ⟨t, _, rfl, ht, rfl, _, _, rfl, _, _, rfl, rfl, ?_⟩
      refine ⟨_, rfl, _, rfl, rfl, _, rfl, ?_⟩
      refine ite2 (fun hc => ?_) (fun hc => ?_)
      · have hc : L[i].1 = al := by
          have := of_decide_eq_true hc
          injection this
        rw [aliasOf_take hi hn hc] at k
        exact ⟨_, rfl, k⟩
      · have hc : ¬ L[i].1 = al := fun z => hc (by rw [z]; exact decide_eq_true rfl)
        refine ⟨_, _, rfl, rfl, fun e he => ?_⟩
        rw [List.take_succ_eq_append_getElem hi, List.mem_append, List.mem_singleton] at he
        rcases he with he | rfl
        · exact hn e he
        · exact hc
    · rintro σ H1 ⟨v2, v3, rfl, rfl, hn⟩
      rw [lx, List.take_length] at hn
      rw [aliasOf_none.mpr hn] at k
      exact k
theorem scMay : FnScope ["gate", "room", "sender", "alias", "number", "place", "one", "other", "ours", "theirs", "may", "there", "word", "hearer", "mine"] ["gate", "room", "sender", "alias"] (defScope sMay) := ⟨rfl, rfl, rfl, by decide +kernel, rfl, by decide +kernel, by decide +kernel⟩
theorem ok_may {f : Addr} {fd : FuncData} (F : Fun K "may_pass" "may_pass" sMay f fd) (W : GW mg) (cH : Cd P w K mg base 1 "hand_of" ["pairs", "alias"] (spHandOf K)) (cA : Cd P w K mg base 1 "alias_of" ["pairs", "hand"] (spAliasOf K)) :
    FnOk P w K mg base CX0 2 f fd ["gate", "room", "sender", "alias"] (spMay K) := by
  obtain ⟨tO, mO⟩ := W.out
  obtain ⟨tI, mI⟩ := W.into
  obtain ⟨fH, fdH, GH, mH, kH, bH⟩ := cH
  obtain ⟨fA, fdA, GA, mA, kA, bA⟩ := cA
  refine F.ok scMay (fun vs H Q E h => ?_) (fun cdv A outer s H vs Q E hr h => ?_)
  · obtain ⟨g, room, sender, als, G, rfl, _⟩ := h
    rfl
  · obtain ⟨g, room, sender, als, G, rfl, ⟨ao, at', am, hg, ho, ht, hm, hok⟩, k⟩ := h
    have hr1 : Room 1 _ := hr
    refine ⟨_, (pss_cons (ps_asg (pv 0) (pg_tup rfl (pgs_cons (pg_name (i := 4) scMay.nd rfl (Or.inl rfl)) (pgs_cons (pg_name (i := 5) scMay.nd rfl (Or.inl rfl)) (pgs_cons (pg_name (i := 6) scMay.nd rfl (Or.inl rfl)) (pgs_cons (pg_name (i := 7) scMay.nd rfl (Or.inl rfl)) (pgs_cons (pg_name (i := 8) scMay.nd rfl (Or.inl rfl)) (pgs_cons (pg_name (i := 9) scMay.nd rfl (Or.inl rfl)) (pgs_cons (pg_name (i := 10) scMay.nd rfl (Or.inl rfl)) pgs_nil)))))))))
       (pss_cons (ps_if (pt_cmpR op_eq (pv 1) (pv 6) (nomark _))
       (pss_one (ps_asg (pe_tup (pa_cons (pv 7) (pa_cons (pe_glob (v := .str "out") rfl mO ⟨_, rfl⟩) (pa_cons (pe_call GH hr1 rfl mH kH bH .nil pass0 (pa_cons (pv 8) (pa_cons (pv 3) pa_nil))) (pa_cons (pe_call GA hr1 rfl mA kA bA .nil pass0 (pa_cons (pv 9) (pa_cons (pv 2) pa_nil))) pa_nil))))) (pg_tup rfl (pgs_cons (pg_name (i := 11) scMay.nd rfl (Or.inl rfl)) (pgs_cons (pg_name (i := 12) scMay.nd rfl (Or.inl rfl)) (pgs_cons (pg_name (i := 13) scMay.nd rfl (Or.inl rfl)) (pgs_cons (pg_name (i := 14) scMay.nd rfl (Or.inl rfl)) pgs_nil)))))))
       (pss_one (ps_if (pt_cmpR op_eq (pv 1) (pv 7) (nomark _))
       (pss_one (ps_asg (pe_tup (pa_cons (pv 6) (pa_cons (pe_glob (v := .str "in") rfl mI ⟨_, rfl⟩) (pa_cons (pe_call GH hr1 rfl mH kH bH .nil pass0 (pa_cons (pv 9) (pa_cons (pv 3) pa_nil))) (pa_cons (pe_call GA hr1 rfl mA kA bA .nil pass0 (pa_cons (pv 8) (pa_cons (pv 2) pa_nil))) pa_nil))))) (pg_tup rfl (pgs_cons (pg_name (i := 11) scMay.nd rfl (Or.inl rfl)) (pgs_cons (pg_name (i := 12) scMay.nd rfl (Or.inl rfl)) (pgs_cons (pg_name (i := 13) scMay.nd rfl (Or.inl rfl)) (pgs_cons (pg_name (i := 14) scMay.nd rfl (Or.inl rfl)) pgs_nil)))))))
       (pss_one (ps_ret pe_non)))))
       (pss_cons (ps_if (PW.pt (pw_or (pt_cmp (pc_isN (pv 13))) (pw_or (pt_cmp (pc_isN (pv 14))) (pw_or1 (pt_cmpR (notInDTK (K := K) rfl (room65 hr)) (pe_tup (pa_cons (pv 12) (pa_cons (pv 2) (pa_cons (pv 13) pa_nil)))) (pv 10) (by rfl))))))
       (pss_one (ps_ret pe_non))
       pss_nil)
       (pss_one (ps_ret (pe_tup (pa_cons (pv 11) (pa_cons (pv 14) (pa_cons (pv 13) pa_nil))))))))), ?_⟩
    refine ⟨_, rfl, g, _, rfl, hg, rfl, _, _, rfl, _, _, rfl, _, _, rfl, _, _, rfl, _, _, rfl, _, _, rfl, _, _, rfl, rfl, ?_⟩
    dsimp only [gName, List.set]
    refine seq_if (fun σ' H' => ∃ (there : Int) (word : Str) (mine back : PL), σ' = [some (.ref g), some (.int room), some (.int sender), some (.int als), some (.int G.number), some (.int G.place), some (.int G.one), some (.int G.other), some (.ref ao), some (.ref at'), some (.ref am), some (.int there), some (.str word), some (optV (handOf mine als)), some (optV (aliasOf back sender))] ∧
      Same H H' ∧ (word = "out" ∨ word = "in") ∧ mayF G room sender als = sideF G.may there word mine back sender als) ?rest (fun rest => ?_)
    case rest =>
      rintro σ' H1 ⟨there, word, mine, back, rfl, s1, hw, eF⟩
      rw [eF] at k
      unfold sideF at k
      cases eh : handOf mine als with
      | none =>
        rw [eh] at k
        refine ⟨_, rfl, _, rfl, iteT (iteT ?_)⟩
        exact k _ _ s1 Rp.none
      | some h =>
        refine ⟨_, rfl, _, rfl, iteF ?_⟩
        cases ea : aliasOf back sender with
        | none =>
          rw [eh, ea] at k
          refine ⟨_, rfl, _, rfl, iteT (iteT ?_)⟩
          exact k _ _ s1 Rp.none
        | some n =>
          rw [eh, ea] at k
          refine ⟨_, rfl, _, rfl, iteF ?_⟩
          refine ⟨_, rfl, _, rfl, _, rfl, (by show 3 ≤ sizeLine; decide), fun t nt => ?_⟩
          have s2 : Same H1 (upd H1 t (.tup [.str word, .int sender, .int h])) := (L2.Same.refl _).new nt
          have rt : Rp K (upd H1 t (.tup [.str word, .int sender, .int h])) (ruleD (word, sender, h)) (.ref t) := Rp.tup upd_same (RpL.cons Rp.str (RpL.cons Rp.int (RpL.cons Rp.int RpL.nil)))
          have s02 := s1.trans s2
          refine ⟨_, rfl, _, _, Rp.dp _ _ rt, Rp.dp _ _ (Rp.tk (TK.of s02) _ _ hm), shaped_rule hw, shaped_rules hok, _, rfl, ?_⟩
          rw [any_rule _ hok]
          by_cases hin : (word, sender, h) ∈ G.may
          · rw [decide_eq_true hin]
            simp only [if_pos hin] at k
            refine iteF ?_
            refine ⟨_, rfl, _, rfl, _, rfl, (by show 3 ≤ sizeLine; decide), fun t2 nt2 => ?_⟩
            exact k _ (.ref t2) (s02.new (o := .tup [.int there, .int n, .int h]) nt2) (Rp.tup upd_same (RpL.cons Rp.int (RpL.cons Rp.int (RpL.cons Rp.int RpL.nil))))
          · rw [decide_eq_false hin]
            simp only [if_neg hin] at k
            refine iteT ?_
            exact k _ _ s02 Rp.none
    refine ⟨_, rfl, _, rfl, rfl, _, rfl, ?_⟩
    refine ite2 (fun hc => ?_) (fun hc => ?_)
    · have hc : room = G.one := by
        have := of_decide_eq_true hc
        injection this
      refine ⟨_, rfl, _, rfl, _, rfl, ao, als, G.ours, rfl, ho, _, rfl, _, rfl, at', sender, G.theirs, rfl, ht, (by show 4 ≤ sizeLine; decide), fun t nt => ?_⟩
      refine ⟨t, _, rfl, SqT.of upd_same, rfl, _, _, rfl, _, _, rfl, _, _, rfl, _, _, rfl, rfl, ?_⟩
      refine rest _ _ ⟨G.other, "out", G.ours, G.theirs, rfl, (L2.Same.refl _).new nt, .inl rfl, ?_⟩
      unfold mayF
      rw [if_pos hc]
    · have hc : ¬ room = G.one := fun z => hc (by rw [z]; exact decide_eq_true rfl)
      refine ⟨_, rfl, _, rfl, rfl, _, rfl, ?_⟩
      refine ite2 (fun hd => ?_) (fun hd => ?_)
      · have hd : room = G.other := by
          have := of_decide_eq_true hd
          injection this
        refine ⟨_, rfl, _, rfl, _, rfl, at', als, G.theirs, rfl, ht, _, rfl, _, rfl, ao, sender, G.ours, rfl, ho, (by show 4 ≤ sizeLine; decide), fun t nt => ?_⟩
        refine ⟨t, _, rfl, SqT.of upd_same, rfl, _, _, rfl, _, _, rfl, _, _, rfl, _, _, rfl, rfl, ?_⟩
        refine rest _ _ ⟨G.one, "in", G.theirs, G.ours, rfl, (L2.Same.refl _).new nt, .inr rfl, ?_⟩
        unfold mayF
        rw [if_neg hc, if_pos hd]
      · have hd : ¬ room = G.other := fun z => hd (by rw [z]; exact decide_eq_true rfl)
        refine k H .non (L2.Same.refl _) ?_
        unfold mayF
        rw [if_neg hc, if_neg hd]
        exact Rp.none
end
end Wn

set_option maxHeartbeats 2000000
namespace Wn
open PySem L2
abbrev sPairs : Stmt := top 10
abbrev sRules : Stmt := top 11
abbrev sDue : Stmt := top 12
def PairsOk (L : PL) : Prop := (L.map (·.1)).Nodup ∧ (L.map (·.2)).Nodup ∧ (∀ e ∈ L, (0 ≤ e.1 ∧ e.1 < 16) ∧ 0 ≤ e.2 ∧ e.2 < 16) ∧ L.length ≤ 6
def spPairs (K : PySem.W.Frag) : Sp := fun vs H Q _ => ∃ (d cs rs : Addr) (n : Int) (v : V), vs = [.ref d, .int 6, v] ∧ Deck2 H d cs rs n ∧ n < 2 ^ 59 ∧
  ∀ (H' : Hp) (a : Addr) (L : PL), TupAt K H' a (L.map p2D) → PairsOk L → Kp [d, rs] H H' → Deck2 H' d cs rs (n + 40) → Q (.ref a) H'
def spRules (K : PySem.W.Frag) : Sp := fun vs H Q _ => ∃ (d cs rs ao at' : Addr) (n : Int) (O T : PL), vs = [.ref d, .ref ao, .ref at'] ∧ Deck2 H d cs rs n ∧ n < 2 ^ 59 ∧ TupAt K H ao (O.map p2D) ∧ TupAt K H at' (T.map p2D) ∧
  ∀ (H' : Hp) (a : Addr) (R : List Rule), TupAt K H' a (R.map ruleD) → RulesOk R → Kp [d, rs] H H' → Deck2 H' d cs rs (n + 100) → Q (.ref a) H'
def GtOk (G : Gt) : Prop := PairsOk G.ours ∧ PairsOk G.theirs
def spDueG (K : PySem.W.Frag) : Sp := fun vs H Q _ => ∃ (g : Addr) (room sender als : Int) (G : Gt), vs = [.ref g, .int room, .int sender, .int als] ∧ GateAt K H g G ∧ GtOk G ∧ G.one ≠ G.other ∧
  ∀ (H' : Hp) (v : V), Same H H' → Rp K H' (resD (mayF G room sender als)) v → Q v H'
structure LB (mg : Str → Option Value) : Prop where
  range : mg "range" = none
  list : mg "list" = none
  len : mg "len" = none
  tuple : mg "tuple" = none
  repr : mg "repr" = none
theorem slA_to {K : PySem.W.Frag} {H : Hp} {a : Addr} {ds : List PyData} {k : Nat} {Q : VK} (h : TupAt K H a ds) (q : ∀ (H' : Hp) (x : Addr), Same H H' → TupAt K H' x (ds.take k) → Q (.ref x) H') : rSlA K (.ref a) none (some (k : Int)) H Q := by
  obtain ⟨xs, hx, rx⟩ := h.inv
  have e : HT.sIx xs.length xs.length (some (k : Int)) = min k xs.length := HT.sIx_nat _ _ k
  have lx := RpL.len _ _ rx
  refine ⟨a, xs, rfl, hx, fun hw => ?_, fun hw p hp => ?_⟩
  · rw [e] at hw
    have : ds.take k = ds := List.take_of_length_le (by omega)
    exact q H a (L2.Same.refl _) (by rw [this]; exact h)
  · have s1 : Same H (upd H p (.tup (cutV xs none (some (k : Int))))) := (L2.Same.refl _).new hp
    refine q _ p s1 (Rp.tup upd_same ?_)
    have ec : cutV xs none (some (k : Int)) = xs.take k := by
      unfold cutV
      rw [e, HT.sIx_none, List.drop_zero, Nat.sub_zero]
      by_cases hk : k ≤ xs.length
      · rw [Nat.min_eq_left hk]
      · rw [Nat.min_eq_right (by omega), List.take_of_length_le (Nat.le_refl _), List.take_of_length_le (by omega)]
    rw [ec] at s1 ⊢
    exact RpL.tk (TK.of s1) _ _ (RpL.take k rx)
theorem at_none {M : List Addr} {H H' : Hp} {a : Addr} (k : Kp M H H') (n : a ∉ M) (h : H' a = none) : H a = none := by
  cases e : H a with
  | none => rfl
  | some o =>
    rw [k _ _ n e] at h
    cases h
theorem seq_at {n : Nat} {r : Int} (h0 : 0 ≤ r) (h1 : r < n) : seqIndex? r n = some r.toNat := by
  have : ixN n r = some r.toNat := by
    unfold ixN
    rw [if_pos h0, if_pos h1]
  exact (ixN_seq this).1
theorem erase_map {α β : Type} (f : α → β) : ∀ (l : List α) (i : Nat), (l.map f).eraseIdx i = (l.eraseIdx i).map f
  | [], i => rfl
  | a :: l, 0 => rfl
  | a :: l, i + 1 => by
    show f a :: (l.map f).eraseIdx i = f a :: (l.eraseIdx i).map f
    rw [erase_map f l i]
theorem erase_p {α : Type} : ∀ {l : List α} {i : Nat} {y : α}, l[i]? = some y → (y :: l.eraseIdx i).Perm l
  | a :: l, 0, y, e => by
    have : a = y := by simpa using e
    subst this
    exact .refl _
  | a :: l, i + 1, y, e => by
    have e : l[i]? = some y := by simpa using e
    exact (List.Perm.swap a y _).trans ((erase_p e).cons a)

section
variable {P : Program} {w : World} {K : PySem.W.Frag} {mg : Str → Option Value} {base : Heap}
theorem scPairs : FnScope ["_law_deck_here", "_law_most", "_law_first", "_law_hands", "_law_aliases", "_law_found", "_law_k", "_law_hand"] ["_law_deck_here", "_law_most", "_law_first"] (defScope sPairs) := ⟨rfl, rfl, rfl, by decide +kernel, rfl, by decide +kernel, by decide +kernel⟩
theorem ok_pairs {f : Addr} {fd : FuncData} (F : Fun K "_law_pairs" "_law_pairs" sPairs f fd) (B : LB mg) (cR : Cd P w K mg base 1 "_law_draw" ["_law_deck_here", "_law_many"] spDraw) :
    FnOk P w K mg base CX0 2 f fd ["_law_deck_here", "_law_most", "_law_first"] (spPairs K) := by
  obtain ⟨fR, fdR, GR, mR, kR, bR⟩ := cR.tk
  refine F.ok scPairs (fun vs H Q E h => ?_) (fun cdv A outer s H vs Q E hr h => ?_)
  · obtain ⟨d, cs, rs, n, v, rfl, _⟩ := h
    rfl
  · obtain ⟨d, cs, rs, n, v, rfl, D0, hn, k⟩ := h
    have hr1 : Room 1 _ := hr
    refine ⟨_, (pss_cons (ps_par (i := 3) (j := 4) (by rfl) scPairs.nd rfl rfl (by decide) rfl rfl (pa_cons (pe_listRg rfl (by rfl) B.list (prg_1 (by rfl) B.range pe_int)) (pa_cons (pe_listRg rfl (by rfl) B.list (prg_1 (by rfl) B.range pe_int)) pa_nil)) (by rfl))
       (pss_cons (ps_set (i := 5) scPairs.nd rfl (Or.inl rfl) (pe_lst pa_nil))
       (pss_cons (ps_for PassesOwn.never rfl (pi_range1 rfl B.range (pa_cons (pe_call GR hr1 rfl mR kR bR .nil pass0 (pa_cons (pv 0) (pa_cons (pe_op op_add (pv 1) pe_int) pa_nil))) pa_nil)) (pg_name (i := 6) scPairs.nd rfl (Or.inl rfl))
       (pss_cons (ps_set (i := 7) scPairs.nd rfl (Or.inl rfl) (pe_bm PySem.F.plainAttrs_list PySem.F.slot_list_pop PySem.F.type_list_pop mt_popAt (pv 3) (pa_cons (pe_call GR hr1 rfl mR kR bR .nil pass0 (pa_cons (pv 0) (pa_cons (pe_callB (lenK (K := K) rfl) (by rfl) B.len PySem.boot_len (pa_cons (pv 3) pa_nil)) pa_nil))) pa_nil)))
       (pss_one (ps_expr (pe_bm PySem.F.plainAttrs_list PySem.F.slot_list_append PySem.F.type_list_append mt_append (pv 5) (pa_cons (pe_tup (pa_cons (pv 7) (pa_cons (pe_bm PySem.F.plainAttrs_list PySem.F.slot_list_pop PySem.F.type_list_pop mt_popAt (pv 4) (pa_cons (pe_call GR hr1 rfl mR kR bR .nil pass0 (pa_cons (pv 0) (pa_cons (pe_callB (lenK (K := K) rfl) (by rfl) B.len PySem.boot_len (pa_cons (pv 4) pa_nil)) pa_nil))) pa_nil)) pa_nil))) pa_nil))))))
       (pss_one (ps_ret (pe_callTy (tupOfK (K := K) rfl) (by rfl) B.tuple PyProof.Rows.boot_tuple (pa_cons (pv 5) pa_nil))))))), ?_⟩
    have rg : RgOk 0 16 := RgOk.of_le (by decide) (by decide) (by decide) (by decide)
    obtain ⟨h0, eh0, lh0, nh0, bh0⟩ : ∃ hs : List Int, rgV 0 16 = hs.map V.int ∧ hs.length = 16 ∧ hs.Nodup ∧ ∀ x ∈ hs, 0 ≤ x ∧ x < 16 := ⟨(List.range 16).map fun i : Nat => (0 : Int) + (i : Int), by unfold rgV; rw [List.map_map]; rfl, by decide, by decide, by decide⟩
    refine ⟨16, rfl, rg, fun ha nha => ?_⟩
    rw [eh0]
    have s1 : Same H (upd H ha (.lst (h0.map V.int))) := (L2.Same.refl _).new nha
    have eA1 : upd H ha (.lst (h0.map V.int)) ha = some (.lst (h0.map V.int)) := upd_same
    generalize upd H ha (.lst (h0.map V.int)) = H1 at s1 eA1
    refine ⟨16, rfl, rg, fun aa naa => ?_⟩
    rw [eh0]
    have s2 : Same H1 (upd H1 aa (.lst (h0.map V.int))) := (L2.Same.refl _).new naa
    have eB2 : upd H1 aa (.lst (h0.map V.int)) aa = some (.lst (h0.map V.int)) := upd_same
    have nab : ha ≠ aa := ne_of_none eA1 naa
    generalize upd H1 aa (.lst (h0.map V.int)) = H2 at s2 eB2
    refine ⟨_, _, rfl, ?_⟩
    refine ⟨Nat.zero_le _, fun fa nfa => ?_⟩
    have s3 : Same H2 (upd H2 fa (.lst [])) := (L2.Same.refl _).new nfa
    have eC3 : LstAt K (upd H2 fa (.lst [])) fa (([] : PL).map p2D) := ⟨[], upd_same, RpL.nil⟩
    have s02 := s1.trans s2
    have D2 := D0.same s02
    obtain ⟨nf1, nf2, nf3⟩ := D2.new nfa
    obtain ⟨na1, na2, na3⟩ := D0.new nha
    obtain ⟨nb1, nb2, nb3⟩ := (D0.same s1).new naa
    have nfh : fa ≠ ha := (ne_of_none (s2 _ _ eA1) nfa).symm
    have nfb : fa ≠ aa := (ne_of_none eB2 nfa).symm
    have nfa0 : H fa = none := at_none (M := []) (Kp.of s02) (by simp) nfa
    have naa0 : H aa = none := at_none (M := []) (Kp.of s1) (by simp) naa
    have eA3 := s3 _ _ (s2 _ _ eA1)
    have eB3 := s3 _ _ eB2
    have D3 := D2.same s3
    have s03 := s02.trans s3
    generalize upd H2 fa (.lst []) = H3 at s3 eC3 eA3 eB3 D3 s03
    refine ⟨_, rfl, _, rfl, _, _, rfl, rfl, d, cs, rs, 6 + 1, n, rfl, by decide, by decide, by omega, D3, fun many H4 y0 y1 k4 D4 t4 => ?_⟩
    refine ⟨many, rfl, by omega, by omega, ?_⟩
    refine for_range (lo := 0) (fun i σ H' => ∃ (hs as : List Int) (L : PL) (v6 v7 : Option V), σ = [some (.ref d), some (.int 6), some v, some (.ref ha), some (.ref aa), some (.ref fa), v6, v7] ∧ H' ha = some (.lst (hs.map V.int)) ∧ H' aa = some (.lst (as.map V.int)) ∧ LstAt K H' fa (L.map p2D) ∧
        (L.map (·.1) ++ hs).Nodup ∧ (L.map (·.2) ++ as).Nodup ∧ (∀ x ∈ L.map (·.1) ++ hs, 0 ≤ x ∧ x < 16) ∧ (∀ x ∈ L.map (·.2) ++ as, 0 ≤ x ∧ x < 16) ∧ hs.length + i = 16 ∧ as.length + i = 16 ∧ L.length = i ∧ Kp [d, rs] H H' ∧ Deck2 H' d cs rs (n + 1 + 2 * i))
      ⟨h0, h0, [], _, _, rfl, k4 _ _ (nin2 na1 na3) eA3, k4 _ _ (nin2 nb1 nb3) eB3, eC3.kp k4 t4 (nin2 nf1 nf3), nh0, nh0, bh0, bh0, by omega, by omega, rfl, (Kp.of s03).trans k4, D4.mono (by omega)⟩ ?_ ?_
    · rintro i σ H5 hi ⟨hs, as, L, v6, v7, rfl, eA, eB, eC, n1, n2, b1, b2, l1, l2, l3, kp, D5⟩
      have hi : i < 6 := by omega
      refine ⟨_, rfl, .inl ⟨rfl, _, SqL.of eA⟩, _, rfl, _, rfl, _, hs.length, rfl, .inl ⟨_, SqL.of eA, (List.length_map _).symm⟩, d, cs, rs, hs.length, n + 1 + 2 * i, rfl, by omega, by omega, by omega, D5, fun r H6 r0 r1 k6 D6 t6 => ?_⟩
      have eA6 := k6 _ _ (nin2 na1 na3) eA
      have eB6 := k6 _ _ (nin2 nb1 nb3) eB
      have eC6 := eC.kp k6 t6 (nin2 nf1 nf3)
      have hr : r.toNat < hs.length := by omega
      have g1 : (hs.map V.int)[r.toNat]? = some (.int hs[r.toNat]) := by rw [List.getElem?_map, List.getElem?_eq_getElem hr]; rfl
      refine ⟨ha, _, r, r.toNat, _, rfl, rfl, eA6, by omega, by omega, seq_at r0 (by rw [List.length_map]; exact r1), g1, ?_⟩
      have ph := erase_p (List.getElem?_eq_getElem hr)
      have lh : (hs.eraseIdx r.toNat).length + 1 = hs.length := by
        have := ph.length_eq
        rw [List.length_cons] at this
        exact this
      have em : (hs.map V.int).eraseIdx r.toNat = (hs.eraseIdx r.toNat).map V.int := erase_map _ _ _
      rw [em]
      have kA : Kp [ha] H6 (upd H6 ha (.lst ((hs.eraseIdx r.toNat).map V.int))) := (Kp.refl _ _).wr (List.mem_singleton.mpr rfl)
      have tA : TK H6 (upd H6 ha (.lst ((hs.eraseIdx r.toNat).map V.int))) := (TK.refl _).wr eA6 rfl
      have eA7 : upd H6 ha (.lst ((hs.eraseIdx r.toNat).map V.int)) ha = some (.lst ((hs.eraseIdx r.toNat).map V.int)) := upd_same
      have eB7 : upd H6 ha (.lst ((hs.eraseIdx r.toNat).map V.int)) aa = some (.lst (as.map V.int)) := (upd_ne nab.symm).trans eB6
      have eC7 := eC6.kp kA tA (nin1 nfh)
      have kp7 : Kp [d, rs] H (upd H6 ha (.lst ((hs.eraseIdx r.toNat).map V.int))) := (kp.trans k6).wrn nha
      have D7 := D6.kp kA (nin1 na1.symm) (nin1 na2.symm) (nin1 na3.symm)
      generalize upd H6 ha (.lst ((hs.eraseIdx r.toNat).map V.int)) = H7 at kA tA eA7 eB7 eC7 kp7 D7
      have n1' : ((L.map (·.1) ++ [hs[r.toNat]]) ++ hs.eraseIdx r.toNat).Nodup := by
        rw [List.append_assoc]
        exact ((List.Perm.append_left _ ph).nodup_iff).mpr n1
      have b1' : ∀ x ∈ (L.map (·.1) ++ [hs[r.toNat]]) ++ hs.eraseIdx r.toNat, 0 ≤ x ∧ x < 16 := fun x hx => b1 x (by
        rw [List.append_assoc] at hx
        exact ((List.Perm.append_left _ ph).mem_iff).mp hx)
      generalize hs[r.toNat] = hand at n1' b1' ph
      generalize hs.eraseIdx r.toNat = hs' at n1' b1' ph lh eA7
      refine ⟨_, rfl, .inl ⟨rfl, _, SqL.of eC7.lst.choose_spec⟩, _, rfl, _, rfl, .inl ⟨rfl, _, SqL.of eB7⟩, _, rfl, _, rfl, _, as.length, rfl, .inl ⟨_, SqL.of eB7, (List.length_map _).symm⟩, d, cs, rs, as.length, n + 1 + 2 * i + 1, rfl, by omega, by omega, by omega, D7, fun r2 H8 u0 u1 k8 D8 t8 => ?_⟩
      have eA8 := k8 _ _ (nin2 na1 na3) eA7
      have eB8 := k8 _ _ (nin2 nb1 nb3) eB7
      have eC8 := eC7.kp k8 t8 (nin2 nf1 nf3)
      have hr2 : r2.toNat < as.length := by omega
      have g2 : (as.map V.int)[r2.toNat]? = some (.int as[r2.toNat]) := by rw [List.getElem?_map, List.getElem?_eq_getElem hr2]; rfl
      refine ⟨aa, _, r2, r2.toNat, _, rfl, rfl, eB8, by omega, by omega, seq_at u0 (by rw [List.length_map]; exact u1), g2, ?_⟩
      have pa := erase_p (List.getElem?_eq_getElem hr2)
      have la : (as.eraseIdx r2.toNat).length + 1 = as.length := by
        have := pa.length_eq
        rw [List.length_cons] at this
        exact this
      have em2 : (as.map V.int).eraseIdx r2.toNat = (as.eraseIdx r2.toNat).map V.int := erase_map _ _ _
      rw [em2]
      have kB : Kp [aa] H8 (upd H8 aa (.lst ((as.eraseIdx r2.toNat).map V.int))) := (Kp.refl _ _).wr (List.mem_singleton.mpr rfl)
      have tB : TK H8 (upd H8 aa (.lst ((as.eraseIdx r2.toNat).map V.int))) := (TK.refl _).wr eB8 rfl
      have eB9 : upd H8 aa (.lst ((as.eraseIdx r2.toNat).map V.int)) aa = some (.lst ((as.eraseIdx r2.toNat).map V.int)) := upd_same
      have eA9 : upd H8 aa (.lst ((as.eraseIdx r2.toNat).map V.int)) ha = some (.lst (hs'.map V.int)) := (upd_ne nab).trans eA8
      have eC9 := eC8.kp kB tB (nin1 nfb)
      have kp9 : Kp [d, rs] H (upd H8 aa (.lst ((as.eraseIdx r2.toNat).map V.int))) := (kp7.trans k8).wrn naa0
      have D9 := D8.kp kB (nin1 nb1.symm) (nin1 nb2.symm) (nin1 nb3.symm)
      generalize upd H8 aa (.lst ((as.eraseIdx r2.toNat).map V.int)) = H9 at kB tB eA9 eB9 eC9 kp9 D9
      have n2' : ((L.map (·.2) ++ [as[r2.toNat]]) ++ as.eraseIdx r2.toNat).Nodup := by
        rw [List.append_assoc]
        exact ((List.Perm.append_left _ pa).nodup_iff).mpr n2
      have b2' : ∀ x ∈ (L.map (·.2) ++ [as[r2.toNat]]) ++ as.eraseIdx r2.toNat, 0 ≤ x ∧ x < 16 := fun x hx => b2 x (by
        rw [List.append_assoc] at hx
        exact ((List.Perm.append_left _ pa).mem_iff).mp hx)
      generalize as[r2.toNat] = ali at n2' b2' pa
      generalize as.eraseIdx r2.toNat = as' at n2' b2' pa la eB9
      obtain ⟨zs, hz9, rz9⟩ := id eC9
      have lz := RpL.len _ _ rz9
      rw [List.length_map] at lz
      refine ⟨(by show 2 ≤ sizeLine; decide), fun t nt => ?_⟩
      obtain ⟨q1, q2, q3, q4⟩ := push_tup (ds := [.int hand, .int ali]) hz9 rz9 nt (RpL.cons Rp.int (RpL.cons Rp.int RpL.nil))
      refine ⟨fa, _, _, rfl, rfl, q1, Nat.lt_of_le_of_lt (show zs.length ≤ 1000 by omega) (by decide), ?_⟩
      refine ⟨hs', as', L ++ [(hand, ali)], _, _, rfl, q4 _ _ (nin1 nfh.symm) eA9, q4 _ _ (nin1 nfb.symm) eB9, ?_, ?_, ?_, ?_, ?_, by omega, by omega, by rw [List.length_append, List.length_singleton]; omega, fun c o hc e => q4 c o (nin1 (ne_of_none e nfa0)) (kp9 c o hc e), (D9.kp q4 (nin1 nf1.symm) (nin1 nf2.symm) (nin1 nf3.symm)).mono (by omega)⟩
      · rw [List.map_append]
        exact q2
      · rw [List.map_append]
        exact n1'
      · rw [List.map_append]
        exact n2'
      · rw [List.map_append]
        exact b1'
      · rw [List.map_append]
        exact b2'
    · rintro σ H5 ⟨hs, as, L, v6, v7, rfl, eA, eB, ⟨zs, hz, rz⟩, n1, n2, b1, b2, l1, l2, l3, kp, D5⟩
      refine ⟨_, rfl, fa, zs, rfl, .inl ⟨SqL.of hz, fun t nt => ?_⟩⟩
      have s6 : Same H5 (upd H5 t (.tup zs)) := (L2.Same.refl _).new nt
      refine k _ t L (Rp.tup upd_same (RpL.tk (TK.of s6) _ _ rz)) ⟨(List.nodup_append.mp n1).1, (List.nodup_append.mp n2).1, fun e he => ⟨b1 _ (List.mem_append_left _ (List.mem_map.mpr ⟨e, he, rfl⟩)), b2 _ (List.mem_append_left _ (List.mem_map.mpr ⟨e, he, rfl⟩))⟩, by omega⟩ (kp.trans (Kp.of s6)) ((D5.same s6).mono (by omega))
theorem nin_new {M : List Addr} {H H' : Hp} {c : Addr} (k : Kp M H H') : Kp M H H' := k
theorem scRules : FnScope ["_law_deck_here", "_law_ours", "_law_theirs", "_law_found", "_law_k", "_law_pair", "_law_other"] ["_law_deck_here", "_law_ours", "_law_theirs"] (defScope sRules) := ⟨rfl, rfl, rfl, by decide +kernel, rfl, by decide +kernel, by decide +kernel⟩
theorem ok_rules {f : Addr} {fd : FuncData} (F : Fun K "_law_rules" "_law_rules" sRules f fd) (B : LB mg) (cR : Cd P w K mg base 1 "_law_draw" ["_law_deck_here", "_law_many"] spDraw) :
    FnOk P w K mg base CX0 2 f fd ["_law_deck_here", "_law_ours", "_law_theirs"] (spRules K) := by
  obtain ⟨fR, fdR, GR, mR, kR, bR⟩ := cR.tk
  refine F.ok scRules (fun vs H Q E h => ?_) (fun cdv A outer s H vs Q E hr h => ?_)
  · obtain ⟨d, cs, rs, ao, at', n, O, T, rfl, _⟩ := h
    rfl
  · obtain ⟨d, cs, rs, ao, at', n, O, T, rfl, D0, hn, hO, hT, k⟩ := h
    have hr1 : Room 1 _ := hr
    refine ⟨_, (pss_cons (ps_set (i := 3) scRules.nd rfl (Or.inl rfl) (pe_lst pa_nil))
       (pss_cons (ps_for PassesOwn.never rfl (pi_range1 rfl B.range (pa_cons (pe_call GR hr1 rfl mR kR bR .nil pass0 (pa_cons (pv 0) (pa_cons pe_int pa_nil))) pa_nil)) (pg_name (i := 4) scRules.nd rfl (Or.inl rfl))
       (pss_one (ps_expr (pe_bm PySem.F.plainAttrs_list PySem.F.slot_list_append PySem.F.type_list_append mt_append (pv 3) (pa_cons (pe_tup (pa_cons (pe_ix (ixL (K := K) rfl) (pe_lst (pa_cons pe_str (pa_cons pe_str pa_nil))) (pe_call GR hr1 rfl mR kR bR .nil pass0 (pa_cons (pv 0) (pa_cons pe_int pa_nil))) (fun _ _ => rfl)) (pa_cons (pe_call GR hr1 rfl mR kR bR .nil pass0 (pa_cons (pv 0) (pa_cons pe_int pa_nil))) (pa_cons (pe_call GR hr1 rfl mR kR bR .nil pass0 (pa_cons (pv 0) (pa_cons pe_int pa_nil))) pa_nil)))) pa_nil)))))
       (pss_cons (ps_for PassesOwn.never rfl (pi_tup (pe_slice (slA (K := K) rfl) (pv 1) po_none (po_some pe_int))) (pg_name (i := 5) scRules.nd rfl (Or.inl rfl))
       (pss_one (ps_for PassesOwn.never rfl (pi_tup (pe_slice (slA (K := K) rfl) (pv 2) po_none (po_some pe_int))) (pg_name (i := 6) scRules.nd rfl (Or.inl rfl))
       (pss_cons (ps_if (pt_cmpR op_eq (pe_call GR hr1 rfl mR kR bR .nil pass0 (pa_cons (pv 0) (pa_cons pe_int pa_nil))) pe_int (nomark _))
       (pss_one (ps_expr (pe_bm PySem.F.plainAttrs_list PySem.F.slot_list_append PySem.F.type_list_append mt_append (pv 3) (pa_cons (pe_tup (pa_cons pe_str (pa_cons (pe_ix (ixT (K := K) rfl) (pv 6) pe_int (fun _ _ => rfl)) (pa_cons (pe_ix (ixT (K := K) rfl) (pv 5) pe_int (fun _ _ => rfl)) pa_nil)))) pa_nil))))
       pss_nil)
       (pss_one (ps_if (PW.pt (pw_and (pt_cmpR op_eq (pe_call GR hr1 rfl mR kR bR .nil pass0 (pa_cons (pv 0) (pa_cons pe_int pa_nil))) pe_int (nomark _)) (pw_and1 (pt_cmpR op_lt (pe_callB (lenK (K := K) rfl) (by rfl) B.len PySem.boot_len (pa_cons (pv 3) pa_nil)) pe_int (nomark _)))))
       (pss_one (ps_expr (pe_bm PySem.F.plainAttrs_list PySem.F.slot_list_append PySem.F.type_list_append mt_append (pv 3) (pa_cons (pe_tup (pa_cons pe_str (pa_cons (pe_ix (ixT (K := K) rfl) (pv 5) pe_int (fun _ _ => rfl)) (pa_cons (pe_ix (ixT (K := K) rfl) (pv 6) pe_int (fun _ _ => rfl)) pa_nil)))) pa_nil))))
       pss_nil))))))
       (pss_one (ps_ret (pe_callTy (tupOfK (K := K) rfl) (by rfl) B.tuple PyProof.Rows.boot_tuple (pa_cons (pe_slice (slL (K := K) rfl) (pv 3) po_none (po_some pe_int)) pa_nil))))))), ?_⟩
    refine ⟨Nat.zero_le _, fun fa nfa => ?_⟩
    have s1 : Same H (upd H fa (.lst [])) := (L2.Same.refl _).new nfa
    have eC1 : LstAt K (upd H fa (.lst [])) fa (([] : List Rule).map ruleD) := ⟨[], upd_same, RpL.nil⟩
    obtain ⟨nf1, nf2, nf3⟩ := D0.new nfa
    have D1 := D0.same s1
    generalize upd H fa (.lst []) = H1 at s1 eC1 D1
    refine ⟨_, rfl, d, cs, rs, 9, n, rfl, by decide, by decide, by omega, D1, fun many H2 y0 y1 k2 D2 t2 => ?_⟩
    refine ⟨many, rfl, by omega, by omega, ?_⟩
    refine for_range (lo := 0) (fun i σ H' => ∃ (R : List Rule) (v4 v5 v6 : Option V), σ = [some (.ref d), some (.ref ao), some (.ref at'), some (.ref fa), v4, v5, v6] ∧ LstAt K H' fa (R.map ruleD) ∧ RulesOk R ∧ R.length = i ∧ Kp [d, rs] H H' ∧ TK H H' ∧ Deck2 H' d cs rs (n + 1 + 3 * i))
      ⟨[], _, _, _, rfl, eC1.kp k2 t2 (nin2 nf1 nf3), (fun r hr => by cases hr), rfl, (Kp.of s1).trans k2, (TK.of s1).trans t2, D2.mono (by omega)⟩ ?_ ?_
    · rintro i σ H3 hi ⟨R, v4, v5, v6, rfl, eC, ok, lR, kp, tk, D3⟩
      have hi : i < 9 := by omega
      refine ⟨_, rfl, .inl ⟨rfl, _, SqL.of eC.lst.choose_spec⟩, (by show 2 ≤ sizeLine; decide), fun lt nlt => ?_⟩
      have s4 : Same H3 (upd H3 lt (.lst [.str "out", .str "in"])) := (L2.Same.refl _).new nlt
      have hlt : upd H3 lt (.lst [.str "out", .str "in"]) lt = some (.lst [.str "out", .str "in"]) := upd_same
      obtain ⟨nl1, nl2, nl3⟩ := D3.new nlt
      generalize upd H3 lt (.lst [.str "out", .str "in"]) = H4 at s4 hlt
      have D4 := D3.same s4
      refine ⟨_, rfl, d, cs, rs, 2, n + 1 + 3 * i, rfl, by decide, by decide, by omega, D4, fun r1 H5 a0 a1 k5 D5 t5 => ?_⟩
      obtain ⟨wd, ewd, hwd⟩ : ∃ wd : Str, atI [V.str "out", .str "in"] r1 = some (.str wd) ∧ (wd = "out" ∨ wd = "in") := by
        have h : r1 = 0 ∨ r1 = 1 := by omega
        rcases h with rfl | rfl
        · exact ⟨"out", rfl, .inl rfl⟩
        · exact ⟨"in", rfl, .inr rfl⟩
      refine ⟨lt, _, _, _, rfl, rfl, SqL.of (k5 _ _ (nin2 nl1 nl3) hlt), ewd, ?_⟩
      refine ⟨_, rfl, d, cs, rs, 16, n + 1 + 3 * i + 1, rfl, by decide, by decide, by omega, D5, fun r2 H6 b0 b1 k6 D6 t6 => ?_⟩
      refine ⟨_, rfl, d, cs, rs, 16, n + 1 + 3 * i + 1 + 1, rfl, by decide, by decide, by omega, D6, fun r3 H7 c0 c1 k7 D7 t7 => ?_⟩
      have eC7 := (((eC.same s4).kp k5 t5 (nin2 nf1 nf3)).kp k6 t6 (nin2 nf1 nf3)).kp k7 t7 (nin2 nf1 nf3)
      have kp7 := (((kp.trans (Kp.of s4)).trans k5).trans k6).trans k7
      have tk7 := (((tk.trans (TK.of s4)).trans t5).trans t6).trans t7
      obtain ⟨zs, hz, rz⟩ := id eC7
      have lz := RpL.len _ _ rz
      rw [List.length_map] at lz
      refine ⟨(by show 3 ≤ sizeLine; decide), fun t nt => ?_⟩
      obtain ⟨q1, q2, q3, q4⟩ := push_tup (ds := [.str wd, .int r2, .int r3]) hz rz nt (RpL.cons Rp.str (RpL.cons Rp.int (RpL.cons Rp.int RpL.nil)))
      refine ⟨fa, _, _, rfl, rfl, q1, Nat.lt_of_le_of_lt (show zs.length ≤ 1000 by omega) (by decide), ?_⟩
      refine ⟨R ++ [(wd, r2, r3)], _, _, _, rfl, by rw [List.map_append]; exact q2, fun r hr => ?_, by rw [List.length_append, List.length_singleton]; omega, fun c o hc e => q4 c o (nin1 (ne_of_none e nfa)) (kp7 c o hc e), tk7.trans q3, (D7.kp q4 (nin1 nf1.symm) (nin1 nf2.symm) (nin1 nf3.symm)).mono (by omega)⟩
      rw [List.mem_append, List.mem_singleton] at hr
      rcases hr with hr | rfl
      · exact ok r hr
      · exact hwd
    · rintro σ H3 ⟨R, v4, v5, v6, rfl, eC, ok, lR, kp, tk, D3⟩
      have lR : R.length ≤ 9 := by omega
      refine ⟨_, rfl, 2, rfl, slA_to (k := 2) (Rp.tk tk _ _ hO) fun H4 x s4 hx4 => ?_⟩
      rw [← List.map_take] at hx4
      obtain ⟨xo, hxo, rxo⟩ := hx4.inv
      have lxo := RpL.len _ _ rxo
      have lo2 : xo.length ≤ 2 := by
        rw [lxo, List.length_map, List.length_take]
        omega
      have add : ∀ {G : Hp} {R : List Rule} {c : Nat} {m : Int} {wd : Str} {p q : Int} {t : Addr}, (wd = "out" ∨ wd = "in") → LstAt K G fa (R.map ruleD) → RulesOk R → R.length ≤ c → Kp [d, rs] H G → TK H4 G → Deck2 G d cs rs m → c ≤ 100 → G t = none →
          ∃ zs, upd G t (.tup [.str wd, .int p, .int q]) fa = some (.lst zs) ∧ zs.length < sizeLine ∧ ∃ R', LstAt K (upd (upd G t (.tup [.str wd, .int p, .int q])) fa (.lst (zs ++ [.ref t]))) fa (R'.map ruleD) ∧ RulesOk R' ∧ R'.length ≤ c + 1 ∧ Kp [d, rs] H (upd (upd G t (.tup [.str wd, .int p, .int q])) fa (.lst (zs ++ [.ref t]))) ∧ TK H4 (upd (upd G t (.tup [.str wd, .int p, .int q])) fa (.lst (zs ++ [.ref t]))) ∧ Deck2 (upd (upd G t (.tup [.str wd, .int p, .int q])) fa (.lst (zs ++ [.ref t]))) d cs rs m := by
        intro G R c m wd p q t hw eC ok lR kp tk D hc nt
        obtain ⟨zs, hz, rz⟩ := id eC
        have lz := RpL.len _ _ rz
        rw [List.length_map] at lz
        obtain ⟨q1, q2, q3, q4⟩ := push_tup (ds := [.str wd, .int p, .int q]) hz rz nt (RpL.cons Rp.str (RpL.cons Rp.int (RpL.cons Rp.int RpL.nil)))
        refine ⟨zs, q1, Nat.lt_of_le_of_lt (show zs.length ≤ 1000 by omega) (by decide), R ++ [(wd, p, q)], by rw [List.map_append]; exact q2, fun r hr => ?_, by rw [List.length_append, List.length_singleton]; omega, fun c o hc e => q4 c o (nin1 (ne_of_none e nfa)) (kp c o hc e), tk.trans q3, D.kp q4 (nin1 nf1.symm) (nin1 nf2.symm) (nin1 nf3.symm)⟩
        rw [List.mem_append, List.mem_singleton] at hr
        rcases hr with hr | rfl
        · exact ok r hr
        · exact hw
      refine ⟨x, rfl, ⟨_, hxo⟩, ?_⟩
      refine for_tup (K := K) (a := x) (xs := xo) (fun i σ H' => ∃ (R : List Rule) (v4 v5 v6 : Option V), σ = [some (.ref d), some (.ref ao), some (.ref at'), some (.ref fa), v4, v5, v6] ∧ LstAt K H' fa (R.map ruleD) ∧ RulesOk R ∧ R.length ≤ 9 + 4 * i ∧ Kp [d, rs] H H' ∧ TK H4 H' ∧ Deck2 H' d cs rs (n + 28 + (9 + 4 * i : Nat)))
        ⟨R, _, _, _, rfl, eC.same s4, ok, by omega, kp.trans (Kp.of s4), TK.refl _, (D3.same s4).mono (by omega)⟩ (fun i σ H' _ ⟨_, _, _, _, _, _, _, _, _, t, _⟩ => SqT.tk hxo t) ?_ ?_
      · rintro i y σ H5 hy ⟨R, v4, v5, v6, rfl, eC, ok, lR, kp, tk5, D5⟩
        have hi : i < 2 := by
          have q := (List.getElem?_eq_some_iff.mp hy).1
          omega
        have hiO : i < (O.take 2).length := by
          have q := (List.getElem?_eq_some_iff.mp hy).1
          rw [lxo, List.length_map] at q
          exact q
        obtain ⟨v, ev, rv⟩ := RpL.get _ _ rxo i (p2D (O.take 2)[i]) (by rw [List.getElem?_map, List.getElem?_eq_getElem hiO]; rfl)
        have ex : v = y := Option.some.inj (ev.symm.trans hy)
        rw [ex] at rv
        generalize (O.take 2)[i] = eo at rv
        obtain ⟨to, rfl, hto⟩ := p2D_inv rv
        refine ⟨_, rfl, 2, rfl, slA_to (k := 2) (Rp.tk ((tk.trans (TK.of s4)).trans tk5) _ _ hT) fun H6 x2 s6 hx6 => ?_⟩
        rw [← List.map_take] at hx6
        obtain ⟨xt, hxt, rxt⟩ := hx6.inv
        have lxt := RpL.len _ _ rxt
        have lt2 : xt.length ≤ 2 := by
          rw [lxt, List.length_map, List.length_take]
          omega
        refine ⟨x2, rfl, ⟨_, hxt⟩, ?_⟩
        refine for_tup (K := K) (a := x2) (xs := xt) (fun j σ H' => ∃ (R : List Rule) (v6 : Option V), σ = [some (.ref d), some (.ref ao), some (.ref at'), some (.ref fa), v4, some (.ref to), v6] ∧ LstAt K H' fa (R.map ruleD) ∧ RulesOk R ∧ R.length ≤ 9 + 4 * i + 2 * j ∧ Kp [d, rs] H H' ∧ TK H4 H' ∧ TK H6 H' ∧ Deck2 H' d cs rs (n + 28 + (9 + 4 * i + 2 * j : Nat)))
          ⟨R, _, rfl, eC.same s6, ok, by omega, kp.trans (Kp.of s6), tk5.trans (TK.of s6), TK.refl _, (D5.same s6).mono (by omega)⟩ (fun i σ H' _ ⟨_, _, _, _, _, _, _, _, t, _⟩ => SqT.tk hxt t) ?_ ?_
        · rintro j z σ H7 hz ⟨R, v6, rfl, eC, ok, lR, kp, tk7, tk67, D7⟩
          have hj : j < 2 := by
            have q := (List.getElem?_eq_some_iff.mp hz).1
            omega
          have hjT : j < (T.take 2).length := by
            have q := (List.getElem?_eq_some_iff.mp hz).1
            rw [lxt, List.length_map] at q
            exact q
          obtain ⟨v, ev, rv2⟩ := RpL.get _ _ rxt j (p2D (T.take 2)[j]) (by rw [List.getElem?_map, List.getElem?_eq_getElem hjT]; rfl)
          have ex : v = z := Option.some.inj (ev.symm.trans hz)
          rw [ex] at rv2
          generalize (T.take 2)[j] = et at rv2
          obtain ⟨tt, rfl, htt⟩ := p2D_inv rv2
          have ho7 := SqT.tk hto tk7
          have ht7 := SqT.tk htt tk67
          dsimp only [gName, List.set, tNext]
          refine seq_if (fun σ' H' => ∃ (R : List Rule), σ' = [some (.ref d), some (.ref ao), some (.ref at'), some (.ref fa), v4, some (.ref to), some (.ref tt)] ∧ LstAt K H' fa (R.map ruleD) ∧ RulesOk R ∧ R.length ≤ 9 + 4 * i + 2 * j + 1 ∧ Kp [d, rs] H H' ∧ TK H4 H' ∧ TK H7 H' ∧ Deck2 H' d cs rs (n + 28 + (9 + 4 * i + 2 * j + 1 : Nat))) ?rest (fun rest => ?_)
          case rest =>
            rintro σ' H8 ⟨R, rfl, eC, ok, lR, kp, tk8, tk78, D8⟩
            refine ⟨_, rfl, d, cs, rs, 2, _, rfl, by decide, by decide, by omega, D8, fun r1 H9 a0 a1 k9 D9 t9 => ?_⟩
            have eC9 := eC.kp k9 t9 (nin2 nf1 nf3)
            have kp9 := kp.trans k9
            refine ⟨rfl, _, rfl, ?_⟩
            refine ite2 (fun hc => ?_) (fun hc => ?_)
            · refine ⟨_, rfl, _, _, rfl, .inl ⟨_, SqL.of eC9.lst.choose_spec, rfl⟩, _, _, rfl, rfl, _, rfl, ?_⟩
              refine ite2 (fun hc2 => ?_) (fun hc2 => ?_)
              · refine ⟨_, rfl, .inl ⟨rfl, _, SqL.of eC9.lst.choose_spec⟩, _, rfl, to, _, _, .int eo.1, rfl, rfl, SqT.tk ho7 (tk78.trans t9), rfl, _, rfl, tt, _, _, .int et.1, rfl, rfl, SqT.tk ht7 (tk78.trans t9), rfl, (by show 3 ≤ sizeLine; decide), fun t nt => ?_⟩
                obtain ⟨zs, z1, z2, R', z3, z4, z5, z6, z7, z8⟩ := add (c := 9 + 4 * i + 2 * j + 1) (p := eo.1) (q := et.1) (.inr rfl) eC9 ok lR kp9 (tk8.trans t9) D9 (by omega) nt
                have tx : TK H9 (upd (upd H9 t (.tup [.str "in", .int eo.1, .int et.1])) fa (.lst (zs ++ [.ref t]))) := ((TK.refl _).new nt).wr z1 rfl
                refine ⟨fa, zs, _, rfl, rfl, z1, z2, ?_⟩
                exact ⟨R', _, rfl, z3, z4, by omega, z6, z7, ((tk67.trans tk78).trans t9).trans tx, z8.mono (by omega)⟩
              · exact ⟨R, _, rfl, eC9, ok, by omega, kp9, tk8.trans t9, (tk67.trans tk78).trans t9, D9.mono (by omega)⟩
            · exact iteF ⟨R, _, rfl, eC9, ok, by omega, kp9, tk8.trans t9, (tk67.trans tk78).trans t9, D9.mono (by omega)⟩
          · refine ⟨_, rfl, d, cs, rs, 2, _, rfl, by decide, by decide, by omega, D7, fun r1 H9 a0 a1 k9 D9 t9 => ?_⟩
            have eC9 := eC.kp k9 t9 (nin2 nf1 nf3)
            have kp9 := kp.trans k9
            refine ⟨rfl, _, rfl, ?_⟩
            refine ite2 (fun hc => ?_) (fun hc => ?_)
            · refine ⟨_, rfl, .inl ⟨rfl, _, SqL.of eC9.lst.choose_spec⟩, _, rfl, tt, _, _, .int et.1, rfl, rfl, SqT.tk ht7 t9, rfl, _, rfl, to, _, _, .int eo.1, rfl, rfl, SqT.tk ho7 t9, rfl, (by show 3 ≤ sizeLine; decide), fun t nt => ?_⟩
              obtain ⟨zs, z1, z2, R', z3, z4, z5, z6, z7, z8⟩ := add (c := 9 + 4 * i + 2 * j) (p := et.1) (q := eo.1) (.inl rfl) eC9 ok lR kp9 (tk7.trans t9) D9 (by omega) nt
              have tx : TK H9 (upd (upd H9 t (.tup [.str "out", .int et.1, .int eo.1])) fa (.lst (zs ++ [.ref t]))) := ((TK.refl _).new nt).wr z1 rfl
              refine ⟨fa, zs, _, rfl, rfl, z1, z2, ?_⟩
              exact rest _ _ ⟨R', rfl, z3, z4, by omega, z6, z7, t9.trans tx, z8.mono (by omega)⟩
            · exact rest _ _ ⟨R, rfl, eC9, ok, by omega, kp9, tk7.trans t9, t9, D9.mono (by omega)⟩
        · rintro σ H7 ⟨R, v6, rfl, eC, ok, lR, kp, tk7, tk67, D7⟩
          exact ⟨R, _, _, _, rfl, eC, ok, by omega, kp, tk7, D7.mono (by omega)⟩
      · rintro σ H5 ⟨R, v4, v5, v6, rfl, eC, ok, lR, kp, tk5, D5⟩
        obtain ⟨zs, hz, rz⟩ := eC
        refine ⟨_, rfl, 12, rfl, fa, zs, rfl, SqL.of hz, fun lc nlc => ?_⟩
        have ec : cutV zs none (some 12) = zs.take 12 := by
          have e : HT.sIx zs.length zs.length (some 12) = min 12 zs.length := HT.sIx_nat _ _ 12
          unfold cutV
          rw [e, HT.sIx_none, List.drop_zero, Nat.sub_zero]
          by_cases hk : 12 ≤ zs.length
          · rw [Nat.min_eq_left hk]
          · rw [Nat.min_eq_right (by omega), List.take_of_length_le (Nat.le_refl _), List.take_of_length_le (by omega)]
        rw [ec]
        have s6 : Same H5 (upd H5 lc (.lst (zs.take 12))) := (L2.Same.refl _).new nlc
        have hlc : upd H5 lc (.lst (zs.take 12)) lc = some (.lst (zs.take 12)) := upd_same
        generalize upd H5 lc (.lst (zs.take 12)) = H6 at s6 hlc
        refine ⟨lc, _, rfl, .inl ⟨SqL.of hlc, fun t nt => ?_⟩⟩
        have s7 : Same H6 (upd H6 t (.tup (zs.take 12))) := (L2.Same.refl _).new nt
        have s57 := s6.trans s7
        refine k _ t (R.take 12) (Rp.tup upd_same ?_) (fun r hr => ok r (List.mem_of_mem_take hr)) (kp.trans (Kp.of s57)) ((D5.same s57).mono (by omega))
        rw [List.map_take]
        exact RpL.tk (TK.of s57) _ _ (RpL.take 12 rz)
theorem sideF_hit {may : List Rule} {there : Int} {word : Str} {M Bk : PL} {sender als : Int} {x y : Int × Int} (nM : (M.map (·.2)).Nodup) (nB : (Bk.map (·.1)).Nodup) (hx : x ∈ M) (hy : y ∈ Bk) (e1 : x.2 = als) (e2 : y.1 = sender) (hm : (word, sender, x.1) ∈ may) :
    sideF may there word M Bk sender als = some (there, y.2, x.1) := by
  unfold sideF
  rw [← e1, ← e2, handOf_mem nM hx, aliasOf_mem nB hy]
  simp only []
  rw [if_pos (by rw [e2]; exact hm)]
theorem sideF_miss {may : List Rule} {there : Int} {word : Str} {M Bk : PL} {sender als : Int} (h : ∀ x ∈ M, ∀ y ∈ Bk, ¬ (x.2 = als ∧ y.1 = sender ∧ (word, sender, x.1) ∈ may)) : sideF may there word M Bk sender als = none := by
  unfold sideF
  cases e1 : handOf M als with
  | none => rfl
  | some hd =>
    cases e2 : aliasOf Bk sender with
    | none => rfl
    | some n =>
      have := h _ (handOf_some e1) _ (aliasOf_some e2)
      simp only []
      rw [if_neg fun z => this ⟨rfl, rfl, z⟩]
theorem scDue : FnScope ["_law_gate", "_law_room", "_law_sender", "_law_alias", "_law_number", "_law_place", "_law_one_here", "_law_other", "_law_ours", "_law_theirs", "_law_may", "_law_mine", "_law_back", "_law_word", "_law_there", "_law_hand", "_law_own", "_law_elder", "_law_name"] ["_law_gate", "_law_room", "_law_sender", "_law_alias"] (defScope sDue) := ⟨rfl, rfl, rfl, by decide +kernel, rfl, by decide +kernel, by decide +kernel⟩
theorem ok_due {f : Addr} {fd : FuncData} (F : Fun K "_law_due" "_law_due" sDue f fd) : FnOk P w K mg base CX0 1 f fd ["_law_gate", "_law_room", "_law_sender", "_law_alias"] (spDueG K) := by
  refine F.ok scDue (fun vs H Q E h => ?_) (fun cdv A outer s H vs Q E hr h => ?_)
  · obtain ⟨g, room, sender, als, G, rfl, _⟩ := h
    rfl
  · obtain ⟨g, room, sender, als, G, rfl, ⟨ao, at', am, hg, ho, ht, hm, hok⟩, ⟨gO, gT⟩, ne, k⟩ := h
    refine ⟨_, (pss_cons (ps_asg (pv 0) (pg_tup rfl (pgs_cons (pg_name (i := 4) scDue.nd rfl (Or.inl rfl)) (pgs_cons (pg_name (i := 5) scDue.nd rfl (Or.inl rfl)) (pgs_cons (pg_name (i := 6) scDue.nd rfl (Or.inl rfl)) (pgs_cons (pg_name (i := 7) scDue.nd rfl (Or.inl rfl)) (pgs_cons (pg_name (i := 8) scDue.nd rfl (Or.inl rfl)) (pgs_cons (pg_name (i := 9) scDue.nd rfl (Or.inl rfl)) (pgs_cons (pg_name (i := 10) scDue.nd rfl (Or.inl rfl)) pgs_nil)))))))))
       (pss_cons (ps_if (PW.pt (pw_and (pt_cmpR op_ne (pv 1) (pv 6) (nomark _)) (pw_and1 (pt_cmpR op_ne (pv 1) (pv 7) (nomark _)))))
       (pss_one (ps_ret pe_non))
       pss_nil)
       (pss_cons (ps_asg (pe_tup (pa_cons (pv 8) (pa_cons (pv 9) (pa_cons pe_str (pa_cons (pv 7) pa_nil))))) (pg_tup rfl (pgs_cons (pg_name (i := 11) scDue.nd rfl (Or.inl rfl)) (pgs_cons (pg_name (i := 12) scDue.nd rfl (Or.inl rfl)) (pgs_cons (pg_name (i := 13) scDue.nd rfl (Or.inl rfl)) (pgs_cons (pg_name (i := 14) scDue.nd rfl (Or.inl rfl)) pgs_nil))))))
       (pss_cons (ps_if (pt_cmpR op_eq (pv 1) (pv 7) (nomark _))
       (pss_one (ps_asg (pe_tup (pa_cons (pv 9) (pa_cons (pv 8) (pa_cons pe_str (pa_cons (pv 6) pa_nil))))) (pg_tup rfl (pgs_cons (pg_name (i := 11) scDue.nd rfl (Or.inl rfl)) (pgs_cons (pg_name (i := 12) scDue.nd rfl (Or.inl rfl)) (pgs_cons (pg_name (i := 13) scDue.nd rfl (Or.inl rfl)) (pgs_cons (pg_name (i := 14) scDue.nd rfl (Or.inl rfl)) pgs_nil)))))))
       pss_nil)
       (pss_cons (ps_for PassesOwn.never rfl (pi_tup (pv 11)) (pg_tup rfl (pgs_cons (pg_name (i := 15) scDue.nd rfl (Or.inl rfl)) (pgs_cons (pg_name (i := 16) scDue.nd rfl (Or.inl rfl)) pgs_nil)))
       (pss_one (ps_for PassesOwn.never rfl (pi_tup (pv 12)) (pg_tup rfl (pgs_cons (pg_name (i := 17) scDue.nd rfl (Or.inl rfl)) (pgs_cons (pg_name (i := 18) scDue.nd rfl (Or.inl rfl)) pgs_nil)))
       (pss_one (ps_if (PW.pt (pw_and (pt_cmpR op_eq (pv 16) (pv 3) (nomark _)) (pw_and (pt_cmpR op_eq (pv 17) (pv 2) (nomark _)) (pw_and1 (pt_cmpR (inDTK (K := K) rfl (room65 hr)) (pe_tup (pa_cons (pv 13) (pa_cons (pv 2) (pa_cons (pv 15) pa_nil)))) (pv 10) (by rfl))))))
       (pss_one (ps_ret (pe_tup (pa_cons (pv 14) (pa_cons (pv 18) (pa_cons (pv 15) pa_nil))))))
       pss_nil)))))
       (pss_one (ps_ret pe_non))))))), ?_⟩
    refine ⟨_, rfl, g, _, rfl, hg, rfl, _, _, rfl, _, _, rfl, _, _, rfl, _, _, rfl, _, _, rfl, _, _, rfl, _, _, rfl, rfl, ?_⟩
    dsimp only [gName, List.set, tNext]
    refine seq_if (fun σ' H' => σ' = [some (.ref g), some (.int room), some (.int sender), some (.int als), some (.int G.number), some (.int G.place), some (.int G.one), some (.int G.other), some (.ref ao), some (.ref at'), some (.ref am), none, none, none, none, none, none, none, none] ∧ H' = H ∧ (room = G.one ∨ room = G.other)) ?rest (fun rest => ?_)
    case rest =>
      rintro σ' H1 ⟨rfl, rfl, hroom⟩
      refine ⟨_, rfl, _, rfl, _, rfl, (by show 4 ≤ sizeLine; decide), fun t1 nt1 => ?_⟩
      have s1 : Same H1 (upd H1 t1 (.tup [.ref ao, .ref at', .str "out", .int G.other])) := (L2.Same.refl _).new nt1
      refine ⟨t1, _, rfl, SqT.of upd_same, rfl, _, _, rfl, _, _, rfl, _, _, rfl, _, _, rfl, rfl, ?_⟩
      generalize upd H1 t1 (.tup [.ref ao, .ref at', .str "out", .int G.other]) = H2 at s1
      dsimp only [gName, List.set, tNext]
      refine seq_if (fun σ' H' => ∃ (mi bk : Addr) (word : Str) (there : Int) (M Bk : PL), σ' = [some (.ref g), some (.int room), some (.int sender), some (.int als), some (.int G.number), some (.int G.place), some (.int G.one), some (.int G.other), some (.ref ao), some (.ref at'), some (.ref am), some (.ref mi), some (.ref bk), some (.str word), some (.int there), none, none, none, none] ∧
        Same H1 H' ∧ (word = "out" ∨ word = "in") ∧ TupAt K H1 mi (M.map p2D) ∧ TupAt K H1 bk (Bk.map p2D) ∧ PairsOk M ∧ PairsOk Bk ∧ mayF G room sender als = sideF G.may there word M Bk sender als) ?rest2 (fun rest2 => ?_)
      case rest2 =>
        rintro σ' H3 ⟨mi, bk, word, there, M, Bk, rfl, s3, hw, hM, hB, okM, okB, eF⟩
        rw [eF] at k
        obtain ⟨xm, hxm, rxm⟩ := (show TupAt K H3 mi (M.map p2D) from Rp.tk (TK.of s3) _ _ hM).inv
        obtain ⟨xb, hxb, rxb⟩ := (show TupAt K H3 bk (Bk.map p2D) from Rp.tk (TK.of s3) _ _ hB).inv
        have lxm := RpL.len _ _ rxm
        have lxb := RpL.len _ _ rxb
        rw [List.length_map] at lxm lxb
        refine ⟨_, rfl, mi, rfl, ⟨_, hxm⟩, ?_⟩
        refine for_tup (K := K) (a := mi) (xs := xm) (fun i σ H' => ∃ (v15 v16 v17 v18 : Option V), σ = [some (.ref g), some (.int room), some (.int sender), some (.int als), some (.int G.number), some (.int G.place), some (.int G.one), some (.int G.other), some (.ref ao), some (.ref at'), some (.ref am), some (.ref mi), some (.ref bk), some (.str word), some (.int there), v15, v16, v17, v18] ∧ Same H3 H' ∧
            ∀ x ∈ M.take i, ∀ y ∈ Bk, ¬ (x.2 = als ∧ y.1 = sender ∧ (word, sender, x.1) ∈ G.may)) ⟨_, _, _, _, rfl, L2.Same.refl _, fun x hx => by cases hx⟩ (fun i σ H' _ ⟨_, _, _, _, _, s, _⟩ => SqT.tk hxm (TK.of s)) ?_ ?_
        · rintro i x σ H4 hxi ⟨v15, v16, v17, v18, rfl, s4, no⟩
          have hi : i < M.length := by
            have q := (List.getElem?_eq_some_iff.mp hxi).1
            omega
          obtain ⟨v, ev, rv⟩ := RpL.get _ _ rxm i (p2D M[i]) (by rw [List.getElem?_map, List.getElem?_eq_getElem hi]; rfl)
          have ex : v = x := Option.some.inj (ev.symm.trans hxi)
          rw [ex] at rv
          have et : M.take (i + 1) = M.take i ++ [M[i]] := List.take_succ_eq_append_getElem hi
          have hin : M[i] ∈ M := List.getElem_mem hi
          generalize M[i] = em at rv et hin
          obtain ⟨t, rfl, htm⟩ := p2D_inv rv
          refine ⟨t, _, rfl, SqT.tk htm (TK.of s4), rfl, _, _, rfl, _, _, rfl, rfl, ?_⟩
          refine ⟨_, rfl, bk, rfl, ⟨_, SqT.tk hxb (TK.of s4)⟩, ?_⟩
          refine for_tup (K := K) (a := bk) (xs := xb) (fun j σ H' => ∃ (v17 v18 : Option V), σ = [some (.ref g), some (.int room), some (.int sender), some (.int als), some (.int G.number), some (.int G.place), some (.int G.one), some (.int G.other), some (.ref ao), some (.ref at'), some (.ref am), some (.ref mi), some (.ref bk), some (.str word), some (.int there), some (.int em.1), some (.int em.2), v17, v18] ∧ Same H3 H' ∧
            ∀ y ∈ Bk.take j, ¬ (em.2 = als ∧ y.1 = sender ∧ (word, sender, em.1) ∈ G.may)) ⟨_, _, rfl, s4, fun y hy => by cases hy⟩ (fun i σ H' _ ⟨_, _, _, s, _⟩ => SqT.tk hxb (TK.of s)) ?_ ?_
          · rintro j y σ H5 hyj ⟨v17, v18, rfl, s5, no2⟩
            have hj : j < Bk.length := by
              have q := (List.getElem?_eq_some_iff.mp hyj).1
              omega
            obtain ⟨v, ev, rv2⟩ := RpL.get _ _ rxb j (p2D Bk[j]) (by rw [List.getElem?_map, List.getElem?_eq_getElem hj]; rfl)
            have ex : v = y := Option.some.inj (ev.symm.trans hyj)
            rw [ex] at rv2
            have et2 : Bk.take (j + 1) = Bk.take j ++ [Bk[j]] := List.take_succ_eq_append_getElem hj
            have hin2 : Bk[j] ∈ Bk := List.getElem_mem hj
            generalize Bk[j] = eb at rv2 et2 hin2
            obtain ⟨t2, rfl, htb⟩ := p2D_inv rv2
            have next : ∀ H', Same H3 H' → ¬ (em.2 = als ∧ eb.1 = sender ∧ (word, sender, em.1) ∈ G.may) → ∃ (v17 v18 : Option V), [some (V.ref g), some (.int room), some (.int sender), some (.int als), some (.int G.number), some (.int G.place), some (.int G.one), some (.int G.other), some (.ref ao), some (.ref at'), some (.ref am), some (.ref mi), some (.ref bk), some (.str word), some (.int there), some (.int em.1), some (.int em.2), some (.int eb.1), some (.int eb.2)] = [some (.ref g), some (.int room), some (.int sender), some (.int als), some (.int G.number), some (.int G.place), some (.int G.one), some (.int G.other), some (.ref ao), some (.ref at'), some (.ref am), some (.ref mi), some (.ref bk), some (.str word), some (.int there), some (.int em.1), some (.int em.2), v17, v18] ∧ Same H3 H' ∧
              ∀ y ∈ Bk.take (j + 1), ¬ (em.2 = als ∧ y.1 = sender ∧ (word, sender, em.1) ∈ G.may) := fun H' s' hno => ⟨_, _, rfl, s', fun y hy => by
                rw [et2, List.mem_append, List.mem_singleton] at hy
                rcases hy with hy | rfl
                · exact no2 y hy
                · exact hno⟩
            refine ⟨t2, _, rfl, SqT.tk htb (TK.of s5), rfl, _, _, rfl, _, _, rfl, rfl, ?_⟩
            refine ⟨_, rfl, _, rfl, rfl, _, rfl, ?_⟩
            refine ite2 (fun hc => ?_) (fun hc => ?_)
            rotate_left
            · have hc : ¬ em.2 = als := fun z => hc (by rw [z]; exact decide_eq_true rfl)
              exact iteF (next _ s5 fun z => hc z.1)
            have hc : em.2 = als := by
              have := of_decide_eq_true hc
              injection this
            refine ⟨_, rfl, _, rfl, rfl, _, rfl, ?_⟩
            refine ite2 (fun hc2 => ?_) (fun hc2 => ?_)
            rotate_left
            · have hc2 : ¬ eb.1 = sender := fun z => hc2 (by rw [z]; exact decide_eq_true rfl)
              exact iteF (next _ s5 fun z => hc2 z.2.1)
            have hc2 : eb.1 = sender := by
              have := of_decide_eq_true hc2
              injection this
            refine ⟨_, rfl, _, rfl, _, rfl, (by show 3 ≤ sizeLine; decide), fun t3 nt3 => ?_⟩
            have s6 : Same H5 (upd H5 t3 (.tup [.str word, .int sender, .int em.1])) := (L2.Same.refl _).new nt3
            have rt : Rp K (upd H5 t3 (.tup [.str word, .int sender, .int em.1])) (ruleD (word, sender, em.1)) (.ref t3) := Rp.tup upd_same (RpL.cons Rp.str (RpL.cons Rp.int (RpL.cons Rp.int RpL.nil)))
            have s16 := (s3.trans s5).trans s6
            refine ⟨_, rfl, _, _, Rp.dp _ _ rt, Rp.dp _ _ (Rp.tk (TK.of s16) _ _ hm), shaped_rule hw, shaped_rules hok, _, rfl, ?_⟩
            rw [any_rule _ hok]
            by_cases hmm : (word, sender, em.1) ∈ G.may
            · rw [decide_eq_true hmm]
              refine iteT ?_
              rw [sideF_hit okM.2.1 okB.1 hin hin2 hc hc2 hmm] at k
              refine ⟨_, rfl, _, rfl, _, rfl, (by show 3 ≤ sizeLine; decide), fun t4 nt4 => ?_⟩
              exact k _ (.ref t4) (s16.new (o := .tup [.int there, .int eb.2, .int em.1]) nt4) (Rp.tup upd_same (RpL.cons Rp.int (RpL.cons Rp.int (RpL.cons Rp.int RpL.nil))))
            · rw [decide_eq_false hmm]
              exact iteF (next _ (s5.trans s6) fun z => hmm z.2.2)
          · rintro σ H5 ⟨v17, v18, rfl, s5, no2⟩
            rw [lxb, List.take_length] at no2
            refine ⟨_, _, _, _, rfl, s5, fun x hx y hy => ?_⟩
            rw [et, List.mem_append, List.mem_singleton] at hx
            rcases hx with hx | rfl
            · exact no x hx y hy
            · exact no2 y hy
        · rintro σ H4 ⟨v15, v16, v17, v18, rfl, s4, no⟩
          rw [lxm, List.take_length] at no
          rw [sideF_miss no] at k
          exact k _ .non (s3.trans s4) Rp.none
      refine ⟨_, rfl, _, rfl, rfl, _, rfl, ?_⟩
      refine ite2 (fun hc => ?_) (fun hc => ?_)
      · have hc : room = G.other := by
          have := of_decide_eq_true hc
          injection this
        refine ⟨_, rfl, _, rfl, _, rfl, (by show 4 ≤ sizeLine; decide), fun t2 nt2 => ?_⟩
        refine ⟨t2, _, rfl, SqT.of upd_same, rfl, _, _, rfl, _, _, rfl, _, _, rfl, _, _, rfl, rfl, ?_⟩
        refine rest2 _ _ ⟨at', ao, "in", G.one, G.theirs, G.ours, rfl, s1.new nt2, .inr rfl, ht, ho, gT, gO, ?_⟩
        unfold mayF
        rw [if_neg (by rw [hc]; exact ne.symm), if_pos hc]
      · have hc : ¬ room = G.other := fun z => hc (by rw [z]; exact decide_eq_true rfl)
        refine rest2 _ _ ⟨ao, at', "out", G.other, G.ours, G.theirs, rfl, s1, .inl rfl, ho, ht, gO, gT, ?_⟩
        unfold mayF
        rw [if_pos (hroom.resolve_right hc)]
    refine ⟨_, rfl, _, rfl, rfl, _, rfl, ?_⟩
    by_cases h1 : room = G.one
    · refine iteNS (by rw [h1]) ?_
      exact iteF (rest _ _ ⟨rfl, rfl, .inl h1⟩)
    · refine ite2 (fun _ => ?_) (fun hc => absurd (by rw [decide_eq_false (fun z => h1 (by injection z))]; rfl) hc)
      refine ⟨_, rfl, _, rfl, rfl, _, rfl, ?_⟩
      by_cases h2 : room = G.other
      · refine iteNS (by rw [h2]) ?_
        exact rest _ _ ⟨rfl, rfl, .inr h2⟩
      · refine ite2 (fun _ => ?_) (fun hc => absurd (by rw [decide_eq_false (fun z => h2 (by injection z))]; rfl) hc)
        refine k H .non (L2.Same.refl _) ?_
        unfold mayF
        rw [if_neg h1, if_neg h2]
        exact Rp.none
end
end Wn

namespace Wn
open PySem L2 PySem.Spec PyProof.Rows
/-! ### repr of data asks that no repr is under way: a promise of the law's own def, called as the claim calls it -/
section
variable {X : Cx} {K : PySem.W.Frag}
def rReprD (K : PySem.W.Frag) : List V → Hp → VK → Prop := fun xs H Q => ∃ (x : V) (d : PyData), xs = [x] ∧ Dp K H x d ∧ d.showable = true ∧ d.hasDict = false ∧ d.depth ≤ 60 ∧ d.shown.length ≤ sizeLine ∧ Q (.str d.shown) H
theorem call_reprD (hg : X.A.guards = some []) (hu : X.A.units + 64 < cLine) : CallR X (.builtin "repr") (rReprD X.K) := by
  intro pins s σ H xs us Q I r h
  obtain ⟨x, d, rfl, hd, hs, hno, hdep, hsz, q⟩ := h
  obtain ⟨u, rfl, rx⟩ := vals1 r
  have fin : ∀ (h' : Heap) (t tk : Tok), (∀ b o, s.heap.get? b = some o → h'.get? b = some o) → EP X pins σ Q (.str d.shown t) { s with heap := h', toks := tk } := fun h' t tk hk => ⟨.str d.shown, H, I.kept hk, ⟨t, rfl⟩, q⟩
  obtain ⟨as, rd⟩ := Dp.reads I d x u hd rx
  have same : ∀ b o, s.heap.get? b = some o → s.heap.get? b = some o := fun _ _ e => e
  cases rd with
  | none => exact PySem.P.repr_of_none (fin s.heap _ _ same)
  | bool b => exact PySem.P.repr_of_bool (fin s.heap _ _ same)
  | int i t =>
    have hi : i.natAbs.log2 < 1920 := by simpa [PyData.showable] using hs
    exact PySem.P.repr_of_int hi (fin s.heap _ _ same)
  | str x t => exact PySem.P.repr_of_str (fin s.heap _ _ same) (hsz := hsz)
  | list h1 h2 h3 h4 => exact repr_of_reads' (.list h1 h2 h3 h4) hs (fun z => by rw [hno] at z; cases z) hg (by omega) same (fun h' t tk hk => fin h' t tk hk) (hsz := hsz)
  | tuple h1 h2 h3 h4 => exact repr_of_reads' (.tuple h1 h2 h3 h4) hs (fun z => by rw [hno] at z; cases z) hg (by omega) same (fun h' t tk hk => fin h' t tk hk) (hsz := hsz)
  | dict h1 h2 h3 h4 h5 => cases hno
theorem reprDK (hK : X.K = K) (hg : X.A.guards = some []) (hu : X.A.units + 64 < cLine) : CallR X (.builtin "repr") (rReprD K) := hK ▸ call_reprD hg hu
end
/-- the promise of the law's def where the claim's caller calls it -/
def LawOk (P : Program) (w : World) (K : PySem.W.Frag) (mg : Str → Option Value) (base : Heap) (f : Addr) (fd : FuncData) (ps : List Str) (sp : Sp) : Prop :=
  ∀ (s : Shared) (H : Hp) (args : Args) (us : List Value) (vs : List V) (Q : VK), Env0 P w K mg base callerA [] s H → BindsTo s fd args (ps.zip us) → Vals vs us → sp vs H Q E0 →
    codeAny (model P w) callerA (.call (.ref f) args) (CR CX0 [] P w H s Q E0) s
section
variable {P : Program} {w : World} {K : PySem.W.Frag} {mg : Str → Option Value} {base : Heap}
theorem law_ok {x qual : Str} {st : Stmt} {f : Addr} {fd : FuncData} {N ps : List Str} {k : Nat} {sp : Sp} (F : Fun K x qual st f fd) (S : FnScope N ps (defScope st)) (len : ∀ vs H Q E, sp vs H Q E → vs.length = ps.length) (hr : Room (k + 1) callerA)
    (hbody : ∀ (cdv : Value) (A : Around) (s : Shared) (H : Hp) (vs : List V) (Q : VK), A = callerA → Room k (A.deeper (envOfC qual (defScope st) s.heap.objs.size f cdv)) → sp vs H Q E0 →
      ∃ t, PSs (cxOf CX0 P w K mg base N qual (defScope st) f cdv A [] s H E0).nox (defBody st) t ∧ t { nx := fun _ H' => Q .non H', rt := Q } (start N vs) H) : LawOk P w K mg base f fd ps sp := by
  obtain ⟨oc, od, kV, doc, pm, an, cdv, ct, osl, rfl, lk, hcd⟩ := F.ex
  intro s H args us vs Q e0 hb r hsp
  have hl := len _ _ _ _ hsp
  obtain ⟨t, ht, hq⟩ := hbody cdv callerA s H vs Q rfl (hr.deeper _) hsp
  have kin : K.In s.heap := e0.mod.kin.keeps fun b o e => (e0.bs b o e).1
  have nolim : s.heap.NoLimit := e0.mod.nolimit.keeps fun b o e => (e0.bs b o e).1
  have knd : ∀ y ∈ ps.zip us, (defScope st).names.lookup y.1 = some .local ∨ ((defScope st).names.lookup y.1 = some .cell ∧ ((cellsFrom (s.heap.objs.size + 1) (defScope st).names []).lookup y.1).isSome = true) := by
    rintro ⟨n, v⟩ hy
    refine (S.par n (List.of_mem_zip hy).1).imp id fun q => ⟨q, PySem.W.cellsFrom_some _ _ _ (.inl q)⟩
  refine codeAny_call_function hr.depth (kin _ _ lk) rfl S.co S.gen rfl (PySem.W.codeRec_of kin hcd) (hb _ _ _ _ (wpAny_newFunctionEnv_cells S.kind knd fun env he s1 x => ?_))
  subst he
  refine ⟨nolim.keeps x.toInCall.keep, codeAny_func ?_⟩
  have I := inv_start (CX := CX0) (E := E0) S hr.hd e0 hl r x
  refine wpAny_mono (ht.nox.run [] s1 (start N vs) H _ I hq) (fun fl s' hs => ?_) fun e s' hs => hs
  cases fl with
  | ret u =>
    obtain ⟨v, σ', H', J, rv, q⟩ := hs
    exact ⟨v, H', J.os, J.bare, J.base, J.hok, rv, q⟩
  | next =>
    obtain ⟨σ', H', J, q⟩ := hs
    exact ⟨.non, H', J.os, J.bare, J.base, J.hok, rfl, q⟩
  | brk => exact False.elim hs.choose_spec.choose_spec.2
  | cont => exact False.elim hs.choose_spec.choose_spec.2
/-- the law's call, by such a promise: only the script is tracked, as it is -/
theorem law_callG {mb : Str → Option Value} {fa a : Addr} {fd : FuncData} {x : Str} {sp : Sp} {s₁ : Shared} {vs : List Value} {ns : List Int}
    (KX : K.In s₁.heap) (hns : s₁.heap.Ns mainGlobals mg) (hb : s₁.heap.Ns builtinsNs mb) (hbb : ∀ x : Str, x ≠ "__name__" → mb x = bootBuiltins x) (hlim : s₁.heap.NoLimit) (hg : s₁.gens = #[])
    (ha : s₁.heap.get? a = some { cls := .type "list", data := .seq vs.toArray }) (hi : IntsAre vs ns) (hl : ns.length ≤ sizeLine)
    (F : ∀ base : Heap, K.In base → base.Ns mainGlobals mg → LawOk P w K mg base fa fd [x] sp) (hbind : ∀ (s : Shared) (u : Value), BindsTo s fd ⟨[u], []⟩ [(x, u)])
    (hsp : ∀ H : Hp, SqL K H a (ns.map V.int) → sp [.ref a] H (fun v _ => v = .bl true) E0) :
    codeAny (model P w) callerA (.call (.ref fa) ⟨[.ref a], []⟩) (fun r s' => r = .ok (.ret (.bool true)) ∧ OldK s₁.heap s'.heap ∧ s'.os = s₁.os ∧ AllBare s'.gens) s₁ := by
  have rv : Vals (ns.map V.int) vs := vals_ints hi
  have hlen := hi.length
  obtain ⟨H, hS, hok, hT⟩ : ∃ H : Hp, SqL K H a (ns.map V.int) ∧ HOk P w H s₁.heap ∧ ∀ b u, H b = some u → b = a ∧ K.lookup a = none ∧ u = .frz { cls := .type "list", data := .seq vs.toArray } (.lst (ns.map V.int)) := by
    cases hk : K.lookup a with
    | some o =>
      have e := KX a o hk
      rw [ha] at e
      cases e
      exact ⟨fun _ => none, .inr ⟨_, vs.toArray, _, hk, rfl, rfl, rfl, by rw [List.size_toArray, hlen]; exact hl, by simpa using rv⟩, (fun b u z => by have z' : (none : Option HO) = some u := z; cases z'), (fun b u z => by have z' : (none : Option HO) = some u := z; cases z')⟩
    | none =>
      refine ⟨upd (fun _ => none) a (.frz { cls := .type "list", data := .seq vs.toArray } (.lst (ns.map V.int))), .inl (.inr ⟨_, upd_same⟩), fun b u z => ?_, fun b u z => ?_⟩
      · by_cases e : b = a
        · subst e
          rw [upd_same] at z
          cases z
          exact ⟨ha, by rw [List.length_map]; exact hl, vs, _, rv, ha⟩
        · rw [upd_ne e] at z
          cases z
      · by_cases e : b = a
        · subst e
          rw [upd_same] at z
          exact ⟨rfl, rfl, (Option.some.inj z).symm⟩
        · rw [upd_ne e] at z
          cases z
  have free : ∀ {b : Addr} {o : Obj} {es : Array DictEntry} {ep : Nat}, s₁.heap.get? b = some o → o.data = .dict es ep → H b = none := fun {b o es ep} e d => by
    cases q : H b with
    | none => rfl
    | some u =>
      obtain ⟨rfl, _, _⟩ := hT b u q
      rw [ha] at e
      cases e
      exact nomatch (show Data.seq vs.toArray _ = Data.dict es ep from d)
  have ns' : ∀ {b : Addr} {m : Str → Option Value}, s₁.heap.Ns b m → (hidT s₁.heap H).Ns b m := fun {b m} ⟨o, es, ep, e, d, r⟩ => ⟨o, es, ep, hidT_get e (free e d), d, r⟩
  have kin : K.In (hidT s₁.heap H) := fun b o e => hidT_get (KX b o e) (by
    cases q : H b with
    | none => rfl
    | some u =>
      obtain ⟨rfl, z, _⟩ := hT b u q
      rw [z] at e
      cases e)
  obtain ⟨mc, c1, c2⟩ := hlim
  have e0 : Env0 P w K mg (hidT s₁.heap H) callerA [] s₁ H := ⟨rfl, ⟨kin, ns' hns, ⟨mb, ns' hb, hbb⟩, ⟨mc, ns' c1, c2⟩⟩, fun b o e => of_hidT e, Nat.le_of_eq (hidT_size _ _), trivial, fun b hb => absurd hb (List.not_mem_nil), hok, .of_eq hg⟩
  refine codeAny_mono (F _ kin (ns' hns) s₁ H ⟨[.ref a], []⟩ [.ref a] [.ref a] _ e0 (hbind s₁ (.ref a)) (.cons rfl .nil) (hsp H hS)) fun r s' h => ?_
  rcases r with e | fl
  · exact h.elim
  · cases fl with
    | next => exact h.elim
    | brk => exact h.elim
    | cont => exact h.elim
    | ret u =>
      obtain ⟨v, H', os, bare, un, hok', r', rfl⟩ := h
      obtain rfl : u = Value.bool true := r'
      refine ⟨rfl, OldK.of_keep fun b o e => ?_, os, bare⟩
      cases q : H b with
      | none => exact un.keep b o e q (fun z => absurd z (List.not_mem_nil)) (List.not_mem_nil)
      | some u =>
        obtain ⟨rfl, _, rfl⟩ := hT b u q
        have z := (hok' _ _ (un.frzs _ _ _ q)).1
        rw [ha] at e
        cases e
        exact z
end
theorem walkG {l : PySem.W.OpenLaw} {n : Nat} {q : Program} {loose : List Str} {XP : (Str → Option Value) → Heap → Prop} {YP : World → Heap → Prop} {d : DefRec} {K : Params → PySem.W.Frag} {sp : World → Sp} {x : Str}
    (hn : l.most = some n) (hn2 : n ≤ sizeLine) (hdf : d.params.defaults = []) (hY : ∀ (w : World) (h : Heap), YP w h → (K w.params).In h)
    (F : ∀ (w : World) (mg : Str → Option Value) (fa : Addr) (h : Heap), (K w.params).In h → h.Ns mainGlobals mg → mg d.name = some (.ref fa) →
      ∃ fd : FuncData, (∀ (s : Shared) (u : Value), BindsTo s fd ⟨[u], []⟩ [(x, u)]) ∧ ∀ base : Heap, (K w.params).In base → base.Ns mainGlobals mg → LawOk l.prog w (K w.params) mg base fa fd [x] (sp w))
    (hsp : ∀ (w : World) (H : Hp) (a : Addr) (ns : List Int), ns.length ≤ n → SqL (K w.params) H a (ns.map V.int) → sp w [.ref a] H (fun v _ => v = .bl true) E0) :
    PySem.W.WalkO q loose XP YP l.row.toRowW d [] (fun f vs => PySem.call f vs) := by
  refine Att.attach_call hn hdf fun w s₀ s₁ mg mb fa o pm cd doc a vs ns G Y ho hd hcd hmg hobj hints hlen hg => ?_
  obtain ⟨fd, hb, hF⟩ := F w mg fa _ (hY w _ Y) G.T.g hmg
  exact law_callG (hY w _ Y) G.T.g G.T.b G.T.builtins G.T.nolimit hg hobj hints (Nat.le_trans hlen hn2) hF hb fun H hS => hsp w H a ns hlen hS
end Wn

set_option maxHeartbeats 4000000
namespace Wn
open PySem L2
abbrev sLaw : Stmt := top 13
theorem log16 {x : Int} (h0 : 0 ≤ x) (h1 : x < 16) : x.natAbs.log2 < 1920 := by
  by_cases hx : x.natAbs = 0
  · rw [hx]
    decide
  · have : x.natAbs.log2 < 4 := (Nat.log2_lt hx).mpr (by omega)
    omega
def Res16 : Option (Int × Int × Int) → Prop
  | none => True
  | some r => (0 ≤ r.1 ∧ r.1 < 16) ∧ (0 ≤ r.2.1 ∧ r.2.1 < 16) ∧ 0 ≤ r.2.2 ∧ r.2.2 < 16
theorem res_ok {r : Option (Int × Int × Int)} (h : Res16 r) : (resD r).showable = true ∧ (resD r).hasDict = false ∧ (resD r).depth ≤ 60 ∧ (resD r).shown.length ≤ sizeLine := by
  cases r with
  | none => exact ⟨rfl, rfl, by decide, by decide +kernel⟩
  | some r =>
    obtain ⟨a, b, c⟩ := h
    have l1 := log16 a.1 a.2
    have l2 := log16 b.1 b.2
    have l3 := log16 c.1 c.2
    refine ⟨by simp [resD, PyData.showable, PyData.showableAll, l1, l2, l3], by simp [resD, PyData.hasDict, PyData.hasDictAll], by simp [resD, PyData.depth, PyData.depthAll], ?_⟩
    have t1 := PyProof.Rows.int_text_len_1921 l1
    have t2 := PyProof.Rows.int_text_len_1921 l2
    have t3 := PyProof.Rows.int_text_len_1921 l3
    have e : (resD (some r)).shown = tupleText [Str.ofString (toString r.1), Str.ofString (toString r.2.1), Str.ofString (toString r.2.2)] := rfl
    rw [e]
    have j := join_length_add [Str.ofString (toString r.1), Str.ofString (toString r.2.1), Str.ofString (toString r.2.2)] (by simp)
    unfold tupleText
    rw [Str.length_append, Str.length_append]
    have e1 : (Str.ofString "(").length = 1 := by decide
    have e2 : (Str.ofString (if ([Str.ofString (toString r.1), Str.ofString (toString r.2.1), Str.ofString (toString r.2.2)].length == 1) = true then ",)" else ")")).length = 1 := by
      show (Str.ofString ")").length = 1
      decide
    have e3 : piled [Str.ofString (toString r.1), Str.ofString (toString r.2.1), Str.ofString (toString r.2.2)] ≤ 6000 := by
      generalize Str.ofString (toString r.1) = x1 at t1
      generalize Str.ofString (toString r.2.1) = x2 at t2
      generalize Str.ofString (toString r.2.2) = x3 at t3
      simp [piled]
      omega
    rw [e1, e2, sizeLine_eq]
    omega
theorem shaped_pT (L : PL) : SeqAt.shaped (.tuple (L.map p2D)) = true := by
  unfold SeqAt.shaped
  have h1 : ∀ L : PL, PyData.canLayAll0 (L.map p2D) = true := by
    intro L
    induction L with
    | nil => simp [PyData.canLayAll0]
    | cons e L ih => simp [PyData.canLayAll0, PyData.canLay0, p2D] at ih ⊢; exact ih
  have h2 : ∀ L : PL, PyData.depthAll (L.map p2D) ≤ 2 := by
    intro L
    induction L with
    | nil => simp [PyData.depthAll]
    | cons e L ih =>
      rw [List.map_cons]
      have e1 : PyData.depthAll [PyData.int e.1, PyData.int e.2] ≤ 1 := by simp [PyData.depthAll, PyData.depth]
      have e2 : PyData.depth (p2D e) ≤ 2 := by
        unfold p2D
        simp only [PyData.depth]
        omega
      simp only [PyData.depthAll]
      omega
  have h3 := h2 L
  rw [Bool.and_eq_true]
  refine ⟨by simp only [PyData.canLay0]; exact h1 L, decide_eq_true ?_⟩
  simp only [PyData.depth]
  omega
theorem eqv_nil (L : PL) : PyData.eqv (.tuple (L.map p2D)) (.tuple (([] : PL).map p2D)) = decide (L = []) := by
  cases L with
  | nil => rw [SeqAt.eqv_refl _ (SeqAt.canLay_of_shaped (shaped_pT []))]; rfl
  | cons e L => rfl
theorem may_res {G : Gt} {room sender als : Int} (ok : GtOk G) (h1 : 0 ≤ G.one ∧ G.one < 16) (h2 : 0 ≤ G.other ∧ G.other < 16) : Res16 (mayF G room sender als) := by
  have side : ∀ {there : Int} {word : Str} {M Bk : PL}, PairsOk M → PairsOk Bk → (0 ≤ there ∧ there < 16) → Res16 (sideF G.may there word M Bk sender als) := by
    intro there word M Bk hM hB ht
    unfold sideF
    cases e1 : handOf M als with
    | none => trivial
    | some h =>
      cases e2 : aliasOf Bk sender with
      | none => trivial
      | some n =>
        simp only []
        split
        · have := (hM.2.2.1 _ (handOf_some e1)).1
          have := (hB.2.2.1 _ (aliasOf_some e2)).2
          exact ⟨ht, this, (hM.2.2.1 _ (handOf_some e1)).1⟩
        · trivial
  unfold mayF
  split
  · exact side ok.1 ok.2 h2
  · split
    · exact side ok.2 ok.1 h1
    · trivial

section
variable {P : Program} {w : World} {K : PySem.W.Frag} {mg : Str → Option Value} {base : Heap}
theorem scLaw : FnScope ["_law_script", "_law_deck_here", "_law_turn", "_law_ours", "_law_theirs", "_law_one_here", "_law_other", "_law_gate", "_law_room", "_law_k", "_law_sender", "_law_alias", "_law_mine", "_law_back", "_law_due_here"] ["_law_script"] (defScope sLaw) := ⟨rfl, rfl, rfl, by decide +kernel, rfl, by decide +kernel, by decide +kernel⟩
theorem ok_law {f : Addr} {fd : FuncData} (F : Fun K "law" "law" sLaw f fd) (B : LB mg)
    (cR : Cd P w K mg base 1 "_law_draw" ["_law_deck_here", "_law_many"] spDraw) (cK : Cd P w K mg base 1 "_law_deck" ["_law_script"] (spDeck2 K))
    (cOL : Cd P w K mg base 2 "_law_one" ["_law_deck_here", "_law_some"] (spOneL K)) (cOT : Cd P w K mg base 2 "_law_one" ["_law_deck_here", "_law_some"] (spOneT K))
    (cP : Cd P w K mg base 2 "_law_pairs" ["_law_deck_here", "_law_most", "_law_first"] (spPairs K)) (cU : Cd P w K mg base 2 "_law_rules" ["_law_deck_here", "_law_ours", "_law_theirs"] (spRules K))
    (cD : Cd P w K mg base 1 "_law_due" ["_law_gate", "_law_room", "_law_sender", "_law_alias"] (spDueG K)) (cM : Cd P w K mg base 2 "may_pass" ["gate", "room", "sender", "alias"] (spMay K)) :
    LawOk P w K mg base f fd ["_law_script"] (spLaw K) := by
  obtain ⟨fR, fdR, GR, mR, kR, bR⟩ := cR.tk
  obtain ⟨fK, fdK, GK, mK, kK, bK⟩ := cK
  obtain ⟨fOL, fdOL, GOL, mO, kO, bO⟩ := cOL.tk
  obtain ⟨fOT, fdOT, GOT, mO2, kO2, bO2⟩ := cOT.tk
  obtain ⟨fP, fdP, GP, mP, kP, bP⟩ := cP.tk
  obtain ⟨fU, fdU, GU, mU, kU, bU⟩ := cU.tk
  obtain ⟨fD, fdD, GD, mD, kD, bD⟩ := cD
  obtain ⟨fM, fdM, GM, mM, kM, bM⟩ := cM
  refine law_ok (k := 3) F scLaw (fun vs H Q E h => ?_) ⟨rfl, by decide, by decide⟩ (fun cdv A s H vs Q hA hr h => ?_)
  · obtain ⟨a, ns, rfl, _⟩ := h
    rfl
  · obtain ⟨a, ns, rfl, hS, hl, k⟩ := h
    subst hA
    have hr2 : Room 2 _ := hr.mono (by decide)
    have hr1 : Room 1 _ := hr.mono (by decide)
    refine ⟨_, (pss_cons (ps_set (i := 1) scLaw.nd rfl (Or.inl rfl) (pe_call GK hr1 rfl mK kK bK .nil pass0 (pa_cons (pv 0) pa_nil)))
       (pss_cons (ps_for PassesOwn.never rfl (pi_range1 rfl B.range (pa_cons pe_int pa_nil)) (pg_name (i := 2) scLaw.nd rfl (Or.inl rfl))
       (pss_cons (ps_par (i := 3) (j := 4) (by rfl) scLaw.nd rfl rfl (by decide) rfl rfl (pa_cons (pe_call GP hr2 rfl mP kP bP .nil pass0 (pa_cons (pv 1) (pa_cons pe_int (pa_cons pe_int pa_nil)))) (pa_cons (pe_call GP hr2 rfl mP kP bP .nil pass0 (pa_cons (pv 1) (pa_cons pe_int (pa_cons pe_int pa_nil)))) pa_nil)) (by rfl))
       (pss_cons (ps_set (i := 5) scLaw.nd rfl (Or.inl rfl) (pe_call GR hr1 rfl mR kR bR .nil pass0 (pa_cons (pv 1) (pa_cons pe_int pa_nil))))
       (pss_cons (ps_set (i := 6) scLaw.nd rfl (Or.inl rfl) (pe_op op_mod (pe_op op_add (pe_op op_add (pv 5) pe_int) (pe_call GR hr1 rfl mR kR bR .nil pass0 (pa_cons (pv 1) (pa_cons pe_int pa_nil)))) pe_int))
       (pss_cons (ps_set (i := 7) scLaw.nd rfl (Or.inl rfl) (pe_tup (pa_cons (pe_call GR hr1 rfl mR kR bR .nil pass0 (pa_cons (pv 1) (pa_cons pe_int pa_nil))) (pa_cons (pe_call GR hr1 rfl mR kR bR .nil pass0 (pa_cons (pv 1) (pa_cons pe_int pa_nil))) (pa_cons (pv 5) (pa_cons (pv 6) (pa_cons (pv 3) (pa_cons (pv 4) (pa_cons (pe_call GU hr2 rfl mU kU bU .nil pass0 (pa_cons (pv 1) (pa_cons (pv 3) (pa_cons (pv 4) pa_nil)))) pa_nil)))))))))
       (pss_one (ps_for PassesOwn.never rfl (pi_range1 rfl B.range (pa_cons pe_int pa_nil)) (pg_name (i := 8) scLaw.nd rfl (Or.inl rfl))
       (pss_one (ps_for PassesOwn.never rfl (pi_range1 rfl B.range (pa_cons pe_int pa_nil)) (pg_name (i := 9) scLaw.nd rfl (Or.inl rfl))
       (pss_cons (ps_par (i := 10) (j := 11) (by rfl) scLaw.nd rfl rfl (by decide) rfl rfl (pa_cons (pe_call GR hr1 rfl mR kR bR .nil pass0 (pa_cons (pv 1) (pa_cons pe_int pa_nil))) (pa_cons (pe_call GR hr1 rfl mR kR bR .nil pass0 (pa_cons (pv 1) (pa_cons pe_int pa_nil))) pa_nil)) (by rfl))
       (pss_cons (ps_if (PW.pt (pw_and (pt_cmpR op_eq (pe_op op_mod (pv 9) pe_int) pe_int (nomark _)) (pw_and (pt_cmpR (neDK (K := K) rfl hr.units) (pv 3) (pe_tup pa_nil) (nomark _)) (pw_and1 (pt_cmpR (neDK (K := K) rfl hr.units) (pv 4) (pe_tup pa_nil) (nomark _))))))
       (pss_cons (ps_asg (pe_call GOL hr2 rfl mO kO bO .nil pass0 (pa_cons (pv 1) (pa_cons (pe_lst (pa_cons (pe_tup (pa_cons (pv 3) (pa_cons (pv 4) pa_nil))) (pa_cons (pe_tup (pa_cons (pv 4) (pa_cons (pv 3) pa_nil))) pa_nil))) pa_nil))) (pg_tup rfl (pgs_cons (pg_name (i := 12) scLaw.nd rfl (Or.inl rfl)) (pgs_cons (pg_name (i := 13) scLaw.nd rfl (Or.inl rfl)) pgs_nil))))
       (pss_one (ps_par (i := 10) (j := 11) (by rfl) scLaw.nd rfl rfl (by decide) rfl rfl (pa_cons (pe_ix (ixT (K := K) rfl) (pe_call GOT hr2 rfl mO2 kO2 bO2 .nil pass0 (pa_cons (pv 1) (pa_cons (pv 13) pa_nil))) pe_int (fun _ _ => rfl)) (pa_cons (pe_ix (ixT (K := K) rfl) (pe_call GOT hr2 rfl mO2 kO2 bO2 .nil pass0 (pa_cons (pv 1) (pa_cons (pv 12) pa_nil))) pe_int (fun _ _ => rfl)) pa_nil)) (by rfl))))
       pss_nil)
       (pss_cons (ps_set (i := 14) scLaw.nd rfl (Or.inl rfl) (pe_call GD hr1 rfl mD kD bD .nil pass0 (pa_cons (pv 7) (pa_cons (pv 8) (pa_cons (pv 10) (pa_cons (pv 11) pa_nil))))))
       (pss_one (ps_if (pt_cmpR op_ne (pe_callB (reprDK (K := K) rfl rfl hr.units) (by rfl) B.repr (by decide +kernel) (pa_cons (pe_call GM hr2 rfl mM kM bM .nil pass0 (pa_cons (pv 7) (pa_cons (pv 8) (pa_cons (pv 10) (pa_cons (pv 11) pa_nil))))) pa_nil)) (pe_callB (reprDK (K := K) rfl rfl hr.units) (by rfl) B.repr (by decide +kernel) (pa_cons (pv 14) pa_nil)) (nomark _))
       (pss_one (ps_ret pe_bl))
       pss_nil))))))))))))))
       (pss_one (ps_ret pe_bl)))), ?_⟩
    refine ⟨_, rfl, a, ns, rfl, hS, hl, fun H1 d cs rs nd ncs nrs s1 D1 => ?_⟩
    refine ⟨3, rfl, by omega, by omega, ?_⟩
    refine for_range (lo := 0) (fun i σ H' => ∃ (v2 v3 v4 v5 v6 v7 v8 v9 v10 v11 v12 v13 v14 : Option V), σ = [some (.ref a), some (.ref d), v2, v3, v4, v5, v6, v7, v8, v9, v10, v11, v12, v13, v14] ∧ Deck2 H' d cs rs (2000 * i)) ⟨_, _, _, _, _, _, _, _, _, _, _, _, _, rfl, D1.mono (by omega)⟩ ?_ ?_
    · rintro i σ H2 hi ⟨v2, v3, v4, v5, v6, v7, v8, v9, v10, v11, v12, v13, v14, rfl, D2⟩
      have hi : i < 3 := by omega
      refine ⟨_, rfl, d, cs, rs, 2000 * i, .int 0, rfl, D2, by omega, fun H3 ao O hO3 okO k3 D3 t3 => ?_⟩
      refine ⟨_, rfl, d, cs, rs, _, .int 0, rfl, D3, by omega, fun H4 at' T hT4 okT k4 D4 t4 => ?_⟩
      refine ⟨_, _, rfl, ?_⟩
      refine ⟨_, rfl, d, cs, rs, 6, _, rfl, by decide, by decide, by omega, D4, fun one H5 o0 o1 k5 D5 t5 => ?_⟩
      refine ⟨_, rfl, _, _, rfl, rfl, _, rfl, d, cs, rs, 5, _, rfl, by decide, by decide, by omega, D5, fun r H6 r0 r1 k6 D6 t6 => ?_⟩
      refine ⟨_, _, rfl, rfl, _, _, rfl, rfl, (by show (0 : Int) < 6; decide), ?_⟩
      obtain ⟨oth, eoth, h0, h1, hne⟩ : ∃ oth : Int, (one + 1 + r) % 6 = oth ∧ 0 ≤ oth ∧ oth < 6 ∧ one ≠ oth := ⟨_, rfl, by omega, by omega, by omega⟩
      rw [show (fun i j => V.int (i % j)) (one + 1 + r) 6 = V.int oth from congrArg V.int eoth]
      refine ⟨_, rfl, d, cs, rs, 3, _, rfl, by decide, by decide, by omega, D6, fun num H7 p0 p1 k7 D7 t7 => ?_⟩
      refine ⟨_, rfl, d, cs, rs, 8, _, rfl, by decide, by decide, by omega, D7, fun plc H8 q0 q1 k8 D8 t8 => ?_⟩
      have t48 := ((t5.trans t6).trans t7).trans t8
      have hT8 : TupAt K H8 at' (T.map p2D) := Rp.tk t48 _ _ hT4
      have hO8 : TupAt K H8 ao (O.map p2D) := Rp.tk (t4.trans t48) _ _ hO3
      refine ⟨_, rfl, _, rfl, _, rfl, _, rfl, _, rfl, _, rfl, _, rfl, d, cs, rs, ao, at', _, O, T, rfl, D8, by omega, hO8, hT8, fun H9 am R hR okR k9 D9 t9 => ⟨(by show 7 ≤ sizeLine; decide), fun g ng => ?_⟩⟩
      have s10 : Same H9 (upd H9 g (.tup [.int num, .int plc, .int one, .int oth, .ref ao, .ref at', .ref am])) := (L2.Same.refl _).new ng
      have hg : upd H9 g (.tup [.int num, .int plc, .int one, .int oth, .ref ao, .ref at', .ref am]) g = some (.tup [.int num, .int plc, .int one, .int oth, .ref ao, .ref at', .ref am]) := upd_same
      have t10 := TK.of s10
      have D10 := D9.same s10
      generalize upd H9 g (.tup [.int num, .int plc, .int one, .int oth, .ref ao, .ref at', .ref am]) = H10 at s10 hg t10 D10
      have hO : TupAt K H10 ao (O.map p2D) := Rp.tk (t9.trans t10) _ _ hO8
      have hT : TupAt K H10 at' (T.map p2D) := Rp.tk (t9.trans t10) _ _ hT8
      have hG : GateAt K H10 g ⟨num, plc, one, oth, O, T, R⟩ := ⟨ao, at', am, SqT.of hg, hO, hT, Rp.tk t10 _ _ hR, okR⟩
      have okG : GtOk ⟨num, plc, one, oth, O, T, R⟩ := ⟨okO, okT⟩
      have D10' : Deck2 H10 d cs rs (2000 * i + 200) := D10.mono (by omega)
      clear D2 D3 D4 D5 D6 D7 D8 D9 D10 k3 k4 k5 k6 k7 k8 k9 t3 t4 t5 t6 t7 t8 t9 t48 hO3 hT4 hO8 hT8 hR hg s10 t10
      refine ⟨6, rfl, by omega, by omega, ?_⟩
      refine for_range (lo := 0) (fun room σ H' => ∃ (v8 v9 v10 v11 v12 v13 v14 : Option V), σ = [some (.ref a), some (.ref d), some (.int (0 + (i : Int))), some (.ref ao), some (.ref at'), some (.int one), some (.int oth), some (.ref g), v8, v9, v10, v11, v12, v13, v14] ∧ TK H10 H' ∧ Deck2 H' d cs rs (2000 * i + 200 + 200 * room)) ⟨_, _, _, _, _, _, _, rfl, TK.refl _, D10'.mono (by omega)⟩ ?_ ?_
      · rintro room σ H11 hroom ⟨v8, v9, v10, v11, v12, v13, v14, rfl, tk11, D11⟩
        have hroom : room < 6 := by omega
        refine ⟨20, rfl, by omega, by omega, ?_⟩
        refine for_range (lo := 0) (fun kk σ H' => ∃ (v9 v10 v11 v12 v13 v14 : Option V), σ = [some (.ref a), some (.ref d), some (.int (0 + (i : Int))), some (.ref ao), some (.ref at'), some (.int one), some (.int oth), some (.ref g), some (.int (0 + (room : Int))), v9, v10, v11, v12, v13, v14] ∧ TK H10 H' ∧ Deck2 H' d cs rs (2000 * i + 200 + 200 * room + 8 * kk)) ⟨_, _, _, _, _, _, rfl, tk11, D11.mono (by omega)⟩ ?_ ?_
        · rintro kk σ H12 hkk ⟨v9, v10, v11, v12, v13, v14, rfl, tk12, D12⟩
          have hkk : kk < 20 := by omega
          refine ⟨_, rfl, d, cs, rs, 16, _, rfl, by decide, by decide, by omega, D12, fun sd0 H13 a0 a1 k13 D13 t13 => ?_⟩
          refine ⟨_, rfl, d, cs, rs, 16, _, rfl, by decide, by decide, by omega, D13, fun al0 H14 b0 b1 k14 D14 t14 => ?_⟩
          refine ⟨_, _, rfl, ?_⟩
          have tk14 := (tk12.trans t13).trans t14
          dsimp only [gName, List.set, tNext]
          refine seq_if (fun σ' H' => ∃ (sd al : Int) (v12 v13 : Option V), σ' = [some (.ref a), some (.ref d), some (.int (0 + (i : Int))), some (.ref ao), some (.ref at'), some (.int one), some (.int oth), some (.ref g), some (.int (0 + (room : Int))), some (.int (0 + (kk : Int))), some (.int sd), some (.int al), v12, v13, v14] ∧ TK H10 H' ∧ Deck2 H' d cs rs (2000 * i + 200 + 200 * room + 8 * kk + 6)) ?rest (fun rest => ?_)
          case rest =>
            rintro σ' H15 ⟨sd, al, v12, v13, rfl, tk15, D15⟩
            refine ⟨_, rfl, _, rfl, _, rfl, _, rfl, g, 0 + (room : Int), sd, al, _, rfl, hG.tk tk15, okG, hne, fun H16 v s16 rv => ?_⟩
            have tk16 := tk15.trans (TK.of s16)
            obtain ⟨c1, c2, c3, c4⟩ := res_ok (may_res (room := 0 + (room : Int)) (sender := sd) (als := al) okG ⟨o0, by show one < 16; omega⟩ ⟨h0, by show oth < 16; omega⟩)
            refine ⟨_, rfl, _, rfl, _, rfl, _, rfl, g, 0 + (room : Int), sd, al, _, rfl, hG.tk tk16, fun H17 v' s17 rv' => ?_⟩
            refine ⟨v', _, rfl, Rp.dp _ _ rv', c1, c2, c3, c4, _, rfl, v, _, rfl, Rp.dp _ _ (Rp.tk (TK.of s17) _ _ rv), c1, c2, c3, c4, rfl, _, rfl, ?_⟩
            refine iteNS rfl ?_
            exact ⟨_, _, _, _, _, _, rfl, tk16.trans (TK.of s17), ((D15.same s16).same s17).mono (by omega)⟩
          have skip : ∀ {G : Hp}, Same H14 G → _ := fun {G} sg => rest [some (.ref a), some (.ref d), some (.int (0 + (i : Int))), some (.ref ao), some (.ref at'), some (.int one), some (.int oth), some (.ref g), some (.int (0 + (room : Int))), some (.int (0 + (kk : Int))), some (.int sd0), some (.int al0), v12, v13, v14] G ⟨sd0, al0, _, _, rfl, tk14.trans (TK.of sg), (D14.same sg).mono (by omega)⟩
          refine ⟨_, rfl, _, _, rfl, rfl, (by show (0 : Int) < 2; decide), rfl, _, rfl, ?_⟩
          refine ite2 (fun _ => ?_) (fun _ => iteF (skip (L2.Same.refl _)))
          refine ⟨_, rfl, (by show 0 ≤ sizeLine; decide), fun te nte => ?_⟩
          have s15 : Same H14 (upd H14 te (.tup [])) := (L2.Same.refl _).new nte
          have hte : TupAt K (upd H14 te (.tup [])) te (([] : PL).map p2D) := Rp.tup upd_same RpL.nil
          generalize upd H14 te (.tup []) = H15 at s15 hte
          have tk15 := tk14.trans (TK.of s15)
          refine ⟨_, _, Rp.dp _ _ (Rp.tk tk15 _ _ hO), Rp.dp _ _ hte, shaped_pT _, shaped_pT _, _, rfl, ?_⟩
          rw [eqv_nil]
          by_cases eO : O = []
          · rw [decide_eq_true eO]
            exact iteF (iteF (skip s15))
          rw [decide_eq_false eO]
          refine iteT ?_
          refine ⟨_, rfl, (by show 0 ≤ sizeLine; decide), fun tf ntf => ?_⟩
          have s16 : Same H15 (upd H15 tf (.tup [])) := (L2.Same.refl _).new ntf
          have htf : TupAt K (upd H15 tf (.tup [])) tf (([] : PL).map p2D) := Rp.tup upd_same RpL.nil
          generalize upd H15 tf (.tup []) = H16 at s16 htf
          have tk16 := tk15.trans (TK.of s16)
          refine ⟨_, _, Rp.dp _ _ (Rp.tk tk16 _ _ hT), Rp.dp _ _ htf, shaped_pT _, shaped_pT _, _, rfl, ?_⟩
          rw [eqv_nil]
          by_cases eT : T = []
          · rw [decide_eq_true eT]
            exact iteF (skip (s15.trans s16))
          rw [decide_eq_false eT]
          refine iteT ?_
          have D16 := (D14.same s15).same s16
          refine ⟨_, rfl, _, rfl, _, rfl, (by show 2 ≤ sizeLine; decide), fun ta nta => ?_⟩
          have s17 : Same H16 (upd H16 ta (.tup [.ref ao, .ref at'])) := (L2.Same.refl _).new nta
          have hta : upd H16 ta (.tup [.ref ao, .ref at']) ta = some (.tup [.ref ao, .ref at']) := upd_same
          generalize upd H16 ta (.tup [.ref ao, .ref at']) = H17 at s17 hta
          refine ⟨_, rfl, _, rfl, (by show 2 ≤ sizeLine; decide), fun tb ntb => ?_⟩
          have s18 : Same H17 (upd H17 tb (.tup [.ref at', .ref ao])) := (L2.Same.refl _).new ntb
          have htb : upd H17 tb (.tup [.ref at', .ref ao]) tb = some (.tup [.ref at', .ref ao]) := upd_same
          generalize upd H17 tb (.tup [.ref at', .ref ao]) = H18 at s18 htb
          refine ⟨(by show 2 ≤ sizeLine; decide), fun ll nll => ?_⟩
          have s19 : Same H18 (upd H18 ll (.lst [.ref ta, .ref tb])) := (L2.Same.refl _).new nll
          have hll : upd H18 ll (.lst [.ref ta, .ref tb]) ll = some (.lst [.ref ta, .ref tb]) := upd_same
          have D18 := (D16.same s17).same s18
          obtain ⟨nl1, nl2, nl3⟩ := D18.new nll
          generalize upd H18 ll (.lst [.ref ta, .ref tb]) = H19 at s19 hll
          have D19 := D18.same s19
          have s1619 := (s17.trans s18).trans s19
          have tk19 := tk16.trans (TK.of s1619)
          refine ⟨d, cs, rs, ll, _, _, rfl, SqL.of hll, nl1, nl3, (by show 0 < 2; decide), (by show 2 ≤ 1000; decide), by omega, D19, fun j x H20 hx k20 D20 t20 => ?_⟩
          have tk20 := tk19.trans t20
          have hO20 : TupAt K H20 ao (O.map p2D) := Rp.tk tk20 _ _ hO
          have hT20 : TupAt K H20 at' (T.map p2D) := Rp.tk tk20 _ _ hT
          obtain ⟨tx, mi, bk, M, Bk, rfl, hx2, hM, hB, nM, nB, lM, lB⟩ : ∃ (tx mi bk : Addr) (M Bk : PL), x = .ref tx ∧ SqT K H20 tx [.ref mi, .ref bk] ∧ TupAt K H20 mi (M.map p2D) ∧ TupAt K H20 bk (Bk.map p2D) ∧ M ≠ [] ∧ Bk ≠ [] ∧ M.length ≤ 6 ∧ Bk.length ≤ 6 := by
            match j, hx with
            | 0, hx => exact ⟨ta, ao, at', O, T, (Option.some.inj hx).symm, SqT.tk (SqT.of ((s18.trans s19) _ _ hta)) t20, hO20, hT20, eO, eT, okO.2.2.2, okT.2.2.2⟩
            | 1, hx => exact ⟨tb, at', ao, T, O, (Option.some.inj hx).symm, SqT.tk (SqT.of (s19 _ _ htb)) t20, hT20, hO20, eT, eO, okT.2.2.2, okO.2.2.2⟩
            | j + 2, hx => cases hx
          refine ⟨tx, _, rfl, hx2, rfl, _, _, rfl, _, _, rfl, rfl, ?_⟩
          obtain ⟨xb, hxb, rxb⟩ := hB.inv
          have lxb := RpL.len _ _ rxb
          rw [List.length_map] at lxb
          have pB := List.length_pos_iff.mpr nB
          refine ⟨_, rfl, _, rfl, d, cs, rs, bk, _, xb, rfl, hxb, by omega, by omega, by omega, D20, fun j1 y1 H21 hy1 k21 D21 t21 => ?_⟩
          have hj1 : j1 < Bk.length := by
            have q := (List.getElem?_eq_some_iff.mp hy1).1
            omega
          obtain ⟨v, ev, rv1⟩ := RpL.get _ _ rxb j1 (p2D Bk[j1]) (by rw [List.getElem?_map, List.getElem?_eq_getElem hj1]; rfl)
          have ex : v = y1 := Option.some.inj (ev.symm.trans hy1)
          rw [ex] at rv1
          generalize Bk[j1] = eb at rv1
          obtain ⟨t1, rfl, ht1⟩ := p2D_inv (Rp.tk t21 _ _ rv1)
          obtain ⟨xm, hxm, rxm⟩ := (show TupAt K H21 mi (M.map p2D) from Rp.tk t21 _ _ hM).inv
          have lxm := RpL.len _ _ rxm
          rw [List.length_map] at lxm
          have pM := List.length_pos_iff.mpr nM
          refine ⟨t1, _, _, .int eb.1, rfl, rfl, ht1, rfl, _, rfl, _, rfl, d, cs, rs, mi, _, xm, rfl, hxm, by omega, by omega, by omega, D21, fun j2 y2 H22 hy2 k22 D22 t22 => ?_⟩
          have hj2 : j2 < M.length := by
            have q := (List.getElem?_eq_some_iff.mp hy2).1
            omega
          obtain ⟨v, ev, rv2⟩ := RpL.get _ _ rxm j2 (p2D M[j2]) (by rw [List.getElem?_map, List.getElem?_eq_getElem hj2]; rfl)
          have ex : v = y2 := Option.some.inj (ev.symm.trans hy2)
          rw [ex] at rv2
          generalize M[j2] = em at rv2
          obtain ⟨t2, rfl, ht2⟩ := p2D_inv (Rp.tk t22 _ _ rv2)
          refine ⟨t2, _, _, .int em.2, rfl, rfl, ht2, rfl, _, _, rfl, ?_⟩
          exact rest _ _ ⟨eb.1, em.2, _, _, rfl, (tk20.trans t21).trans t22, D22.mono (by omega)⟩
        · rintro σ H12 ⟨v9, v10, v11, v12, v13, v14, rfl, tk12, D12⟩
          exact ⟨_, _, _, _, _, _, _, rfl, tk12, D12.mono (by omega)⟩
      · rintro σ H11 ⟨v8, v9, v10, v11, v12, v13, v14, rfl, tk11, D11⟩
        exact ⟨_, _, _, _, _, _, _, _, _, _, _, _, _, rfl, D11.mono (by omega)⟩
    · rintro σ H2 ⟨v2, v3, v4, v5, v6, v7, v8, v9, v10, v11, v12, v13, v14, rfl, D2⟩
      exact k _
end
end Wn

namespace Wn
open PySem L2
theorem all_mk {l : PySem.W.OpenLaw} {w : World} {K : PySem.W.Frag} {h : Heap} {mg : Str → Option Value} {fa f_hand_of f_alias_of f_may_pass f_law_deck f_law_draw f_law_one f_law_pairs f_law_rules f_law_due f_law : Addr} (X : K.In h) (G : h.Ns mainGlobals mg) (hfa : mg "law" = some (.ref fa))
    {od_hand_of an_hand_of od_alias_of an_alias_of od_may_pass an_may_pass od_law_deck an_law_deck od_law_draw an_law_draw od_law_one an_law_one od_law_pairs an_law_pairs od_law_rules an_law_rules od_law_due an_law_due od_law an_law : Option Addr} {sl_hand_of sl_alias_of sl_may_pass sl_law_deck sl_law_draw sl_law_one sl_law_pairs sl_law_rules sl_law_due sl_law : Array (Option Value)} {oc_hand_of kV_hand_of dc_hand_of pm_hand_of cd_hand_of ct_hand_of oc_alias_of kV_alias_of dc_alias_of pm_alias_of cd_alias_of ct_alias_of oc_may_pass kV_may_pass dc_may_pass pm_may_pass cd_may_pass ct_may_pass oc_law_deck kV_law_deck dc_law_deck pm_law_deck cd_law_deck ct_law_deck oc_law_draw kV_law_draw dc_law_draw pm_law_draw cd_law_draw ct_law_draw oc_law_one kV_law_one dc_law_one pm_law_one cd_law_one ct_law_one oc_law_pairs kV_law_pairs dc_law_pairs pm_law_pairs cd_law_pairs ct_law_pairs oc_law_rules kV_law_rules dc_law_rules pm_law_rules cd_law_rules ct_law_rules oc_law_due kV_law_due dc_law_due pm_law_due cd_law_due ct_law_due oc_law kV_law dc_law pm_law cd_law ct_law : Value} {t_OUT t_INTO : Tok}
    (a_OUT : PySem.W.nsIn K mainGlobals "OUT" = some (some (.str "out" t_OUT)))
    (a_INTO : PySem.W.nsIn K mainGlobals "INTO" = some (some (.str "in" t_INTO)))
    (a_hand_of : PySem.W.nsIn K mainGlobals "hand_of" = some (some (.ref f_hand_of)))
    (l_hand_of : K.lookup f_hand_of = some ⟨oc_hand_of, od_hand_of, .func (PySem.W.fnOf "hand_of" "hand_of" (defArgs sHandOf) (defBody sHandOf) (defScope sHandOf) .none kV_hand_of dc_hand_of pm_hand_of an_hand_of cd_hand_of ct_hand_of), sl_hand_of⟩)
    (c_hand_of : PySem.W.codeIn K cd_hand_of "hand_of" = true)
    (k_hand_of : PySem.W.keepIn K (.ref f_hand_of) = true)
    (a_alias_of : PySem.W.nsIn K mainGlobals "alias_of" = some (some (.ref f_alias_of)))
    (l_alias_of : K.lookup f_alias_of = some ⟨oc_alias_of, od_alias_of, .func (PySem.W.fnOf "alias_of" "alias_of" (defArgs sAliasOf) (defBody sAliasOf) (defScope sAliasOf) .none kV_alias_of dc_alias_of pm_alias_of an_alias_of cd_alias_of ct_alias_of), sl_alias_of⟩)
    (c_alias_of : PySem.W.codeIn K cd_alias_of "alias_of" = true)
    (k_alias_of : PySem.W.keepIn K (.ref f_alias_of) = true)
    (a_may_pass : PySem.W.nsIn K mainGlobals "may_pass" = some (some (.ref f_may_pass)))
    (l_may_pass : K.lookup f_may_pass = some ⟨oc_may_pass, od_may_pass, .func (PySem.W.fnOf "may_pass" "may_pass" (defArgs sMay) (defBody sMay) (defScope sMay) .none kV_may_pass dc_may_pass pm_may_pass an_may_pass cd_may_pass ct_may_pass), sl_may_pass⟩)
    (c_may_pass : PySem.W.codeIn K cd_may_pass "may_pass" = true)
    (k_may_pass : PySem.W.keepIn K (.ref f_may_pass) = true)
    (a_law_deck : PySem.W.nsIn K mainGlobals "_law_deck" = some (some (.ref f_law_deck)))
    (l_law_deck : K.lookup f_law_deck = some ⟨oc_law_deck, od_law_deck, .func (PySem.W.fnOf "_law_deck" "_law_deck" (defArgs sDeck) (defBody sDeck) (defScope sDeck) .none kV_law_deck dc_law_deck pm_law_deck an_law_deck cd_law_deck ct_law_deck), sl_law_deck⟩)
    (c_law_deck : PySem.W.codeIn K cd_law_deck "_law_deck" = true)
    (k_law_deck : PySem.W.keepIn K (.ref f_law_deck) = true)
    (a_law_draw : PySem.W.nsIn K mainGlobals "_law_draw" = some (some (.ref f_law_draw)))
    (l_law_draw : K.lookup f_law_draw = some ⟨oc_law_draw, od_law_draw, .func (PySem.W.fnOf "_law_draw" "_law_draw" (defArgs sDraw) (defBody sDraw) (defScope sDraw) .none kV_law_draw dc_law_draw pm_law_draw an_law_draw cd_law_draw ct_law_draw), sl_law_draw⟩)
    (c_law_draw : PySem.W.codeIn K cd_law_draw "_law_draw" = true)
    (k_law_draw : PySem.W.keepIn K (.ref f_law_draw) = true)
    (a_law_one : PySem.W.nsIn K mainGlobals "_law_one" = some (some (.ref f_law_one)))
    (l_law_one : K.lookup f_law_one = some ⟨oc_law_one, od_law_one, .func (PySem.W.fnOf "_law_one" "_law_one" (defArgs sOne) (defBody sOne) (defScope sOne) .none kV_law_one dc_law_one pm_law_one an_law_one cd_law_one ct_law_one), sl_law_one⟩)
    (c_law_one : PySem.W.codeIn K cd_law_one "_law_one" = true)
    (k_law_one : PySem.W.keepIn K (.ref f_law_one) = true)
    (a_law_pairs : PySem.W.nsIn K mainGlobals "_law_pairs" = some (some (.ref f_law_pairs)))
    (l_law_pairs : K.lookup f_law_pairs = some ⟨oc_law_pairs, od_law_pairs, .func (PySem.W.fnOf "_law_pairs" "_law_pairs" (defArgs sPairs) (defBody sPairs) (defScope sPairs) .none kV_law_pairs dc_law_pairs pm_law_pairs an_law_pairs cd_law_pairs ct_law_pairs), sl_law_pairs⟩)
    (c_law_pairs : PySem.W.codeIn K cd_law_pairs "_law_pairs" = true)
    (k_law_pairs : PySem.W.keepIn K (.ref f_law_pairs) = true)
    (a_law_rules : PySem.W.nsIn K mainGlobals "_law_rules" = some (some (.ref f_law_rules)))
    (l_law_rules : K.lookup f_law_rules = some ⟨oc_law_rules, od_law_rules, .func (PySem.W.fnOf "_law_rules" "_law_rules" (defArgs sRules) (defBody sRules) (defScope sRules) .none kV_law_rules dc_law_rules pm_law_rules an_law_rules cd_law_rules ct_law_rules), sl_law_rules⟩)
    (c_law_rules : PySem.W.codeIn K cd_law_rules "_law_rules" = true)
    (k_law_rules : PySem.W.keepIn K (.ref f_law_rules) = true)
    (a_law_due : PySem.W.nsIn K mainGlobals "_law_due" = some (some (.ref f_law_due)))
    (l_law_due : K.lookup f_law_due = some ⟨oc_law_due, od_law_due, .func (PySem.W.fnOf "_law_due" "_law_due" (defArgs sDue) (defBody sDue) (defScope sDue) .none kV_law_due dc_law_due pm_law_due an_law_due cd_law_due ct_law_due), sl_law_due⟩)
    (c_law_due : PySem.W.codeIn K cd_law_due "_law_due" = true)
    (k_law_due : PySem.W.keepIn K (.ref f_law_due) = true)
    (a_law : PySem.W.nsIn K mainGlobals "law" = some (some (.ref f_law)))
    (l_law : K.lookup f_law = some ⟨oc_law, od_law, .func (PySem.W.fnOf "law" "law" (defArgs sLaw) (defBody sLaw) (defScope sLaw) .none kV_law dc_law pm_law an_law cd_law ct_law), sl_law⟩)
    (c_law : PySem.W.codeIn K cd_law "law" = true)
    (k_law : PySem.W.keepIn K (.ref f_law) = true)
    (z_len : PySem.W.nsIn K mainGlobals "len" = some none)
    (z_range : PySem.W.nsIn K mainGlobals "range" = some none)
    (z_list : PySem.W.nsIn K mainGlobals "list" = some none)
    (z_int : PySem.W.nsIn K mainGlobals "int" = some none)
    (z_tuple : PySem.W.nsIn K mainGlobals "tuple" = some none)
    (z_repr : PySem.W.nsIn K mainGlobals "repr" = some none) :
    ∃ fd : FuncData, (∀ (s : Shared) (v : Value), BindsTo s fd ⟨[v], []⟩ [("_law_script", v)]) ∧ ∀ base : Heap, K.In base → base.Ns mainGlobals mg → LawOk l.prog w K mg base fa fd ["_law_script"] (spLaw K) := by
  have e := hfa.symm.trans (PySem.W.mg_of X G a_law)
  cases e
  have m_OUT := PySem.W.mg_of X G a_OUT
  have m_INTO := PySem.W.mg_of X G a_INTO
  have F_hand_of := fun_mk (st := sHandOf) l_hand_of c_hand_of k_hand_of
  have b_hand_of := F_hand_of.binds (ps := ["pairs", "alias"]) fun _ _ _ _ _ _ us hl => match us, hl with | [_, _], _ => rfl
  have m_hand_of := PySem.W.mg_of X G a_hand_of
  have F_alias_of := fun_mk (st := sAliasOf) l_alias_of c_alias_of k_alias_of
  have b_alias_of := F_alias_of.binds (ps := ["pairs", "hand"]) fun _ _ _ _ _ _ us hl => match us, hl with | [_, _], _ => rfl
  have m_alias_of := PySem.W.mg_of X G a_alias_of
  have F_may_pass := fun_mk (st := sMay) l_may_pass c_may_pass k_may_pass
  have b_may_pass := F_may_pass.binds (ps := ["gate", "room", "sender", "alias"]) fun _ _ _ _ _ _ us hl => match us, hl with | [_, _, _, _], _ => rfl
  have m_may_pass := PySem.W.mg_of X G a_may_pass
  have F_law_deck := fun_mk (st := sDeck) l_law_deck c_law_deck k_law_deck
  have b_law_deck := F_law_deck.binds (ps := ["_law_script"]) fun _ _ _ _ _ _ us hl => match us, hl with | [_], _ => rfl
  have m_law_deck := PySem.W.mg_of X G a_law_deck
  have F_law_draw := fun_mk (st := sDraw) l_law_draw c_law_draw k_law_draw
  have b_law_draw := F_law_draw.binds (ps := ["_law_deck_here", "_law_many"]) fun _ _ _ _ _ _ us hl => match us, hl with | [_, _], _ => rfl
  have m_law_draw := PySem.W.mg_of X G a_law_draw
  have F_law_one := fun_mk (st := sOne) l_law_one c_law_one k_law_one
  have b_law_one := F_law_one.binds (ps := ["_law_deck_here", "_law_some"]) fun _ _ _ _ _ _ us hl => match us, hl with | [_, _], _ => rfl
  have m_law_one := PySem.W.mg_of X G a_law_one
  have F_law_pairs := fun_mk (st := sPairs) l_law_pairs c_law_pairs k_law_pairs
  have b_law_pairs := F_law_pairs.binds (ps := ["_law_deck_here", "_law_most", "_law_first"]) fun _ _ _ _ _ _ us hl => match us, hl with | [_, _, _], _ => rfl
  have m_law_pairs := PySem.W.mg_of X G a_law_pairs
  have F_law_rules := fun_mk (st := sRules) l_law_rules c_law_rules k_law_rules
  have b_law_rules := F_law_rules.binds (ps := ["_law_deck_here", "_law_ours", "_law_theirs"]) fun _ _ _ _ _ _ us hl => match us, hl with | [_, _, _], _ => rfl
  have m_law_rules := PySem.W.mg_of X G a_law_rules
  have F_law_due := fun_mk (st := sDue) l_law_due c_law_due k_law_due
  have b_law_due := F_law_due.binds (ps := ["_law_gate", "_law_room", "_law_sender", "_law_alias"]) fun _ _ _ _ _ _ us hl => match us, hl with | [_, _, _, _], _ => rfl
  have m_law_due := PySem.W.mg_of X G a_law_due
  have F_law := fun_mk (st := sLaw) l_law c_law k_law
  have b_law := F_law.binds (ps := ["_law_script"]) fun _ _ _ _ _ _ us hl => match us, hl with | [_], _ => rfl
  have n_len := PySem.W.mg_none_of X G z_len
  have n_range := PySem.W.mg_none_of X G z_range
  have n_list := PySem.W.mg_none_of X G z_list
  have n_int := PySem.W.mg_none_of X G z_int
  have n_tuple := PySem.W.mg_none_of X G z_tuple
  have n_repr := PySem.W.mg_none_of X G z_repr
  refine ⟨PySem.W.fnOf "law" "law" (defArgs sLaw) (defBody sLaw) (defScope sLaw) .none kV_law dc_law pm_law an_law cd_law ct_law, fun s v => .of_eq rfl, fun base _ _ => ?_⟩
  have B : LB mg := ⟨n_range, n_list, n_len, n_tuple, n_repr⟩
  have BD : DB mg := ⟨n_len, n_list, n_int⟩
  have W : GW mg := ⟨⟨_, m_OUT⟩, ⟨_, m_INTO⟩⟩
  have cR : Cd l.prog w K mg base 1 "_law_draw" ["_law_deck_here", "_law_many"] spDraw := ⟨_, _, ok_draw F_law_draw BD, m_law_draw, k_law_draw, b_law_draw⟩
  have cK : Cd l.prog w K mg base 1 "_law_deck" ["_law_script"] (spDeck2 K) := ⟨_, _, ok_deck2 F_law_deck BD, m_law_deck, k_law_deck, b_law_deck⟩
  have cOL : Cd l.prog w K mg base 2 "_law_one" ["_law_deck_here", "_law_some"] (spOneL K) := ⟨_, _, ok_oneL F_law_one BD cR, m_law_one, k_law_one, b_law_one⟩
  have cOT : Cd l.prog w K mg base 2 "_law_one" ["_law_deck_here", "_law_some"] (spOneT K) := ⟨_, _, ok_oneT F_law_one BD cR, m_law_one, k_law_one, b_law_one⟩
  have cP : Cd l.prog w K mg base 2 "_law_pairs" ["_law_deck_here", "_law_most", "_law_first"] (spPairs K) := ⟨_, _, ok_pairs F_law_pairs B cR, m_law_pairs, k_law_pairs, b_law_pairs⟩
  have cU : Cd l.prog w K mg base 2 "_law_rules" ["_law_deck_here", "_law_ours", "_law_theirs"] (spRules K) := ⟨_, _, ok_rules F_law_rules B cR, m_law_rules, k_law_rules, b_law_rules⟩
  have cD : Cd l.prog w K mg base 1 "_law_due" ["_law_gate", "_law_room", "_law_sender", "_law_alias"] (spDueG K) := ⟨_, _, ok_due F_law_due, m_law_due, k_law_due, b_law_due⟩
  have cH : Cd l.prog w K mg base 1 "hand_of" ["pairs", "alias"] (spHandOf K) := ⟨_, _, ok_handof F_hand_of, m_hand_of, k_hand_of, b_hand_of⟩
  have cA : Cd l.prog w K mg base 1 "alias_of" ["pairs", "hand"] (spAliasOf K) := ⟨_, _, ok_aliasof F_alias_of, m_alias_of, k_alias_of, b_alias_of⟩
  have cM : Cd l.prog w K mg base 2 "may_pass" ["gate", "room", "sender", "alias"] (spMay K) := ⟨_, _, ok_may F_may_pass W cH cA, m_may_pass, k_may_pass, b_may_pass⟩
  exact ok_law F_law B cR cK cOL cOT cP cU cD cM
theorem walk {l : PySem.W.OpenLaw} {q : Program} {loose : List Str} {XP : (Str → Option Value) → Heap → Prop} {YP : World → Heap → Prop} {d : DefRec} {K : Params → PySem.W.Frag} (hn : l.most = some 63) (hdf : d.params.defaults = [])
    (hY : ∀ (w : World) (h : Heap), YP w h → (K w.params).In h)
    (F : ∀ (w : World) (mg : Str → Option Value) (fa : Addr) (h : Heap), (K w.params).In h → h.Ns mainGlobals mg → mg d.name = some (.ref fa) →
      ∃ fd : FuncData, (∀ (s : Shared) (u : Value), BindsTo s fd ⟨[u], []⟩ [("_law_script", u)]) ∧ ∀ base : Heap, (K w.params).In base → base.Ns mainGlobals mg → LawOk l.prog w (K w.params) mg base fa fd ["_law_script"] (spLaw (K w.params))) :
    PySem.W.WalkO q loose XP YP l.row.toRowW d [] (fun f vs => PySem.call f vs) :=
  walkG (n := 63) (x := "_law_script") (sp := fun w => spLaw (K w.params)) hn (by decide) hdf hY F fun _ _ a ns hl hS => ⟨a, ns, rfl, hS, hl, fun _ => rfl⟩
end Wn

open PySem PySem.W PyProof.Rows in
set_option maxRecDepth 100000 in
set_option maxHeartbeats 0 in
theorem PySem.Challenge.cw_wrapnets_k45_gates_let_holds : PySem.Challenge.rw_wrapnets_k45_gates_let.Holds := by
  w_on; o_law; k_head; (case hw => w_witness2)
  k_fill
  refine Wn.walk (l := PySem.Challenge.rw_wrapnets_k45_gates_let) rfl rfl (fun w h Y => PySem.W.kIn_of Y) ?F
  case F =>
    intro w mg fa h KX G hmg
    refine' Wn.all_mk KX G hmg ?a_OUT ?a_INTO ?a_hand_of ?l_hand_of ?c_hand_of ?k_hand_of ?a_alias_of ?l_alias_of ?c_alias_of ?k_alias_of ?a_may_pass ?l_may_pass ?c_may_pass ?k_may_pass ?a_law_deck ?l_law_deck ?c_law_deck ?k_law_deck ?a_law_draw ?l_law_draw ?c_law_draw ?k_law_draw ?a_law_one ?l_law_one ?c_law_one ?k_law_one ?a_law_pairs ?l_law_pairs ?c_law_pairs ?k_law_pairs ?a_law_rules ?l_law_rules ?c_law_rules ?k_law_rules ?a_law_due ?l_law_due ?c_law_due ?k_law_due ?a_law ?l_law ?c_law ?k_law ?z_len ?z_range ?z_list ?z_int ?z_tuple ?z_repr
    (case a_OUT => k_is)
    (case a_INTO => k_is)
    (case a_hand_of => k_is)
    (case l_hand_of => k_is)
    (case c_hand_of => k_is)
    (case k_hand_of => k_is)
    (case a_alias_of => k_is)
    (case l_alias_of => k_is)
    (case c_alias_of => k_is)
    (case k_alias_of => k_is)
    (case a_may_pass => k_is)
    (case l_may_pass => k_is)
    (case c_may_pass => k_is)
    (case k_may_pass => k_is)
    (case a_law_deck => k_is)
    (case l_law_deck => k_is)
    (case c_law_deck => k_is)
    (case k_law_deck => k_is)
    (case a_law_draw => k_is)
    (case l_law_draw => k_is)
    (case c_law_draw => k_is)
    (case k_law_draw => k_is)
    (case a_law_one => k_is)
    (case l_law_one => k_is)
    (case c_law_one => k_is)
    (case k_law_one => k_is)
    (case a_law_pairs => k_is)
    (case l_law_pairs => k_is)
    (case c_law_pairs => k_is)
    (case k_law_pairs => k_is)
    (case a_law_rules => k_is)
    (case l_law_rules => k_is)
    (case c_law_rules => k_is)
    (case k_law_rules => k_is)
    (case a_law_due => k_is)
    (case l_law_due => k_is)
    (case c_law_due => k_is)
    (case k_law_due => k_is)
    (case a_law => k_is)
    (case l_law => k_is)
    (case c_law => k_is)
    (case k_law => k_is)
    (case z_len => k_is)
    (case z_range => k_is)
    (case z_list => k_is)
    (case z_int => k_is)
    (case z_tuple => k_is)
    (case z_repr => k_is)
