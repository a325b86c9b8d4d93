import PyProof.Rows.All
import Wide.All
import OpenK.AllK
import Wide.FinOn
import HandS.ForMost
import HandS.IsInst
import HandS.Flow
import HandS.SortInts
import HandS.More
import HandS.Text
import HandS.Walk
import HandS.Conv
import PyProof.Draws
import PyProof.EnumMake
import HandS.Codes
import HandS.ForExc
import HandS.ExcInit
import HandS.ExcField
import HandS.ExcIs
import HandS.TupLe
import PySem.Challenge.RW_wrapnets_k24_whole_put_together
set_option Elab.async false
set_option maxRecDepth 100000
set_option linter.all false
namespace Wn
open PySem L2

/-- what a caller knows of a def: that it keeps a promise, and where it stands -/
def Cd (P : Program) (w : World) (K : PySem.W.Frag) (mg : Str → Option Value) (base : Heap) (k : Nat) (name : Str) (ps : List Str) (sp : Sp) : Prop :=
  ∃ (f : Addr) (fd : FuncData), FnOk P w K mg base CX0 k f fd ps sp ∧ mg name = some (.ref f) ∧ PySem.W.keepIn K (.ref f) = true ∧ Binds K fd ps []
/-- what a caller knows of a method -/
def Md (P : Program) (w : World) (K : PySem.W.Frag) (mg : Str → Option Value) (base : Heap) (k : Nat) (C : Addr) (name : Str) (ps : List Str) (sp : Sp) : Prop :=
  ∃ (f : Addr) (fd : FuncData), FnOk P w K mg base CX0 k f fd ps sp ∧ Meth K C name f ∧ Binds K fd ps []

/-- all but some addresses stay -/
def Kp (M : List Addr) (H H' : Hp) : Prop := ∀ b o, b ∉ M → H b = some o → H' b = some o
theorem Kp.refl (M : List Addr) (H : Hp) : Kp M H H := fun _ _ _ h => h
theorem Kp.trans {M : List Addr} {H H1 H2 : Hp} (a : Kp M H H1) (b : Kp M H1 H2) : Kp M H H2 := fun c o hc h => b c o hc (a c o hc h)
theorem Kp.mono {M M' : List Addr} {H H1 : Hp} (a : Kp M H H1) (h : ∀ x ∈ M, x ∈ M') : Kp M' H H1 := fun c o hc q => a c o (fun z => hc (h c z)) q
theorem Kp.of {M : List Addr} {H H1 : Hp} (a : Same H H1) : Kp M H H1 := fun c o _ q => a c o q
theorem Kp.new {M : List Addr} {H H1 : Hp} {p : Addr} {o : HO} (a : Kp M H H1) (hp : H1 p = none) : Kp M H (upd H1 p o) := fun c u hc q => by
  rw [upd_ne (ne_of_none (a c u hc q) hp)]
  exact a c u hc q
theorem Kp.wr {M : List Addr} {H H1 : Hp} {p : Addr} {o : HO} (a : Kp M H H1) (hp : p ∈ M) : Kp M H (upd H1 p o) := fun c u hc q => by
  rw [upd_ne (show c ≠ p from fun z => hc (by rw [z]; exact hp))]
  exact a c u hc q
/-- a write to what wasn't there at first -/
theorem Kp.wrn {M : List Addr} {H H1 : Hp} {p : Addr} {o : HO} (a : Kp M H H1) (hp : H p = none) : Kp M H (upd H1 p o) := fun c u hc q => by
  rw [upd_ne (ne_of_none q hp)]
  exact a c u hc q
theorem _root_.L2.Same.new {H H1 : Hp} {p : Addr} {o : HO} (a : Same H H1) (hp : H1 p = none) : Same H (upd H1 p o) := fun c u q => by
  rw [upd_ne (ne_of_none (a c u q) hp)]
  exact a c u q
theorem _root_.L2.Same.wrn {H H1 : Hp} {p : Addr} {o : HO} (a : Same H H1) (hp : H p = none) : Same H (upd H1 p o) := fun c u q => by
  rw [upd_ne (ne_of_none q hp)]
  exact a c u q

/-- a while by a word and a measure -/
theorem while_m {c : TT} {tb : TS} {D : Ends} {σ : L2.St} {H : Hp} (Pv : L2.St → Hp → Prop) (μ : L2.St → Hp → Nat) (h0 : Pv σ H)
    (hs : ∀ m σ H, m = μ σ H → Pv σ H → c σ H fun b H1 => if b = true then ∃ N : L2.St → Hp → Prop, (∀ σ' H', N σ' H' → ∃ m', m' < m ∧ (m' = μ σ' H' ∧ Pv σ' H')) ∧ tb { D with nx := N, ct := N, bk := D.nx } σ H1 else D.nx σ H1) : tWhile c tb D σ H :=
  ⟨fun m σ H => m = μ σ H ∧ Pv σ H, ⟨_, rfl, h0⟩, fun m σ H ⟨e, p⟩ => hs m σ H e p⟩

/-! ### the deck -/
def spMixed : Sp := fun vs H Q _ => ∃ (c a : Int), vs = [.int c, .int a] ∧ -1 ≤ a ∧ a < 2 ^ 60 ∧ ∀ r : Int, Q (.int r) H
/-- a deck at d, of which n draws were taken at most -/
def Deck (H : Hp) (d f : Addr) (n : Int) : Prop :=
  ∃ (a wh : Int) (xs : List Int), H d = some (.lst [.int a, .int wh, .ref f]) ∧ H f = some (.lst (xs.map V.int)) ∧ 0 ≤ a ∧ a ≤ n ∧ xs.length ≤ 100000
def spNext : Sp := fun vs H Q _ => ∃ (d f : Addr) (m n : Int), vs = [.ref d, .int m] ∧ 0 < m ∧ n < 2 ^ 60 ∧ Deck H d f n ∧
  ∀ (r : Int) (H' : Hp), 0 ≤ r → r < m → Kp [d] H H' → Deck H' d f (n + 1) → Q (.int r) H'
def spDeck (K : PySem.W.Frag) : Sp := fun vs H Q _ => ∃ (a : Addr) (ns : List Int), vs = [.ref a] ∧ SqL K H a (ns.map V.int) ∧ ns.length ≤ 63 ∧
  ∀ (H' : Hp) (d f : Addr), H d = none → H f = none → Same H H' → Deck H' d f 0 → Q (.ref d) H'
end Wn

namespace Wn
open PySem L2
/-! ### tuples stay, whatever is called -/
def TK (H H' : Hp) : Prop := (∀ b xs, H b = some (.tup xs) → H' b = some (.tup xs)) ∧ (∀ b o u, H b = some (.frz o u) → H' b = some (.frz o u))
theorem TK.refl (H : Hp) : TK H H := ⟨fun _ _ h => h, fun _ _ _ h => h⟩
theorem TK.trans {H H1 H2 : Hp} (a : TK H H1) (b : TK H1 H2) : TK H H2 := ⟨fun c o h => b.1 c o (a.1 c o h), fun c o u h => b.2 c o u (a.2 c o u h)⟩
theorem TK.of {H H1 : Hp} (a : Same H H1) : TK H H1 := ⟨fun c o h => a _ _ h, fun c o u h => a _ _ h⟩
theorem TK.new {H H1 : Hp} {p : Addr} {o : HO} (a : TK H H1) (hp : H1 p = none) : TK H (upd H1 p o) :=
  ⟨fun c u q => by rw [upd_ne (ne_of_none (a.1 c u q) hp)]; exact a.1 c u q, fun c u z q => by rw [upd_ne (ne_of_none (a.2 c u z q) hp)]; exact a.2 c u z q⟩
/-- what is neither a tuple nor locked may be written -/
def Wrt : HO → Bool
  | .tup _ => false
  | .frz _ _ => false
  | _ => true
theorem TK.wr {H H1 : Hp} {p : Addr} {o u : HO} (a : TK H H1) (hp : H1 p = some u) (hu : Wrt u = true) : TK H (upd H1 p o) :=
  ⟨fun c v q => by
    have h1 := a.1 c v q
    rw [upd_ne (ne_of h1 hp (fun z => by rw [← z] at hu; cases hu))]
    exact h1, fun c v z q => by
    have h1 := a.2 c v z q
    rw [upd_ne (ne_of h1 hp (fun z => by rw [← z] at hu; cases hu))]
    exact h1⟩
theorem _root_.L2.FnOk.tk {P : Program} {w : World} {K : PySem.W.Frag} {mg : Str → Option Value} {base : Heap} {k : Nat} {f : Addr} {fd : FuncData} {ps : List Str} {sp : Sp} (F : FnOk P w K mg base CX0 k f fd ps sp) :
    FnOk P w K mg base CX0 k f fd ps (fun vs H Q E => sp vs H (fun v H' => TK H H' → Q v H') E) := by
  refine ⟨fun vs H Q E q => F.len vs H _ E q, fun A outer s H args us vs Q E hr he hb hv hs => ?_⟩
  refine codeAny_mono (F.run A outer s H args us vs _ E hr he hb hv hs) fun r s' h => ?_
  cases r with
  | ok fl =>
    cases fl with
    | ret u =>
      obtain ⟨v, H', e1, e2, e3, e4, e5, q⟩ := h
      exact ⟨v, H', e1, e2, e3, e4, e5, q ⟨e3.tups, e3.frzs⟩⟩
    | _ => exact h
  | error e => exact h
/-- a promise, tuples kept besides -/
def Tk (sp : Sp) : Sp := fun vs H Q E => sp vs H (fun v H' => TK H H' → Q v H') E
theorem Cd.tk {P : Program} {w : World} {K : PySem.W.Frag} {mg : Str → Option Value} {base : Heap} {k : Nat} {name : Str} {ps : List Str} {sp : Sp} (h : Cd P w K mg base k name ps sp) : Cd P w K mg base k name ps (Tk sp) := by
  obtain ⟨f, fd, G, a, b, c⟩ := h
  exact ⟨f, fd, G.tk, a, b, c⟩
theorem Md.tk {P : Program} {w : World} {K : PySem.W.Frag} {mg : Str → Option Value} {base : Heap} {k : Nat} {C : Addr} {name : Str} {ps : List Str} {sp : Sp} (h : Md P w K mg base k C name ps sp) : Md P w K mg base k C name ps (Tk sp) := by
  obtain ⟨f, fd, G, a, b⟩ := h
  exact ⟨f, fd, G.tk, a, b⟩

/-! ### data: None, truths, ints, texts, tuples of these -/
mutual
def Rp (K : PySem.W.Frag) (H : Hp) : PyData → V → Prop
  | .none, v => v = .non
  | .bool b, v => v = .bl b
  | .int i, v => v = .int i
  | .str s, v => v = .str s
  | .tuple ds, v => ∃ a xs, v = .ref a ∧ SqT K H a xs ∧ RpL K H ds xs
  | .list _, _ => False
  | .dict _, _ => False
def RpL (K : PySem.W.Frag) (H : Hp) : List PyData → List V → Prop
  | [], xs => xs = []
  | d :: ds, xs => ∃ v r, xs = v :: r ∧ Rp K H d v ∧ RpL K H ds r
end
mutual
def dep : PyData → Nat
  | .tuple xs => deps xs + 1
  | _ => 0
def deps : List PyData → Nat
  | [] => 0
  | x :: xs => max (dep x) (deps xs)
end
mutual
def sz : PyData → Nat
  | .tuple xs => szs xs + 1
  | _ => 1
def szs : List PyData → Nat
  | [] => 0
  | x :: xs => sz x + szs xs
end
theorem SqT.tk {K : PySem.W.Frag} {H H' : Hp} {a : Addr} {xs : List V} (h : SqT K H a xs) (e : TK H H') : SqT K H' a xs := by
  rcases h with (h | ⟨o, h⟩) | h
  · exact .inl (.inl (e.1 _ _ h))
  · exact .inl (.inr ⟨o, e.2 _ _ _ h⟩)
  · exact .inr h
mutual
theorem Rp.tk {K : PySem.W.Frag} {H H' : Hp} (e : TK H H') : ∀ (d : PyData) (v : V), Rp K H d v → Rp K H' d v
  | .none, _, h => h
  | .bool _, _, h => h
  | .int _, _, h => h
  | .str _, _, h => h
  | .tuple ds, v, h => by
    unfold Rp at h ⊢
    obtain ⟨a, xs, rfl, hs, hl⟩ := h
    exact ⟨a, xs, rfl, SqT.tk hs e, RpL.tk e ds xs hl⟩
  | .list _, _, h => h
  | .dict _, _, h => h
theorem RpL.tk {K : PySem.W.Frag} {H H' : Hp} (e : TK H H') : ∀ (ds : List PyData) (xs : List V), RpL K H ds xs → RpL K H' ds xs
  | [], _, h => h
  | d :: ds, xs, h => by
    unfold RpL at h ⊢
    obtain ⟨v, r, rfl, h1, h2⟩ := h
    exact ⟨v, r, rfl, Rp.tk e d v h1, RpL.tk e ds r h2⟩
end
theorem RpL.len {K : PySem.W.Frag} {H : Hp} : ∀ (ds : List PyData) (xs : List V), RpL K H ds xs → xs.length = ds.length
  | [], xs, h => by
    unfold RpL at h
    rw [h]
    rfl
  | d :: ds, xs, h => by
    unfold RpL at h
    obtain ⟨v, r, rfl, h1, h2⟩ := h
    rw [List.length_cons, List.length_cons, RpL.len ds r h2]
theorem RpL.get {K : PySem.W.Frag} {H : Hp} : ∀ (ds : List PyData) (xs : List V), RpL K H ds xs → ∀ (i : Nat) (d : PyData), ds[i]? = some d → ∃ v, xs[i]? = some v ∧ Rp K H d v
  | [], xs, h, i, d, e => by cases e
  | d :: ds, xs, h, i, d', e => by
    unfold RpL at h
    obtain ⟨v, r, rfl, h1, h2⟩ := h
    cases i with
    | zero =>
      simp only [List.getElem?_cons_zero, Option.some.injEq] at e
      exact ⟨v, rfl, e ▸ h1⟩
    | succ i =>
      simp only [List.getElem?_cons_succ] at e ⊢
      exact RpL.get ds r h2 i d' e
theorem RpL.of {K : PySem.W.Frag} {H : Hp} : ∀ (ds : List PyData) (xs : List V), xs.length = ds.length → (∀ (i : Nat) (d : PyData) (v : V), ds[i]? = some d → xs[i]? = some v → Rp K H d v) → RpL K H ds xs
  | [], xs, h, _ => by
    unfold RpL
    exact List.length_eq_zero_iff.mp h
  | d :: ds, [], h, _ => by cases h
  | d :: ds, v :: r, h, k => by
    unfold RpL
    refine ⟨v, r, rfl, k 0 d v rfl rfl, RpL.of ds r (by simpa using h) fun i d' v' h1 h2 => k (i + 1) d' v' ?_ ?_⟩
    · simpa using h1
    · simpa using h2
theorem RpL.snoc {K : PySem.W.Frag} {H : Hp} {d : PyData} {v : V} (h : Rp K H d v) : ∀ (ds : List PyData) (xs : List V), RpL K H ds xs → RpL K H (ds ++ [d]) (xs ++ [v])
  | [], xs, q => by
    unfold RpL at q
    subst q
    show RpL K H [d] [v]
    unfold RpL
    exact ⟨v, [], rfl, h, by unfold RpL; rfl⟩
  | d' :: ds, xs, q => by
    unfold RpL at q
    obtain ⟨v', r, rfl, h1, h2⟩ := q
    show RpL K H (d' :: (ds ++ [d])) (v' :: (r ++ [v]))
    unfold RpL
    exact ⟨_, _, rfl, h1, RpL.snoc h ds r h2⟩
theorem dep_get : ∀ (ds : List PyData) (i : Nat) (d : PyData), ds[i]? = some d → dep d ≤ deps ds
  | [], i, d, e => by cases e
  | x :: xs, 0, d, e => by
    simp only [List.getElem?_cons_zero, Option.some.injEq] at e
    unfold deps
    rw [e]
    exact Nat.le_max_left _ _
  | x :: xs, i + 1, d, e => by
    simp only [List.getElem?_cons_succ] at e
    unfold deps
    exact Nat.le_trans (dep_get xs i d e) (Nat.le_max_right _ _)
theorem sz_get : ∀ (ds : List PyData) (i : Nat) (d : PyData), ds[i]? = some d → sz d ≤ szs ds
  | [], i, d, e => by cases e
  | x :: xs, 0, d, e => by
    simp only [List.getElem?_cons_zero, Option.some.injEq] at e
    unfold szs
    rw [e]
    exact Nat.le_add_right _ _
  | x :: xs, i + 1, d, e => by
    simp only [List.getElem?_cons_succ] at e
    unfold szs
    exact Nat.le_trans (sz_get xs i d e) (Nat.le_add_left _ _)
theorem sz_pos : ∀ d : PyData, 1 ≤ sz d
  | .tuple xs => by unfold sz; omega
  | .none | .bool _ | .int _ | .str _ | .list _ | .dict _ => by unfold sz; exact Nat.le_refl _
theorem szs_len : ∀ ds : List PyData, ds.length ≤ szs ds
  | [] => Nat.zero_le _
  | x :: xs => by
    have := szs_len xs
    have := sz_pos x
    unfold szs
    rw [List.length_cons]
    omega
/-- the type of such a thing -/
theorem ty_tup {K : PySem.W.Frag} {H : Hp} {a : Addr} {xs : List V} (h : SqT K H a xs) : TyX K H (.ref a) (.type "tuple") := by
  rcases h with (h | ⟨o, h⟩) | ⟨o, its, n, h, c, _⟩
  · exact .base (.tup h)
  · exact .fTuple h
  · exact .kTuple h c
/-- the same data handed in twice, of depth below n: True -/
def spSame (K : PySem.W.Frag) (n : Nat) : Sp := fun vs H Q _ => ∃ (x y : V) (d : PyData), vs = [x, y] ∧ Rp K H d x ∧ Rp K H d y ∧ dep d < n ∧ sz d ≤ 1000000 ∧ ∀ H', Same H H' → Q (.bl true) H'
end Wn

namespace Wn
open PySem L2
theorem fld1 {f : Str} {v : V} : ([(f, v)] : List (Str × V)).lookup f = some v := by
  show (match f == f with | true => some v | false => _) = some v
  rw [beq_self_eq_true]
theorem fld1_ne {f g : Str} {v : V} (h : (g == f) = false) : ([(f, v)] : List (Str × V)).lookup g = none := by
  show (match g == f with | true => some v | false => _) = none
  rw [h]
  rfl
theorem putF1 {f : Str} {v u : V} : putF f u [(f, v)] = [(f, u)] := by
  show (if f = f then (f, u) :: [] else _) = _
  rw [if_pos rfl]
/-! ### dicts by whole numbers, their values data -/
section
variable {α : Type}
def lookA (m : List (Int × α)) (k : Int) : Option α := (m.find? fun p => decide (p.1 = k)).map (·.2)
def putA (m : List (Int × α)) (k : Int) (v : α) : List (Int × α) :=
  if (m.any fun kv => decide (kv.1 = k)) = true then m.map (fun kv => if kv.1 = k then (kv.1, v) else kv) else m ++ [(k, v)]
def dropA (m : List (Int × α)) (k : Int) : List (Int × α) := m.filter fun kv => decide (kv.1 ≠ k)
theorem putA_len (m : List (Int × α)) (k : Int) (v : α) : (putA m k v).length ≤ m.length + 1 := by
  unfold putA
  split
  · rw [List.length_map]
    omega
  · rw [List.length_append, List.length_singleton]
    exact Nat.le_refl _
theorem dropA_len (m : List (Int × α)) (k : Int) : (dropA m k).length ≤ m.length := List.length_filter_le _ _
def RpD (enc : α → PyData) (K : PySem.W.Frag) (H : Hp) : List (Int × α) → List (Key × V) → Prop
  | [], kvs => kvs = []
  | p :: m, kvs => ∃ v r, kvs = (Sum.inl p.1, v) :: r ∧ Rp K H (enc p.2) v ∧ RpD enc K H m r
variable {enc : α → PyData} {K : PySem.W.Frag} {H H' : Hp}
theorem RpD.tk (e : TK H H') : ∀ {m : List (Int × α)} {kvs : List (Key × V)}, RpD enc K H m kvs → RpD enc K H' m kvs
  | [], _, h => h
  | p :: m, kvs, h => by
    obtain ⟨v, r, rfl, h1, h2⟩ := h
    exact ⟨v, r, rfl, Rp.tk e _ _ h1, RpD.tk e h2⟩
theorem RpD.len : ∀ {m : List (Int × α)} {kvs : List (Key × V)}, RpD enc K H m kvs → kvs.length = m.length
  | [], kvs, h => by rw [show kvs = [] from h]; rfl
  | p :: m, kvs, h => by
    obtain ⟨v, r, rfl, h1, h2⟩ := h
    rw [List.length_cons, List.length_cons, RpD.len h2]
theorem RpD.keys : ∀ {m : List (Int × α)} {kvs : List (Key × V)}, RpD enc K H m kvs → (kvs.map fun kv => kV kv.1) = (m.map (·.1)).map V.int
  | [], kvs, h => by rw [show kvs = [] from h]; rfl
  | p :: m, kvs, h => by
    obtain ⟨v, r, rfl, h1, h2⟩ := h
    rw [List.map_cons, List.map_cons, List.map_cons, RpD.keys h2]
    rfl
theorem inl_iff {a b : Int} : ((Sum.inl a : Key) = Sum.inl b) ↔ a = b := ⟨fun h => by cases h; rfl, fun h => by rw [h]⟩
theorem RpD.val {k : Int} : ∀ {m : List (Int × α)} {kvs : List (Key × V)}, RpD enc K H m kvs → (lookA m k = none ∧ valV kvs (Sum.inl k) = none) ∨ ∃ x v, lookA m k = some x ∧ valV kvs (Sum.inl k) = some v ∧ Rp K H (enc x) v
  | [], kvs, h => by
    rw [show kvs = [] from h]
    exact .inl ⟨rfl, rfl⟩
  | p :: m, kvs, h => by
    obtain ⟨v, r, rfl, h1, h2⟩ := h
    by_cases e : p.1 = k
    · refine .inr ⟨p.2, v, ?_, valV_pos (by rw [e]), h1⟩
      simp [lookA, List.find?_cons, e]
    · have e1 : lookA (p :: m) k = lookA m k := by simp [lookA, List.find?_cons, e]
      rw [e1, valV_neg (p := (Sum.inl p.1, v)) (fun z => e (inl_iff.mp z))]
      exact RpD.val h2
theorem RpD.any {k : Int} : ∀ {m : List (Int × α)} {kvs : List (Key × V)}, RpD enc K H m kvs → (kvs.any fun kv => decide (kv.1 = Sum.inl k)) = (m.any fun kv => decide (kv.1 = k))
  | [], kvs, h => by rw [show kvs = [] from h]; rfl
  | p :: m, kvs, h => by
    obtain ⟨v, r, rfl, h1, h2⟩ := h
    rw [List.any_cons, List.any_cons, RpD.any h2]
    congr 1
    exact decide_eq_decide.mpr inl_iff
theorem RpD.snoc {k : Int} {x : α} {v : V} (hv : Rp K H (enc x) v) : ∀ {m : List (Int × α)} {kvs : List (Key × V)}, RpD enc K H m kvs → RpD enc K H (m ++ [(k, x)]) (kvs ++ [(Sum.inl k, v)])
  | [], kvs, h => by
    rw [show kvs = [] from h]
    exact ⟨v, [], rfl, hv, rfl⟩
  | p :: m, kvs, h => by
    obtain ⟨u, r, rfl, h1, h2⟩ := h
    exact ⟨u, _, rfl, h1, RpD.snoc hv h2⟩
theorem RpD.map {k : Int} {x : α} {v : V} (hv : Rp K H (enc x) v) : ∀ {m : List (Int × α)} {kvs : List (Key × V)}, RpD enc K H m kvs → RpD enc K H (m.map fun kv => if kv.1 = k then (kv.1, x) else kv) (kvs.map fun kv => if kv.1 = Sum.inl k then (kv.1, v) else kv)
  | [], kvs, h => by rw [show kvs = [] from h]; rfl
  | p :: m, kvs, h => by
    obtain ⟨u, r, rfl, h1, h2⟩ := h
    have h3 := RpD.map (k := k) hv h2
    rw [List.map_cons, List.map_cons]
    by_cases e : p.1 = k
    · rw [if_pos e, if_pos (inl_iff.mpr e)]
      exact ⟨v, _, rfl, hv, h3⟩
    · rw [if_neg e, if_neg (fun z => e (inl_iff.mp z))]
      exact ⟨u, _, rfl, h1, h3⟩
theorem RpD.put {k : Int} {x : α} {v : V} {m : List (Int × α)} {kvs : List (Key × V)} (h : RpD enc K H m kvs) (hv : Rp K H (enc x) v) : RpD enc K H (putA m k x) (putK kvs (Sum.inl k) v) := by
  unfold putA putK
  rw [h.any]
  split
  · exact h.map hv
  · exact h.snoc hv
theorem RpD.drop {k : Int} : ∀ {m : List (Int × α)} {kvs : List (Key × V)}, RpD enc K H m kvs → RpD enc K H (dropA m k) (dropK kvs (Sum.inl k))
  | [], kvs, h => by rw [show kvs = [] from h]; rfl
  | p :: m, kvs, h => by
    obtain ⟨u, r, rfl, h1, h2⟩ := h
    have h3 := RpD.drop (k := k) h2
    unfold dropA dropK at *
    by_cases e : p.1 = k
    · rw [List.filter_cons_of_neg (by simp [e]), List.filter_cons_of_neg (by simp [e])]
      exact h3
    · rw [List.filter_cons_of_pos (by simp [e]), List.filter_cons_of_pos (by simp [inl_iff, e])]
      exact ⟨u, _, rfl, h1, h3⟩
/-- a dict at q that stands for m -/
def DictAt (enc : α → PyData) (K : PySem.W.Frag) (H : Hp) (q : Addr) (m : List (Int × α)) : Prop := ∃ kvs, H q = some (.dK kvs) ∧ RpD enc K H m kvs
theorem DictAt.kp {M : List Addr} {q : Addr} {m : List (Int × α)} (h : DictAt enc K H q m) (k : Kp M H H') (t : TK H H') (n : q ∉ M) : DictAt enc K H' q m := by
  obtain ⟨kvs, a, b⟩ := h
  exact ⟨kvs, k _ _ n a, b.tk t⟩
def sortI (ns : List Int) : List Int := ns.mergeSort (fun a b => decide (a ≤ b))
theorem sortI_perm (ns : List Int) : (sortI ns).Perm ns := List.mergeSort_perm _ _
theorem sortI_sorted (ns : List Int) : (sortI ns).Pairwise (· ≤ ·) := by
  have h := List.pairwise_mergeSort (le := fun a b : Int => decide (a ≤ b)) (fun a b c h1 h2 => by simp only [decide_eq_true_eq] at *; omega) (fun a b => by simp only [Bool.or_eq_true, decide_eq_true_eq]; omega) ns
  exact h.imp fun h => of_decide_eq_true h
theorem sortI_eq {ns ms : List Int} (p : ms.Perm ns) (s : ms.Pairwise (· ≤ ·)) : ms = sortI ns :=
  PySem.W.ksm_same (p.trans (sortI_perm ns).symm) s (sortI_sorted ns)
/-- rows by hands: (hand,) and what stands there -/
def rowsD (encL : α → List PyData) (m : List (Int × α)) : PyData := .tuple ((sortI (m.map (·.1))).map fun k => .tuple (.int k :: ((lookA m k).map encL).getD []))
theorem lookA_mem {m : List (Int × α)} {k : Int} (h : k ∈ m.map (·.1)) : ∃ x, lookA m k = some x ∧ (k, x) ∈ m := by
  obtain ⟨p, hp, rfl⟩ := List.mem_map.mp h
  unfold lookA
  cases e : m.find? fun q => decide (q.1 = p.1) with
  | none =>
    have := List.find?_eq_none.mp e p hp
    simp at this
  | some q =>
    have h1 := List.find?_some e
    have h2 := List.mem_of_find?_eq_some e
    simp only [decide_eq_true_eq] at h1
    exact ⟨q.2, rfl, by rw [← h1]; exact h2⟩
theorem szs_map_le {β : Type} {f : β → PyData} {c : Nat} : ∀ (l : List β), (∀ x ∈ l, sz (f x) ≤ c) → szs (l.map f) ≤ c * l.length
  | [], _ => Nat.zero_le _
  | x :: l, h => by
    have h1 := szs_map_le l fun y hy => h y (List.mem_cons_of_mem _ hy)
    have h2 := h x List.mem_cons_self
    rw [List.map_cons, List.length_cons]
    unfold szs
    rw [Nat.mul_succ]
    omega
theorem deps_map_le {β : Type} {f : β → PyData} {c : Nat} : ∀ (l : List β), (∀ x ∈ l, dep (f x) ≤ c) → deps (l.map f) ≤ c
  | [], _ => Nat.zero_le _
  | x :: l, h => by
    have h1 := deps_map_le l fun y hy => h y (List.mem_cons_of_mem _ hy)
    have h2 := h x List.mem_cons_self
    rw [List.map_cons]
    unfold deps
    omega
theorem Rp.tup {ds : List PyData} {a : Addr} {xs : List V} (h : H a = some (.tup xs)) (r : RpL K H ds xs) : Rp K H (.tuple ds) (.ref a) := by
  unfold Rp
  exact ⟨a, xs, rfl, SqT.of h, r⟩
theorem Rp.tupS {ds : List PyData} {a : Addr} {xs : List V} (h : SqT K H a xs) (r : RpL K H ds xs) : Rp K H (.tuple ds) (.ref a) := by
  unfold Rp
  exact ⟨a, xs, rfl, h, r⟩
theorem RpL.cons {d : PyData} {ds : List PyData} {v : V} {xs : List V} (h : Rp K H d v) (r : RpL K H ds xs) : RpL K H (d :: ds) (v :: xs) := by
  unfold RpL
  exact ⟨v, xs, rfl, h, r⟩
theorem RpL.nil : RpL K H [] [] := by
  unfold RpL
  rfl
theorem Rp.int {i : Int} : Rp K H (.int i) (.int i) := by
  unfold Rp
  rfl
theorem Rp.none : Rp K H .none .non := by
  unfold Rp
  rfl
theorem Rp.str {z : Str} : Rp K H (.str z) (.str z) := by
  unfold Rp
  rfl
end
end Wn

namespace Wn
open PySem L2
theorem tYes_t {σ : L2.St} {H : Hp} {F : Bool → Hp → Prop} (h : F true H) : tYes σ H F := h
theorem rows_lc {α : Type} {encL : α → List PyData} {K : PySem.W.Frag} {td : TE} {i : Nat} {σ : L2.St} {H2 : Hp} {S D q : Addr} {ns : List Int} {m : List (Int × α)} {kvs : List (Key × V)} {Qd : Hp → Prop}
    (hS : H2 S = some (.lst (ns.map V.int))) (hq : H2 q = some (.dK kvs)) (hm : RpD (fun x => .tuple (encL x)) K H2 m kvs) (hns : ∀ k ∈ ns, k ∈ m.map (·.1)) (hz : ∀ x, (encL x).length ≤ 100) (hln : ns.length ≤ 1000000)
    (htd : ∀ (σ' : L2.St) (H' : Hp) (Q : VK), wipe σ' [i] = wipe σ [i] → Same H2 H' → Q (.ref q) H' → td σ' H' Q) (hD : H2 D = none) (hσ : i < σ.length)
    (hd : ∀ (H' : Hp) (xs : List V), Same H2 H' → H' D = some (.lst xs) → RpL K H' (ns.map fun k => .tuple (.int k :: ((lookA m k).map encL).getD [])) xs → Qd H') :
    ∃ W : Nat → Nat → Hp → Prop, (∃ m, W 0 m (upd H2 D (.lst []))) ∧ ∀ j m H, W j m H →
      ((Itl K S).stop j H ∧ Qd H) ∨ ((Itl K S).go j H ∧ ∃ Nx : Hp → Prop, (∀ H', Nx H' → ∃ m', m' < m ∧ W (j + 1) m' H') ∧ ∀ x H', (Itl K S).yld j H x H' → gName i x (wipe σ [i]) H' fun σ2 H2 => wipe σ2 [i] = wipe σ [i] ∧ tYes σ2 H2 fun b H3 =>
        if b = true then tOp (rCatT K) (tTup (tCons (tVar i) tNil)) (tDGet td (tVar i)) σ2 H3 fun y H4 => ∃ acc, H4 D = some (.lst acc) ∧ acc.length < sizeLine ∧ Nx (upd H4 D (.lst (acc ++ [y]))) else Nx H3) := by
  have nSD : S ≠ D := ne_of_none hS hD
  refine lc_list (K := K) (a := S) (xs := ns.map V.int) (fun j H => ∃ xs, Same H2 H ∧ H D = some (.lst xs) ∧ RpL K H ((ns.take j).map fun k => .tuple (.int k :: ((lookA m k).map encL).getD [])) xs)
    ⟨[], (L2.Same.refl H2).new hD, upd_same, RpL.nil⟩ (fun j H _ ⟨xs, s, _, _⟩ => SqL.of (s _ _ hS)) ?_ ?_
  · rintro j x H3 hx ⟨xs, s3, hD3, hr⟩
    have hj : j < ns.length := by
      have q := (List.getElem?_eq_some_iff.mp hx).1
      rw [List.length_map] at q
      exact q
    obtain rfl : x = V.int ns[j] := by
      rw [List.getElem?_map, List.getElem?_eq_getElem hj] at hx
      exact (Option.some.inj hx).symm
    have hmem : ns[j] ∈ m.map (·.1) := hns _ (List.getElem_mem hj)
    have eσ : (((wipe σ [i]).set i (some (V.int ns[j]))))[i]? = some (some (V.int ns[j])) := by
      rw [List.getElem?_set_self]
      rw [wipe_length]
      exact hσ
    have ew : wipe ((wipe σ [i]).set i (some (V.int ns[j]))) [i] = wipe σ [i] := by
      show ((σ.set i none).set i (some (V.int ns[j]))).set i none = σ.set i none
      rw [List.set_set, List.set_set]
    refine ⟨ew, ?_⟩
    refine tYes_t (iteT ?_)
    have hlx : xs.length < sizeLine := by
      have := RpL.len _ _ hr
      rw [List.length_map, List.length_take] at this
      exact Nat.lt_of_le_of_lt (show xs.length ≤ 1000000 by omega) (by decide)
    refine ⟨_, eσ, (by show 1 ≤ sizeLine; decide), fun t ht => ?_⟩
    have s4 := s3.new (o := .tup [V.int ns[j]]) ht
    have t4 := TK.of s4
    refine htd _ _ _ ew s4 ⟨_, eσ, ?_⟩
    rcases hm.val (k := ns[j]) with ⟨e1, e2⟩ | ⟨y, v, e1, e2, r⟩
    · obtain ⟨z, e3, _⟩ := lookA_mem hmem
      rw [e1] at e3
      cases e3
    · have r4 := Rp.tk t4 _ _ r
      unfold Rp at r4
      obtain ⟨b, ys, rfl, hb, hl⟩ := r4
      have hly := RpL.len _ _ hl
      refine ⟨q, .ref b, rfl, by rw [← e2]; exact DGet.k (k := Sum.inl ns[j]) (s4 _ _ hq), ?_⟩
      have hD4 : (upd H3 t (.tup [V.int ns[j]])) D = some (.lst xs) := by
        rw [upd_ne (ne_of_none hD3 ht)]
        exact hD3
      have etk : (ns.take (j + 1)).map (fun k => PyData.tuple (.int k :: ((lookA m k).map encL).getD [])) = (ns.take j).map (fun k => PyData.tuple (.int k :: ((lookA m k).map encL).getD [])) ++ [PyData.tuple (.int ns[j] :: encL y)] := by
        rw [List.take_succ_eq_append_getElem hj, List.map_append, List.map_singleton, e1]
        rfl
      have s34 : TK H3 (upd H3 t (.tup [V.int ns[j]])) := (TK.refl _).new ht
      refine ⟨t, b, _, ys, rfl, rfl, SqT.of upd_same, hb, List.cons_ne_nil _ _, ?_, fun ey => ?_, fun _ p hp => ?_⟩
      · have := hz y
        rw [hly, List.length_singleton]
        exact Nat.le_trans (show 1 + (encL y).length ≤ 1000 by omega) (by decide)
      · refine ⟨xs, hD4, hlx, _, s4.wrn hD, upd_same, ?_⟩
        rw [etk]
        have tE : TK (upd H3 t (.tup [V.int ns[j]])) (upd (upd H3 t (.tup [V.int ns[j]])) D (.lst (xs ++ [V.ref t]))) := (TK.refl _).wr hD4 rfl
        refine RpL.snoc (Rp.tk tE _ _ (Rp.tup upd_same ?_)) _ _ (RpL.tk (s34.trans tE) _ _ hr)
        have e0 : encL y = [] := List.length_eq_zero_iff.mp (by rw [← hly, ey]; rfl)
        rw [e0]
        exact RpL.cons Rp.int RpL.nil
      · have s5 := s4.new (o := .tup ([V.int ns[j]] ++ ys)) hp
        have hD5 : upd (upd H3 t (.tup [V.int ns[j]])) p (.tup ([V.int ns[j]] ++ ys)) D = some (.lst xs) := by
          rw [upd_ne (ne_of_none hD4 hp)]
          exact hD4
        have tE : TK (upd (upd H3 t (.tup [V.int ns[j]])) p (.tup ([V.int ns[j]] ++ ys))) (upd (upd (upd H3 t (.tup [V.int ns[j]])) p (.tup ([V.int ns[j]] ++ ys))) D (.lst (xs ++ [V.ref p]))) := (TK.refl _).wr hD5 rfl
        have s45 : TK (upd H3 t (.tup [V.int ns[j]])) (upd (upd H3 t (.tup [V.int ns[j]])) p (.tup ([V.int ns[j]] ++ ys))) := (TK.refl _).new hp
        refine ⟨xs, hD5, hlx, _, s5.wrn hD, upd_same, ?_⟩
        rw [etk]
        refine RpL.snoc (Rp.tk tE _ _ (Rp.tup upd_same ?_)) _ _ (RpL.tk ((s34.trans s45).trans tE) _ _ hr)
        exact RpL.cons Rp.int (RpL.tk s45 _ _ hl)
  · rintro H3 ⟨xs, s3, hD3, hr⟩
    rw [List.length_map, List.take_length] at hr
    exact hd H3 xs s3 hD3 hr
end Wn

namespace Wn
open PySem L2
section
variable {X : Cx} {K : PySem.W.Frag}
theorem ixL (hK : X.K = K) : IxR X (rIxL K) := hK ▸ ix_list
theorem ixT (hK : X.K = K) : IxR X (rIxT K) := hK ▸ ix_tup
theorem opCatT (hK : X.K = K) : OpR X (binaryOp .Add) (rCatT K) := hK ▸ op_catT
theorem slL (hK : X.K = K) : SlR X (rSlL K) := hK ▸ sl_list
theorem slT (hK : X.K = K) : SlR X (rSlT K) := hK ▸ sl_tup
theorem fldK {e : Expr} {ta : TE} {f : Str} {pos : Pos} (hK : X.K = K) (he : PE X e ta) (hb : attributeBase e f X.env (eval e X.env) = eval e X.env) : PE X (.Attribute e f pos) (tFld K ta f) := hK ▸ pe_fld he hb
theorem lenK (hK : X.K = K) : CallR X (.builtin "len") (fun xs H Q => ∃ x n, xs = [x] ∧ LenV K x H n ∧ Q (.int n) H) := hK ▸ call_len
theorem crMaxK (hK : X.K = K) (hc : X.calm = true) : CallR X (.builtin "max") (rMax K) := hK ▸ cr_max hc
theorem crMinK (hK : X.K = K) (hc : X.calm = true) : CallR X (.builtin "min") (rMin K) := hK ▸ cr_min hc
theorem crAllK (hK : X.K = K) (hc : X.calm = true) : CallR X (.builtin "all") (rAll K) := hK ▸ cr_all hc
theorem crAnyK (hK : X.K = K) (hc : X.calm = true) : CallR X (.builtin "any") (rAny K) := hK ▸ cr_any hc
theorem isiK (hK : X.K = K) : CallR X (.builtin "isinstance") (rIsi K) := hK ▸ call_isi
theorem tupOfK (hK : X.K = K) : CallR X (.type "tuple") (fun xs H Q => ∃ p ys, xs = [.ref p] ∧ ((SqL K H p ys ∧ ∀ l, H l = none → Q (.ref l) (upd H l (.tup ys))) ∨ (SqT K H p ys ∧ Q (.ref p) H))) := hK ▸ call_tuple_of
theorem lstOfK (hK : X.K = K) : CallR X (.type "list") (fun xs H Q => ∃ p ys, xs = [.ref p] ∧ (SqL K H p ys ∨ SqT K H p ys) ∧ ∀ l, H l = none → Q (.ref l) (upd H l (.lst ys))) := hK ▸ call_list_of
theorem sortIK (hK : X.K = K) : CallR X (.builtin "sorted") (rSortedI K) := hK ▸ cr_sortedI
theorem inSeqK (hK : X.K = K) : OpR X (compareOp .In) (rIn K false) := hK ▸ op_in_seq
theorem notInSeqK (hK : X.K = K) : OpR X (compareOp .NotIn) (rIn K true) := hK ▸ op_notIn_seq
theorem eqDK (hK : X.K = K) (hu : X.A.units + 64 < cLine) : OpR X (compareOp .Eq) (rEqD K) := hK ▸ op_eqD hu
theorem neDK (hK : X.K = K) (hu : X.A.units + 64 < cLine) : OpR X (compareOp .NotEq) (rNeD K) := hK ▸ op_neD hu
end
end Wn

namespace Wn
open PySem L2
theorem Deck.kp {M : List Addr} {H H' : Hp} {d f : Addr} {n : Int} (h : Deck H d f n) (k : Kp M H H') (n1 : d ∉ M) (n2 : f ∉ M) : Deck H' d f n := by
  obtain ⟨a, wh, xs, h1, h2, h3⟩ := h
  exact ⟨a, wh, xs, k _ _ n1 h1, k _ _ n2 h2, h3⟩
theorem Deck.mono {H : Hp} {d f : Addr} {n m : Int} (h : Deck H d f n) (hm : n ≤ m) : Deck H d f m := by
  obtain ⟨a, wh, xs, h1, h2, h3, h4, h5⟩ := h
  exact ⟨a, wh, xs, h1, h2, h3, by omega, h5⟩
theorem Deck.lst {H : Hp} {d f : Addr} {n : Int} (h : Deck H d f n) : ∃ zs, H d = some (.lst zs) := by
  obtain ⟨a, wh, xs, h1, h2, h3⟩ := h
  exact ⟨_, h1⟩
theorem Deck.lst2 {H : Hp} {d f : Addr} {n : Int} (h : Deck H d f n) : ∃ zs, H f = some (.lst zs) := by
  obtain ⟨a, wh, xs, h1, h2, h3⟩ := h
  exact ⟨_, h2⟩
theorem seq_have {t u : TS} {D : Ends} {σ : L2.St} {H : Hp} (Mid : L2.St → Hp → Prop) (h2 : ∀ σ' H', Mid σ' H' → u D σ' H') (h1 : (∀ σ' H', Mid σ' H' → u D σ' H') → t { D with nx := u D } σ H) : tSeq t u D σ H := h1 h2
theorem seq_if {c : TT} {t1 t2 u : TS} {D : Ends} {σ : L2.St} {H : Hp} (Mid : L2.St → Hp → Prop) (h2 : ∀ σ' H', Mid σ' H' → u D σ' H') (h1 : (∀ σ' H', Mid σ' H' → u D σ' H') → tIfS c t1 t2 { D with nx := u D } σ H) : tSeq (tIfS c t1 t2) u D σ H := h1 h2
theorem nin1 {a b : Addr} (h : a ≠ b) : a ∉ [b] := fun z => h (List.mem_singleton.mp z)
theorem nin2 {a b c : Addr} (h : a ≠ b) (h' : a ≠ c) : a ∉ [b, c] := fun z => by
  rcases List.mem_cons.mp z with z | z
  · exact h z
  · exact h' (List.mem_singleton.mp z)
section
variable {α : Type}
/-- an object at p whose dict by_hand stands at q -/
def HoldAt (enc : α → PyData) (K : PySem.W.Frag) (C : Addr) (H : Hp) (p q : Addr) (m : List (Int × α)) : Prop :=
  (∃ dx, H p = some (.ins C dx [("by_hand", .ref q)])) ∧ DictAt enc K H q m
variable {enc : α → PyData} {K : PySem.W.Frag} {C : Addr} {H H' : Hp}
theorem HoldAt.kp {M : List Addr} {p q : Addr} {m : List (Int × α)} (h : HoldAt enc K C H p q m) (k : Kp M H H') (t : TK H H') (n1 : p ∉ M) (n2 : q ∉ M) : HoldAt enc K C H' p q m := by
  obtain ⟨⟨dx, a⟩, b⟩ := h
  exact ⟨⟨dx, k _ _ n1 a⟩, b.kp k t n2⟩
/-- n objects and n dicts, in two lists -/
structure Rack (enc : α → PyData) (K : PySem.W.Frag) (C : Addr) (H : Hp) (L1 L2 : Addr) (n : Nat) (p q md : Nat → Addr) (m m' : Nat → List (Int × α)) : Prop where
  l1 : H L1 = some (.lst ((List.range n).map fun j => V.ref (p j)))
  l2 : H L2 = some (.lst ((List.range n).map fun j => V.ref (md j)))
  ok : ∀ j, j < n → HoldAt enc K C H (p j) (q j) (m j)
  mo : ∀ j, j < n → DictAt enc K H (md j) (m' j)
  dq : ∀ i j, i < n → j < n → i ≠ j → q i ≠ q j
  dm : ∀ i j, i < n → j < n → i ≠ j → md i ≠ md j
  dx : ∀ i j, i < n → j < n → q i ≠ md j
variable {L1 L2 : Addr} {n : Nat} {p q md : Nat → Addr} {m m' : Nat → List (Int × α)}
theorem Rack.kp {M : List Addr} (R : Rack enc K C H L1 L2 n p q md m m') (k : Kp M H H') (t : TK H H') (h : ∀ x ∈ M, x ≠ L1 ∧ x ≠ L2 ∧ ∀ j, j < n → x ≠ p j ∧ x ≠ q j ∧ x ≠ md j) : Rack enc K C H' L1 L2 n p q md m m' where
  l1 := k _ _ (fun z => (h _ z).1 rfl) R.l1
  l2 := k _ _ (fun z => (h _ z).2.1 rfl) R.l2
  ok := fun j hj => (R.ok j hj).kp k t (fun z => ((h _ z).2.2 j hj).1 rfl) (fun z => ((h _ z).2.2 j hj).2.1 rfl)
  mo := fun j hj => (R.mo j hj).kp k t (fun z => ((h _ z).2.2 j hj).2.2 rfl)
  dq := R.dq
  dm := R.dm
  dx := R.dx
/-- a list beside was written -/
theorem Rack.lst {d : Addr} {zs : List V} (R : Rack enc K C H L1 L2 n p q md m m') (k : Kp [d] H H') (t : TK H H') (hd : H d = some (.lst zs)) (n1 : d ≠ L1) (n2 : d ≠ L2) : Rack enc K C H' L1 L2 n p q md m m' :=
  R.kp k t fun x hx => by
    rw [List.mem_singleton] at hx
    subst hx
    refine ⟨n1, n2, fun j hj => ?_⟩
    obtain ⟨⟨dx, a⟩, kvs, b, _⟩ := R.ok j hj
    obtain ⟨kvs', c, _⟩ := R.mo j hj
    exact ⟨ne_of hd a (by intro z; cases z), ne_of hd b (by intro z; cases z), ne_of hd c (by intro z; cases z)⟩
theorem Rack.same (R : Rack enc K C H L1 L2 n p q md m m') (s : Same H H') : Rack enc K C H' L1 L2 n p q md m m' :=
  R.kp (M := []) (Kp.of s) (TK.of s) fun x hx => by cases hx
/-- the k-th object's dict is another one -/
theorem Rack.setq {i : Nat} {mn : List (Int × α)} (R : Rack enc K C H L1 L2 n p q md m m') (hi : i < n) (k : Kp [q i] H H') (t : TK H H') (h : HoldAt enc K C H' (p i) (q i) mn) :
    Rack enc K C H' L1 L2 n p q md (fun j => if j = i then mn else m j) m' := by
  obtain ⟨_, kvq, hq, _⟩ := R.ok i hi
  refine ⟨k _ _ (nin1 (ne_of R.l1 hq (by intro z; cases z))) R.l1, k _ _ (nin1 (ne_of R.l2 hq (by intro z; cases z))) R.l2, fun j hj => ?_, fun j hj => ?_, R.dq, R.dm, R.dx⟩
  · by_cases e : j = i
    · subst e
      simp only [if_true]
      exact h
    · simp only [if_neg e]
      obtain ⟨⟨dx, a⟩, _⟩ := R.ok j hj
      exact (R.ok j hj).kp k t (nin1 (ne_of a hq (by intro z; cases z))) (nin1 (R.dq j i hj hi e))
  · exact (R.mo j hj).kp k t (nin1 (fun z => R.dx i j hi hj z.symm))
theorem Rack.setm {i : Nat} {mn : List (Int × α)} (R : Rack enc K C H L1 L2 n p q md m m') (hi : i < n) (k : Kp [md i] H H') (t : TK H H') (h : DictAt enc K H' (md i) mn) :
    Rack enc K C H' L1 L2 n p q md m (fun j => if j = i then mn else m' j) := by
  obtain ⟨kvq, hq, _⟩ := R.mo i hi
  refine ⟨k _ _ (nin1 (ne_of R.l1 hq (by intro z; cases z))) R.l1, k _ _ (nin1 (ne_of R.l2 hq (by intro z; cases z))) R.l2, fun j hj => ?_, fun j hj => ?_, R.dq, R.dm, R.dx⟩
  · obtain ⟨⟨dx, a⟩, _⟩ := R.ok j hj
    exact (R.ok j hj).kp k t (nin1 (ne_of a hq (by intro z; cases z))) (nin1 (R.dx j i hj hi))
  · by_cases e : j = i
    · subst e
      simp only [if_true]
      exact h
    · simp only [if_neg e]
      exact (R.mo j hj).kp k t (nin1 (R.dm j i hj hi e))
/-- one more -/
theorem Rack.push {pn qn mdn : Addr} {mn : List (Int × α)} (R : Rack enc K C H L1 L2 n p q md m m') (k : Kp [L1, L2] H H') (t : TK H H') (h1 : H' L1 = some (.lst (((List.range n).map fun j => V.ref (p j)) ++ [V.ref pn]))) (h2 : H' L2 = some (.lst (((List.range n).map fun j => V.ref (md j)) ++ [V.ref mdn])))
    (hp : HoldAt enc K C H' pn qn mn) (hm : DictAt enc K H' mdn mn) (nq : H qn = none) (nm : H mdn = none) (nqm : qn ≠ mdn) :
    Rack enc K C H' L1 L2 (n + 1) (fun j => if j = n then pn else p j) (fun j => if j = n then qn else q j) (fun j => if j = n then mdn else md j) (fun j => if j = n then mn else m j) (fun j => if j = n then mn else m' j) := by
  have e1 : ∀ (f : Nat → Addr) (x : Addr), (List.range (n + 1)).map (fun j => V.ref (if j = n then x else f j)) = ((List.range n).map fun j => V.ref (f j)) ++ [V.ref x] := fun f x => by
    rw [List.range_succ, List.map_append, List.map_singleton, if_pos rfl]
    congr 1
    refine List.map_congr_left fun j hj => ?_
    rw [List.mem_range] at hj
    rw [if_neg (by omega)]
  have hq : ∀ j, j < n → q j ≠ qn ∧ q j ≠ mdn := fun j hj => by
    obtain ⟨_, kv, a, _⟩ := R.ok j hj
    exact ⟨ne_of_none a nq, ne_of_none a nm⟩
  have hmd : ∀ j, j < n → md j ≠ qn ∧ md j ≠ mdn := fun j hj => by
    obtain ⟨kv, a, _⟩ := R.mo j hj
    exact ⟨ne_of_none a nq, ne_of_none a nm⟩
  refine ⟨by rw [e1]; exact h1, by rw [e1]; exact h2, fun j hj => ?_, fun j hj => ?_, fun i j hi hj e => ?_, fun i j hi hj e => ?_, fun i j hi hj => ?_⟩
  · by_cases e : j = n
    · simp only [if_pos e]
      exact hp
    · simp only [if_neg e]
      obtain ⟨⟨dx, a⟩, kv, b, _⟩ := R.ok j (by omega)
      exact (R.ok j (by omega)).kp k t (nin2 (ne_of a R.l1 (by intro z; cases z)) (ne_of a R.l2 (by intro z; cases z))) (nin2 (ne_of b R.l1 (by intro z; cases z)) (ne_of b R.l2 (by intro z; cases z)))
  · by_cases e : j = n
    · simp only [if_pos e]
      exact hm
    · simp only [if_neg e]
      obtain ⟨kv, b, _⟩ := R.mo j (by omega)
      exact (R.mo j (by omega)).kp k t (nin2 (ne_of b R.l1 (by intro z; cases z)) (ne_of b R.l2 (by intro z; cases z)))
  · by_cases ei : i = n
    · have ej : ¬ j = n := by omega
      simp only [if_pos ei, if_neg ej]
      exact (hq j (by omega)).1.symm
    · by_cases ej : j = n
      · simp only [if_neg ei, if_pos ej]
        exact (hq i (by omega)).1
      · simp only [if_neg ei, if_neg ej]
        exact R.dq i j (by omega) (by omega) e
  · by_cases ei : i = n
    · have ej : ¬ j = n := by omega
      simp only [if_pos ei, if_neg ej]
      exact (hmd j (by omega)).2.symm
    · by_cases ej : j = n
      · simp only [if_neg ei, if_pos ej]
        exact (hmd i (by omega)).2
      · simp only [if_neg ei, if_neg ej]
        exact R.dm i j (by omega) (by omega) e
  · by_cases ei : i = n
    · by_cases ej : j = n
      · simp only [if_pos ei, if_pos ej]
        exact nqm
      · simp only [if_pos ei, if_neg ej]
        exact (hmd j (by omega)).1.symm
    · by_cases ej : j = n
      · simp only [if_neg ei, if_pos ej]
        exact (hq i (by omega)).2
      · simp only [if_neg ei, if_neg ej]
        exact R.dx i j (by omega) (by omega)
end
section
variable {α : Type} {enc : α → PyData} {K : PySem.W.Frag} {C : Addr} {H H' : Hp}
theorem HoldAt.lst {d p q : Addr} {zs : List V} {m : List (Int × α)} (h : HoldAt enc K C H p q m) (k : Kp [d] H H') (t : TK H H') (hd : H d = some (.lst zs)) : HoldAt enc K C H' p q m := by
  obtain ⟨⟨dx, a⟩, kv, b, _⟩ := id h
  exact h.kp k t (nin1 (ne_of a hd (by intro z; cases z))) (nin1 (ne_of b hd (by intro z; cases z)))
theorem HoldAt.same {p q : Addr} {m : List (Int × α)} (h : HoldAt enc K C H p q m) (s : Same H H') : HoldAt enc K C H' p q m :=
  h.kp (M := []) (Kp.of s) (TK.of s) (by simp) (by simp)
theorem DictAt.lst {d q : Addr} {zs : List V} {m : List (Int × α)} (h : DictAt enc K H q m) (k : Kp [d] H H') (t : TK H H') (hd : H d = some (.lst zs)) : DictAt enc K H' q m := by
  obtain ⟨kv, b, _⟩ := id h
  exact h.kp k t (nin1 (ne_of b hd (by intro z; cases z)))
theorem DictAt.same {q : Addr} {m : List (Int × α)} (h : DictAt enc K H q m) (s : Same H H') : DictAt enc K H' q m :=
  h.kp (M := []) (Kp.of s) (TK.of s) (by simp)
theorem Deck.same {d f : Addr} {n : Int} (h : Deck H d f n) (s : Same H H') : Deck H' d f n := h.kp (M := []) (Kp.of s) (by simp) (by simp)
/-- a dict beside was written -/
theorem Deck.dict {d f q : Addr} {n : Int} {m : List (Int × α)} (h : Deck H d f n) (k : Kp [q] H H') (hq : DictAt enc K H q m) : Deck H' d f n := by
  obtain ⟨kv, b, _⟩ := hq
  obtain ⟨zs, h1⟩ := h.lst
  obtain ⟨zf, h2⟩ := h.lst2
  exact h.kp k (nin1 (ne_of h1 b (by intro z; cases z))) (nin1 (ne_of h2 b (by intro z; cases z)))
variable {La Lb : Addr} {n : Nat} {p q md : Nat → Addr} {m m' : Nat → List (Int × α)}
/-- the k-th object's dict, the k-th dict and a list beside are others -/
theorem Rack.set2 {d : Addr} {zs : List V} {i : Nat} {mn mn' : List (Int × α)} (R : Rack enc K C H La Lb n p q md m m') (hi : i < n) (k : Kp [d, q i, md i] H H') (t : TK H H') (hd : H d = some (.lst zs)) (n1 : d ≠ La) (n2 : d ≠ Lb)
    (h : HoldAt enc K C H' (p i) (q i) mn) (h' : DictAt enc K H' (md i) mn') :
    Rack enc K C H' La Lb n p q md (fun j => if j = i then mn else m j) (fun j => if j = i then mn' else m' j) := by
  obtain ⟨_, kvq, hq, _⟩ := R.ok i hi
  obtain ⟨kvm, hm, _⟩ := R.mo i hi
  have nin : ∀ {x : Addr}, x ≠ d → x ≠ q i → x ≠ md i → x ∉ [d, q i, md i] := fun a b c z => by
    rcases List.mem_cons.mp z with z | z
    · exact a z
    · exact nin2 b c z
  refine ⟨k _ _ (nin n1.symm (ne_of R.l1 hq (by intro z; cases z)) (ne_of R.l1 hm (by intro z; cases z))) R.l1, k _ _ (nin n2.symm (ne_of R.l2 hq (by intro z; cases z)) (ne_of R.l2 hm (by intro z; cases z))) R.l2, fun j hj => ?_, fun j hj => ?_, R.dq, R.dm, R.dx⟩
  · by_cases e : j = i
    · subst e
      simp only [if_true]
      exact h
    · simp only [if_neg e]
      obtain ⟨⟨dx, a⟩, kv, b, _⟩ := R.ok j hj
      exact (R.ok j hj).kp k t (nin (ne_of a hd (by intro z; cases z)) (ne_of a hq (by intro z; cases z)) (ne_of a hm (by intro z; cases z))) (nin (ne_of b hd (by intro z; cases z)) (R.dq j i hj hi e) (R.dx j i hj hi))
  · by_cases e : j = i
    · subst e
      simp only [if_true]
      exact h'
    · simp only [if_neg e]
      obtain ⟨kv, b, _⟩ := R.mo j hj
      exact (R.mo j hj).kp k t (nin (ne_of b hd (by intro z; cases z)) (fun z => R.dx i j hi hj z.symm) (R.dm j i hj hi e))
end
theorem at3 {x y z : V} {r : Int} (h0 : 0 ≤ r) (h1 : r < 3) : ∃ v, atI [x, y, z] r = some v ∧ (v = x ∨ v = y ∨ v = z) := by
  have h : r = 0 ∨ r = 1 ∨ r = 2 := by omega
  rcases h with rfl | rfl | rfl
  · exact ⟨x, rfl, .inl rfl⟩
  · exact ⟨y, rfl, .inr (.inl rfl)⟩
  · exact ⟨z, rfl, .inr (.inr rfl)⟩
theorem at5 {a b c d e : Int} {r : Int} (h0 : 0 ≤ r) (h1 : r < 5) : ∃ v : Int, atI [V.int a, .int b, .int c, .int d, .int e] r = some (.int v) := by
  have h : r = 0 ∨ r = 1 ∨ r = 2 ∨ r = 3 ∨ r = 4 := by omega
  rcases h with rfl | rfl | rfl | rfl | rfl <;> exact ⟨_, rfl⟩
theorem atR {n : Nat} {f : Nat → Addr} {r : Int} (h0 : 0 ≤ r) (h1 : r < n) : atI ((List.range n).map fun j => V.ref (f j)) r = some (.ref (f r.toNat)) := by
  have e : ((r.toNat : Nat) : Int) = r := by omega
  have := atI_nat (xs := (List.range n).map fun j => V.ref (f j)) (j := r.toNat) (v := .ref (f r.toNat)) (by
    rw [List.getElem?_map, List.getElem?_range (by omega)]
    rfl)
  rw [e] at this
  exact this
def spLaw (K : PySem.W.Frag) : Sp := fun vs H Q _ => ∃ (a : Addr) (ns : List Int), vs = [.ref a] ∧ SqL K H a (ns.map V.int) ∧ ns.length ≤ 63 ∧ ∀ H', Q (.bl true) H'
/-! ### lists of data -/
def LstAt (K : PySem.W.Frag) (H : Hp) (a : Addr) (ds : List PyData) : Prop := ∃ xs, H a = some (.lst xs) ∧ RpL K H ds xs
section
variable {K : PySem.W.Frag} {H H' : Hp}
theorem LstAt.kp {M : List Addr} {a : Addr} {ds : List PyData} (h : LstAt K H a ds) (k : Kp M H H') (t : TK H H') (n : a ∉ M) : LstAt K H' a ds := by
  obtain ⟨xs, h1, h2⟩ := h
  exact ⟨xs, k _ _ n h1, RpL.tk t _ _ h2⟩
theorem LstAt.same {a : Addr} {ds : List PyData} (h : LstAt K H a ds) (s : Same H H') : LstAt K H' a ds := h.kp (M := []) (Kp.of s) (TK.of s) (by simp)
theorem LstAt.lst {a : Addr} {ds : List PyData} (h : LstAt K H a ds) : ∃ zs, H a = some (.lst zs) := ⟨_, h.choose_spec.1⟩
theorem RpL.app : ∀ {ds es : List PyData} {xs ys : List V}, RpL K H ds xs → RpL K H es ys → RpL K H (ds ++ es) (xs ++ ys)
  | [], es, xs, ys, h1, h2 => by
    unfold RpL at h1
    subst h1
    exact h2
  | d :: ds, es, xs, ys, h1, h2 => by
    unfold RpL at h1
    obtain ⟨v, r, rfl, a, b⟩ := h1
    show RpL K H (d :: (ds ++ es)) (v :: (r ++ ys))
    exact RpL.cons a (RpL.app b h2)
theorem RpL.take : ∀ (k : Nat) {ds : List PyData} {xs : List V}, RpL K H ds xs → RpL K H (ds.take k) (xs.take k)
  | 0, ds, xs, _ => by
    rw [List.take_zero, List.take_zero]
    exact RpL.nil
  | k + 1, [], xs, h => by
    unfold RpL at h
    subst h
    exact RpL.nil
  | k + 1, d :: ds, xs, h => by
    unfold RpL at h
    obtain ⟨v, r, rfl, a, b⟩ := h
    exact RpL.cons a (RpL.take k b)
theorem RpL.drop : ∀ (k : Nat) {ds : List PyData} {xs : List V}, RpL K H ds xs → RpL K H (ds.drop k) (xs.drop k)
  | 0, ds, xs, h => h
  | k + 1, [], xs, h => by
    unfold RpL at h
    subst h
    exact RpL.nil
  | k + 1, d :: ds, xs, h => by
    unfold RpL at h
    obtain ⟨v, r, rfl, a, b⟩ := h
    exact RpL.drop k b
theorem inV_int {k : Int} : ∀ ns : List Int, inV (.int k) (ns.map V.int) = decide (k ∈ ns)
  | [] => by simp [inV]
  | n :: ns => by
    have h := inV_int (k := k) ns
    unfold inV at h ⊢
    rw [List.map_cons, List.any_cons, h]
    show ((n == k) || _) = _
    by_cases e : n = k
    · simp [e]
    · have e2 : ¬ k = n := fun z => e z.symm
      simp [e, e2]
theorem flat_ints (ns : List Int) : (ns.map V.int).all flatV = true := by
  rw [List.all_eq_true]
  intro x hx
  obtain ⟨n, _, rfl⟩ := List.mem_map.mp hx
  rfl
theorem set_wipe {σ : L2.St} {i : Nat} {x : Option V} : (wipe σ [i]).set i x = σ.set i x := by
  show (σ.set i none).set i x = _
  rw [List.set_set]
theorem wipe_set {σ : L2.St} {i : Nat} {x : Option V} : wipe (σ.set i x) [i] = wipe σ [i] := by
  show (σ.set i x).set i none = σ.set i none
  rw [List.set_set]
/-- [x for x in xs if test] -/
theorem filt_lc {β : Type} {enc : β → PyData} {tt : TT} {i : Nat} {σ : L2.St} {H2 : Hp} {S D : Addr} {xs : List V} {L : List β} {Qd : Hp → Prop} (p : β → Bool) (hS : H2 S = some (.lst xs)) (hr : RpL K H2 (L.map enc) xs) (hD : H2 D = none) (hσ : i < σ.length) (hl : L.length ≤ 1000000)
    (htt : ∀ (b : β) (x : V) (H' : Hp) (Q : Bool → Hp → Prop), b ∈ L → Rp K H' (enc b) x → Same H2 H' → Q (p b) H' → tt (σ.set i (some x)) H' Q)
    (hd : ∀ (H' : Hp) (ys : List V), Same H2 H' → H' D = some (.lst ys) → RpL K H' ((L.filter p).map enc) ys → Qd H') :
    ∃ W : Nat → Nat → Hp → Prop, (∃ m, W 0 m (upd H2 D (.lst []))) ∧ ∀ j m H, W j m H →
      ((Itl K S).stop j H ∧ Qd H) ∨ ((Itl K S).go j H ∧ ∃ Nx : Hp → Prop, (∀ H', Nx H' → ∃ m', m' < m ∧ W (j + 1) m' H') ∧ ∀ x H', (Itl K S).yld j H x H' → gName i x (wipe σ [i]) H' fun σ2 H2 => wipe σ2 [i] = wipe σ [i] ∧ tt σ2 H2 fun b H3 =>
        if b = true then tVar i σ2 H3 fun y H4 => ∃ acc, H4 D = some (.lst acc) ∧ acc.length < sizeLine ∧ Nx (upd H4 D (.lst (acc ++ [y]))) else Nx H3) := by
  refine lc_list (K := K) (a := S) (xs := xs) (fun j H => ∃ ys, Same H2 H ∧ H D = some (.lst ys) ∧ RpL K H (((L.take j).filter p).map enc) ys)
    ⟨[], (L2.Same.refl H2).new hD, upd_same, RpL.nil⟩ (fun j H _ ⟨ys, s, _, _⟩ => SqL.of (s _ _ hS)) ?_ ?_
  · rintro j x H3 hx ⟨ys, s3, hD3, hr3⟩
    have hlen := RpL.len _ _ hr
    have hj : j < L.length := by
      have q := (List.getElem?_eq_some_iff.mp hx).1
      rw [hlen, List.length_map] at q
      exact q
    obtain ⟨v, ev, rv⟩ := RpL.get _ _ hr j (enc L[j]) (by rw [List.getElem?_map, List.getElem?_eq_getElem hj]; rfl)
    have ex : v = x := Option.some.inj (ev.symm.trans hx)
    rw [ex] at rv
    have rx := Rp.tk (TK.of s3) _ _ rv
    show wipe ((wipe σ [i]).set i (some x)) [i] = wipe σ [i] ∧ _
    rw [set_wipe]
    refine ⟨wipe_set, ?_⟩
    have hly : ys.length < sizeLine := by
      have := RpL.len _ _ hr3
      rw [List.length_map] at this
      have h2 := List.length_filter_le p (L.take j)
      rw [List.length_take] at h2
      exact Nat.lt_of_le_of_lt (show ys.length ≤ 1000000 by omega) (by decide)
    refine htt L[j] x H3 _ (List.getElem_mem hj) rx s3 ?_
    have et : L.take (j + 1) = L.take j ++ [L[j]] := List.take_succ_eq_append_getElem hj
    cases e : p L[j] with
    | false =>
      refine iteF ⟨ys, s3, hD3, ?_⟩
      rw [et, List.filter_append, List.filter_cons, e]
      simpa using hr3
    | true =>
      refine iteT ⟨x, ?_, ys, hD3, hly, ys ++ [x], s3.wrn hD, upd_same, ?_⟩
      · rw [List.getElem?_set_self hσ]
      · have tE : TK H3 (upd H3 D (.lst (ys ++ [x]))) := (TK.refl _).wr hD3 rfl
        rw [et, List.filter_append, List.filter_cons, e, List.map_append]
        exact RpL.app (RpL.tk tE _ _ hr3) (RpL.cons (Rp.tk tE _ _ rx) RpL.nil)
  · rintro H3 ⟨ys, s3, hD3, hr3⟩
    have hlen := RpL.len _ _ hr
    rw [hlen, List.length_map, List.take_length] at hr3
    exact hd H3 ys s3 hD3 hr3
/-- [number of x for x in xs] -/
theorem mapI_lc {β : Type} {enc : β → PyData} {te : TE} {i : Nat} {σ : L2.St} {H2 : Hp} {S D : Addr} {xs : List V} {L : List β} {Qd : Hp → Prop} (f : β → Int) (hS : H2 S = some (.lst xs)) (hr : RpL K H2 (L.map enc) xs) (hD : H2 D = none) (hl : L.length ≤ 1000000)
    (hte : ∀ (b : β) (x : V) (H' : Hp) (Q : VK), b ∈ L → Rp K H' (enc b) x → Same H2 H' → Q (.int (f b)) H' → te (σ.set i (some x)) H' Q)
    (hd : ∀ (H' : Hp), Same H2 H' → H' D = some (.lst ((L.map f).map V.int)) → Qd H') :
    ∃ W : Nat → Nat → Hp → Prop, (∃ m, W 0 m (upd H2 D (.lst []))) ∧ ∀ j m H, W j m H →
      ((Itl K S).stop j H ∧ Qd H) ∨ ((Itl K S).go j H ∧ ∃ Nx : Hp → Prop, (∀ H', Nx H' → ∃ m', m' < m ∧ W (j + 1) m' H') ∧ ∀ x H', (Itl K S).yld j H x H' → gName i x (wipe σ [i]) H' fun σ2 H2 => wipe σ2 [i] = wipe σ [i] ∧ tYes σ2 H2 fun b H3 =>
        if b = true then te σ2 H3 fun y H4 => ∃ acc, H4 D = some (.lst acc) ∧ acc.length < sizeLine ∧ Nx (upd H4 D (.lst (acc ++ [y]))) else Nx H3) := by
  refine lc_list (K := K) (a := S) (xs := xs) (fun j H => Same H2 H ∧ H D = some (.lst (((L.take j).map f).map V.int)))
    ⟨(L2.Same.refl H2).new hD, upd_same⟩ (fun j H _ ⟨s, _⟩ => SqL.of (s _ _ hS)) ?_ ?_
  · rintro j x H3 hx ⟨s3, hD3⟩
    have hlen := RpL.len _ _ hr
    have hj : j < L.length := by
      have q := (List.getElem?_eq_some_iff.mp hx).1
      rw [hlen, List.length_map] at q
      exact q
    obtain ⟨v, ev, rv⟩ := RpL.get _ _ hr j (enc L[j]) (by rw [List.getElem?_map, List.getElem?_eq_getElem hj]; rfl)
    have ex : v = x := Option.some.inj (ev.symm.trans hx)
    rw [ex] at rv
    have rx := Rp.tk (TK.of s3) _ _ rv
    show wipe ((wipe σ [i]).set i (some x)) [i] = wipe σ [i] ∧ _
    rw [set_wipe]
    refine ⟨wipe_set, tYes_t (iteT ?_)⟩
    refine hte L[j] x H3 _ (List.getElem_mem hj) rx s3 ⟨_, hD3, ?_, s3.wrn hD, ?_⟩
    · rw [List.length_map, List.length_map, List.length_take]
      exact Nat.lt_of_le_of_lt (show min j L.length ≤ 1000000 by omega) (by decide)
    · rw [upd_same, List.take_succ_eq_append_getElem hj, List.map_append, List.map_append]
      rfl
  · rintro H3 ⟨s3, hD3⟩
    have hlen := RpL.len _ _ hr
    rw [hlen, List.length_map, List.take_length] at hD3
    exact hd H3 s3 hD3
end
section
variable {K : PySem.W.Frag} {H H' : Hp}
/-- [e for x in xs], each e data -/
theorem mapD_it {J : It} {G : Hp → Prop} {β : Type} {enc : β → PyData} {te : TE} {i : Nat} {σ : L2.St} {H2 : Hp} {D : Addr} {xs : List V} {L : List β} {Qd : Hp → Prop} (w : Walk J xs.length G (YAt xs)) (hG : ∀ H', Same H2 H' → G H') (g : β → PyData) (hr : RpL K H2 (L.map enc) xs) (hD : H2 D = none) (hl : L.length ≤ 1000000)
    (hte : ∀ (b : β) (x : V) (H' : Hp) (Q : VK), b ∈ L → Rp K H' (enc b) x → Same H2 H' → (∀ (H'' : Hp) (y : V), Same H' H'' → Rp K H'' (g b) y → Q y H'') → te (σ.set i (some x)) H' Q)
    (hd : ∀ (H' : Hp) (ys : List V), Same H2 H' → H' D = some (.lst ys) → RpL K H' (L.map g) ys → Qd H') :
    ∃ W : Nat → Nat → Hp → Prop, (∃ m, W 0 m (upd H2 D (.lst []))) ∧ ∀ j m H, W j m H →
      (J.stop j H ∧ Qd H) ∨ (J.go j H ∧ ∃ Nx : Hp → Prop, (∀ H', Nx H' → ∃ m', m' < m ∧ W (j + 1) m' H') ∧ ∀ x H', J.yld j H x H' → gName i x (wipe σ [i]) H' fun σ2 H2 => wipe σ2 [i] = wipe σ [i] ∧ tYes σ2 H2 fun b H3 =>
        if b = true then te σ2 H3 fun y H4 => ∃ acc, H4 D = some (.lst acc) ∧ acc.length < sizeLine ∧ Nx (upd H4 D (.lst (acc ++ [y]))) else Nx H3) := by
  refine lc_it w (fun j H => ∃ ys, Same H2 H ∧ H D = some (.lst ys) ∧ RpL K H ((L.take j).map g) ys)
    ⟨[], (L2.Same.refl H2).new hD, upd_same, RpL.nil⟩ (fun j H _ ⟨ys, s, _⟩ => hG H s) ?_ ?_
  · rintro j x H3 H3' hj ⟨ys, s3, hD3, hr3⟩ ⟨rfl, hx⟩
    have hlen := RpL.len _ _ hr
    rw [List.length_map] at hlen
    have hj : j < L.length := by omega
    obtain ⟨v, ev, rv⟩ := RpL.get _ _ hr j (enc L[j]) (by rw [List.getElem?_map, List.getElem?_eq_getElem hj]; rfl)
    have ex : v = x := Option.some.inj (ev.symm.trans hx)
    rw [ex] at rv
    have rx := Rp.tk (TK.of s3) _ _ rv
    show wipe ((wipe σ [i]).set i (some x)) [i] = wipe σ [i] ∧ _
    rw [set_wipe]
    refine ⟨wipe_set, tYes_t (iteT ?_)⟩
    refine hte L[j] x H3' _ (List.getElem_mem hj) rx s3 fun H4 y s4 ry => ⟨ys, s4 _ _ hD3, ?_, ys ++ [y], (s3.trans s4).wrn hD, upd_same, ?_⟩
    · have := RpL.len _ _ hr3
      rw [List.length_map, List.length_take] at this
      exact Nat.lt_of_le_of_lt (show ys.length ≤ 1000000 by omega) (by decide)
    · have tE : TK H4 (upd H4 D (.lst (ys ++ [y]))) := (TK.refl _).wr (s4 _ _ hD3) rfl
      rw [List.take_succ_eq_append_getElem hj, List.map_append]
      exact RpL.app (RpL.tk ((TK.of s4).trans tE) _ _ hr3) (RpL.cons (Rp.tk tE _ _ ry) RpL.nil)
  · rintro H3 ⟨ys, s3, hD3, hr3⟩
    have hlen := RpL.len _ _ hr
    rw [hlen, List.length_map, List.take_length] at hr3
    exact hd H3 ys s3 hD3 hr3
theorem RpL.ints : ∀ {ns : List Int} {ys : List V}, RpL K H (ns.map PyData.int) ys → ys = ns.map V.int
  | [], ys, h => by
    unfold List.map RpL at h
    exact h
  | n :: ns, ys, h => by
    rw [List.map_cons] at h
    unfold RpL at h
    obtain ⟨v, r, rfl, h1, h2⟩ := h
    unfold Rp at h1
    rw [RpL.ints h2, h1]
    rfl
theorem dp_ints : ∀ (ns : List Int), DpAll K H (ns.map V.int) (ns.map PyData.int)
  | [] => .nil
  | n :: ns => .cons (.int n) (dp_ints ns)
theorem LstAt.dict {α : Type} {enc : α → PyData} {a q : Addr} {ds : List PyData} {m : List (Int × α)} (h : LstAt K H a ds) (k : Kp [q] H H') (t : TK H H') (hq : DictAt enc K H q m) : LstAt K H' a ds := by
  obtain ⟨xs, h1, _⟩ := id h
  obtain ⟨kv, h2, _⟩ := hq
  exact h.kp k t (nin1 (ne_of h1 h2 (by intro z; cases z)))
theorem dep_ints (ns : List Int) : dep (.tuple (ns.map PyData.int)) ≤ 1 := by
  unfold dep
  have := deps_map_le (c := 0) (f := PyData.int) ns fun x _ => Nat.le_refl _
  omega
end
section
variable {K : PySem.W.Frag} {H H' : Hp}
/-- [e for i in range(..)], each e data -/
theorem mapR_it {J : It} {n : Nat} {fv : Nat → V} {te : TE} {i : Nat} {σ : L2.St} {H2 : Hp} {D : Addr} {Qd : Hp → Prop} (w : Walk J n (fun _ => True) (YFn fv)) (g : Nat → PyData) (hD : H2 D = none) (hl : n ≤ 1000000)
    (hte : ∀ (j : Nat) (H' : Hp) (Q : VK), j < n → Same H2 H' → (∀ (H'' : Hp) (y : V), Same H' H'' → Rp K H'' (g j) y → Q y H'') → te (σ.set i (some (fv j))) H' Q)
    (hd : ∀ (H' : Hp) (ys : List V), Same H2 H' → H' D = some (.lst ys) → RpL K H' ((List.range n).map g) ys → Qd H') :
    ∃ W : Nat → Nat → Hp → Prop, (∃ m, W 0 m (upd H2 D (.lst []))) ∧ ∀ j m H, W j m H →
      (J.stop j H ∧ Qd H) ∨ (J.go j H ∧ ∃ Nx : Hp → Prop, (∀ H', Nx H' → ∃ m', m' < m ∧ W (j + 1) m' H') ∧ ∀ x H', J.yld j H x H' → gName i x (wipe σ [i]) H' fun σ2 H2 => wipe σ2 [i] = wipe σ [i] ∧ tYes σ2 H2 fun b H3 =>
        if b = true then te σ2 H3 fun y H4 => ∃ acc, H4 D = some (.lst acc) ∧ acc.length < sizeLine ∧ Nx (upd H4 D (.lst (acc ++ [y]))) else Nx H3) := by
  refine lc_it w (fun j H => ∃ ys, Same H2 H ∧ H D = some (.lst ys) ∧ RpL K H ((List.range j).map g) ys)
    ⟨[], (L2.Same.refl H2).new hD, upd_same, RpL.nil⟩ (fun j H _ _ => trivial) ?_ ?_
  · rintro j x H3 H3' hj ⟨ys, s3, hD3, hr3⟩ ⟨rfl, rfl⟩
    show wipe ((wipe σ [i]).set i (some (fv j))) [i] = wipe σ [i] ∧ _
    rw [set_wipe]
    refine ⟨wipe_set, tYes_t (iteT ?_)⟩
    refine hte j H3' _ hj s3 fun H4 y s4 ry => ⟨ys, s4 _ _ hD3, ?_, ys ++ [y], (s3.trans s4).wrn hD, upd_same, ?_⟩
    · have := RpL.len _ _ hr3
      rw [List.length_map, List.length_range] at this
      exact Nat.lt_of_le_of_lt (show ys.length ≤ 1000000 by omega) (by decide)
    · have tE : TK H4 (upd H4 D (.lst (ys ++ [y]))) := (TK.refl _).wr (s4 _ _ hD3) rfl
      rw [List.range_succ, List.map_append]
      exact RpL.app (RpL.tk ((TK.of s4).trans tE) _ _ hr3) (RpL.cons (Rp.tk tE _ _ ry) RpL.nil)
  · rintro H3 ⟨ys, s3, hD3, hr3⟩
    exact hd H3 ys s3 hD3 hr3
end
end Wn

namespace Wn
open PySem PySem.Spec PyProof.Rows L2
/-- enumerate of a text: each sign in a new pair -/
def ItsE (x : Str) : It :=
  ⟨fun i _ => i < x.cps.size, fun i H v H' => ∃ T c, v = .ref T ∧ H T = none ∧ H' = upd H T (.tup [.int (i : Nat), .str ⟨#[c]⟩]) ∧ x.cps[i]? = some c, fun i _ => x.cps.size ≤ i⟩
theorem turn_enumS {P : Program} {w : World} {K : PySem.W.Frag} {elts : List Expr} {kk : Nat} {tpos : Pos} (e it : Addr) (x : Str) (t : Tok) (ty : String) (hty : ty = "str_ascii_iterator" ∨ ty = "str_iterator") :
    Turn P w K (.Tuple elts kk tpos) (ItsE x) [e, it] e (fun i h => (∃ old, IsEnum h e it ((i : Nat) : Int) old) ∧ h.IsStrIter it ty x t i ∧ e ≠ it) where
  mem := by simp
  obj := fun i h st b hb => by
    obtain ⟨⟨old, he⟩, ⟨o, ho, hc, hd⟩, _⟩ := st
    have e' : b = e ∨ b = it := by simpa using hb
    rcases e' with z | z
    · rw [z]; exact ⟨_, he, fun v q => nomatch q⟩
    · rw [z]; exact ⟨o, ho, fun v q => by rw [hd] at q; cases q⟩
  keep := fun i h h' st k => let ⟨⟨old, he⟩, ⟨o, ho, r⟩, hne⟩ := st; ⟨⟨old, k e (by simp) _ he⟩, ⟨o, k it (by simp) o ho, r⟩, hne⟩
  item := by
    intro X hP hw hK hc i pins s σ H E I hf st hg
    subst hP hw hK
    obtain ⟨⟨old, he⟩, hit, hne⟩ := st
    have hh : X.A.in1.handled = none := I.ok.hd hc
    have hel : e < s.heap.objs.size := Heap.lt_size he
    have hil : it < s.heap.objs.size := by obtain ⟨_, q, _⟩ := hit; exact Heap.lt_size q
    have D : Draws X.prog X.w X.A.in1 it [it] x.cps.size (fun i v => ∃ c u, x.cps[i]? = some c ∧ v = .str ⟨#[c]⟩ u) (fun i h => h.IsStrIter it ty x t i) := by
      rcases hty with z | z
      · rw [z]; exact Draws.strAscii hh it x t
      · rw [z]; exact Draws.strWide hh it x t
    refine wpAny_pyNext_enum_itemD D he hit hg hne (by simpa using hne) fun v h' tk hv ho hit' hT hsz hk => ?_
    obtain ⟨c, u, hcx, rfl⟩ := hv
    refine ⟨_, rfl, wpAny_letOwnedTupleGo_enum (s := { s with heap := h', toks := tk + 1 }) ho fun h'' he' sb => ?_⟩
    have hT2 : h''.get? s.heap.objs.size = some { cls := .type "tuple", data := .seq #[.int i tk, .str ⟨#[c]⟩ u] } := (sb.2 _ (Nat.ne_of_gt hel)).trans hT
    have new : ObjOk X.prog X.w (upd H s.heap.objs.size (.tup [.int (i : Nat), .str ⟨#[c]⟩])) h'' s.heap.objs.size (.tup [.int (i : Nat), .str ⟨#[c]⟩]) :=
      ⟨by show 2 ≤ sizeLine; decide, [.int i tk, .str ⟨#[c]⟩ u], .cons ⟨_, rfl⟩ (.cons ⟨_, rfl⟩ .nil), ⟨_, hT2, rfl, _, rfl⟩⟩
    have I1 : Inv X pins σ (upd H s.heap.objs.size (.tup [.int (i : Nat), .str ⟨#[c]⟩])) { s with heap := h'', toks := tk + 1 } :=
      I.turnedNew (ch := [e, it]) (fun b ob hb q => (sb.2 b (fun z => hb (by simp [z]))).trans (hk b ob (fun z => hb (by simp [z])) (fun z => hb (by simp [z])) q)) hf (Nat.le_refl _) new
    refine ⟨.ref s.heap.objs.size, _, I1, rfl, ⟨_, c, rfl, I.hok.fresh (Nat.le_refl _), rfl, hcx⟩, ⟨⟨.str ⟨#[c]⟩ u, ?_⟩, ?_, hne⟩, fun b hb => ?_⟩
    · have e1 : ((i + 1 : Nat) : Int) = (i : Int) + 1 := by omega
      rw [e1]; exact he'
    · obtain ⟨o, q, r⟩ := hit'
      exact ⟨o, (sb.2 it (Ne.symm hne)).trans q, r⟩
    · have hb' : b < s.heap.objs.size := by
        have e' : b = e ∨ b = it := by simpa using hb
        rcases e' with z | z
        · rw [z]; exact hel
        · rw [z]; exact hil
      rw [upd_ne (Nat.ne_of_lt hb')]
      exact (hf b hb).1
  done := by
    intro X hP hw hK hc i pins s σ H E I hf st hg
    subst hP hw hK
    obtain ⟨⟨old, he⟩, hit, hne⟩ := st
    have hh : X.A.in1.handled = none := I.ok.hd hc
    obtain ⟨f0, f1, f2, f3, f4, f5⟩ := hf it (by simp)
    have D : Draws X.prog X.w X.A.in1 it [it] i (fun i v => False) (fun j h => j = i ∧ h.IsStrIter it ty x t i) := by
      refine ⟨fun _ _ st => let ⟨o, ho, _⟩ := st.2; ⟨o, ho⟩, fun _ _ _ st hk => let ⟨o, ho, r⟩ := st.2; ⟨st.1, o, hk it (by simp) o ho, r⟩, fun j s Q E hj st => absurd st.1 (Nat.ne_of_lt hj), fun s Q E st hE => ?_⟩
      have hx : x.cps[i]? = none := Array.getElem?_eq_none hg
      have st2 := st.2
      rcases hty with z | z
      · rw [z] at st2; exact wpAny_nextOf_ascii_end hh st2 hx hE
      · rw [z] at st2; exact wpAny_nextOf_wide_end hh st2 hx hE
    exact wpAny_pyNext_enum_endD D he ⟨rfl, hit⟩ fun h' eb => ⟨rfl, I.turned (t' := s.toks) (fun b o hb q => eb b o hb q) f0 f1 f3 f4 f5⟩
  self := fun A i s Q E st h => let ⟨⟨_, he⟩, _⟩ := st; wpAny_pyIter_enum he h
def iEnumS (ta : TA) : TI := fun σ H R => ta σ H fun vs H1 => ∃ x, vs = [.str x] ∧ R (ItsE x) H1
theorem pi_enumS {X : Cx} {e : Expr} {ta : TA} {p pos tpos : Pos} {elts : List Expr} {kk : Nat} (hg : Gl X "enumerate") (hm : X.mg "enumerate" = none) (ha : PA X [e] ta) (hs : starEach [e] X.env = [(false, eval e X.env)] := by rfl) :
    PI X (.Tuple elts kk tpos) (.Call (.Name "enumerate" p) [e] [] pos) (iEnumS ta) := by
  refine ⟨fun pins s σ H R I h => ?_⟩
  refine Call_ (ld_blt I hg hm boot_enumerate (PyProof.Rows.callWith_type1 (thn (ha.run pos pins s σ H _ I h) fun us s1 ⟨vs, H1, I1, r1, q1⟩ => ?_) hs rfl))
  obtain ⟨x, ex, q⟩ := q1
  subst ex
  cases r1 with
  | cons r rr =>
    cases rr
    obtain ⟨t, rfl⟩ := r
    refine call_enumerate_str fun h' he hit hsz hk => wpAny_pyIter_enum he ?_
    have I2 : Inv X pins σ H1 { s1 with heap := h' } := I1.kept (t' := s1.toks) hk
    refine ⟨s1.heap.objs.size + 1, [s1.heap.objs.size + 1, s1.heap.objs.size], _, _, H1, rfl, I2, turn_enumS (s1.heap.objs.size + 1) s1.heap.objs.size x t (strIterType x) ?_, ⟨⟨.none, he⟩, hit, Nat.succ_ne_self _⟩, fun b hb => ?_, q⟩
    · unfold strIterType
      split
      · exact .inl rfl
      · exact .inr rfl
    have e' : b = s1.heap.objs.size + 1 ∨ b = s1.heap.objs.size := by simpa using hb
    have hle : s1.heap.objs.size ≤ b := by
      rcases e' with z | z
      · rw [z]; exact Nat.le_add_right _ _
      · rw [z]; exact Nat.le_refl _
    exact I1.fpOk hle (I1.hok.fresh hle)
theorem walk_enumS {x : Str} : Walk (ItsE x) x.cps.size (fun _ => True) (fun i H v H' => ∃ T c, v = .ref T ∧ H T = none ∧ H' = upd H T (.tup [.int (i : Nat), .str ⟨#[c]⟩]) ∧ x.cps[i]? = some c) :=
  ⟨fun _ _ hi _ => hi, fun _ _ => Nat.le_refl _, fun _ _ _ _ _ _ y => y⟩
end Wn

namespace Wn
open PySem L2
open SX (S S_len S_cat S_beq_eq join_S)
theorem joinK {X : Cx} {K : PySem.W.Frag} {o e : Expr} {to te : TE} {apos pos : Pos} (hK : X.K = K) (ho : PE X o to) (he : PE X e te) (hs : starEach [e] X.env = [(false, eval e X.env)] := by rfl) (hbase : attributeBase o "join" X.env (eval o X.env) = eval o X.env := by rfl) (hline : (apos.endLine == pos.line) = true := by rfl) :
    PE X (.Call (.Attribute o "join" apos) [e] [] pos) (tM1 (fun x xs H Q => ∃ a p, ∃ ys : List Str, x = .str a ∧ xs = [.ref p] ∧ (SqL K H p (ys.map V.str) ∨ SqT K H p (ys.map V.str)) ∧
      (ys.map (·.length)).sum + ys.length * a.length ≤ 16777216 ∧ Q (.str (Txt.join a ys)) H) to te) := hK ▸ pe_join ho he hs hbase hline
theorem drop_min {cs : List Nat} {a b : Nat} : (cs.drop (min a cs.length)).take (min b cs.length - min a cs.length) = (cs.drop a).take (b - a) := by
  by_cases h : a ≤ cs.length
  · rw [Nat.min_eq_left h]
    by_cases h2 : b ≤ cs.length
    · rw [Nat.min_eq_left h2]
    · rw [Nat.min_eq_right (by omega), List.take_of_length_le (by rw [List.length_drop]; exact Nat.le_refl _), List.take_of_length_le (by rw [List.length_drop]; omega)]
  · rw [show min a cs.length = cs.length by omega, List.drop_of_length_le (Nat.le_refl _), List.drop_of_length_le (show cs.length ≤ a by omega), List.take_nil, List.take_nil]
theorem cutS_S (cs : List Nat) (a b : Nat) : cutS (S cs) (some (a : Int)) (some (b : Int)) = S ((cs.drop a).take (b - a)) := by
  unfold cutS
  rw [HT.sIx_nat, HT.sIx_nat, S_len, drop_min]
theorem joinL_nil : ∀ ls : List (List Nat), TL.joinL [] ls = ls.flatten
  | [] => rfl
  | [p] => by
    show p = List.flatten [p]
    simp
  | p :: q :: r => by
    show p ++ ([] ++ TL.joinL [] (q :: r)) = _
    rw [List.nil_append, joinL_nil (q :: r)]
    rfl
/-- a list of signs, joined -/
theorem join_signs (cs : List Nat) : Txt.join (S []) (cs.map fun c => S [c]) = S cs := by
  rw [show (cs.map fun c => S [c]) = (cs.map fun c => [c]).map S by rw [List.map_map]; rfl, join_S, joinL_nil]
  congr 1
  induction cs with
  | nil => rfl
  | cons c cs ih =>
    show [c] ++ (cs.map fun c => [c]).flatten = c :: cs
    rw [ih]
    rfl
theorem sum_signs (cs : List Nat) : (((cs.map fun c => S [c]).map (·.length)).sum : Nat) = cs.length := by
  induction cs with
  | nil => rfl
  | cons c cs ih =>
    rw [List.map_cons, List.map_cons, List.sum_cons, ih, List.length_cons, S_len, List.length_singleton]
    omega
def OkSign (c : Nat) : Prop := 32 ≤ c ∧ c ≤ 126 ∧ c ≠ 37
def spSign : Sp := fun vs H Q _ => ∃ (d f : Addr) (n : Int), vs = [.ref d] ∧ Deck H d f n ∧ n < 2 ^ 60 ∧
  ∀ (c : Nat) (H' : Hp), OkSign c → Kp [d] H H' → Deck H' d f (n + 1) → Q (.str (S [c])) H'
def spText : Sp := fun vs H Q _ => ∃ (d f : Addr) (n most : Int), vs = [.ref d, .int most] ∧ Deck H d f n ∧ n < 2 ^ 59 ∧ 0 ≤ most ∧ most ≤ 100000 ∧
  ∀ (cs : List Nat) (H' : Hp), (cs.length : Int) ≤ most → (∀ c ∈ cs, OkSign c) → Kp [d] H H' → Deck H' d f (n + 1 + most) → Q (.str (S cs)) H'
end Wn

namespace Wn
open PySem L2
def top (i : Nat) : Stmt := PySem.Challenge.pw_wrapnets_k24_whole_put_together.main.body.getD i (.Pass ⟨0, 0, 0, 0⟩)
abbrev sMixed : Stmt := top 8
abbrev sDeck : Stmt := top 9
abbrev sNext : Stmt := top 10
abbrev sSame : Stmt := top 11
section
variable {P : Program} {w : World} {K : PySem.W.Frag} {mg : Str → Option Value} {base : Heap}
theorem scMixed : FnScope ["_law_cell", "_law_at", "_law_one"] ["_law_cell", "_law_at"] (defScope sMixed) := ⟨rfl, rfl, rfl, by decide +kernel, rfl, by decide +kernel, by decide +kernel⟩
theorem ok_mixed {f : Addr} {fd : FuncData} (F : Fun K "_law_mixed" "_law_mixed" sMixed f fd) : FnOk P w K mg base CX0 1 f fd ["_law_cell", "_law_at"] spMixed := by
  refine F.ok scMixed (fun vs H Q E h => ?_) (fun cdv A outer s H vs Q E hr h => ?_)
  · obtain ⟨c, a, rfl, _⟩ := h
    rfl
  · obtain ⟨c, a, rfl, ha, hb, k⟩ := h
    refine ⟨_, pss_cons (ps_set (i := 2) scMixed.nd rfl (Or.inl rfl) (pe_op op_mod (pe_op op_add (pe_op op_add (pe_op op_mul (pe_op op_mod (pv 0) pe_int) pe_int)
      (pe_op op_mul (pe_op op_mul (pe_op op_add (pv 1) pe_int) (pe_op op_add (pv 1) pe_int)) pe_int)) pe_int) pe_int))
      (pss_one (ps_ret (pe_op op_fdiv (pe_op op_mod (pe_op op_mul (pv 2) (pv 2)) pe_int) pe_int))), ?_⟩
    refine ⟨_, rfl, _, _, rfl, rfl, (by show (0 : Int) < 2147483629; decide), _, _, rfl, rfl, .inr ⟨by decide, by decide⟩, _, rfl, _, _, rfl, rfl, _, rfl, _, _, rfl, rfl, _, _, rfl, rfl, .inl ⟨by omega, by omega⟩, _, _, rfl, rfl, .inr ⟨by decide, by decide⟩,
      _, _, rfl, rfl, _, _, rfl, rfl, _, _, rfl, rfl, (by show (0 : Int) < 2147483647; decide), ?_⟩
    refine ⟨_, rfl, _, rfl, _, _, rfl, rfl, .inl ⟨?_, ?_⟩, _, _, rfl, rfl, (by show (0 : Int) < 2147483629; decide), _, _, rfl, rfl, ⟨by decide, by decide⟩, k _⟩
    · have := Int.emod_nonneg (c % 2147483629 * 48271 + (a + 1) * (a + 1) * 7919 + 11) (show (2147483647 : Int) ≠ 0 by decide)
      omega
    · have := Int.emod_lt_of_pos (c % 2147483629 * 48271 + (a + 1) * (a + 1) * 7919 + 11) (show (0 : Int) < 2147483647 by decide)
      omega
theorem scNext : FnScope ["_law_deck_here", "_law_many", "_law_at"] ["_law_deck_here", "_law_many"] (defScope sNext) := ⟨rfl, rfl, rfl, by decide +kernel, rfl, by decide +kernel, by decide +kernel⟩
theorem ok_next {f : Addr} {fd : FuncData} (F : Fun K "_law_next" "_law_next" sNext f fd) (zL : mg "len" = none) (M : Cd P w K mg base 1 "_law_mixed" ["_law_cell", "_law_at"] spMixed) : FnOk P w K mg base CX0 2 f fd ["_law_deck_here", "_law_many"] spNext := by
  obtain ⟨fM, fdM, GM, mM, kM, bM⟩ := M
  refine F.ok scNext (fun vs H Q E h => ?_) (fun cdv A outer s H vs Q E hr h => ?_)
  · obtain ⟨d, f, m, n, rfl, _⟩ := h
    rfl
  · obtain ⟨d, f, m, n, rfl, hm, hn, ⟨a, wh, xs, hd, hf, a0, an, hx⟩, k⟩ := h
    have ndf : f ≠ d := fun z => by
      rw [z, hd] at hf
      have := congrArg (fun o => match o with | some (HO.lst (_ :: _ :: .ref _ :: _)) => true | _ => false) hf
      simp only at this
      cases xs with
      | nil => cases hf
      | cons x xs => cases xs with
        | nil => cases hf
        | cons y xs => cases xs with
          | nil => cases hf
          | cons z xs => cases hf
    refine ⟨_, pss_cons (ps_set (i := 2) scNext.nd rfl (Or.inl rfl) (pe_ix ix_list (pv 0) pe_int (fun _ _ => rfl)))
      (pss_cons (ps_asg (pe_op op_add (pv 2) pe_int) (pg_sub (pv 0) pe_int set_list))
      (pss_cons (ps_if (pt_cmpR op_lt (pv 2) (pe_callB call_len (by rfl) zL PySem.boot_len (pa_cons (pe_ix ix_list (pv 0) pe_int (fun _ _ => rfl)) pa_nil)) (nomark _))
        (pss_one (ps_ret (pe_op op_mod (pe_ix ix_list (pe_ix ix_list (pv 0) pe_int (fun _ _ => rfl)) (pv 2) (fun _ _ => rfl)) (pv 1)))) pss_nil)
      (pss_one (ps_ret (pe_op op_mod (pe_call GM hr rfl mM kM bM .nil pass0 (pa_cons (pe_ix ix_list (pv 0) pe_int (fun _ _ => rfl)) (pa_cons (pv 2) pa_nil))) (pv 1)))))), ?_⟩
    have hd2 : upd H d (.lst [.int (a + 1), .int wh, .ref f]) d = some (.lst [.int (a + 1), .int wh, .ref f]) := upd_same
    have hf2 : upd H d (.lst [.int (a + 1), .int wh, .ref f]) f = some (.lst (xs.map V.int)) := (upd_ne ndf).trans hf
    have hk : Kp [d] H (upd H d (.lst [.int (a + 1), .int wh, .ref f])) := (Kp.refl _ _).wr (List.mem_singleton.mpr rfl)
    have hD : Deck (upd H d (.lst [.int (a + 1), .int wh, .ref f])) d f (n + 1) := ⟨a + 1, wh, xs, hd2, hf2, by omega, by omega, hx⟩
    refine ⟨_, rfl, d, _, _, .int a, rfl, rfl, SqL.of hd, rfl, ?_⟩
    refine ⟨_, rfl, _, _, rfl, rfl, _, rfl, d, _, _, 0, rfl, rfl, hd, rfl, ?_⟩
    refine ⟨_, rfl, _, rfl, d, _, _, .ref f, rfl, rfl, SqL.of hd2, rfl, _, _, rfl, .inl ⟨_, SqL.of hf2, rfl⟩, _, _, rfl, rfl, _, rfl, ?_⟩
    refine ite2 (fun hl => ?_) (fun _ => ?_)
    · have hl := of_decide_eq_true hl
      rw [List.length_map] at hl
      have hj : a.toNat < xs.length := by omega
      have ha : ((a.toNat : Nat) : Int) = a := by omega
      refine ⟨_, rfl, d, _, _, .ref f, rfl, rfl, SqL.of hd2, rfl, _, rfl, f, _, _, .int (xs[a.toNat]), rfl, rfl, SqL.of hf2, ?_, _, rfl, _, _, rfl, rfl, hm, ?_⟩
      · have := atI_nat (xs := xs.map V.int) (j := a.toNat) (v := .int (xs[a.toNat])) (by simp [hj])
        rw [ha] at this
        exact this
      · exact k _ _ (Int.emod_nonneg _ (by omega)) (Int.emod_lt_of_pos _ hm) hk hD
    · refine ⟨_, rfl, d, _, _, .int wh, rfl, rfl, SqL.of hd2, rfl, _, rfl, wh, a, rfl, by omega, by omega, fun r => ?_⟩
      exact ⟨_, rfl, _, _, rfl, rfl, hm, k _ _ (Int.emod_nonneg _ (by omega)) (Int.emod_lt_of_pos _ hm) hk hD⟩
end
end Wn
namespace Wn
open PySem L2
section
variable {P : Program} {w : World} {K : PySem.W.Frag} {mg : Str → Option Value} {base : Heap}
theorem scDeck : FnScope ["_law_script", "_law_found_here", "_law_whole", "_law_k", "_law_rest", "_law_at"] ["_law_script"] (defScope sDeck) := ⟨rfl, rfl, rfl, by decide +kernel, rfl, by decide +kernel, by decide +kernel⟩
def restOf (σ : L2.St) (_ : Hp) : Nat := match σ[4]? with | some (some (V.int r)) => r.toNat | _ => 0
theorem ok_deck {f : Addr} {fd : FuncData} (F : Fun K "_law_deck" "_law_deck" sDeck f fd) (zL : mg "len" = none) (zR : mg "range" = none) (zM : mg "min" = none) (M : Cd P w K mg base 1 "_law_mixed" ["_law_cell", "_law_at"] spMixed) : FnOk P w K mg base CX0 2 f fd ["_law_script"] (spDeck K) := by
  obtain ⟨fM, fdM, GM, mM, kM, bM⟩ := M
  refine F.ok scDeck (fun vs H Q E h => ?_) (fun cdv A outer s H vs Q E hr h => ?_)
  · obtain ⟨a, ns, rfl, _⟩ := h
    rfl
  · obtain ⟨a, ns, rfl, hS, hlen, k⟩ := h
    refine ⟨_, pss_cons (ps_set (i := 1) scDeck.nd rfl (Or.inl rfl) (pe_lst pa_nil)) (pss_cons (ps_set (i := 2) scDeck.nd rfl (Or.inl rfl) (pe_callB call_len (by rfl) zL PySem.boot_len (pa_cons (pv 0) pa_nil)))
      (pss_cons (ps_for PassesOwn.never rfl (pi_range1 rfl zR (pa_cons (pe_callB (call_min2 rfl) (by rfl) zM (by decide +kernel) (pa_cons (pe_callB call_len (by rfl) zL PySem.boot_len (pa_cons (pv 0) pa_nil)) (pa_cons pe_int pa_nil))) pa_nil)) (pg_name (i := 3) scDeck.nd rfl (Or.inr rfl))
        (pss_cons (ps_set (i := 4) scDeck.nd rfl (Or.inr rfl) (pe_ix ix_list (pv 0) (pv 3) (fun _ _ => rfl)))
        (pss_cons (ps_if (pt_cmpR op_ge (pv 4) (pe_op op_pow pe_int pe_int) (nomark _))
          (pss_one (ps_while PassesOwn.never (PW.pt (pw_and (pt_cmpR op_gt (pv 4) pe_int (nomark _)) (pw_and1 (pt_cmpR op_lt (pe_callB call_len (by rfl) zL PySem.boot_len (pa_cons (pv 1) pa_nil)) pe_int (nomark _)))))
            (pss_cons (ps_expr (pe_bm PySem.F.plainAttrs_list PySem.F.slot_list_append PySem.F.type_list_append mt_append (pv 1) (pa_cons (pe_op op_mod (pv 4) pe_int) pa_nil)))
            (pss_one (ps_set (i := 4) scDeck.nd rfl (Or.inr rfl) (pe_op op_fdiv (pv 4) pe_int))))))
          (pss_one (ps_expr (pe_bm PySem.F.plainAttrs_list PySem.F.slot_list_extend PySem.F.type_list_extend mt_extend (pv 1) (pa_cons
            (pe_lc (own := [("_law_at", 5)]) (g := gName 5) (tt := tYes) rfl scDeck.nd (pi_range1 rfl zR (pa_cons pe_int pa_nil)) (blkOk_by (N := ["_law_script", "_law_found_here", "_law_whole", "_law_k", "_law_rest", "_law_at"]) (sc := defScope sDeck) (by decide +kernel))
              (fun _ _ _ _ _ => pg_name (i := 5) scDeck.nd rfl (Or.inl rfl)) (fun _ _ _ _ _ => pts_nil)
              (fun _ _ _ _ _ => pe_call GM hr rfl mM kM bM .nil pass0 (pa_cons (pv 4) (pa_cons (pe_op op_add (pe_op op_mul pe_int (pv 3)) (pv 5)) pa_nil)))) pa_nil)))))
        (pss_one (ps_set (i := 2) scDeck.nd rfl (Or.inl rfl) (pe_op op_mod (pe_op op_add (pe_op op_mul (pv 2) pe_int) (pe_ix ix_list (pv 0) (pv 3) (fun _ _ => rfl))) pe_int))))))
      (pss_one (ps_ret (pe_lst (pa_cons pe_int (pa_cons (pv 2) (pa_cons (pv 1) pa_nil)))))))), ?_⟩
    refine ⟨Nat.zero_le _, fun l hl => ?_⟩
    have s0 : Same H (upd H l (.lst [])) := (L2.Same.refl H).new hl
    have hS0 := s0.seq hS
    refine ⟨_, rfl, _, _, rfl, .inl ⟨_, hS0, rfl⟩, ?_⟩
    refine ⟨_, rfl, _, _, rfl, .inl ⟨_, hS0, rfl⟩, _, _, rfl, _, rfl, ?_⟩
    have hn63 : (ns.map V.int).length ≤ 63 := by rw [List.length_map]; exact hlen
    refine ⟨by split <;> omega, by split <;> omega, ?_⟩
    refine for_range (fun i σ H' => ∃ (wh : Int) (v3 v4 v5 : Option V) (xs : List Int), σ = [some (.ref a), some (.ref l), some (.int wh), v3, v4, v5] ∧ Same H H' ∧ H' l = some (.lst (xs.map V.int)) ∧ xs.length ≤ 3000 + 6 * i)
      ⟨_, _, _, _, [], rfl, s0, upd_same, Nat.zero_le _⟩ ?_ ?_
    · rintro i σ H1 hi ⟨wh, v3, v4, v5, xs, rfl, s1, hl1, hxs⟩
      have hi2 : i < ns.length ∧ i < 63 := by
        rw [List.length_map] at hi
        split at hi <;> omega
      have hat : atI (ns.map V.int) (0 + (i : Int)) = some (V.int ns[i]) := by
        rw [Int.zero_add]
        exact atI_nat (by simp [hi2.1])
      have hS1 := s1.seq hS
      -- what is left of a turn
      have fin : ∀ (H2 : Hp) (v4 v5 : Option V) (ys : List Int), Same H H2 → H2 l = some (.lst (ys.map V.int)) → ys.length ≤ 3000 + 6 * (i + 1) → ∃ (wh' : Int) (v3 v4' v5' : Option V) (xs : List Int),
          [some (V.ref a), some (.ref l), some (.int ((wh * 31 + ns[i]) % 2147483647)), some (.int (0 + (i : Int))), v4, v5] = [some (.ref a), some (.ref l), some (.int wh'), v3, v4', v5'] ∧ Same H H2 ∧ H2 l = some (.lst (xs.map V.int)) ∧ xs.length ≤ 3000 + 6 * (i + 1) :=
        fun H2 v4 v5 ys a b c => ⟨_, _, _, _, ys, rfl, a, b, c⟩
      refine ⟨_, rfl, _, rfl, a, _, _, _, rfl, rfl, hS1, hat, ?_⟩
      refine ⟨_, rfl, _, _, rfl, rfl, ⟨by decide, by decide, by decide⟩, _, _, rfl, rfl, _, rfl, ?_⟩
      refine ite2 (fun _ => ?_) (fun _ => ?_)
      · refine while_m (fun σ H' => ∃ (r : Int) (xs : List Int), σ = [some (.ref a), some (.ref l), some (.int wh), some (.int (0 + (i : Int))), some (.int r), v5] ∧ Same H H' ∧ H' l = some (.lst (xs.map V.int)) ∧ xs.length ≤ 3000 + 6 * (i + 1)) restOf
          ⟨_, xs, rfl, s1, hl1, by omega⟩ ?_
        rintro m σ H2 hm ⟨r, ys, rfl, s2, hl2, hys⟩
        have hm' : m = r.toNat := hm
        refine ⟨_, rfl, _, _, rfl, rfl, _, rfl, ?_⟩
        refine ite2 (fun hr0 => ?_) (fun _ => ?_)
        · have hr0 := of_decide_eq_true hr0
          refine ⟨_, rfl, _, _, rfl, .inl ⟨_, SqL.of hl2, rfl⟩, _, _, rfl, rfl, _, rfl, ?_⟩
          refine ite2 (fun hb => ?_) (fun _ => ?_)
          · have hb := of_decide_eq_true hb
            rw [List.length_map] at hb
            refine ⟨fun σ' H' => (∃ (r : Int) (xs : List Int), σ' = [some (.ref a), some (.ref l), some (.int wh), some (.int (0 + (i : Int))), some (.int r), v5] ∧ Same H H' ∧ H' l = some (.lst (xs.map V.int)) ∧ xs.length ≤ 3000 + 6 * (i + 1)) ∧ restOf σ' H' < m, fun σ' H' q => ⟨_, q.2, rfl, q.1⟩, ?_⟩
            refine ⟨_, rfl, .inl ⟨rfl, _, SqL.of hl2⟩, _, rfl, _, _, rfl, rfl, (by show (0 : Int) < 1000000; decide), l, _, _, rfl, rfl, hl2, (by rw [List.length_map]; exact Nat.lt_of_le_of_lt (show ys.length ≤ 3000 by omega) (by decide)), ?_⟩
            refine ⟨_, rfl, _, _, rfl, rfl, ⟨by decide, by decide⟩, ?_⟩
            refine ⟨⟨_, ys ++ [r % 1000000], rfl, s2.wrn hl, ?_, ?_⟩, ?_⟩
            · rw [upd_same, List.map_append]
              rfl
            · rw [List.length_append, List.length_singleton]
              omega
            · show (r / 1000000).toNat < m
              omega
          · exact ⟨_, rfl, _, _, rfl, rfl, .inr ⟨by decide, by decide⟩, _, rfl, _, rfl, a, _, _, _, rfl, rfl, s2.seq hS, hat, _, _, rfl, rfl, _, _, rfl, rfl, (by show (0 : Int) < 2147483647; decide), fin H2 _ _ ys s2 hl2 hys⟩
        · exact ⟨_, rfl, _, _, rfl, rfl, .inr ⟨by decide, by decide⟩, _, rfl, _, rfl, a, _, _, _, rfl, rfl, s2.seq hS, hat, _, _, rfl, rfl, _, _, rfl, rfl, (by show (0 : Int) < 2147483647; decide), fin H2 _ _ ys s2 hl2 hys⟩
      · refine ⟨_, rfl, .inl ⟨rfl, _, SqL.of hl1⟩, 6, rfl, by decide, by decide, fun D hD => ?_⟩
        have nDl : l ≠ D := ne_of_none hl1 hD
        refine lc_range (lo := 0) (n := 6) (fun j H' => ∃ ys : List Int, H' D = some (.lst (ys.map V.int)) ∧ ys.length = j ∧ Same H1 H' ) ⟨[], upd_same, rfl, (L2.Same.refl H1).new hD⟩ ?_ ?_
        · rintro j H2 hj ⟨ys, hD2, hys, s2⟩
          refine ⟨rfl, _, rfl, _, rfl, _, _, rfl, rfl, .inl ⟨by decide, by decide⟩, _, rfl, _, _, rfl, rfl, _, _, rfl, by omega, by omega, fun r => ?_⟩
          refine ⟨_, hD2, by rw [List.length_map, hys]; exact Nat.lt_trans hj (by decide), ys ++ [r], ?_, by rw [List.length_append, hys]; rfl, s2.wrn hD⟩
          rw [upd_same, List.map_append]
          rfl
        · rintro H2 ⟨ys, hD2, hys, s2⟩
          refine ⟨l, D, _, _, rfl, rfl, s2 _ _ hl1, hD2, ?_, ?_⟩
          · rw [List.length_map, List.length_map, hys]
            exact Nat.le_trans (show xs.length + 6 ≤ 6000 by omega) (by decide)
          · refine ⟨_, rfl, _, _, rfl, rfl, .inr ⟨by decide, by decide⟩, _, rfl, _, rfl, a, _, _, _, rfl, rfl, ((s1.trans s2).wrn hl).seq hS, hat, _, _, rfl, rfl, _, _, rfl, rfl, (by show (0 : Int) < 2147483647; decide), fin _ _ _ (xs ++ ys) ((s1.trans s2).wrn hl) ?_ ?_⟩
            · rw [upd_same, List.map_append]
            · rw [List.length_append, hys]
              omega
    · rintro σ H1 ⟨wh, v3, v4, v5, xs, rfl, s1, hl1, hxs⟩
      refine ⟨_, rfl, _, rfl, (by show 3 ≤ sizeLine; decide), fun d hd => ?_⟩
      have hn : ns.length ≤ 63 := hlen
      have hxs' : xs.length ≤ 100000 := by
        rw [List.length_map] at hxs
        split at hxs <;> omega
      refine k _ d l (s1.free hd) hl (s1.new hd) ⟨0, wh, xs, upd_same, ?_, Int.le_refl _, Int.le_refl _, hxs'⟩
      rw [upd_ne (ne_of_none hl1 hd)]
      exact hl1
end
end Wn
namespace Wn
open PySem L2
section
variable {P : Program} {w : World} {K : PySem.W.Frag} {mg : Str → Option Value} {base : Heap}
theorem scSame : FnScope ["_law_thing", "_law_due_here", "_law_k"] ["_law_thing", "_law_due_here"] (defScope sSame) := ⟨rfl, rfl, rfl, by decide +kernel, rfl, by decide +kernel, by decide +kernel⟩
/-- builtins that same asks -/
structure SameB (mg : Str → Option Value) : Prop where
  isi : mg "isinstance" = none
  tup : mg "tuple" = none
  bl : mg "bool" = none
  str : mg "str" = none
  int : mg "int" = none
  all : mg "all" = none
  len : mg "len" = none
  rng : mg "range" = none
theorem ok_same_step {n : Nat} {f : Addr} {fd : FuncData} (F : Fun K "_law_same" "_law_same" sSame f fd) (B : SameB mg) (mS : mg "_law_same" = some (.ref f)) (kS : PySem.W.keepIn K (.ref f) = true) (bS : Binds K fd ["_law_thing", "_law_due_here"] [])
    (G : FnOk P w K mg base CX0 n f fd ["_law_thing", "_law_due_here"] (spSame K n)) : FnOk P w K mg base CX0 (n + 1) f fd ["_law_thing", "_law_due_here"] (spSame K (n + 1)) := by
  refine F.ok scSame (fun vs H Q E h => ?_) (fun cdv A outer s H vs Q E hr h => ?_)
  · obtain ⟨x, y, d, rfl, _⟩ := h
    rfl
  · obtain ⟨x, y, d, rfl, hx, hy, hd, hz, k⟩ := h
    refine ⟨_, pss_cons (ps_if (pt_val (pe_callB call_isi (by rfl) B.isi (by decide +kernel) (pa_cons (pv 1) (pa_cons (pe_bltn (v := .ty "tuple") (by rfl) B.tup PyProof.Rows.boot_tuple rfl) pa_nil))))
        (pss_cons (ps_if (PW.pt (pw_or (pt_not (pt_val (pe_callB call_isi (by rfl) B.isi (by decide +kernel) (pa_cons (pv 0) (pa_cons (pe_bltn (v := .ty "tuple") (by rfl) B.tup PyProof.Rows.boot_tuple rfl) pa_nil)))))
            (pw_or1 (pt_cmpR op_ne (pe_callB call_len (by rfl) B.len PySem.boot_len (pa_cons (pv 0) pa_nil)) (pe_callB call_len (by rfl) B.len PySem.boot_len (pa_cons (pv 1) pa_nil)) (nomark _)))))
          (pss_one (ps_ret pe_bl)) pss_nil)
        (pss_one (ps_ret (pe_callB (cr_all rfl) (by rfl) B.all (by decide +kernel) (pa_cons
          (pe_lc (own := [("_law_k", 2)]) (g := gName 2) (tt := tYes) rfl scSame.nd (pi_range1 rfl B.rng (pa_cons (pe_callB call_len (by rfl) B.len PySem.boot_len (pa_cons (pv 1) pa_nil)) pa_nil)) (blkOk_by (N := ["_law_thing", "_law_due_here", "_law_k"]) (sc := defScope sSame) (by decide +kernel))
              (fun _ _ _ _ _ => pg_name (i := 2) scSame.nd rfl (Or.inl rfl)) (fun _ _ _ _ _ => pts_nil)
              (fun _ _ _ _ _ => pe_call G hr rfl mS kS bS .nil pass0 (pa_cons (pe_ix (show IxR _ (rIxT K) from ix_tup) (pv 0) (pv 2) (fun _ _ => rfl)) (pa_cons (pe_ix (show IxR _ (rIxT K) from ix_tup) (pv 1) (pv 2) (fun _ _ => rfl)) pa_nil)))) pa_nil))))) pss_nil)
      (pss_cons (ps_if (PW.pt (pw_or (pt_val (pe_callB call_isi (by rfl) B.isi (by decide +kernel) (pa_cons (pv 1) (pa_cons (pe_bltn (v := .ty "bool") (by rfl) B.bl PyProof.Rows.boot_bool rfl) pa_nil)))) (pw_or1 (pt_cmp (pc_isN (pv 1))))))
        (pss_one (ps_ret (pe_and (pe_cmpR op_eq (pe_callB call_isi (by rfl) B.isi (by decide +kernel) (pa_cons (pv 0) (pa_cons (pe_bltn (v := .ty "bool") (by rfl) B.bl PyProof.Rows.boot_bool rfl) pa_nil))) (pe_callB call_isi (by rfl) B.isi (by decide +kernel) (pa_cons (pv 1) (pa_cons (pe_bltn (v := .ty "bool") (by rfl) B.bl PyProof.Rows.boot_bool rfl) pa_nil))) (nomark _))
          (pe_and (pe_cmpR op_eq (pe_cmp (pc_isN (pv 0)) rfl) (pe_cmp (pc_isN (pv 1)) rfl) (nomark _)) (pe_one (pe_cmpR op_eq (pv 0) (pv 1) (nomark _))))))) pss_nil)
      (pss_cons (ps_if (pt_val (pe_callB call_isi (by rfl) B.isi (by decide +kernel) (pa_cons (pv 1) (pa_cons (pe_bltn (v := .ty "str") (by rfl) B.str PyProof.Rows.boot_str rfl) pa_nil))))
        (pss_one (ps_ret (pe_and (pe_callB call_isi (by rfl) B.isi (by decide +kernel) (pa_cons (pv 0) (pa_cons (pe_bltn (v := .ty "str") (by rfl) B.str PyProof.Rows.boot_str rfl) pa_nil))) (pe_one (pe_cmpR op_eq (pv 0) (pv 1) (nomark _)))))) pss_nil)
      (pss_one (ps_ret (pe_and (pe_callB call_isi (by rfl) B.isi (by decide +kernel) (pa_cons (pv 0) (pa_cons (pe_bltn (v := .ty "int") (by rfl) B.int PyProof.Rows.boot_int rfl) pa_nil)))
        (pe_and (pe_not (pe_callB call_isi (by rfl) B.isi (by decide +kernel) (pa_cons (pv 0) (pa_cons (pe_bltn (v := .ty "bool") (by rfl) B.bl PyProof.Rows.boot_bool rfl) pa_nil)))) (pe_one (pe_cmpR op_eq (pv 0) (pv 1) (nomark _))))))))), ?_⟩
    cases d with
    | none =>
      cases hx
      cases hy
      refine ⟨_, rfl, _, _, _, _, false, rfl, .ty _, .base .non, kit_ty (by decide +kernel), _, rfl, iteF ?_⟩
      refine ⟨_, rfl, _, _, _, _, false, rfl, .ty _, .base .non, kit_ty (by decide +kernel), _, rfl, iteF ?_⟩
      refine ⟨_, rfl, _, rfl, iteT ?_⟩
      refine ⟨_, rfl, _, _, _, _, false, rfl, .ty _, .base .non, kit_ty (by decide +kernel), _, rfl, _, _, _, _, false, rfl, .ty _, .base .non, kit_ty (by decide +kernel), rfl, _, rfl, iteT ?_⟩
      refine ⟨_, rfl, _, rfl, rfl, _, rfl, iteT ?_⟩
      exact ⟨_, rfl, _, rfl, rfl, k _ (L2.Same.refl _)⟩
    | bool b =>
      cases hx
      cases hy
      refine ⟨_, rfl, _, _, _, _, false, rfl, .ty _, .base (.bl _), kit_ty (by decide +kernel), _, rfl, iteF ?_⟩
      refine ⟨_, rfl, _, _, _, _, true, rfl, .ty _, .base (.bl _), kit_ty (by decide +kernel), _, rfl, iteT ?_⟩
      refine ⟨_, rfl, _, _, _, _, true, rfl, .ty _, .base (.bl _), kit_ty (by decide +kernel), _, rfl, _, _, _, _, true, rfl, .ty _, .base (.bl _), kit_ty (by decide +kernel), rfl, _, rfl, iteT ?_⟩
      refine ⟨_, rfl, _, rfl, rfl, _, rfl, iteT ?_⟩
      refine ⟨_, rfl, _, rfl, rfl, ?_⟩
      show Q (.bl (decide (V.bl b = V.bl b))) H
      rw [decide_eq_true rfl]
      exact k _ (L2.Same.refl _)
    | int i =>
      cases hx
      cases hy
      refine ⟨_, rfl, _, _, _, _, false, rfl, .ty _, .base (.int _), kit_ty (by decide +kernel), _, rfl, iteF ?_⟩
      refine ⟨_, rfl, _, _, _, _, false, rfl, .ty _, .base (.int _), kit_ty (by decide +kernel), _, rfl, iteF ?_⟩
      refine ⟨_, rfl, _, rfl, iteF ?_⟩
      refine ⟨_, rfl, _, _, _, _, false, rfl, .ty _, .base (.int _), kit_ty (by decide +kernel), _, rfl, iteF ?_⟩
      refine ⟨_, rfl, _, _, _, _, true, rfl, .ty _, .base (.int _), kit_ty (by decide +kernel), _, rfl, iteT ?_⟩
      refine ⟨_, rfl, _, _, _, _, false, rfl, .ty _, .base (.int _), kit_ty (by decide +kernel), _, rfl, _, rfl, iteT ?_⟩
      refine ⟨_, rfl, _, rfl, rfl, ?_⟩
      show Q (.bl (decide (V.int i = V.int i))) H
      rw [decide_eq_true rfl]
      exact k _ (L2.Same.refl _)
    | str z =>
      cases hx
      cases hy
      refine ⟨_, rfl, _, _, _, _, false, rfl, .ty _, .base (.str _), kit_ty (by decide +kernel), _, rfl, iteF ?_⟩
      refine ⟨_, rfl, _, _, _, _, false, rfl, .ty _, .base (.str _), kit_ty (by decide +kernel), _, rfl, iteF ?_⟩
      refine ⟨_, rfl, _, rfl, iteF ?_⟩
      refine ⟨_, rfl, _, _, _, _, true, rfl, .ty _, .base (.str _), kit_ty (by decide +kernel), _, rfl, iteT ?_⟩
      refine ⟨_, rfl, _, _, _, _, true, rfl, .ty _, .base (.str _), kit_ty (by decide +kernel), _, rfl, iteT ?_⟩
      refine ⟨_, rfl, _, rfl, rfl, ?_⟩
      show Q (.bl (decide (V.str z = V.str z))) H
      rw [decide_eq_true rfl]
      exact k _ (L2.Same.refl _)
    | tuple ds =>
      unfold Rp at hx hy
      obtain ⟨a, xs, rfl, sa, la⟩ := hx
      obtain ⟨b, ys, rfl, sb, lb⟩ := hy
      have lx := RpL.len _ _ la
      have ly := RpL.len _ _ lb
      have hl : ds.length ≤ 1000000 := by
        have := szs_len ds
        unfold sz at hz
        omega
      have hlc : ((ds.length : Nat) : Int) ≤ 1000000 := by omega
      refine ⟨_, rfl, _, _, _, _, true, rfl, .ty _, ty_tup sb, kit_ty (by decide +kernel), _, rfl, iteT ?_⟩
      refine ⟨_, rfl, _, _, _, _, true, rfl, .ty _, ty_tup sa, kit_ty (by decide +kernel), _, rfl, iteF ?_⟩
      refine ⟨_, rfl, _, ds.length, rfl, .inr ⟨_, sa, lx.symm⟩, _, rfl, _, ds.length, rfl, .inr ⟨_, sb, ly.symm⟩, rfl, _, rfl, ?_⟩
      refine iteNS rfl ?_
      refine ⟨_, rfl, _, ds.length, rfl, .inr ⟨_, sb, ly.symm⟩, ds.length, rfl, by omega, by omega, fun D hD => ?_⟩
      refine lc_range (lo := 0) (n := _) (fun i H' => H' D = some (.lst ((List.replicate i true).map V.bl)) ∧ Same H H') ⟨upd_same, (L2.Same.refl H).new hD⟩ ?_ ?_
      · rintro i H2 hi ⟨hD2, s2⟩
        have hi : i < ds.length := by simpa using hi
        have e1 : ds[i]? = some ds[i] := by simp [hi]
        obtain ⟨u, eu, ru⟩ := RpL.get _ _ la i _ e1
        obtain ⟨v, ev, rv⟩ := RpL.get _ _ lb i _ e1
        have t2 := TK.of s2
        refine ⟨rfl, _, rfl, _, rfl, a, xs, _, u, rfl, rfl, SqT.tk sa t2, ?_, _, rfl, _, rfl, b, ys, _, v, rfl, rfl, SqT.tk sb t2, ?_, ?_⟩
        · rw [Int.zero_add]
          exact atI_nat eu
        · rw [Int.zero_add]
          exact atI_nat ev
        · refine ⟨u, v, ds[i], rfl, Rp.tk t2 _ _ ru, Rp.tk t2 _ _ rv, ?_, ?_, fun H3 s3 => ?_⟩
          · have := dep_get ds i _ e1
            unfold dep at hd
            omega
          · have := sz_get ds i _ e1
            unfold sz at hz
            omega
          · refine ⟨_, s3 _ _ hD2, ?_, ?_, ?_⟩
            · rw [List.length_map, List.length_replicate]
              exact Nat.lt_of_lt_of_le (Nat.lt_of_lt_of_le hi hl) (by decide)
            · rw [upd_same, List.replicate_succ', List.map_append]
              rfl
            · exact (s2.trans s3).wrn hD
      · rintro H2 ⟨hD2, s2⟩
        refine ⟨D, _, rfl, SqL.of hD2, ?_⟩
        have e : (List.replicate ((ds.length : Nat) : Int).toNat true).all id = true := by simp
        rw [e]
        exact k _ s2
    | list _ => cases hx
    | dict _ => cases hx
theorem ok_same {f : Addr} {fd : FuncData} (F : Fun K "_law_same" "_law_same" sSame f fd) (B : SameB mg) (mS : mg "_law_same" = some (.ref f)) (kS : PySem.W.keepIn K (.ref f) = true) (bS : Binds K fd ["_law_thing", "_law_due_here"] []) :
    ∀ n, FnOk P w K mg base CX0 n f fd ["_law_thing", "_law_due_here"] (spSame K n)
  | 0 => ⟨fun vs H Q E ⟨x, y, d, _, _, _, h, _⟩ => absurd h (Nat.not_lt_zero _), fun A outer s H args us vs Q E hr he hb hv ⟨x, y, d, _, _, _, h, _⟩ => absurd h (Nat.not_lt_zero _)⟩
  | n + 1 => ok_same_step F B mS kS bS (ok_same F B mS kS bS n)
end
end Wn

namespace Wn
open PySem L2
section
variable {α : Type}
theorem lookA_cons {p : Int × α} {m : List (Int × α)} {k : Int} : lookA (p :: m) k = if p.1 = k then some p.2 else lookA m k := by
  unfold lookA
  rw [List.find?_cons]
  by_cases e : p.1 = k <;> simp [e]
theorem lookA_map (k j : Int) (x : α) : ∀ m : List (Int × α), lookA (m.map fun kv => if kv.1 = k then (kv.1, x) else kv) j = (lookA m j).map fun y => if j = k then x else y
  | [] => rfl
  | p :: m => by
    rw [List.map_cons, lookA_cons, lookA_cons, lookA_map k j x m]
    by_cases e : p.1 = k
    · by_cases f : p.1 = j
      · simp [e, f, show j = k by omega]
      · simp only [e, if_true]
        rw [if_neg (by omega), if_neg (by omega)]
    · by_cases f : p.1 = j
      · simp [e, f, show ¬ j = k by omega]
      · simp [e, f]
theorem lookA_snoc (k j : Int) (x : α) : ∀ m : List (Int × α), lookA (m ++ [(k, x)]) j = match lookA m j with | some y => some y | none => if k = j then some x else none
  | [] => by
    show lookA [(k, x)] j = _
    rw [lookA_cons]
    rfl
  | p :: m => by
    show lookA (p :: (m ++ [(k, x)])) j = _
    rw [lookA_cons, lookA_cons, lookA_snoc k j x m]
    by_cases e : p.1 = j <;> simp [e]
theorem any_lookA (k : Int) : ∀ m : List (Int × α), (m.any fun kv => decide (kv.1 = k)) = (lookA m k).isSome
  | [] => rfl
  | p :: m => by
    rw [List.any_cons, lookA_cons, any_lookA k m]
    by_cases e : p.1 = k <;> simp [e]
theorem lookA_put (m : List (Int × α)) (k j : Int) (x : α) : lookA (putA m k x) j = if j = k then some x else lookA m j := by
  unfold putA
  rw [any_lookA]
  cases e : lookA m k with
  | none =>
    rw [if_neg (by simp), lookA_snoc]
    by_cases f : j = k
    · subst f
      simp [e]
    · rw [if_neg f]
      cases lookA m j with
      | none => simp [show ¬ k = j by omega]
      | some y => rfl
  | some z =>
    rw [if_pos (by simp), lookA_map]
    by_cases f : j = k
    · subst f
      rw [e]
      simp
    · rw [if_neg f]
      cases lookA m j with
      | none => rfl
      | some y => simp [f]
theorem mem_keys {k : Int} {m : List (Int × α)} : k ∈ m.map (·.1) ↔ (lookA m k).isSome = true := by
  constructor
  · intro h
    obtain ⟨x, e, _⟩ := lookA_mem h
    rw [e]
    rfl
  · intro h
    rw [← any_lookA, List.any_eq_true] at h
    obtain ⟨p, hp, e⟩ := h
    rw [decide_eq_true_eq] at e
    exact List.mem_map.mpr ⟨p, hp, e⟩
theorem keys_put_in {m : List (Int × α)} {k : Int} {x : α} (h : (lookA m k).isSome = true) : (putA m k x).map (·.1) = m.map (·.1) := by
  unfold putA
  rw [any_lookA, if_pos h, List.map_map]
  refine List.map_congr_left fun p _ => ?_
  show (if p.1 = k then (p.1, x) else p).1 = p.1
  split <;> rfl
theorem keys_put_new {m : List (Int × α)} {k : Int} {x : α} (h : lookA m k = none) : (putA m k x).map (·.1) = m.map (·.1) ++ [k] := by
  unfold putA
  rw [any_lookA, if_neg (by rw [h]; simp), List.map_append]
  rfl
theorem nodup_put {m : List (Int × α)} {k : Int} {x : α} (h : (m.map (·.1)).Nodup) : ((putA m k x).map (·.1)).Nodup := by
  cases e : lookA m k with
  | none =>
    rw [keys_put_new e, List.nodup_append]
    refine ⟨h, by simp, fun a ha b hb => ?_⟩
    rw [List.mem_singleton] at hb
    subst hb
    intro z
    subst z
    rw [mem_keys, e] at ha
    cases ha
  | some y =>
    rw [keys_put_in (by rw [e]; rfl)]
    exact h
end
theorem eq_of_lt : ∀ (a b : List Int), a.Pairwise (· < ·) → b.Pairwise (· < ·) → (∀ x, x ∈ a ↔ x ∈ b) → a = b
  | [], [], _, _, _ => rfl
  | [], y :: b, _, _, h => by
    have := (h y).mpr List.mem_cons_self
    cases this
  | x :: a, [], _, _, h => by
    have := (h x).mp List.mem_cons_self
    cases this
  | x :: a, y :: b, ha, hb, h => by
    rw [List.pairwise_cons] at ha hb
    have e : x = y := by
      have h1 := (h x).mp List.mem_cons_self
      have h2 := (h y).mpr List.mem_cons_self
      rcases List.mem_cons.mp h1 with h1 | h1
      · exact h1
      · rcases List.mem_cons.mp h2 with h2 | h2
        · exact h2.symm
        · have := ha.1 _ h2
          have := hb.1 _ h1
          omega
    subst e
    congr 1
    refine eq_of_lt a b ha.2 hb.2 fun z => ?_
    constructor
    · intro hz
      have h1 := (h z).mp (List.mem_cons_of_mem _ hz)
      rcases List.mem_cons.mp h1 with h1 | h1
      · have := ha.1 _ hz
        omega
      · exact h1
    · intro hz
      have h1 := (h z).mpr (List.mem_cons_of_mem _ hz)
      rcases List.mem_cons.mp h1 with h1 | h1
      · have := hb.1 _ hz
        omega
      · exact h1
theorem lt_of_nodup : ∀ {a : List Int}, a.Pairwise (· ≤ ·) → a.Nodup → a.Pairwise (· < ·)
  | [], _, _ => List.Pairwise.nil
  | x :: a, h, n => by
    rw [List.pairwise_cons] at h
    rw [List.nodup_cons] at n
    rw [List.pairwise_cons]
    refine ⟨fun y hy => ?_, lt_of_nodup h.2 n.2⟩
    have h1 := h.1 y hy
    have h2 : x ≠ y := fun z => n.1 (z ▸ hy)
    omega
end Wn

namespace Wn
open PySem PySem.Spec PyProof.Rows L2
section
variable {X : Cx} {e : Expr} {es : List Expr} {ta : TA} {p1 p2 pos : Pos}
/-- NetError.__init__(self, ..), NetError an own class over ValueError without an __init__ of its own -/
theorem pe_ownInit {pl : Sem Bool} {x : Str} {N : Addr} (hg : Gl X x) (hm : X.mg x = some (.ref N)) (hsp : PySem.W.specialIn X.K (.ref N) "__getattribute__" = some (some (.builtin "type.__getattribute__"))) (hrd : PySem.W.readsIn X.K N (.type "type") = true)
    (vV : PySem.W.findCls X.K (.ref N) (.type "type") "__init__" = some (.val (.builtin "ValueError.__init__"))) (ha : PA X (e :: es) ta)
    (hc : eval (.Call (.Attribute (.Name x p1) "__init__" p2) (e :: es) [] pos) X.env = (do
      let ov ← eval (.Name x p1) X.env
      standAt p2.atName
      let (f, first) ← holding [ov] (getMethod ov "__init__" pl)
      callWith pos f first (backTo pos (starEach (e :: es) X.env)) (backToKw pos (keywordEach [] X.env))) := by rfl)
    (hdb : (x == ("__debug__" : Str)) = false := by decide)
    (he : starEach (e :: es) X.env = (false, eval e X.env) :: starEach es X.env := by rfl) (hpl : (backTo pos (starEach es X.env)).any (·.1) = false := by rfl) :
    PE X (.Call (.Attribute (.Name x p1) "__init__" p2) (e :: es) [] pos) (tVeI X.K ta) := by
  refine ⟨fun pins s σ H Q I h => ?_⟩
  refine PySem.W.methodCall_KW (ld_glob I hg hm ?_ hdb) hc
  refine PySem.W.method_cls I.kIn hsp (PySem.W.cls_value I.kIn hrd vV (by decide +kernel) ?_)
  show wpAny _ _ (callWith pos (Value.builtin "ValueError.__init__") [] (backTo pos (starEach (e :: es) X.env)) []) _ _ _
  refine PyProof.Rows.callWith_method1 (thn (ha.run pos pins _ σ H _ (I.tok _) h) fun us s1 ⟨vs, H1, I1, r1, a, C, ws, ev, hl, T, ea, q⟩ => ?_) he hpl
  subst ev
  cases r1 with
  | @cons _ u0 _ ur ra rw' =>
    obtain rfl : u0 = Value.ref a := ra
    have hlen : ur.length ≤ sizeLine := by
      rw [← Paired.length rw', sizeLine_eq]
      omega
    exact oinit_ok T I1 ea hlen fun s' J => ⟨.non, H1, J, rfl, q⟩
end
end Wn

namespace Wn
open PySem PySem.Spec PyProof.Rows L2
/-! isinstance of a caught error, with or without a dict of its own -/
section
open PySem.W
variable {prog : Program} {w : World} {A : Around} {E : Value → Shared → Prop} {s : Shared} {K : Frag} {x D : Addr} {ox : Obj} {od : Option Obj}
theorem findObj_dataO {C : Addr} {name : Str} {a g : Value} (hc : (clsIn K C).isSome = true) (ha : findIn K (.ref C) name = some (some a)) (hg : specialIn K a "__get__" = some (some g)) (ht : takesIn K a = some true) : findObj K C od name = some (.bind g a) := by
  obtain ⟨cd, hc⟩ := Option.isSome_iff_exists.mp hc
  unfold findObj
  rw [hc, Option.bind_some, ha, Option.bind_some]
  simp [hg, ht]
theorem kin_classO {Q : Option Value → Shared → Prop} (T : ExcC K D) (X : K.In s.heap) (I : InstAt s.heap x ox D od) (h : Q (some (.ref D)) { s with toks := s.toks + 1 }) : wpAny (model prog w) A (getAttr? (.ref x) "__class__") Q E s := by
  have hf : findObj K D od "__class__" = some (.bind (.builtin "getset_descriptor.__get__") (.builtin "object.__class__")) := findObj_dataO (by obtain ⟨cd, hc, _⟩ := any_some T.hd; rw [hc]; rfl) T.ha T.hn T.ht
  obtain ⟨hp, g, d, t, os⟩ := s
  have L0 := I.type (M := model prog w)
  have L1 := looks_findIn (M := model prog w) X T.hg
  have L2 := looks_findIn (M := model prog w) X T.hk
  have L3 := looks_find (M := model prog w) X I hf
  have sub : Looks (model prog w) hp (isInstance (.ref x) (.type "BaseException")) true := L0.andThen (looks_subIn X T.hs)
  have hx0 : (false && onTheHeap (Value.builtin "BaseException.__getattribute__")) = false := rfl
  have hx2 : (Value.builtin "BaseException.__getattribute__" == Value.builtin "object.__getattribute__") = false := by decide +kernel
  have hx1 : (onTheHeap (Value.ref D) && Value.builtin "BaseException.__getattribute__" == Value.builtin "object.__getattribute__") = false := by rw [hx2]; rfl
  unfold getAttr? getAttrBy? getAttrBy
  refine wpAny_bind (wpAny_mkText (wpAny_bind (wpAny_attempt (wpAny_holding (wpAny_bind (L0.at (wpAny_bind (L1.at ?_))))))))
  show wpAny _ _ (if (onTheHeap (Value.ref D) && Value.builtin "BaseException.__getattribute__" == Value.builtin "object.__getattribute__") = true then _ else _) _ _ _
  rw [hx1, if_neg Bool.false_ne_true]
  unfold getAttrByItsOwn hookBefore
  refine wpAny_bind ?_
  rw [if_pos (show onTheHeap (Value.ref D) = true from rfl)]
  refine L2.at ?_
  refine wpAny_bind (wpAny_attempt (wpAny_holding ?_))
  unfold callGetattribute
  rw [hx0, if_neg Bool.false_ne_true]
  unfold boundAndCalled
  rw [PySem.F.excAttr_ValueError.ga.bind (.ref x)]
  refine wpAny_bind (wpAny_pure ?_)
  show wpAny _ _ (call (.builtin "BaseException.__getattribute__") [.ref x, .str "__class__" t]) _ _ _
  refine wpAny_call (codeAny_call_builtin PySem.F.excAttr_ValueError.ga.plain PySem.F.entry_bexc_ga ?_)
  refine @check_slot (model prog w) _ _ ⟨hp, g, d, t + 1, os⟩ "BaseException.__getattribute__" "BaseException" "__getattribute__" (.ref x) [.str "__class__" t] [] _ (by decide +kernel) (by decide +kernel) sub (PySem.F.args_bexc_ga (.ref x) (.str "__class__" t)) ?_
  unfold Builtin.«object.__getattribute__»
  refine wpAny_bind (wpAny_of_eq (a := ((Value.ref x : Value), [Value.str "__class__" t])) (by first | rfl | (simp only [slotArgs]; rfl)) ?_)
  refine wpAny_bind (wpAny_pure (wpAny_bind (L0.at (wpAny_bind (L3.at ?_)))))
  show wpAny _ _ (holding [Value.builtin "object.__class__"] (call (.builtin "getset_descriptor.__get__") [.builtin "object.__class__", .ref x, .ref D]) >>= ret) _ _ _
  refine wpAny_bind (wpAny_holding (wpAny_call (class_get (s := ⟨hp, g, d, t + 1, os⟩) (ox := ox) (od := od) X I T.hm ?_)))
  refine wpAny_pure ?_
  show wpAny _ _ (handedOut (.ref D)) _ _ _
  rw [handedOut_of (v := .ref D) rfl]
  first
    | exact wpAny_pure (wpAny_pure h)
    | exact wpAny_pure h
    | exact wpAny_pure (wpAny_bind (wpAny_pure (wpAny_pure h)))
theorem kitx_excO (T : ExcC K D) : KitX K (.ref x) (.ref D) (fun h => InstAt h x ox D od) where
  ty := fun _ _ _ I => I.type
  it := fun _ _ X _ => by
    obtain ⟨cdD, hcD, _⟩ := any_some T.hd
    unfold clsIn at hcD
    split at hcD
    · rename_i c' d' cd' sl' ho
      intro A' Q' E' s' k q
      unfold isType loadHead
      exact wpAny_bind (wpAny_loadPart (k _ _ (X _ _ ho)) (wpAny_pure q))
    · cases hcD
  ne := fun h tp dd its n sl X htp => by
    obtain ⟨cdD, hcD, _⟩ := any_some T.hd
    refine Bool.eq_false_iff.mpr fun q => ?_
    have e : D = tp := Value.ref.inj (beq_iff_eq.mp q)
    subst e
    unfold clsIn at hcD
    split at hcD
    · rename_i c' d' cd' sl' ho
      have z := (X _ _ ho).symm.trans htp
      cases z
    · cases hcD
  ca := fun X I k => kin_classO T X I k
end
/-- the dict of a caught error: none, or one that stands -/
def XdAt (H : Hp) (d : Option Addr) : Prop := d = none ∨ ∃ (dd : Addr) (fs : List (Str × V)), d = some dd ∧ H dd = some (.xd fs)
/-- isinstance(e, c) or isinstance(e, (c, ..)), e the exception that the suite holds at a -/
def rIsX (K : PySem.W.Frag) (a : Addr) (cls : Value) (d : Option Addr) : List V → Hp → VK → Prop := fun xs H Q => ∃ D : Addr, cls = .ref D ∧ ExcC K D ∧ XdAt H d ∧
  ((∃ (c : V) (cv : Value) (b : Bool), xs = [.ref a, c] ∧ ClsV c cv ∧ PySem.W.kitOne K (.ref D) cv = some b ∧ Q (.bl b) H) ∨
   (∃ (tp : Addr) (cs : List V) (us : List Value) (b : Bool), xs = [.ref a, .ref tp] ∧ H tp = some (.tup cs) ∧ Paired ClsV cs us ∧ PySem.W.kitAny K (.ref D) us = some b ∧ Q (.bl b) H))
theorem call_isX {X : Cx} {a : Addr} {cls : Value} {d : Option Addr} {oe : Obj} {pn : List (Addr × Obj)} (hz : Zc cls d oe) (hf : ∃ vs, oe.data = .fields vs) : CallR (X.suite a ((a, oe) :: pn)) (.builtin "isinstance") (rIsX X.K a cls d) := by
  intro pins s σ H xs us Q I r h
  obtain ⟨D, rfl, C, hd, h⟩ := h
  obtain ⟨hget, _⟩ := I.pin (a, oe) (List.mem_append.mpr (.inl List.mem_cons_self))
  obtain ⟨vs, hv⟩ := hf
  have J : ∃ od, PySem.W.InstAt s.heap a oe D od := by
    obtain ⟨oc, oD, oda, osl⟩ := oe
    obtain ⟨h1, h2⟩ := hz
    dsimp only at h1 h2 hv
    subst h1 h2 hv
    rcases hd with rfl | ⟨dd, fs, rfl, ed⟩
    · exact ⟨none, hget, rfl, rfl, trivial⟩
    · have hx : ObjOk X.prog X.w H s.heap dd (.xd fs) := I.hok dd _ ed
      obtain ⟨mA, hns, hr⟩ := hx
      obtain ⟨od, ho, hl⟩ := lookIn_ns hns
      exact ⟨some od, hget, rfl, rfl, ho⟩
  obtain ⟨od, J⟩ := J
  rcases h with ⟨c, cv, b, rfl, hcv, e, q⟩ | ⟨tp, cs, ws, b, rfl, hT, k, e, q⟩
  · obtain ⟨u1, u2, rfl, r1, r2⟩ := vals2 r
    cases (show u1 = Value.ref a from r1)
    have ec := hcv.eq r2
    subst ec
    exact PySem.W.kia_one (kitx_excO C) I.kIn J e (fun z => nomatch z) fun tk => ⟨.bl b, H, I.tok tk, rfl, q⟩
  · obtain ⟨u1, u2, rfl, r1, r2⟩ := vals2 r
    cases (show u1 = Value.ref a from r1)
    cases (show u2 = Value.ref tp from r2)
    obtain ⟨_, its, rv, o, h1, h2, n, h3⟩ := (show ObjOk X.prog X.w H s.heap tp (.tup cs) from I.hok tp _ hT)
    have e3 := ClsV.all k rv
    subst e3
    obtain ⟨oc, od', dt, sl⟩ := o
    simp only at h2 h3
    subst h2 h3
    exact PySem.W.kia_tup (kitx_excO C) I.kIn J h1 e (fun z => nomatch z) fun tk => ⟨.bl b, H, I.tok tk, rfl, q⟩
/-! the promises of the errors' makers -/
/-- C.__init__(self, v): one field -/
def spX1 (C : Addr) (f : Str) : Sp := fun vs H Q _ => ∃ (a : Addr) (v : V), vs = [.ref a, v] ∧ H a = some (exo a C none) ∧ ∀ dx, H dx = none → dx ≠ a → Q .non (upd (upd H dx (exd dx [(f, v)])) a (exo a C (some dx)))
/-- two fields -/
def spX2 (C : Addr) (f g : Str) : Sp := fun vs H Q _ => ∃ (a : Addr) (v u : V), vs = [.ref a, v, u] ∧ H a = some (exo a C none) ∧ ∀ dx, H dx = none → dx ≠ a → Q .non (upd (upd H dx (exd dx [(g, u), (f, v)])) a (exo a C (some dx)))
/-- none -/
def spX0 (C : Addr) : Sp := fun vs H Q _ => ∃ (a : Addr), vs = [.ref a] ∧ H a = some (exo a C none) ∧ Q .non H
theorem upd_del {H : Hp} {a dx : Addr} {o1 o2 o3 o4 : HO} (ha : H a = none) (hd : dx ≠ a) : upd (del (upd (upd (upd H a o1) dx o2) a o3) a) dx o4 = upd H dx o4 := by
  funext b
  by_cases h : b = dx
  · rw [h, upd_same, upd_same]
  · rw [upd_ne h, upd_ne h]
    by_cases g : b = a
    · rw [g, del_same, ha]
    · rw [del_ne g, upd_ne g, upd_ne h, upd_ne g]
theorem del_upd {H : Hp} {a : Addr} {o : HO} (ha : H a = none) : del (upd H a o) a = H := by
  funext b
  by_cases g : b = a
  · rw [g, del_same, ha]
  · rw [del_ne g, upd_ne g]
/-- the end of C(): the exception is let go; it has no dict -/
theorem mk_endN {X : Cx} {pins : List (Addr × Obj)} {σ : L2.St} {H1 H2 : Hp} {Q : XK} {hp hp2 h2 : Heap} {g1 g2 : Array GenState} {d1 d2 : Drawn} {t1 t2 : Nat} {os1 os2 : OsState} {a C : Addr} (T : Raises X (.ref C)) (I1 : Inv X pins σ H1 ⟨hp, g1, d1, t1, os1⟩)
    (ha : hp.objs.size ≤ a) (k : ∀ b o, hp.get? b = some o → hp2.get? b = some o) (un : Un (frs X.stack) [] (upd H1 a (exo a C none)) H2 hp2 h2) (hok : HOk X.prog X.w H2 h2) (ho : os2 = os1) (hb : AllBare g2)
    (ea : H2 a = some (exo a C none)) (q : Q (.ref C) none (del H2 a)) : MkP X pins σ Q (.ref a) ⟨h2, g2, d2, t2, os2⟩ := by
  obtain ⟨t0, hoe⟩ := exo_at hok ea
  have hn : H1 a = none := I1.hok.fresh ha
  obtain ⟨G, g1', g2'⟩ := restrict h2 fun b => decide (b ≠ a)
  have gk : ∀ b, b ≠ a → G.get? b = h2.get? b := fun b hb => g1' b (decide_eq_true hb)
  have ge : G.get? a = none := g2' a (by simp)
  have nha : ∀ {b : Addr} {o : Obj}, hp.get? b = some o → b ≠ a := fun {b o} z => Nat.ne_of_lt (Nat.lt_of_lt_of_le (Heap.lt_size z) ha)
  have up : ∀ {b : Addr}, b ≠ a → H1 b = none → upd H1 a (exo a C none) b = none := fun {b} hb n => by rw [upd_ne hb]; exact n
  have U : Un (frs X.stack) [] H1 (del H2 a) hp G := {
    keep := fun b o z n hf hx => by
      rw [gk b (nha z)]
      exact un.keep b o (k b o z) (up (nha z) n) hf hx
    slot := fun b o z n hf hx => by
      rw [gk b (nha z)]
      exact un.slot b o (k b o z) (up (nha z) n) hf hx
    free := fun b o z n hx => by
      rw [del_ne (nha z)]
      exact un.free b o (k b o z) (up (nha z) n) hx
    there := fun b o z hx => by
      rw [gk b (nha z)]
      exact un.there b o (k b o z) hx
    tups := fun b xs z => by
      rw [del_ne (ne_of_none z hn)]
      exact un.tups b xs (by rw [upd_ne (ne_of_none z hn)]; exact z)
    frzs := fun b o v z => by
      rw [del_ne (ne_of_none z hn)]
      exact un.frzs b o v (by rw [upd_ne (ne_of_none z hn)]; exact z)
    tbls := fun b ps z => by
      rw [del_ne (ne_of_none z hn)]
      exact un.tbls b ps (by rw [upd_ne (ne_of_none z hn)]; exact z) }
  have hok3 : HOk X.prog X.w (del H2 a) G := fun b o z => by
    have hba : b ≠ a := fun e => by
      rw [e, del_same] at z
      cases z
    rw [del_ne hba] at z
    have noa : ∀ {c : Addr}, H2 c = some (.own b) → c ≠ a := fun {c} hc => at_ne ea hc exo_own
    exact (hok b o z).stay (fun c v hc y => by
        have hca : c ≠ a := by
          rcases hc with hc | hc
          · rw [hc]
            exact hba
          · exact noa hc
        rw [gk c hca]
        exact y)
      (fun c hc => by rw [del_ne (noa hc)]; exact hc) (fun c xs hc => by rw [del_ne (at_ne ea hc exo_tup)]; exact hc)
  have J : Inv X pins σ (del H2 a) ⟨G, g2, d2, t2, os2⟩ := I1.call' (ch := []) ho U hok3 hb (fun b z => absurd z (by simp))
  refine ⟨a, _, _, ⟨G, g2, d2, t2, os2⟩, _, .ref C, none, rfl, J, fun b o z => ?_, ge, hoe, ⟨rfl, rfl⟩, rfl, rfl, del_same, rfl, hb, T, q⟩
  by_cases hba : b = a
  · rw [hba] at z
    rw [show G.get? a = none from ge] at z
    cases z
  · exact (gk b hba).symm.trans z
/-- C(), C's own __init__ keeping sp -/
def tMkN (C : Addr) (sp : Sp)   : L2.St → Hp → XK → Prop := fun σ H Q => ∀ a, H a = none → sp [.ref a] (upd H a (exo a C none)) (fun v H2 => v = .non ∧ H2 a = some (exo a C none) ∧ Q (.ref C) none (del H2 a)) (fun _ _ _ => False)
section
variable {X : Cx} {p pos : Pos}
theorem pmk_oexN {CX : CXT} {x : Str} {C fI : Addr} {k : Nat} {fd : FuncData} {ps : List Str} {sp : Sp} (T : OexC X.K C) (iC : PySem.W.findIn X.K (.ref C) "__init__" = some (some (.ref fI))) (tI : PySem.W.typeIn X.K (.ref fI) = some (.type "function"))
    (F1 : FnOk X.prog X.w X.K X.mg X.base CX k fI fd ps sp) (hr : Room (k + 1) X.A) (hb : Binds X.K fd ps []) (hx : Passes CX X (fun _ _ _ => False)) (hg : Gl X x) (hm : X.mg x = some (.ref C))
    (hdb : (x == ("__debug__" : Str)) = false := by decide) :
    PMk X (.Call (.Name x p) [] [] pos) (tMkN C sp) := by
  intro pins s σ H1 Q I1 q1
  obtain ⟨nm, q, N, bs, bm, sn, sub, ab, col, dd, k0, k1, k2, k3, k5, hC, hbm⟩ := T.cls
  refine wpAny_Call_Name_kw (ld_glob I1 hg hm ?_ hdb)
  refine PySem.W.callWith_K0 I1.kIn T.kC ?_
  show wpAny _ _ (call (.ref C) []) _ _ _
  obtain ⟨hp, g, dr, tk, os⟩ := s
  have hsz : hp.objs.size ≤ hp.objs.size + 1 := Nat.le_succ _
  have hn : H1 (hp.objs.size + 1) = none := I1.hok.fresh hsz
  have hq : sp _ _ _ _ := q1 (hp.objs.size + 1) hn
  have kk : ∀ b o, hp.get? b = some o → ((hp.push (PySem.W.kdv_tup [])).push (PySem.HandSPX.excO C hp.objs.size)).get? b = some o := fun b o e => Heap.get?_push_of_some _ (Heap.get?_push_of_some _ e)
  have hget : ((hp.push (PySem.W.kdv_tup [])).push (PySem.HandSPX.excO C hp.objs.size)).get? (hp.objs.size + 1) = some (PySem.HandSPX.excO C hp.objs.size) := by heap_get
  have I2 : Inv X pins σ (upd H1 (hp.objs.size + 1) (exo (hp.objs.size + 1) C none)) ⟨(hp.push (PySem.W.kdv_tup [])).push (PySem.HandSPX.excO C hp.objs.size), g, dr, tk, os⟩ :=
    I1.laid (t' := tk) (a := hp.objs.size + 1) (o := exo (hp.objs.size + 1) C none) (h' := (hp.push (PySem.W.kdv_tup [])).push (PySem.HandSPX.excO C hp.objs.size)) kk hsz (exo_ok hget)
  have r2 : Vals [V.ref (hp.objs.size + 1)] [Value.ref (hp.objs.size + 1)] := .cons rfl .nil
  have hl : ([Value.ref (hp.objs.size + 1)] ++ []).length = ps.length := by
    have e := F1.len _ _ _ _ hq
    exact e
  refine wpAny_call (PySem.HandSPX.call_own F.excBase_ValueError (fun Y => PySem.HandSPX.refsVE_contains Y bm hbm) (I1.kIn _ _ hC) (PySem.W.looks_findIn I1.kIn iC) (fun self => PySem.W.bind_fn I1.kIn self tI) (Nat.zero_le _)
    (codeAny_mono (F1.run _ X.stack _ _ ⟨[Value.ref (hp.objs.size + 1)], []⟩ [Value.ref (hp.objs.size + 1)] _ _ (fun _ _ _ => False) (hr.make C [] []) (I2.env0.make C [] []) (by have b := hb _ [Value.ref (hp.objs.size + 1)] I2.kIn hl; exact b) r2 hq) fun r s' hq' => ?_))
  cases r with
  | error er => exact hx pins σ _ _ er s' I2 hq'
  | ok fl =>
    cases fl with
    | ret u =>
      obtain ⟨v, H2, os2, bare2, un2, hok2, rv, ev, ea, q2⟩ := hq'
      subst ev
      obtain ⟨h2, g2, d2, t2, os'⟩ := s'
      exact ⟨rv, mk_endN (raises_own T.exC T.tyC) I1 hsz kk un2 hok2 os2 bare2 ea q2⟩
    | next => exact False.elim hq'
    | brk => exact False.elim hq'
    | cont => exact False.elim hq'
theorem PMk.imp {X : Cx} {e : Expr} {t t'   : L2.St → Hp → XK → Prop} (h : PMk X e t) (i : ∀ σ H Q, t' σ H Q → t σ H Q) : PMk X e t' := fun pins s σ H Q I q => h pins s σ H Q I (i _ _ _ q)
/-- the class over all of them: NetError at N, over ValueError, without an __init__ of its own -/
structure NetE (K : PySem.W.Frag) (mg : Str → Option Value) (N : Addr) : Prop where
  g : mg "NetError" = some (.ref N)
  sp : PySem.W.specialIn K (.ref N) "__getattribute__" = some (some (.builtin "type.__getattribute__"))
  rd : PySem.W.readsIn K N (.type "type") = true
  v : PySem.W.findCls K (.ref N) (.type "type") "__init__" = some (.val (.builtin "ValueError.__init__"))
theorem upd_upd {H : Hp} {a : Addr} {o u : HO} : upd (upd H a o) a u = upd H a u := by
  funext b
  by_cases g : b = a
  · rw [g, upd_same, upd_same]
  · rw [upd_ne g, upd_ne g, upd_ne g]
theorem upd_swap {H : Hp} {a b : Addr} {o u : HO} (n : a ≠ b) : upd (upd H b o) a u = upd (upd H a u) b o := by
  funext c
  by_cases g : c = a
  · rw [g, upd_same, upd_ne n, upd_same]
  · rw [upd_ne g]
    by_cases g' : c = b
    · rw [g', upd_same, upd_same]
    · rw [upd_ne g', upd_ne g', upd_ne g]
/-- an own error class x at C, as the law's callers need it: its maker keeps sp -/
structure Err (P : Program) (w : World) (K : PySem.W.Frag) (mg : Str → Option Value) (base : Heap) (x : Str) (C : Addr) (ps : List Str) (sp : Sp) : Prop where
  t : OexC K C
  g : mg x = some (.ref C)
  mkr : ∃ (fI : Addr) (fd : FuncData), PySem.W.findIn K (.ref C) "__init__" = some (some (.ref fI)) ∧ PySem.W.typeIn K (.ref fI) = some (.type "function") ∧ FnOk P w K mg base CX0 1 fI fd ps sp ∧ Binds K fd ps []
theorem err1_ok {H : Hp} {C : Addr} {f : Str} {v : V} {Q : XK} (q : ∀ d, H d = none → Q (.ref C) (some d) (upd H d (.xd [(f, v)]))) :
    ([v] : List V).length ≤ 1000 ∧ ∀ a, H a = none → spX1 C f (.ref a :: ([v] ++ [])) (upd H a (exo a C none))
      (fun v H2 => v = .non ∧ ∃ (d : Addr) (fs : List (Str × V)), H2 a = some (exo a C (some d)) ∧ H2 d = some (exd d fs) ∧ H d = none ∧ Q (.ref C) (some d) (upd (del H2 a) d (.xd fs))) (fun _ _ _ => False) := by
  refine ⟨(by simp), fun a ha => ⟨a, v, rfl, upd_same, fun dx hd ne => ⟨rfl, dx, [(f, v)], upd_same, ?_, ?_, ?_⟩⟩⟩
  · rw [upd_ne ne, upd_same]
  · rw [upd_ne ne] at hd
    exact hd
  · rw [upd_del ha ne]
    rw [upd_ne ne] at hd
    exact q dx hd
theorem err2_ok {H : Hp} {C : Addr} {f g : Str} {v u : V} {Q : XK} (q : ∀ d, H d = none → Q (.ref C) (some d) (upd H d (.xd [(g, u), (f, v)]))) :
    ([v, u] : List V).length ≤ 1000 ∧ ∀ a, H a = none → spX2 C f g (.ref a :: ([v, u] ++ [])) (upd H a (exo a C none))
      (fun v H2 => v = .non ∧ ∃ (d : Addr) (fs : List (Str × V)), H2 a = some (exo a C (some d)) ∧ H2 d = some (exd d fs) ∧ H d = none ∧ Q (.ref C) (some d) (upd (del H2 a) d (.xd fs))) (fun _ _ _ => False) := by
  refine ⟨(by simp), fun a ha => ⟨a, v, u, rfl, upd_same, fun dx hd ne => ⟨rfl, dx, [(g, u), (f, v)], upd_same, ?_, ?_, ?_⟩⟩⟩
  · rw [upd_ne ne, upd_same]
  · rw [upd_ne ne] at hd
    exact hd
  · rw [upd_del ha ne]
    rw [upd_ne ne] at hd
    exact q dx hd
theorem err0_ok {H : Hp} {C : Addr} {σ : L2.St} {Q : XK} (q : Q (.ref C) none H) : tMkN C (spX0 C) σ H Q := fun a ha => by
  refine ⟨a, rfl, upd_same, rfl, upd_same, ?_⟩
  rw [del_upd ha]
  exact q
theorem pmk_err0 {x : Str} {C : Addr} {ps : List Str} {sp : Sp} (T : Err X.prog X.w X.K X.mg X.base x C ps sp) (hr : Room 2 X.A) (hg : Gl X x) (hdb : (x == ("__debug__" : Str)) = false := by decide) : PMk X (.Call (.Name x p) [] [] pos) (tMkN C sp) := by
  obtain ⟨fI, fd, iC, tI, F1, hb⟩ := T.mkr
  exact pmk_oexN T.t iC tI F1 hr hb (fun _ _ _ _ _ _ _ h => h.elim) hg T.g hdb
theorem pmk_err {x : Str} {C : Addr} {ps : List Str} {sp : Sp} {e : Expr} {es : List Expr} {ta : TA} (T : Err X.prog X.w X.K X.mg X.base x C ps sp) (hr : Room 2 X.A) (hg : Gl X x) (ha : PA X (e :: es) ta) (hdb : (x == ("__debug__" : Str)) = false := by decide)
    (he : starEach (e :: es) X.env = (false, eval e X.env) :: starEach es X.env := by rfl) (hpl : (backTo pos (starEach es X.env)).any (·.1) = false := by rfl) :
    PMk X (.Call (.Name x p) (e :: es) [] pos) (tMkO C sp [] ta) := by
  obtain ⟨fI, fd, iC, tI, F1, hb⟩ := T.mkr
  exact pmk_oex T.t iC tI F1 hr hb .nil (fun _ _ _ _ _ _ _ h => h.elim) hg T.g ha hdb he hpl
theorem passF : Passes (L2.CX X.prog X.w) X (fun _ _ _ => False) := passes_call takes0 (fun _ _ _ _ h => h)
end
end Wn

namespace Wn
open PySem L2
open SX (S S_len S_cat S_beq_eq join_S)
abbrev sSign : Stmt := top 12
abbrev sText : Stmt := top 13

def allSigns : Str := Str.ofString " !\"#$&'()*+,-./0123456789:;<=>?@ABCDEFGHIJKLMNOPQRSTUVWXYZ[\\]^_" ++ Str.ofString "`abcdefghijklmnopqrstuvwxyz{|}~"
theorem allSigns_len : allSigns.cps.toList.length = 94 := by decide +kernel
theorem allSigns_ok : (allSigns.cps.toList.all fun c => decide (32 ≤ c) && decide (c ≤ 126) && decide (c ≠ 37)) = true := by decide +kernel
theorem allSigns_sz : (Str.ofString " !\"#$&'()*+,-./0123456789:;<=>?@ABCDEFGHIJKLMNOPQRSTUVWXYZ[\\]^_").length + (Str.ofString "`abcdefghijklmnopqrstuvwxyz{|}~").length ≤ sizeLine := by decide +kernel
theorem allSigns_sz2 : allSigns.length ≤ sizeLine := by decide +kernel
section
variable {P : Program} {w : World} {K : PySem.W.Frag} {mg : Str → Option Value} {base : Heap}
theorem scSign : FnScope ["_law_deck_here", "_law_some"] ["_law_deck_here"] (defScope sSign) := ⟨rfl, rfl, rfl, by decide +kernel, rfl, by decide +kernel, by decide +kernel⟩
theorem ok_sign {f : Addr} {fd : FuncData} (F : Fun K "_law_sign" "_law_sign" sSign f fd)
    (cN : Cd P w K mg base 2 "_law_next" ["_law_deck_here", "_law_many"] spNext) : FnOk P w K mg base CX0 3 f fd ["_law_deck_here"] spSign := by
  obtain ⟨fN, fdN, GN, mN, kN, bN⟩ := cN.tk
  refine F.ok scSign (fun vs H Q E h => ?_) (fun cdv A outer s H vs Q E hr h => ?_)
  · obtain ⟨d, f, n, rfl, _⟩ := h
    rfl
  · obtain ⟨d, f, n, rfl, D0, hn, k⟩ := h
    have hr2 : Room 2 _ := hr
    refine ⟨_, (pss_cons (ps_set (i := 1) scSign.nd rfl (Or.inl rfl) pe_str)
       (pss_cons (ps_set (i := 1) scSign.nd rfl (Or.inl rfl) (pe_op op_add_str (pv 1) pe_str))
       (pss_one (ps_ret (pe_ix ix_str (pv 1) (pe_call GN hr2 rfl mN kN bN .nil pass0 (pa_cons (pv 0) (pa_cons pe_int pa_nil))) (fun _ _ => rfl)))))), ?_⟩
    refine ⟨_, rfl, _, _, rfl, rfl, allSigns_sz, ?_⟩
    refine ⟨_, rfl, _, rfl, d, f, 94, n, rfl, by decide, hn, D0, fun r H1 r0 r1 k1 D1 t1 => ?_⟩
    have hj : r.toNat < allSigns.cps.toList.length := by rw [allSigns_len]; omega
    have hr' : ((r.toNat : Nat) : Int) = r := by omega
    have ha : atI allSigns.cps.toList r = some (allSigns.cps.toList[r.toNat]) := by
      have := atI_nat (xs := allSigns.cps.toList) (j := r.toNat) (v := allSigns.cps.toList[r.toNat]) (by simp [hj])
      rw [hr'] at this
      exact this
    refine ⟨allSigns, r, _, rfl, rfl, allSigns_sz2, ha, k _ _ ?_ k1 D1⟩
    have h1 := List.all_eq_true.mp allSigns_ok _ (List.getElem_mem hj)
    simp only [Bool.and_eq_true, decide_eq_true_eq] at h1
    exact ⟨h1.1.1, h1.1.2, h1.2⟩
theorem scText : FnScope ["_law_deck_here", "_law_most", "_law_k"] ["_law_deck_here", "_law_most"] (defScope sText) := ⟨rfl, rfl, rfl, by decide +kernel, rfl, by decide +kernel, by decide +kernel⟩
theorem ok_text {f : Addr} {fd : FuncData} (F : Fun K "_law_text" "_law_text" sText f fd) (zR : mg "range" = none)
    (cN : Cd P w K mg base 2 "_law_next" ["_law_deck_here", "_law_many"] spNext) (cG : Cd P w K mg base 3 "_law_sign" ["_law_deck_here"] spSign) : FnOk P w K mg base CX0 4 f fd ["_law_deck_here", "_law_most"] spText := by
  obtain ⟨fN, fdN, GN, mN, kN, bN⟩ := cN.tk
  obtain ⟨fG, fdG, GG, mG, kG, bG⟩ := cG.tk
  refine F.ok scText (fun vs H Q E h => ?_) (fun cdv A outer s H vs Q E hr h => ?_)
  · obtain ⟨d, f, n, most, rfl, _⟩ := h
    rfl
  · obtain ⟨d, f, n, most, rfl, D0, hn, m0, m1, k⟩ := h
    have hr2 : Room 2 _ := hr.mono (by decide)
    have hr3 : Room 3 _ := hr
    refine ⟨_, (pss_one (ps_ret (joinK (K := K) rfl pe_str (pe_lc (own := [("_law_k", 2)]) (g := (gName 2)) (tt := tYes) rfl scText.nd (pi_range1 rfl zR (pa_cons (pe_call GN hr2 rfl mN kN bN .nil pass0 (pa_cons (pv 0) (pa_cons (pe_op op_add (pv 1) pe_int) pa_nil))) pa_nil)) (blkOk_by (N := ["_law_deck_here", "_law_most", "_law_k"]) (sc := defScope sText) (by decide +kernel))
       (fun _ _ _ _ _ => (pg_name (i := 2) scText.nd rfl (Or.inl rfl))) (fun _ _ _ _ _ => pts_nil) (fun _ _ _ _ _ => (pe_call GG hr3 rfl mG kG bG .nil pass0 (pa_cons (pv 0) pa_nil))))))), ?_⟩
    refine ⟨⟨_, rfl⟩, ?_⟩
    refine ⟨_, rfl, _, rfl, _, _, rfl, rfl, d, f, most + 1, n, rfl, by omega, by omega, D0, fun r H1 r0 r1 k1 D1 t1 => ?_⟩
    refine ⟨r, rfl, by omega, by omega, fun D hD => ?_⟩
    have nDd : D ≠ d := (ne_of_none D1.lst.choose_spec hD).symm
    have s2 : Same H1 (upd H1 D (.lst [])) := (L2.Same.refl H1).new hD
    refine lc_range (lo := 0) (n := r.toNat) (fun j H' => ∃ cs : List Nat, H' D = some (.lst ((cs.map fun c => S [c]).map V.str)) ∧ cs.length = j ∧ (∀ c ∈ cs, OkSign c) ∧ Kp [d] H1 H' ∧ Deck H' d f (n + 1 + j)) ⟨[], upd_same, rfl, (by intro c hc; cases hc), Kp.of s2, (D1.same s2).mono (by omega)⟩ ?_ ?_
    · rintro j H3 hj ⟨cs, hD3, lc, oc, k3, D3⟩
      refine ⟨rfl, _, rfl, d, f, n + 1 + j, rfl, D3, by omega, fun c H4 hc k4 D4 t4 => ?_⟩
      have hD4 := k4 _ _ (nin1 nDd) hD3
      refine ⟨_, hD4, ?_, cs ++ [c], ?_, by rw [List.length_append, lc]; rfl, ?_, (k3.trans k4).wrn hD, ?_⟩
      · rw [List.length_map, List.length_map, lc]
        exact Nat.lt_of_le_of_lt (show j ≤ 100000 by omega) (by decide)
      · rw [upd_same, List.map_append, List.map_append]
        rfl
      · intro c' hc'
        rcases List.mem_append.mp hc' with h | h
        · exact oc _ h
        · rw [List.mem_singleton.mp h]
          exact hc
      · have hf : f ≠ D := ne_of_none D1.lst2.choose_spec hD
        exact (D4.kp (M := [D]) ((Kp.refl _ _).wr (List.mem_singleton.mpr rfl)) (nin1 nDd.symm) (nin1 hf)).mono (by omega)
    · rintro H3 ⟨cs, hD3, lc, oc, k3, D3⟩
      refine ⟨_, D, cs.map fun c => S [c], rfl, rfl, .inl (SqL.of hD3), ?_, ?_⟩
      · rw [sum_signs, List.length_map]
        show cs.length + cs.length * 0 ≤ _
        omega
      · rw [show (Txt.join (Str.ofString "") (cs.map fun c => S [c])) = S cs from join_signs cs]
        exact k cs H3 (by omega) oc (k1.trans k3) (D3.mono (by omega))
end
end Wn

namespace Wn
open PySem L2
open SX (S S_len S_cat S_beq_eq join_S)
abbrev Part := Nat × List Nat
def partD (p : Part) : PyData := .tuple [.int (p.1 : Int), .str (S p.2)]
theorem partD_inv {K : PySem.W.Frag} {H : Hp} {x : Part} {u : V} (r : Rp K H (partD x) u) : ∃ a, u = .ref a ∧ SqT K H a [.int (x.1 : Int), .str (S x.2)] := by
  unfold partD Rp at r
  obtain ⟨a, xs, rfl, ha, hl⟩ := r
  unfold RpL at hl
  obtain ⟨v0, r0, rfl, h0, hl⟩ := hl
  unfold RpL at hl
  obtain ⟨v1, r1, rfl, h1, hl⟩ := hl
  unfold RpL at hl
  subst hl
  unfold Rp at h0 h1
  subst h0 h1
  exact ⟨a, rfl, ha⟩
theorem lt_len {n : Int} : ∀ (l : List Int) (a : Int), l.Pairwise (· < ·) → (∀ x ∈ l, a ≤ x ∧ x < n) → (l.length : Int) ≤ if a ≤ n then n - a else 0
  | [], a, _, _ => by
    show (0 : Int) ≤ _
    split <;> omega
  | x :: l, a, h, b => by
    rw [List.pairwise_cons] at h
    have hx := b x List.mem_cons_self
    have ih := lt_len l (x + 1) h.2 fun y hy => ⟨by have := h.1 y hy; omega, (b y (List.mem_cons_of_mem _ hy)).2⟩
    rw [List.length_cons]
    split at ih <;> split <;> omega
theorem nodup_len {n : Nat} {l : List Int} (nd : l.Nodup) (b : ∀ x ∈ l, 0 ≤ x ∧ x < (n : Int)) : l.length ≤ n := by
  have p := sortI_perm l
  have h := lt_len (n := (n : Int)) (sortI l) 0 (lt_of_nodup (sortI_sorted l) (p.nodup_iff.mpr nd)) fun x hx => b x (p.mem_iff.mp hx)
  rw [p.length_eq, if_pos (by omega)] at h
  omega
theorem nodup_all {n : Nat} {l : List Int} (nd : l.Nodup) (b : ∀ x, x ∈ l ↔ 0 ≤ x ∧ x < (n : Int)) : l.length = n := by
  have p := sortI_perm l
  have e : sortI l = (List.range n).map fun (j : Nat) => (j : Int) := by
    refine eq_of_lt _ _ (lt_of_nodup (sortI_sorted l) (p.nodup_iff.mpr nd)) ?_ fun x => ?_
    · rw [List.pairwise_map]
      exact (List.pairwise_lt_range (n := n)).imp fun h => by omega
    · rw [p.mem_iff, b, List.mem_map]
      constructor
      · intro h
        exact ⟨x.toNat, by rw [List.mem_range]; omega, by omega⟩
      · rintro ⟨j, hj, rfl⟩
        rw [List.mem_range] at hj
        omega
  rw [← p.length_eq, e, List.length_map, List.length_range]
/-- fewer keys than n, all below n: one lacks -/
theorem nodup_lack {n : Nat} {l : List Int} (nd : l.Nodup) (b : ∀ x ∈ l, 0 ≤ x ∧ x < (n : Int)) : l.length < n ↔ ∃ j : Nat, j < n ∧ (j : Int) ∉ l := by
  constructor
  · intro h
    refine Classical.byContradiction fun c => ?_
    have : l.length = n := nodup_all nd fun x => ⟨b x, fun hx => by
      refine Classical.byContradiction fun d => c ⟨x.toNat, by omega, ?_⟩
      rw [show ((x.toNat : Nat) : Int) = x by omega]
      exact d⟩
    omega
  · rintro ⟨j, hj, hn⟩
    have := nodup_len (n := n) (l := (j : Int) :: l) (List.nodup_cons.mpr ⟨hn, nd⟩) fun x hx => by
      rcases List.mem_cons.mp hx with rfl | hx
      · omega
      · exact b x hx
    rw [List.length_cons] at this
    omega
def signD (c : Nat) : PyData := .str (S [c])
abbrev Ev := Nat × Nat
/-- the first l signs of a part, each with its place -/
def evT (p : Part) (l : Nat) : List Ev := (p.2.take l).zipIdx.map fun x => (p.1 + x.2, x.1)
def evP (p : Part) : List Ev := evT p p.2.length
def evs (ps : List Part) : List Ev := ps.flatMap evP
theorem evT_zero (p : Part) : evT p 0 = [] := by
  unfold evT
  rw [List.take_zero]
  rfl
theorem evT_succ {p : Part} {l c : Nat} (h : p.2[l]? = some c) : evT p (l + 1) = evT p l ++ [(p.1 + l, c)] := by
  have hl := (List.getElem?_eq_some_iff.mp h).1
  have hc := (List.getElem?_eq_some_iff.mp h).2
  unfold evT
  rw [List.take_succ_eq_append_getElem hl, List.zipIdx_append, List.map_append]
  congr 1
  rw [List.length_take, Nat.min_eq_left (by omega), hc]
  simp
theorem evs_take {ps : List Part} {i : Nat} (h : i < ps.length) : evs (ps.take (i + 1)) = evs (ps.take i) ++ evP ps[i] := by
  unfold evs
  rw [List.take_succ_eq_append_getElem h, List.flatMap_append]
  simp
theorem mem_evP {p : Part} {j c : Nat} : (j, c) ∈ evP p ↔ p.1 ≤ j ∧ p.2[j - p.1]? = some c := by
  unfold evP evT
  rw [List.take_length, List.mem_map]
  constructor
  · rintro ⟨⟨x, k⟩, hx, e⟩
    rw [List.mem_zipIdx_iff_getElem?] at hx
    simp only [Prod.mk.injEq] at e
    obtain ⟨e1, e2⟩ := e
    dsimp only at hx
    refine ⟨by omega, ?_⟩
    rw [show j - p.1 = k by omega, ← e2]
    exact hx
  · rintro ⟨h1, h2⟩
    refine ⟨(c, j - p.1), ?_, ?_⟩
    · rw [List.mem_zipIdx_iff_getElem?]
      exact h2
    · simp only [Prod.mk.injEq, and_true]
      omega
theorem mem_evs {ps : List Part} {j c : Nat} : (j, c) ∈ evs ps ↔ ∃ p ∈ ps, p.1 ≤ j ∧ p.2[j - p.1]? = some c := by
  unfold evs
  rw [List.mem_flatMap]
  constructor
  · rintro ⟨p, hp, h⟩
    exact ⟨p, hp, mem_evP.mp h⟩
  · rintro ⟨p, hp, h⟩
    exact ⟨p, hp, mem_evP.mpr h⟩
/-- the place p is torn -/
def TornAt (W : Nat) (es : List Ev) (p : Nat) : Prop := (W ≤ p ∧ ∃ c, (p, c) ∈ es) ∨ ∃ c c', (p, c) ∈ es ∧ (p, c') ∈ es ∧ c ≠ c'
/-- what is known behind the signs es: g tells a sign that came, torn places in T -/
structure Kn (W : Nat) (es : List Ev) (g : Nat → Option Nat) (T : List Int) : Prop where
  a : ∀ p c, p < W → g p = some c → (p, c) ∈ es
  b : ∀ p c, p < W → (p, c) ∈ es → (g p).isSome = true
  t : ∀ x : Int, x ∈ T ↔ ∃ p : Nat, x = (p : Int) ∧ TornAt W es p
theorem torn_snoc {W : Nat} {es : List Ev} {g : Nat → Option Nat} {T : List Int} (h : Kn W es g T) (q c : Nat) (x : Int) :
    (x ∈ T ∨ (x = (q : Int) ∧ (W ≤ q ∨ ∃ c', g q = some c' ∧ c' ≠ c))) ↔ ∃ p : Nat, x = (p : Int) ∧ TornAt W (es ++ [(q, c)]) p := by
  constructor
  · rintro (h1 | ⟨rfl, h1 | ⟨c', h1, h2⟩⟩)
    · obtain ⟨p, e, t⟩ := (h.t x).mp h1
      refine ⟨p, e, ?_⟩
      rcases t with ⟨h2, c1, h3⟩ | ⟨c1, c2, h2, h3, h4⟩
      · exact .inl ⟨h2, c1, List.mem_append_left _ h3⟩
      · exact .inr ⟨c1, c2, List.mem_append_left _ h2, List.mem_append_left _ h3, h4⟩
    · exact ⟨q, rfl, .inl ⟨h1, c, by simp⟩⟩
    · by_cases hq : q < W
      · exact ⟨q, rfl, .inr ⟨c', c, List.mem_append_left _ (h.a _ _ hq h1), by simp, h2⟩⟩
      · exact ⟨q, rfl, .inl ⟨by omega, c, by simp⟩⟩
  · rintro ⟨p, rfl, t⟩
    by_cases old : TornAt W es p
    · exact .inl ((h.t _).mpr ⟨p, rfl, old⟩)
    · refine .inr ?_
      have new : ∀ z, (p, z) ∈ es ++ [(q, c)] → (p, z) ∈ es ∨ (p = q ∧ z = c) := fun z hz => by
        rcases List.mem_append.mp hz with hz | hz
        · exact .inl hz
        · rw [List.mem_singleton, Prod.mk.injEq] at hz
          exact .inr hz
      rcases t with ⟨h2, c1, h3⟩ | ⟨c1, c2, h2, h3, h4⟩
      · rcases new _ h3 with h3 | ⟨rfl, _⟩
        · exact (old (.inl ⟨h2, c1, h3⟩)).elim
        · exact ⟨rfl, .inl h2⟩
      · have key : ∀ z, (p, z) ∈ es → p = q → z ≠ c → p = q ∧ (W ≤ q ∨ ∃ c', g q = some c' ∧ c' ≠ c) := fun z hz e ne => by
          subst e
          by_cases hW : W ≤ p
          · exact ⟨rfl, .inl hW⟩
          · have hs := h.b p z (by omega) hz
            obtain ⟨y, hy⟩ := Option.isSome_iff_exists.mp hs
            refine ⟨rfl, .inr ⟨y, hy, fun e => ?_⟩⟩
            subst e
            exact old (.inr ⟨z, y, hz, h.a _ _ (by omega) hy, ne⟩)
        have fin : p = q ∧ (W ≤ q ∨ ∃ c', g q = some c' ∧ c' ≠ c) := by
          rcases new _ h2 with h2 | ⟨e2, z2⟩
          · rcases new _ h3 with h3 | ⟨e3, z3⟩
            · exact (old (.inr ⟨c1, c2, h2, h3, h4⟩)).elim
            · exact key c1 h2 e3 (by rw [← z3]; exact h4)
          · rcases new _ h3 with h3 | ⟨e3, z3⟩
            · exact key c2 h3 e2 (by rw [← z2]; exact fun z => h4 z.symm)
            · exact (h4 (z2.trans z3.symm)).elim
        exact ⟨by rw [fin.1], fin.2⟩
/-- the next sign comes -/
theorem Kn.snoc {W : Nat} {es : List Ev} {g g' : Nat → Option Nat} {T T' : List Int} (h : Kn W es g T) {q c : Nat} (hT : ∀ x, x ∈ T' ↔ x ∈ T ∨ (x = (q : Int) ∧ (W ≤ q ∨ ∃ c', g q = some c' ∧ c' ≠ c)))
    (h1 : ∀ p, p ≠ q → p < W → g' p = g p) (h2 : q < W → g' q = some c ∨ (g' q = g q ∧ (g q).isSome = true)) : Kn W (es ++ [(q, c)]) g' T' := by
  refine ⟨fun p z hp e => ?_, fun p z hp e => ?_, fun x => (hT x).trans (torn_snoc h q c x)⟩
  · by_cases hq : p = q
    · subst hq
      rcases h2 hp with e2 | ⟨e2, _⟩
      · rw [e2] at e
        cases e
        simp
      · rw [e2] at e
        exact List.mem_append_left _ (h.a _ _ hp e)
    · rw [h1 p hq hp] at e
      exact List.mem_append_left _ (h.a _ _ hp e)
  · by_cases hq : p = q
    · subst hq
      rcases h2 hp with e2 | ⟨e2, e3⟩
      · rw [e2]
        rfl
      · rw [e2]
        exact e3
    · rw [h1 p hq hp]
      rcases List.mem_append.mp e with e | e
      · exact h.b _ _ hp e
      · rw [List.mem_singleton, Prod.mk.injEq] at e
        exact (hq e.1).elim
theorem Kn.nil (W : Nat) : Kn W [] (fun _ => none) [] := by
  refine ⟨fun p c _ h => ?_, fun p c _ h => ?_, fun x => ⟨fun h => ?_, ?_⟩⟩
  · cases h
  · cases h
  · cases h
  · rintro ⟨p, _, ⟨_, c, h⟩ | ⟨c, _, h, _⟩⟩ <;> cases h
/-- what is told of the signs es for a text of W signs -/
inductive Res (W : Nat) (es : List Ev) : PyData → Prop where
  | torn (p : Nat) (h : TornAt W es p) (l : ∀ q, TornAt W es q → p ≤ q) : Res W es (.int (p : Int))
  | lack (h : ∀ p, ¬ TornAt W es p) (j : Nat) (hj : j < W) (n : ∀ c, (j, c) ∉ es) : Res W es .none
  | all (h : ∀ p, ¬ TornAt W es p) (cs : List Nat) (hl : cs.length = W) (hc : ∀ (j c : Nat), cs[j]? = some c → (j, c) ∈ es) : Res W es (.str (S cs))
theorem res_eq {W : Nat} {es : List Ev} {d e : PyData} (h1 : Res W es d) (h2 : Res W es e) : d = e := by
  cases h1 with
  | torn p h l =>
    cases h2 with
    | torn q h' l' =>
      have := l q h'
      have := l' p h
      rw [show p = q by omega]
    | lack n => exact (n _ h).elim
    | all n => exact (n _ h).elim
  | lack n j hj hn =>
    cases h2 with
    | torn q h' l' => exact (n _ h').elim
    | lack => rfl
    | all n' cs hl hc => exact (hn _ (hc j cs[j] (List.getElem?_eq_getElem (by omega)))).elim
  | all n cs hl hc =>
    cases h2 with
    | torn q h' l' => exact (n _ h').elim
    | lack n' j hj hn => exact (hn _ (hc j cs[j] (List.getElem?_eq_getElem (by omega)))).elim
    | all n' cs' hl' hc' =>
      have : cs = cs' := by
        refine List.ext_getElem (by omega) fun j h1 h2 => ?_
        refine Classical.byContradiction fun d => n j (.inr ⟨_, _, hc j _ (List.getElem?_eq_getElem h1), hc' j _ (List.getElem?_eq_getElem h2), d⟩)
      rw [this]
/-- the parts of a text -/
def SubPart (cs : List Nat) (p : Part) : Prop := ∀ (l c : Nat), p.2[l]? = some c → cs[p.1 + l]? = some c
theorem sub_in {cs : List Nat} {ps : List Part} (h : ∀ p ∈ ps, SubPart cs p) {j c : Nat} (e : (j, c) ∈ evs ps) : cs[j]? = some c := by
  obtain ⟨p, hp, h1, h2⟩ := mem_evs.mp e
  have := h p hp _ _ h2
  rw [show p.1 + (j - p.1) = j by omega] at this
  exact this
theorem sub_untorn {cs : List Nat} {ps : List Part} (h : ∀ p ∈ ps, SubPart cs p) (p : Nat) : ¬ TornAt cs.length (evs ps) p := by
  rintro (⟨h1, c, h2⟩ | ⟨c, c', h1, h2, h3⟩)
  · have := (List.getElem?_eq_some_iff.mp (sub_in h h2)).1
    omega
  · exact h3 (Option.some.inj ((sub_in h h1).symm.trans (sub_in h h2)))
theorem sub_res {cs : List Nat} {ps : List Part} (h : ∀ p ∈ ps, SubPart cs p) (cov : ∀ j : Nat, j < cs.length → ∃ p ∈ ps, p.1 ≤ j ∧ j < p.1 + p.2.length) : Res cs.length (evs ps) (.str (S cs)) := by
  refine .all (sub_untorn h) cs rfl fun j c hc => ?_
  obtain ⟨p, hp, h1, h2⟩ := cov j (List.getElem?_eq_some_iff.mp hc).1
  refine mem_evs.mpr ⟨p, hp, h1, ?_⟩
  have hl : j - p.1 < p.2.length := by omega
  have := h p hp _ _ (List.getElem?_eq_getElem hl)
  rw [show p.1 + (j - p.1) = j by omega, hc] at this
  rw [List.getElem?_eq_getElem hl, ← Option.some.inj this]
end Wn

namespace Wn
open PySem L2
abbrev sE_NoHead : Stmt := inClass (top 2) 0
abbrev sE_Broken : Stmt := inClass (top 3) 0
abbrev sE_Torn : Stmt := inClass (top 4) 0

section
variable {P : Program} {w : World} {K : PySem.W.Frag} {mg : Str → Option Value} {base : Heap} {NA C : Addr}
theorem scE_NoHead : FnScope ["self"] ["self"] (defScope sE_NoHead) := ⟨rfl, rfl, rfl, by decide +kernel, rfl, by decide +kernel, by decide +kernel⟩
theorem ok_E_NoHead {f : Addr} {fd : FuncData} (F : Fun K "__init__" "NoHead.__init__" sE_NoHead f fd) (N : NetE K mg NA) (T : OexC K C) : FnOk P w K mg base CX0 1 f fd ["self"] (spX0 C) := by
  refine F.ok scE_NoHead (fun vs H Q E h => ?_) (fun cdv A outer s H vs Q E hr h => ?_)
  · obtain ⟨a, rfl, _⟩ := h
    rfl
  · obtain ⟨a, rfl, ha, k⟩ := h
    refine ⟨_, (pss_one (ps_expr (pe_ownInit (by rfl) N.g N.sp N.rd N.v (pa_cons (pv 0) (pa_cons pe_str pa_nil))))), ?_⟩
    refine ⟨_, rfl, a, C, _, rfl, (by simp), T, ha, k⟩
theorem scE_Broken : FnScope ["self", "at"] ["self", "at"] (defScope sE_Broken) := ⟨rfl, rfl, rfl, by decide +kernel, rfl, by decide +kernel, by decide +kernel⟩
theorem ok_E_Broken {f : Addr} {fd : FuncData} (F : Fun K "__init__" "Broken.__init__" sE_Broken f fd) (N : NetE K mg NA) (T : OexC K C) (no0 : PySem.W.findIn K (.ref C) "at" = some none) : FnOk P w K mg base CX0 1 f fd ["self", "at"] (spX1 C "at") := by
  refine F.ok scE_Broken (fun vs H Q E h => ?_) (fun cdv A outer s H vs Q E hr h => ?_)
  · obtain ⟨a, v, rfl, _⟩ := h
    rfl
  · obtain ⟨a, v, rfl, ha, k⟩ := h
    refine ⟨_, (pss_cons (ps_expr (pe_ownInit (by rfl) N.g N.sp N.rd N.v (pa_cons (pv 0) (pa_cons pe_str pa_nil))))
       (pss_one (ps_ost (pv 0) (pv 1)))), ?_⟩
    refine ⟨_, rfl, a, C, _, rfl, (by simp), T, ha, _, rfl, _, rfl, a, C, rfl, T, no0, .inl ⟨ha, fun dx hd ne => k dx hd ne⟩⟩
theorem scE_Torn : FnScope ["self", "at"] ["self", "at"] (defScope sE_Torn) := ⟨rfl, rfl, rfl, by decide +kernel, rfl, by decide +kernel, by decide +kernel⟩
theorem ok_E_Torn {f : Addr} {fd : FuncData} (F : Fun K "__init__" "Torn.__init__" sE_Torn f fd) (N : NetE K mg NA) (T : OexC K C) (no0 : PySem.W.findIn K (.ref C) "at" = some none) : FnOk P w K mg base CX0 1 f fd ["self", "at"] (spX1 C "at") := by
  refine F.ok scE_Torn (fun vs H Q E h => ?_) (fun cdv A outer s H vs Q E hr h => ?_)
  · obtain ⟨a, v, rfl, _⟩ := h
    rfl
  · obtain ⟨a, v, rfl, ha, k⟩ := h
    refine ⟨_, (pss_cons (ps_expr (pe_ownInit (by rfl) N.g N.sp N.rd N.v (pa_cons (pv 0) (pa_cons pe_str pa_nil))))
       (pss_one (ps_ost (pv 0) (pv 1)))), ?_⟩
    refine ⟨_, rfl, a, C, _, rfl, (by simp), T, ha, _, rfl, _, rfl, a, C, rfl, T, no0, .inl ⟨ha, fun dx hd ne => k dx hd ne⟩⟩
end
end Wn

namespace Wn
open PySem L2
open SX (S S_len S_cat S_beq_eq join_S)
abbrev sPut : Stmt := top 6
structure TB (mg : Str → Option Value) : Prop where
  len : mg "len" = none
  range : mg "range" = none
  enumerate : mg "enumerate" = none
  min : mg "min" = none
  max : mg "max" = none
  tuple : mg "tuple" = none
  isinstance : mg "isinstance" = none
  ValueError : mg "ValueError" = none

def spPut (K : PySem.W.Frag) (C : Addr) : Sp := fun vs H Q E => ∃ (W : Nat) (v : V) (ps : List Part), vs = [.int (W : Int), v] ∧ Rp K H (.tuple (ps.map partD)) v ∧ W ≤ 100000 ∧ (evs ps).length ≤ 100000 ∧
  (∀ (d : PyData) (H' : Hp) (v : V), Same H H' → (∀ p, ¬ TornAt W (evs ps) p) → Res W (evs ps) d → Rp K H' d v → Q v H') ∧
  (∀ (p : Nat) (H' : Hp) (dd : Addr), Same H H' → TornAt W (evs ps) p → Res W (evs ps) (.int (p : Int)) → H' dd = some (.xd [(("at" : Str), V.int (p : Int))]) → E (.ref C) (some dd) H')
theorem evs_take_len {ps : List Part} {i : Nat} {p : Part} (hi : i < ps.length) (e : ps[i] = p) : (evs (ps.take i)).length + p.2.length ≤ (evs ps).length := by
  have h1 : ps = ps.take i ++ (ps[i] :: ps.drop (i + 1)) := by simp
  have h2 : evs ps = evs (ps.take i) ++ (evP ps[i] ++ evs (ps.drop (i + 1))) := by
    conv => lhs; rw [h1]
    unfold evs
    rw [List.flatMap_append, List.flatMap_cons]
  rw [h2, List.length_append, List.length_append, e]
  have : (evP p).length = p.2.length := by
    unfold evP evT
    rw [List.take_length, List.length_map, List.length_zipIdx]
  omega
theorem evT_len {p : Part} {l : Nat} (h : l ≤ p.2.length) : (evT p l).length = l := by
  unfold evT
  rw [List.length_map, List.length_zipIdx, List.length_take]
  omega
theorem canLay_ints : ∀ ns : List Int, PyData.canLayAll0 (ns.map PyData.int) = true
  | [] => rfl
  | n :: ns => by
    show (PyData.canLay0 (.int n) && PyData.canLayAll0 (ns.map PyData.int)) = true
    rw [canLay_ints ns]
    rfl
theorem shaped_ints (ns : List Int) : SeqAt.shaped (.list (ns.map PyData.int)) = true := by
  unfold SeqAt.shaped
  rw [Bool.and_eq_true]
  refine ⟨canLay_ints ns, decide_eq_true ?_⟩
  have h : ∀ ns : List Int, PyData.depthAll (ns.map PyData.int) ≤ 1 := fun ns => by
    induction ns with
    | nil => simp [PyData.depthAll]
    | cons n ns ih => simp [PyData.depthAll, PyData.depth] at ih ⊢; omega
  have := h ns
  simp [PyData.depth]
  omega
/-- the dict of the signs -/
structure Dg (W : Nat) (es : List Ev) (m : List (Int × Nat)) (T : List Int) : Prop where
  nd : (m.map (·.1)).Nodup
  k : Kn W es (fun p => lookA m (p : Int)) T
  ks : ∀ x : Int, (lookA m x).isSome = true → ∃ p c : Nat, x = (p : Int) ∧ (p, c) ∈ es
  lm : m.length ≤ es.length
  lt : T.length ≤ es.length
theorem Dg.nil (W : Nat) : Dg W [] [] [] := ⟨List.nodup_nil, by
  have := Kn.nil W
  exact this, (fun x h => by cases h), Nat.le_refl _, Nat.le_refl _⟩
theorem Dg.put {W : Nat} {es : List Ev} {m : List (Int × Nat)} {T : List Int} (h : Dg W es m T) {q c : Nat} {T' : List Int} (hT : (T' = T ∧ ¬ (W ≤ q ∨ ∃ c', lookA m (q : Int) = some c' ∧ c' ≠ c)) ∨ (T' = T ++ [(q : Int)] ∧ (W ≤ q ∨ ∃ c', lookA m (q : Int) = some c' ∧ c' ≠ c))) :
    Dg W (es ++ [(q, c)]) (putA m (q : Int) c) T' := by
  refine ⟨nodup_put h.nd, h.k.snoc (fun x => ?_) (fun p hp _ => ?_) (fun _ => .inl ?_), fun x hx => ?_, ?_, ?_⟩
  · rcases hT with ⟨rfl, hn⟩ | ⟨rfl, hn⟩
    · exact ⟨.inl, fun z => z.elim id fun z => (hn z.2).elim⟩
    · rw [List.mem_append, List.mem_singleton]
      exact ⟨fun z => z.imp id fun z => ⟨z, hn⟩, fun z => z.imp id fun z => z.1⟩
  · show lookA (putA m (q : Int) c) (p : Int) = _
    rw [lookA_put, if_neg (by omega)]
  · show lookA (putA m (q : Int) c) (q : Int) = _
    rw [lookA_put, if_pos rfl]
  · rw [lookA_put] at hx
    split at hx
    · rename_i e
      exact ⟨q, c, e, by simp⟩
    · obtain ⟨p, z, e, hz⟩ := h.ks x hx
      exact ⟨p, z, e, List.mem_append_left _ hz⟩
  · have := putA_len m (q : Int) c
    have := h.lm
    rw [List.length_append, List.length_singleton]
    omega
  · have := h.lt
    rw [List.length_append, List.length_singleton]
    rcases hT with ⟨rfl, _⟩ | ⟨rfl, _⟩
    · omega
    · rw [List.length_append, List.length_singleton]
      omega
section
variable {P : Program} {w : World} {K : PySem.W.Frag} {mg : Str → Option Value} {base : Heap}
theorem scPut : FnScope ["whole", "parts", "signs", "torn", "first", "some", "at", "sign"] ["whole", "parts"] (defScope sPut) := ⟨rfl, rfl, rfl, by decide +kernel, rfl, by decide +kernel, by decide +kernel⟩
theorem ok_puttog {f C : Addr} {fd : FuncData} (F : Fun K "put_together" "put_together" sPut f fd) (B : TB mg) (ET : Err P w K mg base "Torn" C ["self", "at"] (spX1 C "at")) : FnOk P w K mg base (L2.CX P w) 3 f fd ["whole", "parts"] (spPut K C) := by
  refine F.okX scPut (fun vs H Q E h => ?_) (fun cdv A outer s H vs Q E hr h => ?_)
  · obtain ⟨cs, v, ps, rfl, _⟩ := h
    rfl
  · obtain ⟨W, v, ps, rfl, rv, hW, hE, k1, k2⟩ := h
    have hu := hu_of hr
    have hr2 : Room 2 _ := hr
    refine ⟨_, (pss_cons (ps_set (i := 2) scPut.nd rfl (Or.inr rfl) pe_dnewK)
       (pss_cons (ps_set (i := 3) scPut.nd rfl (Or.inl rfl) (pe_lst pa_nil))
       (pss_cons (ps_for (passes_of rfl) rfl (pi_tup (pv 1)) (pg_tup rfl (pgs_cons (pg_name (i := 4) scPut.nd rfl (Or.inl rfl)) (pgs_cons (pg_name (i := 5) scPut.nd rfl (Or.inl rfl)) pgs_nil)))
       (pss_one (ps_for (passes_of rfl) rfl (pi_enumS (by rfl) B.enumerate (pa_cons (pv 5) pa_nil)) (pg_tup rfl (pgs_cons (pg_name (i := 6) scPut.nd rfl (Or.inl rfl)) (pgs_cons (pg_name (i := 7) scPut.nd rfl (Or.inl rfl)) pgs_nil)))
       (pss_cons (ps_if (PW.pt (pw_or (pt_cmpR op_ge (pe_op op_add (pv 4) (pv 6)) (pv 0) (nomark _)) (pw_or1 (pt_cmpR op_ne (pe_dget2 hu (pv 2) (pe_op op_add (pv 4) (pv 6)) (pv 7) ⟨rfl, rfl, rfl, rfl⟩) (pv 7) (nomark _)))))
       (pss_one (ps_expr (pe_bm PySem.F.plainAttrs_list PySem.F.slot_list_append PySem.F.type_list_append mt_append (pv 3) (pa_cons (pe_op op_add (pv 4) (pv 6)) pa_nil))))
       pss_nil)
       (pss_one (ps_dput hu (pv 2) (pe_op op_add (pv 4) (pv 6)) (pv 7) rfl))))))
       (pss_cons (ps_if (pt_cmpR (neDK (K := K) rfl hr.units) (pv 3) (pe_lst pa_nil) (nomark _))
       (pss_one (ps_raise rfl (takes_of rfl rfl rfl rfl) (pmk_err ET hr2 rfl (pa_cons (pe_callB (crMinK (K := K) rfl rfl) (by rfl) B.min (by decide +kernel) (pa_cons (pv 3) pa_nil)) pa_nil))))
       pss_nil)
       (pss_cons (ps_if (pt_cmpR op_lt (pe_callB call_lenD (by rfl) B.len PySem.boot_len (pa_cons (pv 2) pa_nil)) (pv 0) (nomark _))
       (pss_one (ps_ret pe_non))
       pss_nil)
       (pss_one (ps_ret (joinK (K := K) rfl pe_str (pe_lc (own := [("at", 6)]) (g := (gName 6)) (tt := tYes) rfl scPut.nd (pi_range1 rfl B.range (pa_cons (pv 0) pa_nil)) (blkOk_by (N := ["whole", "parts", "signs", "torn", "first", "some", "at", "sign"]) (sc := defScope sPut) (by decide +kernel))
       (fun _ _ _ _ _ => (pg_name (i := 6) scPut.nd rfl (Or.inl rfl))) (fun _ _ _ _ _ => pts_nil) (fun _ _ _ _ _ => (pe_dget hu (pv 2) (pv 6) (fun _ _ => rfl)))))))))))), ?_⟩
    unfold Rp at rv
    obtain ⟨a, xs, rfl, ha, rl⟩ := rv
    intro sd nsd
    refine ⟨Nat.zero_le _, fun ta nta => ?_⟩
    have s1 : Same H (upd H sd (.dK [])) := (L2.Same.refl H).new nsd
    have s2 : Same H (upd (upd H sd (.dK [])) ta (.lst [])) := s1.new nta
    have hsd2 : upd (upd H sd (.dK [])) ta (.lst []) sd = some (.dK []) := (upd_ne (ne_of_none upd_same nta)).trans upd_same
    have hta2 : upd (upd H sd (.dK [])) ta (.lst []) ta = some (.lst []) := upd_same
    have nta0 : H ta = none := s1.free nta
    generalize upd (upd H sd (.dK [])) ta (.lst []) = H2 at s2 hsd2 hta2
    have lxs := RpL.len _ _ rl
    rw [List.length_map] at lxs
    refine ⟨_, rfl, a, rfl, ⟨_, SqT.tk ha (TK.of s2)⟩, ?_⟩
    refine for_tup (K := K) (a := a) (xs := xs) (fun i σ H' => ∃ (m : List (Int × Nat)) (T : List Int) (v4 v5 v6 v7 : Option V), σ = [some (.int (W : Int)), some (.ref a), some (.ref sd), some (.ref ta), v4, v5, v6, v7] ∧ Same H H' ∧ H' ta = some (.lst (T.map V.int)) ∧ DictAt signD K H' sd m ∧ Dg W (evs (ps.take i)) m T)
      ⟨[], [], _, _, _, _, rfl, s2, hta2, ⟨[], hsd2, rfl⟩, Dg.nil W⟩ (fun i σ H' _ ⟨_, _, _, _, _, _, _, s, _⟩ => SqT.tk ha (TK.of s)) ?_ ?_
    · rintro i x σ H3 hx ⟨m, T, v4, v5, v6, v7, rfl, s3, hta3, hd3, cm⟩
      have hi : i < ps.length := by
        have q := (List.getElem?_eq_some_iff.mp hx).1
        omega
      obtain ⟨v, ev, rv⟩ := RpL.get _ _ rl i (partD ps[i]) (by rw [List.getElem?_map, List.getElem?_eq_getElem hi]; rfl)
      have ex : v = x := Option.some.inj (ev.symm.trans hx)
      rw [ex] at rv
      obtain ⟨pa, rfl, hpa⟩ := partD_inv (Rp.tk (TK.of s3) _ _ rv)
      have et := evs_take hi
      generalize hpe : ps[i] = p at hpa rv et
      have hlen := evs_take_len hi hpe
      refine ⟨pa, _, rfl, hpa, rfl, _, _, rfl, _, _, rfl, rfl, ?_⟩
      refine ⟨_, rfl, _, rfl, ?_⟩
      refine for_it (walk_enumS (x := S p.2)) (fun l σ H' => ∃ (m : List (Int × Nat)) (T : List Int) (v6 v7 : Option V), σ = [some (.int (W : Int)), some (.ref a), some (.ref sd), some (.ref ta), some (.int (p.1 : Int)), some (.str (S p.2)), v6, v7] ∧ Same H H' ∧ H' ta = some (.lst (T.map V.int)) ∧ DictAt signD K H' sd m ∧ Dg W (evs (ps.take i) ++ evT p l) m T)
        ⟨m, T, _, _, rfl, s3, hta3, hd3, by rw [evT_zero, List.append_nil]; exact cm⟩ (fun _ _ _ _ _ => trivial) ?_ ?_
      · rintro l y σ H4 H5 hl ⟨m, T, v6, v7, rfl, s4, hta4, hd4, cm4⟩ ⟨TT, c, rfl, nT, rfl, hc⟩
        have hc : p.2[l]? = some c := by
          have : (p.2.toArray)[l]? = some c := hc
          rw [List.getElem?_toArray] at this
          exact this
        have hll : l < p.2.length := (List.getElem?_eq_some_iff.mp hc).1
        have s45 : Same H4 (upd H4 TT (.tup [.int (l : Nat), .str ⟨#[c]⟩])) := (L2.Same.refl _).new nT
        have hT5 : upd H4 TT (.tup [.int (l : Nat), .str ⟨#[c]⟩]) TT = some (.tup [.int (l : Nat), .str ⟨#[c]⟩]) := upd_same
        generalize upd H4 TT (.tup [.int (l : Nat), .str ⟨#[c]⟩]) = H5 at s45 hT5
        have hd5 := hd4.same s45
        have hta5 := s45 _ _ hta4
        have s5 := s4.trans s45
        have e0 : ((p.1 : Nat) : Int) + ((l : Nat) : Int) = ((p.1 + l : Nat) : Int) := by omega
        have ees : evs (ps.take i) ++ evT p (l + 1) = (evs (ps.take i) ++ evT p l) ++ [(p.1 + l, c)] := by rw [evT_succ hc, List.append_assoc]
        have hle : (evs (ps.take i) ++ evT p l).length ≤ 100000 := by
          rw [List.length_append, evT_len (by omega)]
          omega
        refine ⟨TT, _, rfl, SqT.of hT5, rfl, _, _, rfl, _, _, rfl, rfl, ?_⟩
        dsimp only [gName, List.set]
        refine seq_if (fun σ' H' => σ' = [some (.int (W : Int)), some (.ref a), some (.ref sd), some (.ref ta), some (.int (p.1 : Int)), some (.str (S p.2)), some (.int (l : Nat)), some (.str ⟨#[c]⟩)] ∧ Same H H' ∧ DictAt signD K H' sd m ∧ ∃ T', H' ta = some (.lst (T'.map V.int)) ∧ ((T' = T ∧ ¬ (W ≤ p.1 + l ∨ ∃ c', lookA m ((p.1 + l : Nat) : Int) = some c' ∧ c' ≠ c)) ∨ (T' = T ++ [((p.1 + l : Nat) : Int)] ∧ (W ≤ p.1 + l ∨ ∃ c', lookA m ((p.1 + l : Nat) : Int) = some c' ∧ c' ≠ c)))) ?rest (fun rest => ?_)
        case rest =>
          rintro σ' H6 ⟨rfl, s6, hd6, T', hta6, hT'⟩
          obtain ⟨kvs, hk6, rk6⟩ := id hd6
          have tE : TK H6 (upd H6 sd (.dK (putK kvs (Sum.inl ((p.1 + l : Nat) : Int)) (.str ⟨#[c]⟩)))) := (TK.refl _).wr hk6 rfl
          have nts : ta ≠ sd := ne_of hta6 hk6 (by intro z; cases z)
          have dp : DPut H6 sd (.int (((p.1 : Nat) : Int) + ((l : Nat) : Int))) (.str ⟨#[c]⟩) (upd H6 sd (.dK (putK kvs (Sum.inl ((p.1 + l : Nat) : Int)) (.str ⟨#[c]⟩)))) := by
            rw [e0]
            exact DPut.k (k := Sum.inl ((p.1 + l : Nat) : Int)) hk6 (by rw [rk6.len]; exact Nat.lt_of_le_of_lt (Nat.le_trans cm4.lm hle) (by decide))
          refine ⟨_, rfl, _, rfl, _, rfl, _, rfl, _, _, rfl, rfl, sd, _, rfl, dp, ?_⟩
          exact ⟨putA m ((p.1 + l : Nat) : Int) c, T', _, _, rfl, s6.wrn nsd, (upd_ne nts).trans hta6, ⟨_, upd_same, (rk6.put (x := c) Rp.str).tk tE⟩, by rw [ees]; exact cm4.put hT'⟩
        obtain ⟨kvs, hk5, rk5⟩ := id hd5
        have push : (W ≤ p.1 + l ∨ ∃ c', lookA m ((p.1 + l : Nat) : Int) = some c' ∧ c' ≠ c) → Same H (upd H5 ta (.lst (T.map V.int ++ [V.int (((p.1 : Nat) : Int) + ((l : Nat) : Int))]))) ∧ DictAt signD K (upd H5 ta (.lst (T.map V.int ++ [V.int (((p.1 : Nat) : Int) + ((l : Nat) : Int))]))) sd m ∧ ∃ T', (upd H5 ta (.lst (T.map V.int ++ [V.int (((p.1 : Nat) : Int) + ((l : Nat) : Int))]))) ta = some (.lst (T'.map V.int)) ∧ ((T' = T ∧ ¬ (W ≤ p.1 + l ∨ ∃ c', lookA m ((p.1 + l : Nat) : Int) = some c' ∧ c' ≠ c)) ∨ (T' = T ++ [((p.1 + l : Nat) : Int)] ∧ (W ≤ p.1 + l ∨ ∃ c', lookA m ((p.1 + l : Nat) : Int) = some c' ∧ c' ≠ c))) := fun hb => by
          have nts : sd ≠ ta := ne_of hk5 hta5 (by intro z; cases z)
          have tE : TK H5 (upd H5 ta (.lst (T.map V.int ++ [V.int (((p.1 : Nat) : Int) + ((l : Nat) : Int))]))) := (TK.refl _).wr hta5 rfl
          refine ⟨s5.wrn nta0, ⟨kvs, (upd_ne nts).trans hk5, rk5.tk tE⟩, T ++ [((p.1 + l : Nat) : Int)], ?_, .inr ⟨rfl, hb⟩⟩
          rw [upd_same, List.map_append, e0]
          rfl
        have hTl : (T.map V.int).length < sizeLine := by
          rw [List.length_map]
          exact Nat.lt_of_le_of_lt (Nat.le_trans cm4.lt hle) (by decide)
        refine ⟨_, rfl, _, rfl, _, _, rfl, rfl, _, rfl, _, _, rfl, rfl, _, rfl, ?_⟩
        refine ite2 (fun hge => ?_) (fun hge => ?_)
        · have hge := of_decide_eq_true hge
          refine iteT ?_
          exact ⟨_, rfl, .inl ⟨rfl, _, SqL.of hta5⟩, _, rfl, _, rfl, _, _, rfl, rfl, ta, _, _, rfl, rfl, hta5, hTl, rest _ _ ⟨rfl, push (.inl (by omega))⟩⟩
        · have hge : ¬ _ := fun z => hge (decide_eq_true z)
          have g := DGet.k (k := Sum.inl ((p.1 + l : Nat) : Int)) hk5
          have g' : DGet H5 sd (.int (((p.1 : Nat) : Int) + ((l : Nat) : Int))) (valV kvs (Sum.inl ((p.1 + l : Nat) : Int))) := by rw [e0]; exact g
          refine ⟨_, rfl, sd, rfl, .inl ⟨kvs, .inl hk5⟩, _, rfl, _, rfl, _, _, rfl, rfl, _, rfl, _, g', ?_⟩
          rcases rk5.val (k := ((p.1 + l : Nat) : Int)) with ⟨e1, e2⟩ | ⟨x, u, e1, e2, r⟩
          · rw [e2]
            refine ⟨_, rfl, rfl, _, rfl, ?_⟩
            refine iteNS rfl ?_
            refine rest _ _ ⟨rfl, s5, hd5, T, hta5, .inl ⟨rfl, ?_⟩⟩
            rintro (z | ⟨c', z, _⟩)
            · omega
            · rw [e1] at z
              cases z
          · rw [e2]
            unfold signD Rp at r
            subst r
            refine ⟨_, rfl, rfl, _, rfl, ?_⟩
            by_cases hcx : x = c
            · subst hcx
              refine iteNS rfl ?_
              refine rest _ _ ⟨rfl, s5, hd5, T, hta5, .inl ⟨rfl, ?_⟩⟩
              rintro (z | ⟨c', z, z'⟩)
              · omega
              · rw [e1] at z
                exact z' (Option.some.inj z).symm
            · have hne : ¬ ((some (V.str (S [x]))).getD (.str ⟨#[c]⟩) = V.str ⟨#[c]⟩) := fun z => by
                have z : V.str (S [x]) = V.str (S [c]) := z
                simp at z
                exact hcx z
              rw [decide_eq_false hne]
              refine iteT ?_
              exact ⟨_, rfl, .inl ⟨rfl, _, SqL.of hta5⟩, _, rfl, _, rfl, _, _, rfl, rfl, ta, _, _, rfl, rfl, hta5, hTl, rest _ _ ⟨rfl, push (.inr ⟨x, e1, hcx⟩)⟩⟩
      · rintro σ H4 ⟨m, T, v6, v7, rfl, s4, hta4, hd4, cm4⟩
        have el : (S p.2).cps.size = p.2.length := by simp
        rw [el] at cm4
        refine ⟨m, T, _, _, _, _, rfl, s4, hta4, hd4, ?_⟩
        rw [et]
        exact cm4
    · rintro σ H3 ⟨m, T, v4, v5, v6, v7, rfl, s3, hta3, hd3, cm⟩
      rw [lxs, List.take_length] at cm
      obtain ⟨kvs, hk3, rk3⟩ := id hd3
      refine ⟨_, rfl, Nat.zero_le _, fun l nl => ?_⟩
      have s4 : Same H3 (upd H3 l (.lst [])) := (L2.Same.refl _).new nl
      have hl4 : upd H3 l (.lst []) l = some (.lst []) := upd_same
      generalize upd H3 l (.lst []) = H4 at s4 hl4
      have s34 := s3.trans s4
      refine ⟨.list (T.map PyData.int), .list [], .lst (SqL.of (s4 _ _ hta3)) (dp_ints T), .lst (SqL.of hl4) .nil, ?_, rfl, _, rfl, ?_⟩
      · exact shaped_ints T
      cases hTe : T with
      | cons t0 T0 =>
        rw [show PyData.eqv (.list ((t0 :: T0).map PyData.int)) (.list []) = false from rfl]
        refine iteT ?_
        refine ⟨_, rfl, ta, T, rfl, SqL.of (s4 _ _ hta3), by rw [hTe]; exact Nat.succ_pos _, fun mn h1 h2 => ?_⟩
        obtain ⟨q, rfl, tq⟩ := (cm.k.t mn).mp h1
        refine err1_ok fun d hd => ?_
        refine k2 q _ d (s34.new hd) tq (.torn q tq fun p tp => ?_) upd_same
        have := h2 _ ((cm.k.t (p : Int)).mpr ⟨p, rfl, tp⟩)
        omega
      | nil =>
        subst hTe
        have nt : ∀ p, ¬ TornAt W (evs ps) p := fun p tp => by
          have := (cm.k.t (p : Int)).mpr ⟨p, rfl, tp⟩
          cases this
        have inW : ∀ x ∈ m.map (·.1), 0 ≤ x ∧ x < (W : Int) := fun x hx => by
          obtain ⟨p, c, rfl, hp⟩ := cm.ks x (mem_keys.mp hx)
          refine ⟨by omega, ?_⟩
          refine Classical.byContradiction fun z => nt p (.inl ⟨by omega, c, hp⟩)
        have lack := nodup_lack cm.nd inW
        rw [List.length_map] at lack
        rw [show PyData.eqv (.list (([] : List Int).map PyData.int)) (.list []) = true from SeqAt.eqv_refl _ rfl]
        refine iteF ?_
        refine ⟨_, rfl, sd, kvs, rfl, s4 _ _ hk3, _, rfl, _, _, rfl, rfl, _, rfl, ?_⟩
        refine ite2 (fun hlt => ?_) (fun hlt => ?_)
        · have hlt := of_decide_eq_true hlt
          rw [rk3.len] at hlt
          obtain ⟨j, hj, hn⟩ := lack.mp (by omega)
          refine k1 .none H4 .non s34 nt (.lack nt j hj fun c hc => ?_) Rp.none
          exact hn (mem_keys.mpr (cm.k.b j c hj hc))
        · have hlt : ¬ ((kvs.length : Nat) : Int) < (W : Int) := fun z => hlt (decide_eq_true z)
          rw [rk3.len] at hlt
          have full : ∀ j : Nat, j < W → ∃ c, lookA m (j : Int) = some c := fun j hj => by
            refine Option.isSome_iff_exists.mp (Classical.byContradiction fun z => ?_)
            have := lack.mpr ⟨j, hj, fun y => z (mem_keys.mp y)⟩
            omega
          let cs : List Nat := (List.range W).map fun (j : Nat) => (lookA m (j : Int)).getD 0
          have lcs : cs.length = W := by
            show ((List.range W).map _).length = W
            rw [List.length_map, List.length_range]
          have gcs : ∀ (j : Nat) (hj : j < cs.length), lookA m (j : Int) = some cs[j] := fun j hj => by
            obtain ⟨c, hc⟩ := full j (by omega)
            show _ = some (((List.range W).map fun (j : Nat) => (lookA m (j : Int)).getD 0)[j])
            rw [List.getElem_map, List.getElem_range, hc]
            rfl
          have res : Res W (evs ps) (.str (S cs)) := .all nt cs lcs fun j c hc => by
            obtain ⟨h1, h2⟩ := List.getElem?_eq_some_iff.mp hc
            rw [← h2]
            exact cm.k.a j _ (by omega) (gcs j h1)
          clear_value cs
          rw [← lcs]
          refine ⟨⟨_, rfl⟩, ?_⟩
          refine ⟨_, rfl, _, rfl, by omega, by omega, fun D hD => ?_⟩
          refine lc_range (lo := 0) (n := _) (fun j H' => H' D = some (.lst (((cs.take j).map fun c => S [c]).map V.str)) ∧ Same H4 H') ⟨upd_same, (L2.Same.refl _).new hD⟩ ?_ ?_
          · rintro j H5 hj ⟨hD5, s5⟩
            have hj : j < cs.length := by simpa using hj
            have e0 : (0 : Int) + (j : Int) = ((j : Nat) : Int) := by omega
            have ev : valV kvs (Sum.inl ((j : Nat) : Int)) = some (.str (S [cs[j]])) := by
              rcases rk3.val (k := ((j : Nat) : Int)) with ⟨e1, e2⟩ | ⟨x, u, e1, e2, r⟩
              · rw [gcs j hj] at e1
                cases e1
              · rw [gcs j hj] at e1
                cases e1
                unfold signD Rp at r
                rw [e2, r]
            have g := DGet.k (k := Sum.inl ((j : Nat) : Int)) (s5 _ _ (s4 _ _ hk3))
            rw [ev] at g
            have g' : DGet H5 sd (.int (0 + (j : Int))) (some (.str (S [cs[j]]))) := by rw [e0]; exact g
            refine ⟨rfl, _, rfl, _, rfl, sd, _, rfl, g', _, hD5, ?_, ?_, s5.wrn hD⟩
            · rw [List.length_map, List.length_map, List.length_take]
              exact Nat.lt_of_le_of_lt (show min j cs.length ≤ 100000 by omega) (by decide)
            · rw [upd_same, List.take_succ_eq_append_getElem hj, List.map_append, List.map_append]
              rfl
          · rintro H5 ⟨hD5, s5⟩
            have hD5 : H5 D = some (.lst ((cs.map fun c => S [c]).map V.str)) := by
              rw [Int.toNat_natCast, List.take_length] at hD5
              exact hD5
            refine ⟨_, D, cs.map fun c => S [c], rfl, rfl, .inl (SqL.of hD5), ?_, ?_⟩
            · rw [sum_signs, List.length_map]
              show cs.length + cs.length * 0 ≤ _
              omega
            · rw [show (Txt.join (Str.ofString "") (cs.map fun c => S [c])) = S cs from join_signs cs]
              exact k1 _ H5 _ (s34.trans s5) nt res Rp.str
end
end Wn

namespace Wn
open PySem L2
/-- a new tuple is appended to a list of data -/
theorem push_tup {K : PySem.W.Frag} {G : Hp} {t fa : Addr} {zs vs : List V} {U ds : List PyData} (hG : G fa = some (.lst zs)) (rG : RpL K G U zs) (nt : G t = none) (rv : RpL K G ds vs) :
    upd G t (.tup vs) fa = some (.lst zs) ∧ LstAt K (upd (upd G t (.tup vs)) fa (.lst (zs ++ [.ref t]))) fa (U ++ [.tuple ds]) ∧ TK G (upd (upd G t (.tup vs)) fa (.lst (zs ++ [.ref t]))) ∧ Kp [fa] G (upd (upd G t (.tup vs)) fa (.lst (zs ++ [.ref t]))) := by
  have s6 : Same G (upd G t (.tup vs)) := (L2.Same.refl _).new nt
  have rt : Rp K (upd G t (.tup vs)) (.tuple ds) (.ref t) := Rp.tup upd_same (RpL.tk (TK.of s6) _ _ rv)
  have tE : TK (upd G t (.tup vs)) (upd (upd G t (.tup vs)) fa (.lst (zs ++ [.ref t]))) := (TK.refl _).wr (s6 _ _ hG) rfl
  exact ⟨s6 _ _ hG, ⟨_, upd_same, RpL.tk tE _ _ (RpL.app (RpL.tk (TK.of s6) _ _ rG) (RpL.cons rt RpL.nil))⟩, (TK.of s6).trans tE, (Kp.of s6).wr (List.mem_singleton.mpr rfl)⟩
/-- a thing that stands is appended -/
theorem push_old {K : PySem.W.Frag} {G : Hp} {fa : Addr} {zs : List V} {v : V} {U : List PyData} {d : PyData} (hG : G fa = some (.lst zs)) (rG : RpL K G U zs) (rv : Rp K G d v) :
    LstAt K (upd G fa (.lst (zs ++ [v]))) fa (U ++ [d]) ∧ TK G (upd G fa (.lst (zs ++ [v]))) ∧ Kp [fa] G (upd G fa (.lst (zs ++ [v]))) := by
  have tE : TK G (upd G fa (.lst (zs ++ [v]))) := (TK.refl _).wr hG rfl
  exact ⟨⟨_, upd_same, RpL.tk tE _ _ (RpL.app rG (RpL.cons rv RpL.nil))⟩, tE, (Kp.refl _ _).wr (List.mem_singleton.mpr rfl)⟩
end Wn

namespace Wn
open PySem L2
open SX (S S_len S_cat S_beq_eq join_S)
abbrev sDue : Stmt := top 16
abbrev sFound : Stmt := top 17

def spRes (K : PySem.W.Frag) : Sp := fun vs H Q _ => ∃ (W : Nat) (v : V) (ps : List Part), vs = [.int (W : Int), v] ∧ Rp K H (.tuple (ps.map partD)) v ∧ W ≤ 100000 ∧ (evs ps).length ≤ 100000 ∧
  ∀ (d : PyData) (H' : Hp) (v : V), Same H H' → Res W (evs ps) d → Rp K H' d v → Q v H'
/-- what the text's classes say -/
structure TF (K : PySem.W.Frag) (mg : Str → Option Value) (CN CT CH CB : Addr) : Prop where
  te : PySem.W.exmOne K (.ref CT) (.ref CN) = some true
  k1 : PySem.W.kitOne K (.ref CT) (.ref CT) = some true
  k2 : PySem.W.kitOne K (.ref CT) (.type "ValueError") = some true
  k3 : PySem.W.kitAny K (.ref CT) [.ref CH, .ref CB] = some false
  ec : ExcC K CT
  xf : XfC K CT
  no : PySem.W.findIn K (.ref CT) "at" = some none
  gN : mg "NetError" = some (.ref CN)
  gT : mg "Torn" = some (.ref CT)
  gH : mg "NoHead" = some (.ref CH)
  gB : mg "Broken" = some (.ref CB)
def gV : Option Nat → V
  | none => .non
  | some c => .str (S [c])
theorem gV_flat (G : List (Option Nat)) : (G.map gV).all flatV = true := by
  rw [List.all_eq_true]
  intro x hx
  obtain ⟨g, _, rfl⟩ := List.mem_map.mp hx
  cases g <;> rfl
theorem gV_in (G : List (Option Nat)) : inV .non (G.map gV) = decide (none ∈ G) := by
  induction G with
  | nil => rfl
  | cons g G ih =>
    show (eqV (gV g) .non || inV .non (G.map gV)) = _
    rw [ih]
    cases g with
    | none => simp [gV, eqV]
    | some c => simp [gV, eqV]
theorem repG (W : Nat) : (List.replicate (W : Int).toNat [V.non]).flatten = (List.replicate W (none : Option Nat)).map gV := by
  rw [Int.toNat_natCast, List.map_replicate]
  induction W with
  | zero => rfl
  | succ n ih => rw [List.replicate_succ, List.flatten_cons, List.replicate_succ, ih]; rfl
theorem ixN_lt {n j : Nat} (h : j < n) : ixN n (j : Int) = some j := by
  unfold ixN
  rw [if_pos (by omega), if_pos (by omega)]
  rfl
theorem gset {G : List (Option Nat)} {q c : Nat} : (G.map gV).set q (.str ⟨#[c]⟩) = (G.set q (some c)).map gV := by
  rw [List.map_set]
  rfl
theorem all_some : ∀ {G : List (Option Nat)}, none ∉ G → ∃ cs : List Nat, G = cs.map some
  | [], _ => ⟨[], rfl⟩
  | none :: G, h => (h List.mem_cons_self).elim
  | some c :: G, h => by
    obtain ⟨cs, e⟩ := all_some (G := G) fun z => h (List.mem_cons_of_mem _ z)
    exact ⟨c :: cs, by rw [e]; rfl⟩
section
variable {P : Program} {w : World} {K : PySem.W.Frag} {mg : Str → Option Value} {base : Heap}
theorem scFound : FnScope ["_law_whole", "_law_parts", "e"] ["_law_whole", "_law_parts"] (defScope sFound) := ⟨rfl, rfl, rfl, by decide +kernel, rfl, by decide +kernel, by decide +kernel⟩
theorem ok_found {f CN CT CH CB : Addr} {fd : FuncData} (F : Fun K "_law_found" "_law_found" sFound f fd) (B : TB mg) (T : TF K mg CN CT CH CB)
    {fP : Addr} {fdP : FuncData} (GP : FnOk P w K mg base (L2.CX P w) 3 fP fdP ["whole", "parts"] (spPut K CT)) (mP : mg "put_together" = some (.ref fP)) (kP : PySem.W.keepIn K (.ref fP) = true) (bP : Binds K fdP ["whole", "parts"] []) :
    FnOk P w K mg base CX0 4 f fd ["_law_whole", "_law_parts"] (spRes K) := by
  refine F.ok scFound (fun vs H Q E h => ?_) (fun cdv A outer s H vs Q E hr h => ?_)
  · obtain ⟨cs, v, ps, rfl, _⟩ := h
    rfl
  · obtain ⟨W, v, ps, rfl, rv, hW, hE, k⟩ := h
    have hr3 : Room 3 _ := hr
    refine ⟨_, (pss_one (ps_try_as (i := 2) rfl rfl scFound.nd rfl rfl ⟨rfl, by decide, Or.inl T.gN⟩ takes0
       (fun W pn xe tk po => (pss_one (ps_ret (pe_callS GP hr3 rfl mP kP bP (fun σ => passAt tk σ) (pa_cons (pv 0) (pa_cons (pv 1) pa_nil))))))
       (fun a oe cls d pn hz hf => (pss_cons (ps_if (PW.pt (pw_and (pt_val (pe_callB (call_isX hz hf) (by rfl) B.isinstance (by decide +kernel) (pa_cons (pv 2) (pa_cons (pe_glob (v := .ref CT) (by rfl) T.gT rfl) pa_nil)))) (pw_and (pt_val (pe_callB (call_isX hz hf) (by rfl) B.isinstance (by decide +kernel) (pa_cons (pv 2) (pa_cons (pe_bltn (v := .ty "ValueError") (by rfl) B.ValueError (by decide +kernel) rfl) pa_nil)))) (pw_and1 (pt_not (pt_val (pe_callB (call_isX hz hf) (by rfl) B.isinstance (by decide +kernel) (pa_cons (pv 2) (pa_cons (pe_tup (pa_cons (pe_glob (v := .ref CH) (by rfl) T.gH rfl) (pa_cons (pe_glob (v := .ref CB) (by rfl) T.gB rfl) pa_nil))) pa_nil)))))))))
       (pss_one (ps_ret (pe_xf T.xf T.no hz hf (pv 2))))
       pss_nil)
       (pss_one (ps_ret pe_str)))))), ?_⟩
    refine ⟨_, rfl, _, rfl, W, v, ps, rfl, rv, hW, hE, fun d H' v' s1 _ r1 rv1 => k d H' v' s1 r1 rv1, fun p H' dd s1 tp rp hd => ?_⟩
    refine ⟨true, T.te, fun _ a0 ha0 => ?_, fun q => Bool.noConfusion q⟩
    refine ⟨_, rfl, CT, rfl, T.ec, .inr ⟨dd, _, rfl, hd⟩, .inl ⟨_, _, true, rfl, .own CT, T.k1, _, rfl, ?_⟩⟩
    refine iteT ?_
    refine ⟨_, rfl, CT, rfl, T.ec, .inr ⟨dd, _, rfl, hd⟩, .inl ⟨_, _, true, rfl, .ty "ValueError", T.k2, _, rfl, ?_⟩⟩
    refine iteT ?_
    refine ⟨_, rfl, (by show 2 ≤ sizeLine; decide), fun tt ntt => ?_⟩
    have s2 : Same H' (upd H' tt (.tup [.ref CH, .ref CB])) := (L2.Same.refl _).new ntt
    have ht : upd H' tt (.tup [.ref CH, .ref CB]) tt = some (.tup [.ref CH, .ref CB]) := upd_same
    generalize upd H' tt (.tup [.ref CH, .ref CB]) = H2 at s2 ht
    refine ⟨CT, rfl, T.ec, .inr ⟨dd, _, rfl, s2 _ _ hd⟩, .inr ⟨tt, _, _, false, rfl, ht, .cons (.own CH) (.cons (.own CB) .nil), T.k3, _, rfl, ?_⟩⟩
    refine iteT ?_
    refine ⟨_, rfl, rfl, rfl, dd, _, _, rfl, s2 _ _ hd, fld1, ?_⟩
    exact k _ H2 _ (s1.trans s2) rp Rp.int
theorem scDue : FnScope ["_law_whole", "_law_parts", "_law_signs", "_law_torn", "_law_first", "_law_some", "_law_k"] ["_law_whole", "_law_parts"] (defScope sDue) := ⟨rfl, rfl, rfl, by decide +kernel, rfl, by decide +kernel, by decide +kernel⟩
theorem ok_due {f : Addr} {fd : FuncData} (F : Fun K "_law_due" "_law_due" sDue f fd) (B : TB mg) : FnOk P w K mg base CX0 1 f fd ["_law_whole", "_law_parts"] (spRes K) := by
  refine F.ok scDue (fun vs H Q E h => ?_) (fun cdv A outer s H vs Q E hr h => ?_)
  · obtain ⟨cs, v, ps, rfl, _⟩ := h
    rfl
  · obtain ⟨W, v, ps, rfl, rv, hW, hE, k⟩ := h
    refine ⟨_, (pss_cons (ps_set (i := 2) scDue.nd rfl (Or.inl rfl) (pe_op op_rep (pe_lst (pa_cons pe_non pa_nil)) (pv 0)))
       (pss_cons (ps_set (i := 3) scDue.nd rfl (Or.inl rfl) (pe_lst pa_nil))
       (pss_cons (ps_for PassesOwn.never rfl (pi_tup (pv 1)) (pg_tup rfl (pgs_cons (pg_name (i := 4) scDue.nd rfl (Or.inl rfl)) (pgs_cons (pg_name (i := 5) scDue.nd rfl (Or.inl rfl)) pgs_nil)))
       (pss_one (ps_for PassesOwn.never rfl (pi_range1 rfl B.range (pa_cons (pe_callB (lenK (K := K) rfl) (by rfl) B.len PySem.boot_len (pa_cons (pv 5) pa_nil)) pa_nil)) (pg_name (i := 6) scDue.nd rfl (Or.inl rfl))
       (pss_one (ps_if (pt_cmpR op_ge (pe_op op_add (pv 4) (pv 6)) (pv 0) (nomark _))
       (pss_one (ps_expr (pe_bm PySem.F.plainAttrs_list PySem.F.slot_list_append PySem.F.type_list_append mt_append (pv 3) (pa_cons (pe_op op_add (pv 4) (pv 6)) pa_nil))))
       (pss_one (ps_if (pt_cmp (pc_isN (pe_ix (ixL (K := K) rfl) (pv 2) (pe_op op_add (pv 4) (pv 6)) (fun _ _ => rfl))))
       (pss_one (ps_asg (pe_ix ix_str (pv 5) (pv 6) (fun _ _ => rfl)) (pg_sub (pv 2) (pe_op op_add (pv 4) (pv 6)) set_list)))
       (pss_one (ps_if (pt_cmpR op_ne (pe_ix (ixL (K := K) rfl) (pv 2) (pe_op op_add (pv 4) (pv 6)) (fun _ _ => rfl)) (pe_ix ix_str (pv 5) (pv 6) (fun _ _ => rfl)) (nomark _))
       (pss_one (ps_expr (pe_bm PySem.F.plainAttrs_list PySem.F.slot_list_append PySem.F.type_list_append mt_append (pv 3) (pa_cons (pe_op op_add (pv 4) (pv 6)) pa_nil))))
       pss_nil)))))))))
       (pss_cons (ps_if (pt_cmpR op_gt (pe_callB (lenK (K := K) rfl) (by rfl) B.len PySem.boot_len (pa_cons (pv 3) pa_nil)) pe_int (nomark _))
       (pss_one (ps_ret (pe_callB (crMinK (K := K) rfl rfl) (by rfl) B.min (by decide +kernel) (pa_cons (pv 3) pa_nil))))
       pss_nil)
       (pss_cons (ps_if (pt_cmpR (inSeqK (K := K) rfl) pe_non (pv 2) (by rfl))
       (pss_one (ps_ret pe_non))
       pss_nil)
       (pss_one (ps_ret (joinK (K := K) rfl pe_str (pv 2))))))))), ?_⟩
    unfold Rp at rv
    obtain ⟨a, xs, rfl, ha, rl⟩ := rv
    refine ⟨(by show 1 ≤ sizeLine; decide), fun l1 nl1 => ?_⟩
    refine ⟨_, rfl, l1, (W : Int), _, rfl, rfl, upd_same, by omega, by omega, ?_, fun sa nsa => ?_⟩
    · show 1 * _ ≤ _
      rw [Int.toNat_natCast, Nat.one_mul]
      exact Nat.le_trans hW (by decide)
    have eG : (List.replicate (W : Int).toNat [V.non]).flatten = (List.replicate W (none : Option Nat)).map gV := repG W
    rw [eG]
    refine ⟨Nat.zero_le _, fun ta nta => ?_⟩
    have s0 : Same H (upd H l1 (.lst [.non])) := (L2.Same.refl H).new nl1
    have s1 : Same H (upd (upd H l1 (.lst [.non])) sa (.lst ((List.replicate W (none : Option Nat)).map gV))) := s0.new nsa
    have nsa0 : H sa = none := s0.free nsa
    have s2 : Same H (upd (upd (upd H l1 (.lst [.non])) sa (.lst ((List.replicate W (none : Option Nat)).map gV))) ta (.lst [])) := s1.new nta
    have hsa2 : upd (upd (upd H l1 (.lst [.non])) sa (.lst ((List.replicate W (none : Option Nat)).map gV))) ta (.lst []) sa = some (.lst ((List.replicate W (none : Option Nat)).map gV)) := (upd_ne (ne_of_none upd_same nta)).trans upd_same
    have hta2 : upd (upd (upd H l1 (.lst [.non])) sa (.lst ((List.replicate W (none : Option Nat)).map gV))) ta (.lst []) ta = some (.lst []) := upd_same
    have nta0 : H ta = none := s1.free nta
    have nst : sa ≠ ta := ne_of_none upd_same nta
    generalize upd (upd (upd H l1 (.lst [.non])) sa (.lst ((List.replicate W (none : Option Nat)).map gV))) ta (.lst []) = H2 at s2 hsa2 hta2
    have lxs := RpL.len _ _ rl
    rw [List.length_map] at lxs
    refine ⟨_, rfl, a, rfl, ⟨_, SqT.tk ha (TK.of s2)⟩, ?_⟩
    refine for_tup (K := K) (a := a) (xs := xs) (fun i σ H' => ∃ (G : List (Option Nat)) (T : List Int) (v4 v5 v6 : Option V), σ = [some (.int (W : Int)), some (.ref a), some (.ref sa), some (.ref ta), v4, v5, v6] ∧ Same H H' ∧ H' ta = some (.lst (T.map V.int)) ∧ H' sa = some (.lst (G.map gV)) ∧ G.length = W ∧ Kn W (evs (ps.take i)) (fun p => (G[p]?).getD none) T ∧ T.length ≤ (evs (ps.take i)).length)
      ⟨List.replicate W none, [], _, _, _, rfl, s2, hta2, hsa2, List.length_replicate, ?_, Nat.zero_le _⟩ (fun i σ H' _ ⟨_, _, _, _, _, _, s, _⟩ => SqT.tk ha (TK.of s)) ?_ ?_
    · have : (fun (p : Nat) => ((List.replicate W (none : Option Nat))[p]?).getD none) = fun _ => none := by
        funext p
        rw [List.getElem?_replicate]
        split <;> rfl
      rw [this]
      exact Kn.nil W
    · rintro i x σ H3 hx ⟨G, T, v4, v5, v6, rfl, s3, hta3, hsa3, lG, cm, lT⟩
      have hi : i < ps.length := by
        have q := (List.getElem?_eq_some_iff.mp hx).1
        omega
      obtain ⟨v, ev, rv⟩ := RpL.get _ _ rl i (partD ps[i]) (by rw [List.getElem?_map, List.getElem?_eq_getElem hi]; rfl)
      have ex : v = x := Option.some.inj (ev.symm.trans hx)
      rw [ex] at rv
      obtain ⟨pa, rfl, hpa⟩ := partD_inv (Rp.tk (TK.of s3) _ _ rv)
      have et := evs_take hi
      generalize hpe : ps[i] = p at hpa rv et
      have hlen := evs_take_len hi hpe
      refine ⟨pa, _, rfl, hpa, rfl, _, _, rfl, _, _, rfl, rfl, ?_⟩
      have hps : (S p.2).length ≤ sizeLine := by
        rw [S_len]
        exact Nat.le_trans (show p.2.length ≤ 100000 by omega) (by decide)
      refine ⟨_, rfl, _, p.2.length, rfl, ⟨hps, (S_len p.2).symm⟩, _, rfl, by omega, by omega, ?_⟩
      refine for_range (lo := 0) (n := (p.2.length : Int).toNat) (fun l σ H' => ∃ (G : List (Option Nat)) (T : List Int) (v6 : Option V), σ = [some (.int (W : Int)), some (.ref a), some (.ref sa), some (.ref ta), some (.int (p.1 : Int)), some (.str (S p.2)), v6] ∧ Same H H' ∧ H' ta = some (.lst (T.map V.int)) ∧ H' sa = some (.lst (G.map gV)) ∧ G.length = W ∧ Kn W (evs (ps.take i) ++ evT p l) (fun p => (G[p]?).getD none) T ∧ T.length ≤ (evs (ps.take i) ++ evT p l).length)
        ⟨G, T, _, rfl, s3, hta3, hsa3, lG, by rw [evT_zero, List.append_nil]; exact cm, by rw [evT_zero, List.append_nil]; exact lT⟩ ?_ ?_
      · rintro l σ H4 hl ⟨G, T, v6, rfl, s4, hta4, hsa4, lG, cm, lT⟩
        have hl : l < p.2.length := by simpa using hl
        obtain ⟨c, hc⟩ : ∃ c, p.2[l]? = some c := ⟨p.2[l], List.getElem?_eq_getElem hl⟩
        have ees : evs (ps.take i) ++ evT p (l + 1) = (evs (ps.take i) ++ evT p l) ++ [(p.1 + l, c)] := by rw [evT_succ hc, List.append_assoc]
        have hle : (evs (ps.take i) ++ evT p l).length ≤ 100000 := by
          rw [List.length_append, evT_len (by omega)]
          omega
        have hTl : (T.map V.int).length < sizeLine := by
          rw [List.length_map]
          exact Nat.lt_of_le_of_lt (Nat.le_trans lT hle) (by decide)
        have e0 : ((p.1 : Nat) : Int) + ((0 : Int) + ((l : Nat) : Int)) = ((p.1 + l : Nat) : Int) := by omega
        have push : (W ≤ p.1 + l ∨ ∃ c', (G[p.1 + l]?).getD none = some c' ∧ c' ≠ c) → ∃ (G' : List (Option Nat)) (T' : List Int) (v6 : Option V), [some (V.int (W : Int)), some (.ref a), some (.ref sa), some (.ref ta), some (.int (p.1 : Int)), some (.str (S p.2)), some (.int (0 + (l : Int)))] = [some (.int (W : Int)), some (.ref a), some (.ref sa), some (.ref ta), some (.int (p.1 : Int)), some (.str (S p.2)), v6] ∧ Same H (upd H4 ta (.lst (T.map V.int ++ [V.int (((p.1 : Nat) : Int) + (0 + ((l : Nat) : Int)))]))) ∧ upd H4 ta (.lst (T.map V.int ++ [V.int (((p.1 : Nat) : Int) + (0 + ((l : Nat) : Int)))])) ta = some (.lst (T'.map V.int)) ∧ upd H4 ta (.lst (T.map V.int ++ [V.int (((p.1 : Nat) : Int) + (0 + ((l : Nat) : Int)))])) sa = some (.lst (G'.map gV)) ∧ G'.length = W ∧ Kn W (evs (ps.take i) ++ evT p (l + 1)) (fun p => (G'[p]?).getD none) T' ∧ T'.length ≤ (evs (ps.take i) ++ evT p (l + 1)).length := fun hb => by
          refine ⟨G, T ++ [((p.1 + l : Nat) : Int)], _, rfl, s4.wrn nta0, ?_, (upd_ne nst).trans hsa4, lG, ?_, ?_⟩
          · rw [upd_same, List.map_append, e0]
            rfl
          · rw [ees]
            refine cm.snoc (fun x => ?_) (fun _ _ _ => rfl) (fun hq => .inr ⟨rfl, ?_⟩)
            · rw [List.mem_append, List.mem_singleton]
              exact ⟨fun z => z.imp id fun z => ⟨z, hb⟩, fun z => z.imp id fun z => z.1⟩
            · rcases hb with hb | ⟨c', hb, _⟩
              · omega
              · rw [hb]
                rfl
          · rw [ees, List.length_append, List.length_append, List.length_singleton, List.length_singleton]
            omega
        have keepT : ¬ (W ≤ p.1 + l ∨ ∃ c', (G[p.1 + l]?).getD none = some c' ∧ c' ≠ c) → ∀ x : Int, x ∈ T ↔ x ∈ T ∨ (x = ((p.1 + l : Nat) : Int) ∧ (W ≤ p.1 + l ∨ ∃ c', (G[p.1 + l]?).getD none = some c' ∧ c' ≠ c)) := fun hn x => ⟨.inl, fun z => z.elim id fun z => (hn z.2).elim⟩
        have lT1 : T.length ≤ (evs (ps.take i) ++ evT p (l + 1)).length := by
          rw [ees, List.length_append, List.length_singleton]
          omega
        refine ⟨_, rfl, _, rfl, _, _, rfl, rfl, _, rfl, _, _, rfl, rfl, _, rfl, ?_⟩
        refine ite2 (fun hge => ?_) (fun hge => ?_)
        · have hge := of_decide_eq_true hge
          exact ⟨_, rfl, .inl ⟨rfl, _, SqL.of hta4⟩, _, rfl, _, rfl, _, _, rfl, rfl, ta, _, _, rfl, rfl, hta4, hTl, push (.inl (by omega))⟩
        · have hge : ¬ _ := fun z => hge (decide_eq_true z)
          have hq : p.1 + l < W := by omega
          have hqG : p.1 + l < G.length := by omega
          have hat : atI (G.map gV) (((p.1 : Nat) : Int) + (0 + ((l : Nat) : Int))) = some (gV G[p.1 + l]) := by
            rw [e0]
            exact atI_nat (by rw [List.getElem?_map, List.getElem?_eq_getElem hqG]; rfl)
          have hac : atI (S p.2).cps.toList (0 + ((l : Nat) : Int)) = some c := by
            rw [show (0 : Int) + ((l : Nat) : Int) = ((l : Nat) : Int) by omega]
            exact atI_nat (by rw [List.toList_toArray]; exact hc)
          refine ⟨_, rfl, _, rfl, _, rfl, _, _, rfl, rfl, sa, _, _, _, rfl, rfl, SqL.of hsa4, hat, _, rfl, ?_⟩
          cases hg : G[p.1 + l] with
          | none =>
            refine iteT ?_
            refine ⟨_, rfl, _, rfl, _, _, _, rfl, rfl, hps, hac, ?_⟩
            refine ⟨_, rfl, _, rfl, _, rfl, _, _, rfl, rfl, sa, _, _, p.1 + l, rfl, rfl, hsa4, ?_, ?_⟩
            · show ixN (G.map gV).length (((p.1 : Nat) : Int) + (0 + ((l : Nat) : Int))) = _
              rw [e0, List.length_map]
              exact ixN_lt hqG
            · refine ⟨G.set (p.1 + l) (some c), T, _, rfl, s4.wrn nsa0, (upd_ne (Ne.symm nst)).trans hta4, ?_, by rw [List.length_set]; exact lG, ?_, lT1⟩
              · rw [upd_same, gset]
              · rw [ees]
                refine cm.snoc (keepT ?_) (fun p' hp' _ => ?_) (fun _ => .inl ?_)
                · rintro (z | ⟨c', z, _⟩)
                  · omega
                  · rw [List.getElem?_eq_getElem hqG, hg] at z
                    cases z
                · show ((G.set (p.1 + l) (some c))[p']?).getD none = _
                  rw [List.getElem?_set_ne (Ne.symm hp')]
                · show ((G.set (p.1 + l) (some c))[p.1 + l]?).getD none = _
                  rw [List.getElem?_set_self hqG]
                  rfl
          | some c0 =>
            refine iteF ?_
            refine ⟨_, rfl, _, rfl, _, rfl, _, _, rfl, rfl, sa, _, _, _, rfl, rfl, SqL.of hsa4, hat, ?_⟩
            rw [hg]
            refine ⟨_, rfl, _, rfl, _, _, _, rfl, rfl, hps, hac, rfl, _, rfl, ?_⟩
            have gq : (G[p.1 + l]?).getD none = some c0 := by
              rw [List.getElem?_eq_getElem hqG, hg]
              rfl
            by_cases hcx : c0 = c
            · subst hcx
              refine iteNS rfl ?_
              refine ⟨G, T, _, rfl, s4, hta4, hsa4, lG, ?_, lT1⟩
              rw [ees]
              refine cm.snoc (keepT ?_) (fun _ _ _ => rfl) (fun _ => .inl gq)
              rintro (z | ⟨c', z, z'⟩)
              · omega
              · rw [gq] at z
                exact z' (Option.some.inj z).symm
            · have hne : ¬ (gV (some c0) = V.str ⟨#[c]⟩) := fun z => by
                have z : V.str (S [c0]) = V.str (S [c]) := z
                simp at z
                exact hcx z
              rw [decide_eq_false hne]
              refine iteT ?_
              exact ⟨_, rfl, .inl ⟨rfl, _, SqL.of hta4⟩, _, rfl, _, rfl, _, _, rfl, rfl, ta, _, _, rfl, rfl, hta4, hTl, push (.inr ⟨c0, gq, hcx⟩)⟩
      · rintro σ H4 ⟨G, T, v6, rfl, s4, hta4, hsa4, lG, cm, lT⟩
        rw [Int.toNat_natCast] at cm lT
        refine ⟨G, T, _, _, _, rfl, s4, hta4, hsa4, lG, ?_, ?_⟩
        · rw [et]
          exact cm
        · rw [et]
          exact lT
    · rintro σ H3 ⟨G, T, v4, v5, v6, rfl, s3, hta3, hsa3, lG, cm, lT⟩
      rw [lxs, List.take_length] at cm lT
      refine ⟨_, rfl, _, T.length, rfl, .inl ⟨_, SqL.of hta3, (List.length_map _).symm⟩, _, _, rfl, rfl, _, rfl, ?_⟩
      refine ite2 (fun hlt => ?_) (fun hlt => ?_)
      · have hlt := of_decide_eq_true hlt
        refine ⟨_, rfl, ta, T, rfl, SqL.of hta3, by omega, fun mn h1 h2 => ?_⟩
        obtain ⟨q, rfl, tq⟩ := (cm.t mn).mp h1
        refine k _ H3 _ s3 (.torn q tq fun p tp => ?_) Rp.int
        have := h2 _ ((cm.t (p : Int)).mpr ⟨p, rfl, tp⟩)
        omega
      · have hlt : ¬ _ := fun z => hlt (decide_eq_true z)
        have hTe : T = [] := by
          cases T with
          | nil => rfl
          | cons t T =>
            exfalso
            apply hlt
            rw [List.length_cons]
            omega
        subst hTe
        have nt : ∀ p, ¬ TornAt W (evs ps) p := fun p tp => by
          have := (cm.t (p : Int)).mpr ⟨p, rfl, tp⟩
          cases this
        refine ⟨_, rfl, sa, _, rfl, .inl (SqL.of hsa3), rfl, gV_flat G, _, rfl, ?_⟩
        show if inV .non (G.map gV) = true then _ else _
        rw [gV_in]
        refine ite2 (fun hn => ?_) (fun hn => ?_)
        · have hn := of_decide_eq_true hn
          obtain ⟨j, hj, e⟩ := List.mem_iff_getElem.mp hn
          refine k .none H3 .non s3 (.lack nt j (by omega) fun c hc => ?_) Rp.none
          have := cm.b j c (by omega) hc
          rw [List.getElem?_eq_getElem hj, e] at this
          cases this
        · have hn : none ∉ G := fun z => hn (decide_eq_true z)
          obtain ⟨cs, rfl⟩ := all_some hn
          rw [List.length_map] at lG
          have hs : H3 sa = some (.lst ((cs.map fun c => S [c]).map V.str)) := by
            rw [hsa3, List.map_map, List.map_map]
            rfl
          refine ⟨⟨_, rfl⟩, _, rfl, _, sa, cs.map fun c => S [c], rfl, rfl, .inl (SqL.of hs), ?_, ?_⟩
          · rw [sum_signs, List.length_map]
            show cs.length + cs.length * 0 ≤ _
            omega
          · rw [show (Txt.join (Str.ofString "") (cs.map fun c => S [c])) = S cs from join_signs cs]
            refine k _ H3 _ s3 (.all nt cs lG fun j c hc => ?_) Rp.str
            refine cm.a j c (by have := (List.getElem?_eq_some_iff.mp hc).1; omega) ?_
            rw [List.getElem?_map, hc]
            rfl
end
end Wn

namespace Wn
open PySem L2
open SX (S S_len S_cat S_beq_eq join_S)
abbrev sPieces : Stmt := top 14
abbrev sTurned : Stmt := top 15
abbrev sBent : Stmt := top 18

def spPieces (K : PySem.W.Frag) : Sp := fun vs H Q _ => ∃ (d f : Addr) (n : Int) (cs : List Nat), vs = [.ref d, .str (S cs), .int 0] ∧ Deck H d f n ∧ n < 2 ^ 59 ∧ cs.length ≤ 60 ∧
  ∀ (H' : Hp) (a : Addr) (ps : List Part), H a = none → Kp [d] H H' → TK H H' → Deck H' d f (n + 120) → LstAt K H' a (ps.map partD) → (∀ p ∈ ps, SubPart cs p ∧ 1 ≤ p.2.length ∧ p.2.length ≤ 60) → (∀ j : Nat, j < cs.length → ∃ p ∈ ps, p.1 ≤ j ∧ j < p.1 + p.2.length) → ps.length ≤ 60 → Q (.ref a) H'
def spTurned (K : PySem.W.Frag) : Sp := fun vs H Q _ => ∃ (d f ra : Addr) (n : Int) (L : List Part), vs = [.ref d, .ref ra] ∧ Deck H d f n ∧ n < 2 ^ 59 ∧ LstAt K H ra (L.map partD) ∧ ra ≠ d ∧ L.length ≤ 5000000 ∧
  ∀ (H' : Hp) (a : Addr) (T : List Part), H a = none → Kp [d] H H' → Deck H' d f (n + L.length) → LstAt K H' a (T.map partD) → (∀ r, r ∈ T ↔ r ∈ L) → T.length = L.length → Q (.ref a) H'
def spBent (K : PySem.W.Frag) : Sp := fun vs H Q _ => ∃ (d f ra : Addr) (n : Int) (L : List Part), vs = [.ref d, .ref ra] ∧ Deck H d f n ∧ n < 2 ^ 59 ∧ LstAt K H ra (L.map partD) ∧ ra ≠ d ∧ L.length ≤ 120 ∧ (∀ p ∈ L, 1 ≤ p.2.length ∧ p.2.length ≤ 60) ∧
  ∀ (H' : Hp) (a : Addr) (T : List Part), H a = none → Kp [d] H H' → Deck H' d f (n + 3 * L.length) → LstAt K H' a (T.map partD) → (∀ p ∈ T, p.2.length ≤ 121) → T.length ≤ 2 * L.length → Q (.ref a) H'
theorem mem_ins {α : Type} (T : List α) (k : Nat) (x r : α) : r ∈ T.take k ++ [x] ++ T.drop k ↔ r = x ∨ r ∈ T := by
  have e : r ∈ T ↔ r ∈ T.take k ∨ r ∈ T.drop k := by
    rw [← List.mem_append, List.take_append_drop]
  rw [List.mem_append, List.mem_append, List.mem_singleton, e]
  constructor
  · rintro ((h | h) | h)
    · exact .inr (.inl h)
    · exact .inl h
    · exact .inr (.inr h)
  · rintro (h | h | h)
    · exact .inl (.inr h)
    · exact .inl (.inl h)
    · exact .inr h
theorem len_ins {α : Type} (T : List α) (k : Nat) (x : α) : (T.take k ++ [x] ++ T.drop k).length = T.length + 1 := by
  rw [List.length_append, List.length_append, List.length_take, List.length_drop, List.length_singleton]
  omega
theorem cutS_any (cs : List Nat) (lo hi : Option Int) : ∃ bs, cutS (S cs) lo hi = S bs ∧ bs.length ≤ cs.length := by
  refine ⟨_, rfl, ?_⟩
  rw [List.length_take, List.length_drop]
  show min _ (cs.length - _) ≤ _
  omega
section
variable {P : Program} {w : World} {K : PySem.W.Frag} {mg : Str → Option Value} {base : Heap}
theorem scPieces : FnScope ["_law_deck_here", "_law_text_here", "_law_first", "_law_found_here", "_law_at", "_law_size"] ["_law_deck_here", "_law_text_here", "_law_first"] (defScope sPieces) := ⟨rfl, rfl, rfl, by decide +kernel, rfl, by decide +kernel, by decide +kernel⟩
theorem ok_pieces {f : Addr} {fd : FuncData} (F : Fun K "_law_pieces" "_law_pieces" sPieces f fd) (B : TB mg)
    (cN : Cd P w K mg base 2 "_law_next" ["_law_deck_here", "_law_many"] spNext) :
    FnOk P w K mg base CX0 3 f fd ["_law_deck_here", "_law_text_here", "_law_first"] (spPieces K) := by
  obtain ⟨fN, fdN, GN, mN, kN, bN⟩ := cN.tk
  refine F.ok scPieces (fun vs H Q E h => ?_) (fun cdv A outer s H vs Q E hr h => ?_)
  · obtain ⟨d, f, n, cs, rfl, _⟩ := h
    rfl
  · obtain ⟨d, f, n, cs, rfl, D0, hn, hcs, k⟩ := h
    have hr2 : Room 2 _ := hr
    have hcz : (S cs).length ≤ sizeLine := by rw [S_len]; exact Nat.le_trans hcs (by decide)
    refine ⟨_, (pss_cons (ps_set (i := 3) scPieces.nd rfl (Or.inl rfl) (pe_lst pa_nil))
       (pss_cons (ps_set (i := 4) scPieces.nd rfl (Or.inl rfl) pe_int)
       (pss_cons (ps_while PassesOwn.never (pt_cmpR op_lt (pv 4) (pe_callB (lenK (K := K) rfl) (by rfl) B.len PySem.boot_len (pa_cons (pv 1) pa_nil)) (nomark _))
       (pss_cons (ps_set (i := 5) scPieces.nd rfl (Or.inl rfl) (pe_op op_add pe_int (pe_call GN hr2 rfl mN kN bN .nil pass0 (pa_cons (pv 0) (pa_cons (pe_ix (ixL (K := K) rfl) (pe_lst (pa_cons pe_int (pa_cons pe_int (pa_cons pe_int pa_nil)))) (pe_call GN hr2 rfl mN kN bN .nil pass0 (pa_cons (pv 0) (pa_cons pe_int pa_nil))) (fun _ _ => rfl)) pa_nil)))))
       (pss_cons (ps_expr (pe_bm PySem.F.plainAttrs_list PySem.F.slot_list_append PySem.F.type_list_append mt_append (pv 3) (pa_cons (pe_tup (pa_cons (pe_op op_add (pv 2) (pv 4)) (pa_cons (pe_slice sl_str (pv 1) (po_some (pv 4)) (po_some (pe_op op_add (pv 4) (pv 5)))) pa_nil))) pa_nil)))
       (pss_one (ps_set (i := 4) scPieces.nd rfl (Or.inl rfl) (pe_op op_add (pv 4) (pv 5)))))))
       (pss_one (ps_ret (pv 3)))))), ?_⟩
    refine ⟨Nat.zero_le _, fun fa nfa => ?_⟩
    have s1 : Same H (upd H fa (.lst [])) := (L2.Same.refl H).new nfa
    have D1 := D0.same s1
    have hfa1 : LstAt K (upd H fa (.lst [])) fa (([] : List Part).map partD) := ⟨[], upd_same, RpL.nil⟩
    have nfd : fa ≠ d := (ne_of_none D0.lst.choose_spec nfa).symm
    have nfaf : f ≠ fa := ne_of_none D0.lst2.choose_spec nfa
    have k01 : Kp [d] H (upd H fa (.lst [])) := Kp.of s1
    have t01 := TK.of s1
    generalize upd H fa (.lst []) = H1 at s1 D1 hfa1 k01 t01
    refine ⟨fun m σ H' => ∃ (t : Nat) (T : List Part) (v5 : Option V), m = cs.length - t ∧ σ = [some (.ref d), some (.str (S cs)), some (.int 0), some (.ref fa), some (.int (t : Int)), v5] ∧ LstAt K H' fa (T.map partD) ∧ (∀ p ∈ T, SubPart cs p ∧ 1 ≤ p.2.length ∧ p.2.length ≤ 60) ∧ (∀ j : Nat, j < t → j < cs.length → ∃ p ∈ T, p.1 ≤ j ∧ j < p.1 + p.2.length) ∧ T.length ≤ t ∧ T.length ≤ cs.length ∧ Kp [d] H H' ∧ TK H H' ∧ Deck H' d f (n + 2 * T.length),
      ⟨_, 0, [], _, rfl, rfl, hfa1, (by intro p hp; cases hp), (by intro j h; omega), Nat.le_refl _, Nat.zero_le _, k01, t01, D1.mono (by simp)⟩, ?_⟩
    rintro m σ H2 ⟨t, T, v5, hm', rfl, hfa2, hT, cov, lT, lT', kp2, t2, D2⟩
    refine ⟨_, rfl, _, rfl, _, cs.length, rfl, ⟨hcz, (S_len cs).symm⟩, _, _, rfl, rfl, _, rfl, ?_⟩
    refine ite2 (fun hl => ?_) (fun hl => ?_)
    · have hl := of_decide_eq_true hl
      have hlt : t < cs.length := by omega
      refine ⟨_, fun _ _ h => h, ?_⟩
      refine ⟨_, rfl, (by show 3 ≤ sizeLine; decide), fun l3 nl3 => ?_⟩
      have s3 : Same H2 (upd H2 l3 (.lst [.int 3, .int 9, .int 40])) := (L2.Same.refl _).new nl3
      have hl3 : upd H2 l3 (.lst [.int 3, .int 9, .int 40]) l3 = some (.lst [.int 3, .int 9, .int 40]) := upd_same
      have nl3d : l3 ≠ d := (ne_of_none D2.lst.choose_spec nl3).symm
      generalize upd H2 l3 (.lst [.int 3, .int 9, .int 40]) = H3 at s3 hl3
      have D3 := D2.same s3
      refine ⟨_, rfl, d, f, 3, n + 2 * T.length, rfl, by decide, by omega, D3, fun z H4 z0 z1 k4 D4 t4 => ?_⟩
      have hl4 := k4 _ _ (nin1 nl3d) hl3
      obtain ⟨v, ev, hv⟩ := at3 (x := V.int 3) (y := .int 9) (z := .int 40) z0 z1
      obtain ⟨q, rfl, hq0, hq1⟩ : ∃ q : Int, v = .int q ∧ 0 < q ∧ q ≤ 40 := by
        rcases hv with rfl | rfl | rfl
        · exact ⟨3, rfl, by decide, by decide⟩
        · exact ⟨9, rfl, by decide, by decide⟩
        · exact ⟨40, rfl, by decide, by decide⟩
      refine ⟨l3, _, _, _, rfl, rfl, SqL.of hl4, ev, d, f, q, n + 2 * T.length + 1, rfl, hq0, by omega, D4, fun z' H5 z0' z1' k5 D5 t5 => ?_⟩
      obtain ⟨s', ez⟩ : ∃ s' : Nat, 1 + z' = (s' : Int) := ⟨(1 + z').toNat, by omega⟩
      have hs1 : 1 ≤ s' := by omega
      refine ⟨_, _, rfl, rfl, ?_⟩
      rw [show (fun i j => V.int (i + j)) 1 z' = V.int (s' : Int) from congrArg V.int ez]
      have t25 := (TK.of s3).trans (t4.trans t5)
      have k25 : Kp [d] H2 H5 := ((Kp.of s3).trans k4).trans k5
      obtain ⟨zs, hz5, rz5⟩ := hfa2.kp k25 t25 (nin1 nfd)
      have lz := RpL.len _ _ rz5
      rw [List.length_map] at lz
      have e0 : (0 : Int) + ((t : Nat) : Int) = ((t : Nat) : Int) := by omega
      have e2 : ((t : Nat) : Int) + (s' : Int) = ((t + s' : Nat) : Int) := by omega
      have ec : cutS (S cs) (some ((t : Nat) : Int)) (some (((t : Nat) : Int) + (s' : Int))) = S ((cs.drop t).take s') := by
        rw [e2, cutS_S, Nat.add_sub_cancel_left]
      refine ⟨_, rfl, .inl ⟨rfl, _, SqL.of hz5⟩, _, rfl, _, rfl, _, _, rfl, rfl, _, rfl, _, rfl, _, rfl, _, rfl, _, rfl, _, _, rfl, rfl, _, rfl, _, rfl, hcz, (by show 2 ≤ sizeLine; decide), fun tt ntt => ?_⟩
      rw [ec, show (fun i j => V.int (i + j)) 0 ((t : Nat) : Int) = V.int ((t : Nat) : Int) from congrArg V.int e0]
      have lp : ((cs.drop t).take s').length ≤ 60 ∧ 1 ≤ ((cs.drop t).take s').length ∧ (cs.length ≤ t + s' ∨ ((cs.drop t).take s').length = s') := by
        rw [List.length_take, List.length_drop]
        omega
      have hsub : SubPart cs (t, (cs.drop t).take s') := fun l c hc => by
        dsimp only at hc ⊢
        rw [List.getElem?_take] at hc
        split at hc
        · rw [List.getElem?_drop] at hc
          exact hc
        · cases hc
      have lp2 : t + ((cs.drop t).take s').length = min cs.length (t + s') := by
        rw [List.length_take, List.length_drop]
        omega
      generalize hpt : (cs.drop t).take s' = pt at lp hsub lp2
      obtain ⟨p1, p2, p3, p4⟩ := push_tup (K := K) (ds := [.int (t : Int), .str (S pt)]) hz5 rz5 ntt (RpL.cons Rp.int (RpL.cons Rp.str RpL.nil))
      refine ⟨fa, _, _, rfl, rfl, p1, Nat.lt_of_le_of_lt (show zs.length ≤ 60 by omega) (by decide), ?_⟩
      generalize upd (upd H5 tt (.tup [.int (t : Int), .str (S pt)])) fa (.lst (zs ++ [.ref tt])) = H6 at p2 p3 p4
      refine ⟨_, rfl, _, rfl, _, _, rfl, rfl, ?_⟩
      refine ⟨_, ?_, t + s', T ++ [(t, pt)], some (.int (s' : Int)), rfl, ?_, ?_, ?_, ?_, ?_, ?_, ?_, (t2.trans t25).trans p3, ?_⟩
      · omega
      · rw [← e2]
        rfl
      · rw [List.map_append]
        exact p2
      · intro p hp
        rcases List.mem_append.mp hp with h | h
        · exact hT p h
        · rw [List.mem_singleton] at h
          subst h
          exact ⟨hsub, lp.2.1, lp.1⟩
      · intro j hj hjc
        by_cases h : j < t
        · obtain ⟨p, hp, h1⟩ := cov j h hjc
          exact ⟨p, List.mem_append_left _ hp, h1⟩
        · exact ⟨(t, pt), by simp, by show t ≤ j; omega, by show j < t + pt.length; omega⟩
      · rw [List.length_append, List.length_singleton]
        omega
      · rw [List.length_append, List.length_singleton]
        omega
      · exact fun b o hb e => p4 b o (fun z => by
          rw [List.mem_singleton] at z
          rw [z, nfa] at e
          cases e) (k25 b o hb (kp2 b o hb e))
      · refine (D5.kp p4 (nin1 (Ne.symm nfd)) (nin1 nfaf)).mono ?_
        rw [List.length_append, List.length_singleton]
        omega
    · have hl : ¬ _ := fun z => hl (decide_eq_true z)
      refine ⟨_, rfl, k _ fa T nfa kp2 t2 (D2.mono (by omega)) hfa2 hT (fun j hj => cov j (by omega) hj) (by omega)⟩
theorem scTurned : FnScope ["_law_deck_here", "_law_rows", "_law_found_here", "_law_row"] ["_law_deck_here", "_law_rows"] (defScope sTurned) := ⟨rfl, rfl, rfl, by decide +kernel, rfl, by decide +kernel, by decide +kernel⟩
theorem ok_turned {f : Addr} {fd : FuncData} (F : Fun K "_law_turned" "_law_turned" sTurned f fd) (B : TB mg)
    (cN : Cd P w K mg base 2 "_law_next" ["_law_deck_here", "_law_many"] spNext) :
    FnOk P w K mg base CX0 3 f fd ["_law_deck_here", "_law_rows"] (spTurned K) := by
  obtain ⟨fN, fdN, GN, mN, kN, bN⟩ := cN.tk
  refine F.ok scTurned (fun vs H Q E h => ?_) (fun cdv A outer s H vs Q E hr h => ?_)
  · obtain ⟨d, f, ra, n, L, rfl, _⟩ := h
    rfl
  · obtain ⟨d, f, ra, n, L, rfl, D0, hn, ⟨xs, hra, rra⟩, nrd, hL, k⟩ := h
    have hr2 : Room 2 _ := hr
    refine ⟨_, (pss_cons (ps_set (i := 2) scTurned.nd rfl (Or.inl rfl) (pe_lst pa_nil))
       (pss_cons (ps_for PassesOwn.never rfl (pi_list (pv 1)) (pg_name (i := 3) scTurned.nd rfl (Or.inl rfl))
       (pss_one (ps_expr (pe_bm PySem.F.plainAttrs_list PySem.F.slot_list_insert PySem.F.type_list_insert mt_insert (pv 2) (pa_cons (pe_call GN hr2 rfl mN kN bN .nil pass0 (pa_cons (pv 0) (pa_cons (pe_op op_add (pe_callB (lenK (K := K) rfl) (by rfl) B.len PySem.boot_len (pa_cons (pv 2) pa_nil)) pe_int) pa_nil))) (pa_cons (pv 3) pa_nil))))))
       (pss_one (ps_ret (pv 2))))), ?_⟩
    refine ⟨Nat.zero_le _, fun fa nfa => ?_⟩
    have s1 : Same H (upd H fa (.lst [])) := (L2.Same.refl H).new nfa
    have D1 := D0.same s1
    have hfa1 : LstAt K (upd H fa (.lst [])) fa (([] : List Part).map partD) := ⟨[], upd_same, RpL.nil⟩
    have nfd : fa ≠ d := (ne_of_none D0.lst.choose_spec nfa).symm
    have nfaf : f ≠ fa := ne_of_none D0.lst2.choose_spec nfa
    have k01 : Kp [d] H (upd H fa (.lst [])) := Kp.of s1
    have t01 := TK.of s1
    generalize upd H fa (.lst []) = H1 at s1 D1 hfa1 k01 t01
    refine ⟨_, rfl, ra, rfl, ⟨_, SqL.of (s1 _ _ hra)⟩, ?_⟩
    have lxs := RpL.len _ _ rra
    rw [List.length_map] at lxs
    refine for_list (K := K) (a := ra) (xs := xs) (fun i σ H' => ∃ (T : List Part) (v3 : Option V), σ = [some (.ref d), some (.ref ra), some (.ref fa), v3] ∧ LstAt K H' fa (T.map partD) ∧ (∀ r, r ∈ T ↔ r ∈ L.take i) ∧ T.length = i ∧ Kp [d] H H' ∧ TK H H' ∧ Deck H' d f (n + i))
      ⟨[], _, rfl, hfa1, fun r => by simp, rfl, k01, t01, D1.mono (by omega)⟩ (fun i σ H' _ ⟨_, _, _, _, _, _, kp, _⟩ => SqL.of (kp _ _ (nin1 nrd) hra)) ?_ ?_
    · rintro i x σ H2 hx ⟨T, v3, rfl, hfa2, hT, lT, kp2, t2, D2⟩
      have hi : i < L.length := by
        have q := (List.getElem?_eq_some_iff.mp hx).1
        omega
      obtain ⟨v, ev, rv⟩ := RpL.get _ _ rra i (partD L[i]) (by rw [List.getElem?_map, List.getElem?_eq_getElem hi]; rfl)
      have ex : v = x := Option.some.inj (ev.symm.trans hx)
      rw [ex] at rv
      have et : L.take (i + 1) = L.take i ++ [L[i]] := List.take_succ_eq_append_getElem hi
      obtain ⟨ys, hy2, ry2⟩ := id hfa2
      have ly := RpL.len _ _ ry2
      rw [List.length_map] at ly
      refine ⟨_, rfl, .inl ⟨rfl, _, SqL.of hy2⟩, _, rfl, _, rfl, _, ys.length, rfl, .inl ⟨_, SqL.of hy2, rfl⟩, _, _, rfl, rfl, d, f, (ys.length : Int) + 1, n + i, rfl, by omega, by omega, D2, fun at1 H3 a0 a1 k3 D3 t3 => ?_⟩
      have hy3 := k3 _ _ (nin1 nfd) hy2
      refine ⟨_, rfl, fa, _, _, _, rfl, rfl, hy3, Nat.lt_of_le_of_lt (show ys.length ≤ 5000000 by omega) (by decide), a0, by omega, ?_⟩
      have t4 : TK H3 (upd H3 fa (.lst (ys.take at1.toNat ++ [x] ++ ys.drop at1.toNat))) := (TK.refl _).wr hy3 rfl
      have k4 : Kp [fa] H3 (upd H3 fa (.lst (ys.take at1.toNat ++ [x] ++ ys.drop at1.toNat))) := (Kp.refl _ _).wr (List.mem_singleton.mpr rfl)
      have t04 := (t2.trans t3).trans t4
      refine ⟨T.take at1.toNat ++ [L[i]] ++ T.drop at1.toNat, _, rfl, ⟨_, upd_same, ?_⟩, fun r => ?_, ?_, (kp2.trans k3).wrn nfa, t04, (D3.kp k4 (nin1 nfd.symm) (nin1 nfaf)).mono (by omega)⟩
      · rw [List.map_append, List.map_append, List.map_take, List.map_drop]
        have r4 := RpL.tk (t3.trans t4) _ _ ry2
        exact RpL.app (RpL.app (RpL.take _ r4) (RpL.cons (Rp.tk t04 _ _ rv) RpL.nil)) (RpL.drop _ r4)
      · rw [mem_ins, hT, et, List.mem_append, List.mem_singleton]
        exact Or.comm
      · rw [len_ins, lT]
    · rintro σ H2 ⟨T, v3, rfl, hfa2, hT, lT, kp2, t2, D2⟩
      rw [lxs] at lT D2
      refine ⟨_, rfl, k _ fa T nfa kp2 D2 hfa2 (fun r => ?_) lT⟩
      rw [hT r, lxs, List.take_length]
theorem scBent : FnScope ["_law_deck_here", "_law_parts", "_law_found_here", "_law_first", "_law_signs", "_law_way", "_law_at"] ["_law_deck_here", "_law_parts"] (defScope sBent) := ⟨rfl, rfl, rfl, by decide +kernel, rfl, by decide +kernel, by decide +kernel⟩
theorem ok_bent {f : Addr} {fd : FuncData} (F : Fun K "_law_bent" "_law_bent" sBent f fd) (B : TB mg)
    (cN : Cd P w K mg base 2 "_law_next" ["_law_deck_here", "_law_many"] spNext) (cG : Cd P w K mg base 3 "_law_sign" ["_law_deck_here"] spSign) :
    FnOk P w K mg base CX0 4 f fd ["_law_deck_here", "_law_parts"] (spBent K) := by
  obtain ⟨fN, fdN, GN, mN, kN, bN⟩ := cN.tk
  obtain ⟨fG, fdG, GG, mG, kG, bG⟩ := cG.tk
  refine F.ok scBent (fun vs H Q E h => ?_) (fun cdv A outer s H vs Q E hr h => ?_)
  · obtain ⟨d, f, ra, n, L, rfl, _⟩ := h
    rfl
  · obtain ⟨d, f, ra, n, L, rfl, D0, hn, ⟨xs, hra, rra⟩, nrd, hL, hLp, k⟩ := h
    have hr3 : Room 3 _ := hr
    have hr2 : Room 2 _ := hr.mono (by decide)
    refine ⟨_, (pss_cons (ps_set (i := 2) scBent.nd rfl (Or.inl rfl) (pe_lst pa_nil))
       (pss_cons (ps_for PassesOwn.never rfl (pi_list (pv 1)) (pg_tup rfl (pgs_cons (pg_name (i := 3) scBent.nd rfl (Or.inl rfl)) (pgs_cons (pg_name (i := 4) scBent.nd rfl (Or.inl rfl)) pgs_nil)))
       (pss_cons (ps_set (i := 5) scBent.nd rfl (Or.inl rfl) (pe_call GN hr2 rfl mN kN bN .nil pass0 (pa_cons (pv 0) (pa_cons pe_int pa_nil))))
       (pss_cons (ps_if (pt_cmpR op_eq (pv 5) pe_int (nomark _))
       (pss_one (ps_expr (pe_bm PySem.F.plainAttrs_list PySem.F.slot_list_append PySem.F.type_list_append mt_append (pv 2) (pa_cons (pe_tup (pa_cons (pv 3) (pa_cons (pv 4) pa_nil))) pa_nil))))
       pss_nil)
       (pss_one (ps_if (pt_cmpR op_eq (pv 5) pe_int (nomark _))
       (pss_cons (ps_set (i := 6) scBent.nd rfl (Or.inl rfl) (pe_call GN hr2 rfl mN kN bN .nil pass0 (pa_cons (pv 0) (pa_cons (pe_callB (lenK (K := K) rfl) (by rfl) B.len PySem.boot_len (pa_cons (pv 4) pa_nil)) pa_nil))))
       (pss_one (ps_expr (pe_bm PySem.F.plainAttrs_list PySem.F.slot_list_append PySem.F.type_list_append mt_append (pv 2) (pa_cons (pe_tup (pa_cons (pv 3) (pa_cons (pe_op op_add_str (pe_op op_add_str (pe_slice sl_str (pv 4) po_none (po_some (pv 6))) (pe_call GG hr3 rfl mG kG bG .nil pass0 (pa_cons (pv 0) pa_nil))) (pe_slice sl_str (pv 4) (po_some (pe_op op_add (pv 6) pe_int)) po_none)) pa_nil))) pa_nil)))))
       (pss_one (ps_if (pt_cmpR op_eq (pv 5) pe_int (nomark _))
       (pss_one (ps_expr (pe_bm PySem.F.plainAttrs_list PySem.F.slot_list_append PySem.F.type_list_append mt_append (pv 2) (pa_cons (pe_tup (pa_cons (pe_op op_add (pv 3) (pe_call GN hr2 rfl mN kN bN .nil pass0 (pa_cons (pv 0) (pa_cons pe_int pa_nil)))) (pa_cons (pe_op op_add_str (pv 4) (pe_call GG hr3 rfl mG kG bG .nil pass0 (pa_cons (pv 0) pa_nil))) pa_nil))) pa_nil))))
       (pss_one (ps_if (pt_cmpR op_ne (pv 5) pe_int (nomark _))
       (pss_one (ps_expr (pe_bm PySem.F.plainAttrs_list PySem.F.slot_list_append PySem.F.type_list_append mt_append (pv 2) (pa_cons (pe_tup (pa_cons (pv 3) (pa_cons (pv 4) pa_nil))) pa_nil))))
       pss_nil)))))))))
       (pss_one (ps_ret (pv 2))))), ?_⟩
    refine ⟨Nat.zero_le _, fun fa nfa => ?_⟩
    have s1 : Same H (upd H fa (.lst [])) := (L2.Same.refl H).new nfa
    have D1 := D0.same s1
    have hfa1 : LstAt K (upd H fa (.lst [])) fa (([] : List Part).map partD) := ⟨[], upd_same, RpL.nil⟩
    have nfd : fa ≠ d := (ne_of_none D0.lst.choose_spec nfa).symm
    have nfaf : f ≠ fa := ne_of_none D0.lst2.choose_spec nfa
    have k01 : Kp [d] H (upd H fa (.lst [])) := Kp.of s1
    have t01 := TK.of s1
    generalize upd H fa (.lst []) = H1 at s1 D1 hfa1 k01 t01
    refine ⟨_, rfl, ra, rfl, ⟨_, SqL.of (s1 _ _ hra)⟩, ?_⟩
    have lxs := RpL.len _ _ rra
    rw [List.length_map] at lxs
    refine for_list (K := K) (a := ra) (xs := xs) (fun i σ H' => ∃ (T : List Part) (v3 v4 v5 v6 : Option V), σ = [some (.ref d), some (.ref ra), some (.ref fa), v3, v4, v5, v6] ∧ LstAt K H' fa (T.map partD) ∧ (∀ p ∈ T, p.2.length ≤ 121) ∧ T.length ≤ 2 * i ∧ Kp [d] H H' ∧ TK H H' ∧ Deck H' d f (n + 3 * i))
      ⟨[], _, _, _, _, rfl, hfa1, (by intro p hp; cases hp), Nat.le_refl _, k01, t01, D1.mono (by omega)⟩ (fun i σ H' _ ⟨_, _, _, _, _, _, _, _, _, kp, _⟩ => SqL.of (kp _ _ (nin1 nrd) hra)) ?_ ?_
    · rintro i x σ H2 hx ⟨T, v3, v4, v5, v6, rfl, hfa2, hT, lT, kp2, t2, D2⟩
      have hi : i < L.length := by
        have q := (List.getElem?_eq_some_iff.mp hx).1
        omega
      obtain ⟨v, ev, rv⟩ := RpL.get _ _ rra i (partD L[i]) (by rw [List.getElem?_map, List.getElem?_eq_getElem hi]; rfl)
      have ex : v = x := Option.some.inj (ev.symm.trans hx)
      rw [ex] at rv
      obtain ⟨pa, rfl, hpa⟩ := partD_inv (Rp.tk t2 _ _ rv)
      have hp := hLp _ (List.getElem_mem hi)
      generalize hpe : L[i] = p at hpa hp rv
      have hpz : (S p.2).length ≤ sizeLine := by rw [S_len]; exact Nat.le_trans hp.2 (by decide)
      refine ⟨pa, _, rfl, hpa, rfl, _, _, rfl, _, _, rfl, rfl, ?_⟩
      refine ⟨_, rfl, d, f, 9, n + 3 * i, rfl, by decide, by omega, D2, fun z H3 z0 z1 k3 D3 t3 => ?_⟩
      have hfa3 := hfa2.kp k3 t3 (nin1 nfd)
      -- one more part
      have add : ∀ (G : Hp) (U : List Part) (a : Nat) (b : List Nat) (t : Addr), LstAt K G fa (U.map partD) → b.length ≤ 121 → (∀ p ∈ U, p.2.length ≤ 121) → U.length ≤ 1000 → Kp [d] H G → TK H G → ∀ m, Deck G d f m → G t = none → ∃ zs, upd G t (.tup [.int (a : Int), .str (S b)]) fa = some (.lst zs) ∧ zs.length < sizeLine ∧
          LstAt K (upd (upd G t (.tup [.int (a : Int), .str (S b)])) fa (.lst (zs ++ [.ref t]))) fa ((U ++ [(a, b)]).map partD) ∧ (∀ p ∈ U ++ [(a, b)], p.2.length ≤ 121) ∧ (U ++ [(a, b)]).length = U.length + 1 ∧ Kp [d] H (upd (upd G t (.tup [.int (a : Int), .str (S b)])) fa (.lst (zs ++ [.ref t]))) ∧ TK H (upd (upd G t (.tup [.int (a : Int), .str (S b)])) fa (.lst (zs ++ [.ref t]))) ∧ Deck (upd (upd G t (.tup [.int (a : Int), .str (S b)])) fa (.lst (zs ++ [.ref t]))) d f m := by
        rintro G U a b t ⟨zs, hz, rz⟩ hb hU lU kG tG m DG nt
        have lz := RpL.len _ _ rz
        rw [List.length_map] at lz
        obtain ⟨p1, p2, p3, p4⟩ := push_tup (K := K) (ds := [.int (a : Int), .str (S b)]) hz rz nt (RpL.cons Rp.int (RpL.cons Rp.str RpL.nil))
        refine ⟨zs, p1, Nat.lt_of_le_of_lt (show zs.length ≤ 1000 by omega) (by decide), by rw [List.map_append]; exact p2, ?_, by rw [List.length_append, List.length_singleton], fun c o hc e => p4 c o (fun z => ?_) (kG c o hc e), tG.trans p3, DG.kp p4 (nin1 (Ne.symm nfd)) (nin1 nfaf)⟩
        · intro p hp
          rcases List.mem_append.mp hp with h | h
          · exact hU p h
          · rw [List.mem_singleton] at h
            subst h
            exact hb
        · rw [List.mem_singleton] at z
          rw [z, nfa] at e
          cases e
      dsimp only [gName, List.set]
      refine seq_if (fun σ' H' => ∃ T' : List Part, σ' = [some (.ref d), some (.ref ra), some (.ref fa), some (.int (p.1 : Int)), some (.str (S p.2)), some (.int z), v6] ∧ LstAt K H' fa (T'.map partD) ∧ (∀ p ∈ T', p.2.length ≤ 121) ∧ T'.length ≤ 2 * i + 1 ∧ Kp [d] H H' ∧ TK H H' ∧ Deck H' d f (n + 3 * i + 1)) ?rest (fun rest => ?_)
      case rest =>
        rintro σ' H4 ⟨T', rfl, hfa4, hT4, lT4, kp4, t4, D4⟩
        refine ⟨_, rfl, rfl, _, rfl, ?_⟩
        refine ite2 (fun h2 => ?_) (fun h2 => ?_)
        · refine ⟨_, rfl, _, rfl, _, p.2.length, rfl, ⟨hpz, (S_len p.2).symm⟩, d, f, (p.2.length : Int), n + 3 * i + 1, rfl, by omega, by omega, D4, fun q H5 q0 q1 k5 D5 t5 => ?_⟩
          have hfa5 := hfa4.kp k5 t5 (nin1 nfd)
          obtain ⟨zs, hz, rz⟩ := id hfa5
          refine ⟨_, rfl, .inl ⟨rfl, _, SqL.of hz⟩, _, rfl, _, rfl, _, rfl, _, rfl, _, rfl, hpz, ?_⟩
          obtain ⟨b1, eb1, lb1⟩ := cutS_any p.2 none (some q)
          rw [eb1]
          refine ⟨_, rfl, d, f, n + 3 * i + 2, rfl, D5.mono (by omega), by omega, fun c H6 hc k6 D6 t6 => ?_⟩
          refine ⟨_, _, rfl, rfl, ?_, ?_⟩
          · rw [S_len, S_len]
            exact Nat.le_trans (show b1.length + 1 ≤ 61 by omega) (by decide)
          rw [S_cat]
          refine ⟨_, rfl, _, rfl, _, _, rfl, rfl, _, rfl, _, rfl, hpz, ?_⟩
          obtain ⟨b2, eb2, lb2⟩ := cutS_any p.2 (some (q + 1)) none
          rw [eb2]
          refine ⟨_, _, rfl, rfl, ?_, (by show 2 ≤ sizeLine; decide), fun tt ntt => ?_⟩
          · rw [S_len, S_len, List.length_append, List.length_singleton]
            exact Nat.le_trans (show b1.length + 1 + b2.length ≤ 121 by omega) (by decide)
          rw [S_cat]
          obtain ⟨zs, p1, p2, p3, p4, p5, p6, p7, p8⟩ := add H6 T' p.1 (b1 ++ [c] ++ b2) tt (hfa5.kp k6 t6 (nin1 nfd)) (by rw [List.length_append, List.length_append, List.length_singleton]; omega) hT4 (by omega) ((kp4.trans k5).trans k6) ((t4.trans t5).trans t6) _ D6 ntt
          exact ⟨fa, _, _, rfl, rfl, p1, p2, _, _, _, _, _, rfl, p3, p4, by omega, p6, p7, p8.mono (by omega)⟩
        · refine ⟨_, rfl, rfl, _, rfl, ?_⟩
          refine ite2 (fun h3 => ?_) (fun h3 => ?_)
          · obtain ⟨zs, hz, rz⟩ := id hfa4
            refine ⟨_, rfl, .inl ⟨rfl, _, SqL.of hz⟩, _, rfl, _, rfl, d, f, 2, n + 3 * i + 1, rfl, by decide, by omega, D4, fun q H5 q0 q1 k5 D5 t5 => ?_⟩
            obtain ⟨q', eq'⟩ : ∃ q' : Nat, ((p.1 : Nat) : Int) + q = (q' : Int) := ⟨(((p.1 : Nat) : Int) + q).toNat, by omega⟩
            refine ⟨_, _, rfl, rfl, _, rfl, _, rfl, d, f, n + 3 * i + 2, rfl, D5.mono (by omega), by omega, fun c H6 hc k6 D6 t6 => ?_⟩
            refine ⟨_, _, rfl, rfl, ?_, (by show 2 ≤ sizeLine; decide), fun tt ntt => ?_⟩
            · rw [S_len, S_len]
              exact Nat.le_trans (show p.2.length + 1 ≤ 61 by omega) (by decide)
            rw [S_cat, show (fun i j => V.int (i + j)) ((p.1 : Nat) : Int) q = V.int (q' : Int) from congrArg V.int eq']
            obtain ⟨zs, p1, p2, p3, p4, p5, p6, p7, p8⟩ := add H6 T' q' (p.2 ++ [c]) tt ((hfa4.kp k5 t5 (nin1 nfd)).kp k6 t6 (nin1 nfd)) (by rw [List.length_append, List.length_singleton]; omega) hT4 (by omega) ((kp4.trans k5).trans k6) ((t4.trans t5).trans t6) _ D6 ntt
            exact ⟨fa, _, _, rfl, rfl, p1, p2, _, _, _, _, _, rfl, p3, p4, by omega, p6, p7, p8.mono (by omega)⟩
          · refine ⟨_, rfl, rfl, _, rfl, ?_⟩
            refine ite2 (fun h4 => ?_) (fun h4 => ?_)
            · obtain ⟨zs, hz, rz⟩ := id hfa4
              refine ⟨_, rfl, .inl ⟨rfl, _, SqL.of hz⟩, _, rfl, _, rfl, (by show 2 ≤ sizeLine; decide), fun tt ntt => ?_⟩
              obtain ⟨zs, p1, p2, p3, p4, p5, p6, p7, p8⟩ := add H4 T' p.1 p.2 tt hfa4 (by omega) hT4 (by omega) kp4 t4 _ D4 ntt
              exact ⟨fa, _, _, rfl, rfl, p1, p2, _, _, _, _, _, rfl, p3, p4, by omega, p6, p7, p8.mono (by omega)⟩
            · exact ⟨T', _, _, _, _, rfl, hfa4, hT4, by omega, kp4, t4, D4.mono (by omega)⟩
      refine ⟨_, rfl, rfl, _, rfl, ?_⟩
      refine ite2 (fun h1 => ?_) (fun h1 => ?_)
      · obtain ⟨zs, hz, rz⟩ := id hfa3
        refine ⟨_, rfl, .inl ⟨rfl, _, SqL.of hz⟩, _, rfl, _, rfl, (by show 2 ≤ sizeLine; decide), fun tt ntt => ?_⟩
        obtain ⟨zs, p1, p2, p3, p4, p5, p6, p7, p8⟩ := add H3 T p.1 p.2 tt hfa3 (by omega) hT (by omega) (kp2.trans k3) (t2.trans t3) _ D3 ntt
        exact ⟨fa, _, _, rfl, rfl, p1, p2, rest _ _ ⟨_, rfl, p3, p4, by omega, p6, p7, p8⟩⟩
      · exact rest _ _ ⟨T, rfl, hfa3, hT, by omega, kp2.trans k3, t2.trans t3, D3⟩
    · rintro σ H2 ⟨T, v3, v4, v5, v6, rfl, hfa2, hT, lT, kp2, t2, D2⟩
      rw [lxs] at lT D2
      exact ⟨_, rfl, k _ fa T nfa kp2 D2 hfa2 hT lT⟩
end
end Wn

namespace Wn
open PySem L2
open SX (S S_len S_cat S_beq_eq join_S)
abbrev sLaw : Stmt := top 19

theorem at3i {a b c : Int} {r : Int} (h0 : 0 ≤ r) (h1 : r < 3) : ∃ v : Int, atI [V.int a, .int b, .int c] r = some (.int v) ∧ (v = a ∨ v = b ∨ v = c) := by
  have h : r = 0 ∨ r = 1 ∨ r = 2 := by omega
  rcases h with rfl | rfl | rfl
  · exact ⟨a, rfl, .inl rfl⟩
  · exact ⟨b, rfl, .inr (.inl rfl)⟩
  · exact ⟨c, rfl, .inr (.inr rfl)⟩
theorem evs_len {c : Nat} : ∀ (ps : List Part), (∀ p ∈ ps, p.2.length ≤ c) → (evs ps).length ≤ c * ps.length
  | [], _ => Nat.zero_le _
  | p :: ps, h => by
    have ih := evs_len ps fun q hq => h q (List.mem_cons_of_mem _ hq)
    have h1 := h p List.mem_cons_self
    have e : evs (p :: ps) = evP p ++ evs ps := by
      unfold evs
      rw [List.flatMap_cons]
    have e2 : (evP p).length = p.2.length := by
      unfold evP evT
      rw [List.take_length, List.length_map, List.length_zipIdx]
    rw [e, List.length_append, e2, List.length_cons, Nat.mul_succ]
    omega
theorem res_small {W : Nat} {es : List Ev} {d : PyData} (h : Res W es d) : dep d < 3 ∧ sz d ≤ 1000000 := by
  cases h with
  | torn => exact ⟨by simp [dep], by simp [sz]⟩
  | lack => exact ⟨by simp [dep], by simp [sz]⟩
  | all => exact ⟨by simp [dep], by simp [sz]⟩
section
variable {P : Program} {w : World} {K : PySem.W.Frag} {mg : Str → Option Value} {base : Heap}
theorem scLaw : FnScope ["_law_script", "_law_deck_here", "_law_turn", "_law_text_here", "_law_parts", "_law_k", "_law_bent_here", "_law_whole"] ["_law_script"] (defScope sLaw) := ⟨rfl, rfl, rfl, by decide +kernel, rfl, by decide +kernel, by decide +kernel⟩
theorem ok_law {f C : Addr} {fd : FuncData} (F : Fun K "law" "law" sLaw f fd) (B : TB mg)
    (cN : Cd P w K mg base 2 "_law_next" ["_law_deck_here", "_law_many"] spNext) (cD : Cd P w K mg base 2 "_law_deck" ["_law_script"] (spDeck K)) (cX : Cd P w K mg base 4 "_law_text" ["_law_deck_here", "_law_most"] spText)
    (cC : Cd P w K mg base 3 "_law_pieces" ["_law_deck_here", "_law_text_here", "_law_first"] (spPieces K)) (cT : Cd P w K mg base 3 "_law_turned" ["_law_deck_here", "_law_rows"] (spTurned K)) (cB : Cd P w K mg base 4 "_law_bent" ["_law_deck_here", "_law_parts"] (spBent K))
    (cU : Cd P w K mg base 1 "_law_due" ["_law_whole", "_law_parts"] (spRes K)) (cF : Cd P w K mg base 4 "_law_found" ["_law_whole", "_law_parts"] (spRes K))
    (cS : Cd P w K mg base 3 "_law_same" ["_law_thing", "_law_due_here"] (spSame K 3))
    {fP : Addr} {fdP : FuncData} (GP : FnOk P w K mg base (L2.CX P w) 3 fP fdP ["whole", "parts"] (spPut K C)) (mP : mg "put_together" = some (.ref fP)) (kP : PySem.W.keepIn K (.ref fP) = true) (bP : Binds K fdP ["whole", "parts"] []) :
    FnOk P w K mg base CX0 5 f fd ["_law_script"] (spLaw K) := by
  obtain ⟨fN, fdN, GN, mN, kN, bN⟩ := cN.tk
  obtain ⟨fD, fdD, GD, mD, kD, bD⟩ := cD
  obtain ⟨fX, fdX, GX, mX, kX, bX⟩ := cX.tk
  obtain ⟨fC, fdC, GC, mC, kC, bC⟩ := cC
  obtain ⟨fT, fdT, GT, mT, kT, bT⟩ := cT.tk
  obtain ⟨fB, fdB, GB, mB, kB, bB⟩ := cB.tk
  obtain ⟨fU, fdU, GU, mU, kU, bU⟩ := cU
  obtain ⟨fF, fdF, GF, mF, kF, bF⟩ := cF
  obtain ⟨fS, fdS, GS, mS, kS, bS⟩ := cS
  refine F.ok scLaw (fun vs H Q E h => ?_) (fun cdv A outer s H vs Q E hr h => ?_)
  · obtain ⟨a, ns, rfl, _⟩ := h
    rfl
  · obtain ⟨a, ns, rfl, hS, hlen, k⟩ := h
    have hr1 : Room 1 _ := hr.mono (by decide)
    have hr2 : Room 2 _ := hr.mono (by decide)
    have hr3 : Room 3 _ := hr.mono (by decide)
    have hr4 : Room 4 _ := hr
    refine ⟨_, (pss_cons (ps_set (i := 1) scLaw.nd rfl (Or.inl rfl) (pe_call GD hr2 rfl mD kD bD .nil pass0 (pa_cons (pv 0) pa_nil)))
       (pss_cons (ps_for PassesOwn.never rfl (pi_range1 rfl B.range (pa_cons pe_int pa_nil)) (pg_name (i := 2) scLaw.nd rfl (Or.inl rfl))
       (pss_cons (ps_set (i := 3) scLaw.nd rfl (Or.inl rfl) (pe_call GX hr4 rfl mX kX bX .nil pass0 (pa_cons (pv 1) (pa_cons (pe_ix (ixL (K := K) rfl) (pe_lst (pa_cons pe_int (pa_cons pe_int (pa_cons pe_int pa_nil)))) (pe_call GN hr2 rfl mN kN bN .nil pass0 (pa_cons (pv 1) (pa_cons pe_int pa_nil))) (fun _ _ => rfl)) pa_nil))))
       (pss_cons (ps_set (i := 4) scLaw.nd rfl (Or.inl rfl) (pe_call GT hr3 rfl mT kT bT .nil pass0 (pa_cons (pv 1) (pa_cons (pe_op op_cat (pe_call GC hr3 rfl mC kC bC .nil pass0 (pa_cons (pv 1) (pa_cons (pv 3) (pa_cons pe_int pa_nil)))) (pe_call GC hr3 rfl mC kC bC .nil pass0 (pa_cons (pv 1) (pa_cons (pv 3) (pa_cons pe_int pa_nil))))) pa_nil))))
       (pss_cons (ps_if (pt_cmpR op_ne (pe_call GP hr3 rfl mP kP bP .nil passF (pa_cons (pe_callB (lenK (K := K) rfl) (by rfl) B.len PySem.boot_len (pa_cons (pv 3) pa_nil)) (pa_cons (pe_callTy (tupOfK (K := K) rfl) (by rfl) B.tuple PyProof.Rows.boot_tuple (pa_cons (pv 4) pa_nil)) pa_nil))) (pv 3) (nomark _))
       (pss_one (ps_ret pe_bl))
       pss_nil)
       (pss_one (ps_for PassesOwn.never rfl (pi_range1 rfl B.range (pa_cons pe_int pa_nil)) (pg_name (i := 5) scLaw.nd rfl (Or.inl rfl))
       (pss_cons (ps_set (i := 6) scLaw.nd rfl (Or.inl rfl) (pe_callTy (tupOfK (K := K) rfl) (by rfl) B.tuple PyProof.Rows.boot_tuple (pa_cons (pe_call GB hr4 rfl mB kB bB .nil pass0 (pa_cons (pv 1) (pa_cons (pe_slice (slL (K := K) rfl) (pv 4) po_none (po_some (pe_op op_sub (pe_callB (lenK (K := K) rfl) (by rfl) B.len PySem.boot_len (pa_cons (pv 4) pa_nil)) (pv 5)))) pa_nil))) pa_nil)))
       (pss_cons (ps_set (i := 7) scLaw.nd rfl (Or.inl rfl) (pe_callB (call_max2 rfl) (by rfl) B.max (by decide +kernel) (pa_cons pe_int (pa_cons (pe_op op_add (pe_op op_sub (pe_callB (lenK (K := K) rfl) (by rfl) B.len PySem.boot_len (pa_cons (pv 3) pa_nil)) (pe_call GN hr2 rfl mN kN bN .nil pass0 (pa_cons (pv 1) (pa_cons pe_int pa_nil)))) pe_int) pa_nil))))
       (pss_one (ps_if (pt_not (pt_val (pe_call GS hr3 rfl mS kS bS .nil pass0 (pa_cons (pe_call GF hr4 rfl mF kF bF .nil pass0 (pa_cons (pv 7) (pa_cons (pv 6) pa_nil))) (pa_cons (pe_call GU hr1 rfl mU kU bU .nil pass0 (pa_cons (pv 7) (pa_cons (pv 6) pa_nil))) pa_nil)))))
       (pss_one (ps_ret pe_bl))
       pss_nil))))))))))
       (pss_one (ps_ret pe_bl)))), ?_⟩
    refine ⟨_, rfl, a, ns, rfl, hS, hlen, fun H1 d f nd nf s1 D1 => ?_⟩
    refine ⟨10, rfl, by decide, by decide, ?_⟩
    refine for_range (lo := 0) (fun i σ H' => ∃ v2 v3 v4 v5 v6 v7, σ = [some (.ref a), some (.ref d), v2, v3, v4, v5, v6, v7] ∧ Deck H' d f (3000 * i)) ⟨_, _, _, _, _, _, rfl, D1.mono (by omega)⟩ ?_ ?_
    · rintro i σ H2 hi ⟨v2, v3, v4, v5, v6, v7, rfl, D2⟩
      have hi : i < 10 := hi
      refine ⟨_, rfl, (by show 3 ≤ sizeLine; decide), fun l nl => ?_⟩
      have s3 : Same H2 (upd H2 l (.lst [.int 0, .int 12, .int 60])) := (L2.Same.refl _).new nl
      have hl3 : upd H2 l (.lst [.int 0, .int 12, .int 60]) l = some (.lst [.int 0, .int 12, .int 60]) := upd_same
      have nld : l ≠ d := (ne_of_none D2.lst.choose_spec nl).symm
      generalize upd H2 l (.lst [.int 0, .int 12, .int 60]) = H3 at s3 hl3
      refine ⟨_, rfl, d, f, 3, 3000 * i, rfl, by decide, by omega, D2.same s3, fun r H4 r0 r1 k4 D4 t4 => ?_⟩
      obtain ⟨most, hmost, hm3⟩ := at3i (a := 0) (b := 12) (c := 60) r0 r1
      refine ⟨l, _, _, _, rfl, rfl, SqL.of (k4 _ _ (nin1 nld) hl3), hmost, ?_⟩
      refine ⟨d, f, 3000 * i + 1, most, rfl, D4, by omega, by omega, by omega, fun cs H5 lcs ocs k5 D5 t5 => ?_⟩
      have lcs : cs.length ≤ 60 := by omega
      have hcs : (S cs).length ≤ sizeLine := by rw [S_len]; exact Nat.le_trans lcs (by decide)
      have D5 := D5.mono (m := 3000 * i + 100) (by omega)
      dsimp only [gName, List.set]
      refine ⟨_, rfl, _, rfl, _, rfl, d, f, 3000 * i + 100, cs, rfl, D5, by omega, lcs, fun H6 pa1 ps1 n1 k6 t6 D6 l6 g6 c6 b6 => ?_⟩
      refine ⟨_, rfl, _, rfl, d, f, 3000 * i + 220, cs, rfl, D6.mono (by omega), by omega, lcs, fun H7 pa2 ps2 n2 k7 t7 D7 l7 g7 c7 b7 => ?_⟩
      have n12 : pa1 ≠ d := (ne_of_none D5.lst.choose_spec n1).symm
      have n22 : pa2 ≠ d := (ne_of_none D6.lst.choose_spec n2).symm
      obtain ⟨xs1, hx1, rx1⟩ := l6.kp k7 t7 (nin1 n12)
      obtain ⟨xs2, hx2, rx2⟩ := l7
      have lx1 := RpL.len _ _ rx1
      have lx2 := RpL.len _ _ rx2
      rw [List.length_map] at lx1 lx2
      refine ⟨pa1, pa2, xs1, xs2, rfl, rfl, hx1, hx2, Nat.le_trans (show xs1.length + xs2.length ≤ 120 by omega) (by decide), fun pa n8 => ?_⟩
      have s8 : Same H7 (upd H7 pa (.lst (xs1 ++ xs2))) := (L2.Same.refl _).new n8
      have h8 : LstAt K (upd H7 pa (.lst (xs1 ++ xs2))) pa ((ps1 ++ ps2).map partD) := ⟨_, upd_same, by
        rw [List.map_append]
        exact RpL.tk (TK.of s8) _ _ (RpL.app rx1 rx2)⟩
      have n8d : pa ≠ d := (ne_of_none D7.lst.choose_spec n8).symm
      generalize upd H7 pa (.lst (xs1 ++ xs2)) = H8 at s8 h8
      have lps : (ps1 ++ ps2).length ≤ 120 := by rw [List.length_append]; omega
      refine ⟨d, f, pa, 3000 * i + 340, ps1 ++ ps2, rfl, (D7.same s8).mono (by omega), by omega, h8, n8d, by omega, fun H9 ta T n9 k9 D9 h9 mT lT t9 => ?_⟩
      have D9 := D9.mono (m := 3000 * i + 460) (by omega)
      have n9d : ta ≠ d := (ne_of_none (D7.same s8).lst.choose_spec n9).symm
      have gT : ∀ p ∈ T, SubPart cs p ∧ 1 ≤ p.2.length ∧ p.2.length ≤ 60 := fun p hp => by
        rcases List.mem_append.mp ((mT p).mp hp) with h | h
        · exact g6 p h
        · exact g7 p h
      have cT : ∀ j : Nat, j < cs.length → ∃ p ∈ T, p.1 ≤ j ∧ j < p.1 + p.2.length := fun j hj => by
        obtain ⟨p, hp, h⟩ := c6 j hj
        exact ⟨p, (mT p).mpr (List.mem_append_left _ hp), h⟩
      have eT := evs_len (c := 60) T fun p hp => (gT p hp).2.2
      obtain ⟨ts, ht9, rt9⟩ := id h9
      refine ⟨_, rfl, _, cs.length, rfl, ⟨hcs, (S_len cs).symm⟩, _, rfl, ta, ts, rfl, .inl ⟨SqL.of ht9, fun tp ntp => ?_⟩⟩
      have s10 : Same H9 (upd H9 tp (.tup ts)) := (L2.Same.refl _).new ntp
      have r10 : Rp K (upd H9 tp (.tup ts)) (.tuple (T.map partD)) (.ref tp) := Rp.tup upd_same (RpL.tk (TK.of s10) _ _ rt9)
      generalize upd H9 tp (.tup ts) = H10 at s10 r10
      refine ⟨cs.length, _, T, rfl, r10, by omega, by omega, fun dd H11 vv s11 _ rr rv => ?_, fun p _ _ _ tp _ _ => (sub_untorn (fun p hp => (gT p hp).1) p tp).elim⟩
      have ed := res_eq rr (sub_res (fun p hp => (gT p hp).1) cT)
      subst ed
      unfold Rp at rv
      subst rv
      refine ⟨_, rfl, rfl, _, rfl, ?_⟩
      refine iteNS rfl ?_
      have D11 := D9.same (s10.trans s11)
      have h11 := h9.same (s10.trans s11)
      refine ⟨3, rfl, by decide, by decide, ?_⟩
      refine for_range (lo := 0) (fun j σ H' => ∃ v5 v6 v7, σ = [some (.ref a), some (.ref d), some (.int (0 + (i : Int))), some (.str (S cs)), some (.ref ta), v5, v6, v7] ∧ LstAt K H' ta (T.map partD) ∧ Deck H' d f (3000 * i + 460 + 400 * j)) ⟨_, _, _, rfl, h11, D11.mono (by omega)⟩ ?_ ?_
      · rintro j σ H12 hj ⟨w5, w6, w7, rfl, h12, D12⟩
        have hj : j < 3 := hj
        obtain ⟨ys, hy, ry⟩ := id h12
        have ly := RpL.len _ _ ry
        rw [List.length_map] at ly
        refine ⟨_, rfl, _, rfl, _, rfl, _, ys.length, rfl, .inl ⟨_, SqL.of hy, rfl⟩, _, rfl, _, _, rfl, rfl, _, rfl, ta, ys, rfl, SqL.of hy, fun la nla => ?_⟩
        generalize hcut : cutV ys none (some ((ys.length : Int) - (0 + (j : Int)))) = cv
        obtain ⟨L', eL, mL, lL⟩ : ∃ L' : List Part, RpL K H12 (L'.map partD) cv ∧ (∀ p ∈ L', p ∈ T) ∧ L'.length ≤ T.length := by
          refine ⟨(T.drop (HT.sIx ys.length 0 none)).take (HT.sIx ys.length ys.length (some ((ys.length : Int) - (0 + (j : Int)))) - HT.sIx ys.length 0 none), ?_, fun p hp => List.mem_of_mem_drop (List.mem_of_mem_take hp), ?_⟩
          · rw [List.map_take, List.map_drop, ← hcut]
            exact RpL.take _ (RpL.drop _ ry)
          · rw [List.length_take, List.length_drop]
            omega
        have s13 : Same H12 (upd H12 la (.lst cv)) := (L2.Same.refl _).new nla
        have h13 : LstAt K (upd H12 la (.lst cv)) la (L'.map partD) := ⟨_, upd_same, RpL.tk (TK.of s13) _ _ eL⟩
        have nlad : la ≠ d := (ne_of_none D12.lst.choose_spec nla).symm
        generalize upd H12 la (.lst cv) = H13 at s13 h13
        refine ⟨d, f, la, 3000 * i + 460 + 400 * j, L', rfl, D12.same s13, by omega, h13, nlad, by omega, fun p hp => (gT p (mL p hp)).2, fun H14 ba U n14 k14 D14 h14 gU lU t14 => ?_⟩
        obtain ⟨us, hu14, ru14⟩ := id h14
        have eU := evs_len (c := 121) U gU
        refine ⟨ba, us, rfl, .inl ⟨SqL.of hu14, fun bt nbt => ?_⟩⟩
        have s15 : Same H14 (upd H14 bt (.tup us)) := (L2.Same.refl _).new nbt
        have r15 : Rp K (upd H14 bt (.tup us)) (.tuple (U.map partD)) (.ref bt) := Rp.tup upd_same (RpL.tk (TK.of s15) _ _ ru14)
        generalize upd H14 bt (.tup us) = H15 at s15 r15
        have D15 := (D14.same s15).mono (m := 3000 * i + 460 + 400 * j + 360) (by omega)
        have h15 := ((h12.same s13).kp k14 t14 (nin1 n9d)).same s15
        refine ⟨_, rfl, _, cs.length, rfl, ⟨hcs, (S_len cs).symm⟩, _, rfl, d, f, 3, 3000 * i + 460 + 400 * j + 360, rfl, by decide, by omega, D15, fun z H16 z0 z1 k16 D16 t16 => ?_⟩
        refine ⟨_, _, rfl, rfl, _, _, rfl, rfl, _, _, rfl, ?_⟩
        obtain ⟨W, eW, hW⟩ : ∃ W : Nat, (if (cs.length : Int) - z + 1 > 0 then (cs.length : Int) - z + 1 else 0) = (W : Int) ∧ W ≤ 61 := by
          split
          · exact ⟨((cs.length : Int) - z + 1).toNat, by omega, by omega⟩
          · exact ⟨0, rfl, by omega⟩
        rw [eW]
        have r16 := Rp.tk t16 _ _ r15
        refine ⟨_, rfl, _, rfl, W, _, U, rfl, r16, by omega, by omega, fun d1 H17 x1 s17 res1 rv1 => ?_⟩
        refine ⟨_, rfl, _, rfl, W, _, U, rfl, Rp.tk (TK.of s17) _ _ r16, by omega, by omega, fun d2 H18 x2 s18 res2 rv2 => ?_⟩
        have e12 := res_eq res1 res2
        subst e12
        obtain ⟨hd1, hd2⟩ := res_small res1
        refine ⟨x1, x2, d1, rfl, Rp.tk (TK.of s18) _ _ rv1, rv2, hd1, hd2, fun H19 s19 => ?_⟩
        refine ⟨_, rfl, ?_⟩
        refine iteF ?_
        have s16 := (s17.trans s18).trans s19
        exact ⟨_, _, _, rfl, ((h15.kp k16 t16 (nin1 n9d)).same s16), (D16.same s16).mono (by omega)⟩
      · rintro σ H12 ⟨w5, w6, w7, rfl, h12, D12⟩
        exact ⟨_, _, _, _, _, _, rfl, D12.mono (by show _ ≤ (_ : Int); simp; omega)⟩
    · rintro σ H2 ⟨v2, v3, v4, v5, v6, v7, rfl, D2⟩
      exact k H2
end
end Wn

namespace Wn
open PySem L2
theorem all_mk {l : PySem.W.OpenLaw} {w : World} {K : PySem.W.Frag} {h : Heap} {mg : Str → Option Value} {fa C_NetError C_NoHead C_Broken C_Torn f_Torn_init f_put_together f_law_mixed f_law_deck f_law_next f_law_same f_law_sign f_law_text f_law_pieces f_law_turned f_law_due f_law_found f_law_bent f_law : Addr} (X : K.In h) (G : h.Ns mainGlobals mg) (hfa : mg "law" = some (.ref fa))
    {od_Torn_init an_Torn_init od_put_together an_put_together od_law_mixed an_law_mixed od_law_deck an_law_deck od_law_next an_law_next od_law_same an_law_same od_law_sign an_law_sign od_law_text an_law_text od_law_pieces an_law_pieces od_law_turned an_law_turned od_law_due an_law_due od_law_found an_law_found od_law_bent an_law_bent od_law an_law : Option Addr} {sl_Torn_init sl_put_together sl_law_mixed sl_law_deck sl_law_next sl_law_same sl_law_sign sl_law_text sl_law_pieces sl_law_turned sl_law_due sl_law_found sl_law_bent sl_law : Array (Option Value)} {oc_Torn_init kV_Torn_init dc_Torn_init pm_Torn_init cd_Torn_init ct_Torn_init oc_put_together kV_put_together dc_put_together pm_put_together cd_put_together ct_put_together oc_law_mixed kV_law_mixed dc_law_mixed pm_law_mixed cd_law_mixed ct_law_mixed oc_law_deck kV_law_deck dc_law_deck pm_law_deck cd_law_deck ct_law_deck oc_law_next kV_law_next dc_law_next pm_law_next cd_law_next ct_law_next oc_law_same kV_law_same dc_law_same pm_law_same cd_law_same ct_law_same oc_law_sign kV_law_sign dc_law_sign pm_law_sign cd_law_sign ct_law_sign oc_law_text kV_law_text dc_law_text pm_law_text cd_law_text ct_law_text oc_law_pieces kV_law_pieces dc_law_pieces pm_law_pieces cd_law_pieces ct_law_pieces oc_law_turned kV_law_turned dc_law_turned pm_law_turned cd_law_turned ct_law_turned oc_law_due kV_law_due dc_law_due pm_law_due cd_law_due ct_law_due oc_law_found kV_law_found dc_law_found pm_law_found cd_law_found ct_law_found oc_law_bent kV_law_bent dc_law_bent pm_law_bent cd_law_bent ct_law_bent oc_law kV_law dc_law pm_law cd_law ct_law : Value}
    {nm_C_Torn q_C_Torn : Str} {N_C_Torn : Addr} {bs_C_Torn : List Value} {sn_C_Torn : List Str} {sub_C_Torn : List Value} {ab_C_Torn : Bool} {col_C_Torn : Option Bool} {dd_C_Torn : Option Addr} {m0_C_Torn m1_C_Torn m2_C_Torn m3_C_Torn m5_C_Torn : Option Value}
    (a_C_NetError : PySem.W.nsIn K mainGlobals "NetError" = some (some (.ref C_NetError)))
    (sp_C_NetError : PySem.W.specialIn K (.ref C_NetError) "__getattribute__" = some (some (.builtin "type.__getattribute__")))
    (rd_C_NetError : PySem.W.readsIn K C_NetError (.type "type") = true)
    (v_C_NetError : PySem.W.findCls K (.ref C_NetError) (.type "type") "__init__" = some (.val (.builtin "ValueError.__init__")))
    (ex_C_NetError : PySem.W.subIn K (.ref C_NetError) (.type "BaseException") = some true)
    (hd_C_NetError : PySem.W.hasDictIn K C_NetError = true)
    (ty_C_NetError : PySem.W.typeIn K (.ref C_NetError) = some (.type "type"))
    (a_C_NoHead : PySem.W.nsIn K mainGlobals "NoHead" = some (some (.ref C_NoHead)))
    (a_C_Broken : PySem.W.nsIn K mainGlobals "Broken" = some (some (.ref C_Broken)))
    (a_C_Torn : PySem.W.nsIn K mainGlobals "Torn" = some (some (.ref C_Torn)))
    (ex_C_Torn : PySem.W.subIn K (.ref C_Torn) (.type "BaseException") = some true)
    (ty_C_Torn : PySem.W.typeIn K (.ref C_Torn) = some (.type "type"))
    (no_C_Torn_at : PySem.W.findIn K (.ref C_Torn) "at" = some none)
    (xL_C_Torn : K.lookup C_Torn = some (excClassObj nm_C_Torn q_C_Torn C_Torn N_C_Torn bs_C_Torn [.ref C_NetError, .type "ValueError", .type "Exception", .type "BaseException", .type "object"] true sn_C_Torn sub_C_Torn ab_C_Torn col_C_Torn dd_C_Torn m0_C_Torn m1_C_Torn m2_C_Torn m3_C_Torn m5_C_Torn "ValueError.__new__"))
    (sa_C_Torn : PySem.W.findIn K (.ref C_Torn) "__setattr__" = some (some (.builtin "object.__setattr__")))
    (kc_C_Torn : PySem.W.keepIn K (.ref C_Torn) = true)
    (a_Torn_init : PySem.W.findIn K (.ref C_Torn) "__init__" = some (some (.ref f_Torn_init)))
    (i_Torn_init : PySem.W.isFn K (.ref f_Torn_init) = true)
    (l_Torn_init : K.lookup f_Torn_init = some ⟨oc_Torn_init, od_Torn_init, .func (PySem.W.fnOf "__init__" "Torn.__init__" (defArgs sE_Torn) (defBody sE_Torn) (defScope sE_Torn) .none kV_Torn_init dc_Torn_init pm_Torn_init an_Torn_init cd_Torn_init ct_Torn_init), sl_Torn_init⟩)
    (c_Torn_init : PySem.W.codeIn K cd_Torn_init "Torn.__init__" = true)
    (k_Torn_init : PySem.W.keepIn K (.ref f_Torn_init) = true)
    (tf_C_Torn : PySem.W.typeIn K (.ref f_Torn_init) = some (.type "function"))
    (ga_C_Torn : PySem.W.findIn K (.ref C_Torn) "__getattribute__" = some (some (.builtin "BaseException.__getattribute__")))
    (gg_C_Torn : PySem.W.findIn K (.ref C_Torn) "__getattr__" = some none)
    (hd_C_Torn : PySem.W.hasDictIn K C_Torn = true)
    (hc_C_Torn : PySem.W.findIn K (.ref C_Torn) "__class__" = some (some (.builtin "object.__class__")))
    (mo_C_Torn : PySem.W.mroIn K C_Torn (.type "object") = some true)
    (sn_C_Torn_b : PySem.W.subIn K (.ref C_Torn) (.ref C_NetError) = some true)
    (cg_all : PySem.W.specialIn K (.builtin "object.__class__") "__get__" = some (some (.builtin "getset_descriptor.__get__")))
    (tk_all : PySem.W.takesIn K (.builtin "object.__class__") = some true)
    (kit_1 : PySem.W.kitOne K (.ref C_Torn) (.ref C_Torn) = some true)
    (kit_2 : PySem.W.kitOne K (.ref C_Torn) (.type "ValueError") = some true)
    (kit_3 : PySem.W.kitAny K (.ref C_Torn) [.ref C_NoHead, .ref C_Broken] = some false)
    (a_put_together : PySem.W.nsIn K mainGlobals "put_together" = some (some (.ref f_put_together)))
    (l_put_together : K.lookup f_put_together = some ⟨oc_put_together, od_put_together, .func (PySem.W.fnOf "put_together" "put_together" (defArgs sPut) (defBody sPut) (defScope sPut) .none kV_put_together dc_put_together pm_put_together an_put_together cd_put_together ct_put_together), sl_put_together⟩)
    (c_put_together : PySem.W.codeIn K cd_put_together "put_together" = true)
    (k_put_together : PySem.W.keepIn K (.ref f_put_together) = true)
    (a_law_mixed : PySem.W.nsIn K mainGlobals "_law_mixed" = some (some (.ref f_law_mixed)))
    (l_law_mixed : K.lookup f_law_mixed = some ⟨oc_law_mixed, od_law_mixed, .func (PySem.W.fnOf "_law_mixed" "_law_mixed" (defArgs sMixed) (defBody sMixed) (defScope sMixed) .none kV_law_mixed dc_law_mixed pm_law_mixed an_law_mixed cd_law_mixed ct_law_mixed), sl_law_mixed⟩)
    (c_law_mixed : PySem.W.codeIn K cd_law_mixed "_law_mixed" = true)
    (k_law_mixed : PySem.W.keepIn K (.ref f_law_mixed) = true)
    (a_law_deck : PySem.W.nsIn K mainGlobals "_law_deck" = some (some (.ref f_law_deck)))
    (l_law_deck : K.lookup f_law_deck = some ⟨oc_law_deck, od_law_deck, .func (PySem.W.fnOf "_law_deck" "_law_deck" (defArgs sDeck) (defBody sDeck) (defScope sDeck) .none kV_law_deck dc_law_deck pm_law_deck an_law_deck cd_law_deck ct_law_deck), sl_law_deck⟩)
    (c_law_deck : PySem.W.codeIn K cd_law_deck "_law_deck" = true)
    (k_law_deck : PySem.W.keepIn K (.ref f_law_deck) = true)
    (a_law_next : PySem.W.nsIn K mainGlobals "_law_next" = some (some (.ref f_law_next)))
    (l_law_next : K.lookup f_law_next = some ⟨oc_law_next, od_law_next, .func (PySem.W.fnOf "_law_next" "_law_next" (defArgs sNext) (defBody sNext) (defScope sNext) .none kV_law_next dc_law_next pm_law_next an_law_next cd_law_next ct_law_next), sl_law_next⟩)
    (c_law_next : PySem.W.codeIn K cd_law_next "_law_next" = true)
    (k_law_next : PySem.W.keepIn K (.ref f_law_next) = true)
    (a_law_same : PySem.W.nsIn K mainGlobals "_law_same" = some (some (.ref f_law_same)))
    (l_law_same : K.lookup f_law_same = some ⟨oc_law_same, od_law_same, .func (PySem.W.fnOf "_law_same" "_law_same" (defArgs sSame) (defBody sSame) (defScope sSame) .none kV_law_same dc_law_same pm_law_same an_law_same cd_law_same ct_law_same), sl_law_same⟩)
    (c_law_same : PySem.W.codeIn K cd_law_same "_law_same" = true)
    (k_law_same : PySem.W.keepIn K (.ref f_law_same) = true)
    (a_law_sign : PySem.W.nsIn K mainGlobals "_law_sign" = some (some (.ref f_law_sign)))
    (l_law_sign : K.lookup f_law_sign = some ⟨oc_law_sign, od_law_sign, .func (PySem.W.fnOf "_law_sign" "_law_sign" (defArgs sSign) (defBody sSign) (defScope sSign) .none kV_law_sign dc_law_sign pm_law_sign an_law_sign cd_law_sign ct_law_sign), sl_law_sign⟩)
    (c_law_sign : PySem.W.codeIn K cd_law_sign "_law_sign" = true)
    (k_law_sign : PySem.W.keepIn K (.ref f_law_sign) = true)
    (a_law_text : PySem.W.nsIn K mainGlobals "_law_text" = some (some (.ref f_law_text)))
    (l_law_text : K.lookup f_law_text = some ⟨oc_law_text, od_law_text, .func (PySem.W.fnOf "_law_text" "_law_text" (defArgs sText) (defBody sText) (defScope sText) .none kV_law_text dc_law_text pm_law_text an_law_text cd_law_text ct_law_text), sl_law_text⟩)
    (c_law_text : PySem.W.codeIn K cd_law_text "_law_text" = true)
    (k_law_text : PySem.W.keepIn K (.ref f_law_text) = true)
    (a_law_pieces : PySem.W.nsIn K mainGlobals "_law_pieces" = some (some (.ref f_law_pieces)))
    (l_law_pieces : K.lookup f_law_pieces = some ⟨oc_law_pieces, od_law_pieces, .func (PySem.W.fnOf "_law_pieces" "_law_pieces" (defArgs sPieces) (defBody sPieces) (defScope sPieces) .none kV_law_pieces dc_law_pieces pm_law_pieces an_law_pieces cd_law_pieces ct_law_pieces), sl_law_pieces⟩)
    (c_law_pieces : PySem.W.codeIn K cd_law_pieces "_law_pieces" = true)
    (k_law_pieces : PySem.W.keepIn K (.ref f_law_pieces) = true)
    (a_law_turned : PySem.W.nsIn K mainGlobals "_law_turned" = some (some (.ref f_law_turned)))
    (l_law_turned : K.lookup f_law_turned = some ⟨oc_law_turned, od_law_turned, .func (PySem.W.fnOf "_law_turned" "_law_turned" (defArgs sTurned) (defBody sTurned) (defScope sTurned) .none kV_law_turned dc_law_turned pm_law_turned an_law_turned cd_law_turned ct_law_turned), sl_law_turned⟩)
    (c_law_turned : PySem.W.codeIn K cd_law_turned "_law_turned" = true)
    (k_law_turned : PySem.W.keepIn K (.ref f_law_turned) = true)
    (a_law_due : PySem.W.nsIn K mainGlobals "_law_due" = some (some (.ref f_law_due)))
    (l_law_due : K.lookup f_law_due = some ⟨oc_law_due, od_law_due, .func (PySem.W.fnOf "_law_due" "_law_due" (defArgs sDue) (defBody sDue) (defScope sDue) .none kV_law_due dc_law_due pm_law_due an_law_due cd_law_due ct_law_due), sl_law_due⟩)
    (c_law_due : PySem.W.codeIn K cd_law_due "_law_due" = true)
    (k_law_due : PySem.W.keepIn K (.ref f_law_due) = true)
    (a_law_found : PySem.W.nsIn K mainGlobals "_law_found" = some (some (.ref f_law_found)))
    (l_law_found : K.lookup f_law_found = some ⟨oc_law_found, od_law_found, .func (PySem.W.fnOf "_law_found" "_law_found" (defArgs sFound) (defBody sFound) (defScope sFound) .none kV_law_found dc_law_found pm_law_found an_law_found cd_law_found ct_law_found), sl_law_found⟩)
    (c_law_found : PySem.W.codeIn K cd_law_found "_law_found" = true)
    (k_law_found : PySem.W.keepIn K (.ref f_law_found) = true)
    (a_law_bent : PySem.W.nsIn K mainGlobals "_law_bent" = some (some (.ref f_law_bent)))
    (l_law_bent : K.lookup f_law_bent = some ⟨oc_law_bent, od_law_bent, .func (PySem.W.fnOf "_law_bent" "_law_bent" (defArgs sBent) (defBody sBent) (defScope sBent) .none kV_law_bent dc_law_bent pm_law_bent an_law_bent cd_law_bent ct_law_bent), sl_law_bent⟩)
    (c_law_bent : PySem.W.codeIn K cd_law_bent "_law_bent" = true)
    (k_law_bent : PySem.W.keepIn K (.ref f_law_bent) = true)
    (a_law : PySem.W.nsIn K mainGlobals "law" = some (some (.ref f_law)))
    (l_law : K.lookup f_law = some ⟨oc_law, od_law, .func (PySem.W.fnOf "law" "law" (defArgs sLaw) (defBody sLaw) (defScope sLaw) .none kV_law dc_law pm_law an_law cd_law ct_law), sl_law⟩)
    (c_law : PySem.W.codeIn K cd_law "law" = true)
    (k_law : PySem.W.keepIn K (.ref f_law) = true)
    (z_len : PySem.W.nsIn K mainGlobals "len" = some none)
    (z_range : PySem.W.nsIn K mainGlobals "range" = some none)
    (z_min : PySem.W.nsIn K mainGlobals "min" = some none)
    (z_max : PySem.W.nsIn K mainGlobals "max" = some none)
    (z_isinstance : PySem.W.nsIn K mainGlobals "isinstance" = some none)
    (z_tuple : PySem.W.nsIn K mainGlobals "tuple" = some none)
    (z_bool : PySem.W.nsIn K mainGlobals "bool" = some none)
    (z_str : PySem.W.nsIn K mainGlobals "str" = some none)
    (z_int : PySem.W.nsIn K mainGlobals "int" = some none)
    (z_all : PySem.W.nsIn K mainGlobals "all" = some none)
    (z_enumerate : PySem.W.nsIn K mainGlobals "enumerate" = some none)
    (z_ValueError : PySem.W.nsIn K mainGlobals "ValueError" = some none) :
    ∃ fd : FuncData, (∀ (s : Shared) (v : Value), BindsTo s fd ⟨[v], []⟩ [("_law_script", v)]) ∧ ∀ base : Heap, K.In base → base.Ns mainGlobals mg → FnOk l.prog w K mg base CX0 5 fa fd ["_law_script"] (spLaw K) := by
  have e := hfa.symm.trans (PySem.W.mg_of X G a_law)
  cases e
  have m_C_NetError := PySem.W.mg_of X G a_C_NetError
  have NE : NetE K mg C_NetError := ⟨m_C_NetError, sp_C_NetError, rd_C_NetError, v_C_NetError⟩
  have m_C_NoHead := PySem.W.mg_of X G a_C_NoHead
  have m_C_Broken := PySem.W.mg_of X G a_C_Broken
  have m_C_Torn := PySem.W.mg_of X G a_C_Torn
  have oex_C_Torn : OexC K C_Torn := ⟨⟨nm_C_Torn, q_C_Torn, N_C_Torn, bs_C_Torn, _, sn_C_Torn, sub_C_Torn, ab_C_Torn, col_C_Torn, dd_C_Torn, m0_C_Torn, m1_C_Torn, m2_C_Torn, m3_C_Torn, m5_C_Torn, xL_C_Torn, (by show PySem.HandSPX.refsVE [.type "ValueError", .type "Exception", .type "BaseException", .type "object"] = true; decide +kernel)⟩, sa_C_Torn, ex_C_Torn, ty_C_Torn, kc_C_Torn⟩
  have F_Torn_init := fun_mk (st := sE_Torn) l_Torn_init c_Torn_init k_Torn_init
  have b_Torn_init := F_Torn_init.binds (ps := ["self", "at"]) fun _ _ _ _ _ _ us hl => match us, hl with | [_, _], _ => rfl
  have M_Torn_init : Meth K C_Torn "__init__" f_Torn_init := ⟨a_Torn_init, i_Torn_init, k_Torn_init⟩
  have xf_C_Torn : XfC K C_Torn := ⟨ga_C_Torn, gg_C_Torn, ex_C_Torn, hd_C_Torn⟩
  have ec_C_Torn : ExcC K C_Torn := ⟨ga_C_Torn, gg_C_Torn, ex_C_Torn, hd_C_Torn, hc_C_Torn, cg_all, tk_all, mo_C_Torn⟩
  have te_C_Torn : PySem.W.exmOne K (.ref C_Torn) (.ref C_NetError) = some true := PySem.W.exm_ref ex_C_NetError hd_C_NetError ty_C_NetError sn_C_Torn_b
  have F_put_together := fun_mk (st := sPut) l_put_together c_put_together k_put_together
  have b_put_together := F_put_together.binds (ps := ["whole", "parts"]) fun _ _ _ _ _ _ us hl => match us, hl with | [_, _], _ => rfl
  have m_put_together := PySem.W.mg_of X G a_put_together
  have F_law_mixed := fun_mk (st := sMixed) l_law_mixed c_law_mixed k_law_mixed
  have b_law_mixed := F_law_mixed.binds (ps := ["_law_cell", "_law_at"]) fun _ _ _ _ _ _ us hl => match us, hl with | [_, _], _ => rfl
  have m_law_mixed := PySem.W.mg_of X G a_law_mixed
  have F_law_deck := fun_mk (st := sDeck) l_law_deck c_law_deck k_law_deck
  have b_law_deck := F_law_deck.binds (ps := ["_law_script"]) fun _ _ _ _ _ _ us hl => match us, hl with | [_], _ => rfl
  have m_law_deck := PySem.W.mg_of X G a_law_deck
  have F_law_next := fun_mk (st := sNext) l_law_next c_law_next k_law_next
  have b_law_next := F_law_next.binds (ps := ["_law_deck_here", "_law_many"]) fun _ _ _ _ _ _ us hl => match us, hl with | [_, _], _ => rfl
  have m_law_next := PySem.W.mg_of X G a_law_next
  have F_law_same := fun_mk (st := sSame) l_law_same c_law_same k_law_same
  have b_law_same := F_law_same.binds (ps := ["_law_thing", "_law_due_here"]) fun _ _ _ _ _ _ us hl => match us, hl with | [_, _], _ => rfl
  have m_law_same := PySem.W.mg_of X G a_law_same
  have F_law_sign := fun_mk (st := sSign) l_law_sign c_law_sign k_law_sign
  have b_law_sign := F_law_sign.binds (ps := ["_law_deck_here"]) fun _ _ _ _ _ _ us hl => match us, hl with | [_], _ => rfl
  have m_law_sign := PySem.W.mg_of X G a_law_sign
  have F_law_text := fun_mk (st := sText) l_law_text c_law_text k_law_text
  have b_law_text := F_law_text.binds (ps := ["_law_deck_here", "_law_most"]) fun _ _ _ _ _ _ us hl => match us, hl with | [_, _], _ => rfl
  have m_law_text := PySem.W.mg_of X G a_law_text
  have F_law_pieces := fun_mk (st := sPieces) l_law_pieces c_law_pieces k_law_pieces
  have b_law_pieces := F_law_pieces.binds (ps := ["_law_deck_here", "_law_text_here", "_law_first"]) fun _ _ _ _ _ _ us hl => match us, hl with | [_, _, _], _ => rfl
  have m_law_pieces := PySem.W.mg_of X G a_law_pieces
  have F_law_turned := fun_mk (st := sTurned) l_law_turned c_law_turned k_law_turned
  have b_law_turned := F_law_turned.binds (ps := ["_law_deck_here", "_law_rows"]) fun _ _ _ _ _ _ us hl => match us, hl with | [_, _], _ => rfl
  have m_law_turned := PySem.W.mg_of X G a_law_turned
  have F_law_due := fun_mk (st := sDue) l_law_due c_law_due k_law_due
  have b_law_due := F_law_due.binds (ps := ["_law_whole", "_law_parts"]) fun _ _ _ _ _ _ us hl => match us, hl with | [_, _], _ => rfl
  have m_law_due := PySem.W.mg_of X G a_law_due
  have F_law_found := fun_mk (st := sFound) l_law_found c_law_found k_law_found
  have b_law_found := F_law_found.binds (ps := ["_law_whole", "_law_parts"]) fun _ _ _ _ _ _ us hl => match us, hl with | [_, _], _ => rfl
  have m_law_found := PySem.W.mg_of X G a_law_found
  have F_law_bent := fun_mk (st := sBent) l_law_bent c_law_bent k_law_bent
  have b_law_bent := F_law_bent.binds (ps := ["_law_deck_here", "_law_parts"]) fun _ _ _ _ _ _ us hl => match us, hl with | [_, _], _ => rfl
  have m_law_bent := PySem.W.mg_of X G a_law_bent
  have F_law := fun_mk (st := sLaw) l_law c_law k_law
  have b_law := F_law.binds (ps := ["_law_script"]) fun _ _ _ _ _ _ us hl => match us, hl with | [_], _ => rfl
  have n_len := PySem.W.mg_none_of X G z_len
  have n_range := PySem.W.mg_none_of X G z_range
  have n_min := PySem.W.mg_none_of X G z_min
  have n_max := PySem.W.mg_none_of X G z_max
  have n_isinstance := PySem.W.mg_none_of X G z_isinstance
  have n_tuple := PySem.W.mg_none_of X G z_tuple
  have n_bool := PySem.W.mg_none_of X G z_bool
  have n_str := PySem.W.mg_none_of X G z_str
  have n_int := PySem.W.mg_none_of X G z_int
  have n_all := PySem.W.mg_none_of X G z_all
  have n_enumerate := PySem.W.mg_none_of X G z_enumerate
  have n_ValueError := PySem.W.mg_none_of X G z_ValueError
  refine ⟨PySem.W.fnOf "law" "law" (defArgs sLaw) (defBody sLaw) (defScope sLaw) .none kV_law dc_law pm_law an_law cd_law ct_law, fun s v => .of_eq rfl, fun base _ _ => ?_⟩
  have E_Torn : Err l.prog w K mg base "Torn" C_Torn ["self", "at"] (spX1 C_Torn "at") := ⟨oex_C_Torn, m_C_Torn, _, _, a_Torn_init, tf_C_Torn, ok_E_Torn F_Torn_init NE oex_C_Torn no_C_Torn_at, b_Torn_init⟩
  have B : TB mg := ⟨n_len, n_range, n_enumerate, n_min, n_max, n_tuple, n_isinstance, n_ValueError⟩
  have SB : SameB mg := ⟨n_isinstance, n_tuple, n_bool, n_str, n_int, n_all, n_len, n_range⟩
  have T : TF K mg C_NetError C_Torn C_NoHead C_Broken := ⟨te_C_Torn, kit_1, kit_2, kit_3, ec_C_Torn, xf_C_Torn, no_C_Torn_at, m_C_NetError, m_C_Torn, m_C_NoHead, m_C_Broken⟩
  have cM : Cd l.prog w K mg base 1 "_law_mixed" ["_law_cell", "_law_at"] spMixed := ⟨_, _, ok_mixed F_law_mixed, m_law_mixed, k_law_mixed, b_law_mixed⟩
  have cN : Cd l.prog w K mg base 2 "_law_next" ["_law_deck_here", "_law_many"] spNext := ⟨_, _, ok_next F_law_next n_len cM, m_law_next, k_law_next, b_law_next⟩
  have cD : Cd l.prog w K mg base 2 "_law_deck" ["_law_script"] (spDeck K) := ⟨_, _, ok_deck F_law_deck n_len n_range n_min cM, m_law_deck, k_law_deck, b_law_deck⟩
  have cS : Cd l.prog w K mg base 3 "_law_same" ["_law_thing", "_law_due_here"] (spSame K 3) := ⟨_, _, ok_same F_law_same SB m_law_same k_law_same b_law_same 3, m_law_same, k_law_same, b_law_same⟩
  have cG : Cd l.prog w K mg base 3 "_law_sign" ["_law_deck_here"] spSign := ⟨_, _, ok_sign F_law_sign cN, m_law_sign, k_law_sign, b_law_sign⟩
  have cX : Cd l.prog w K mg base 4 "_law_text" ["_law_deck_here", "_law_most"] spText := ⟨_, _, ok_text F_law_text n_range cN cG, m_law_text, k_law_text, b_law_text⟩
  have GP := ok_puttog F_put_together B E_Torn
  exact ok_law F_law B cN cD cX ⟨_, _, ok_pieces F_law_pieces B cN, m_law_pieces, k_law_pieces, b_law_pieces⟩ ⟨_, _, ok_turned F_law_turned B cN, m_law_turned, k_law_turned, b_law_turned⟩ ⟨_, _, ok_bent F_law_bent B cN cG, m_law_bent, k_law_bent, b_law_bent⟩ ⟨_, _, ok_due F_law_due B, m_law_due, k_law_due, b_law_due⟩ ⟨_, _, ok_found F_law_found B T GP m_put_together k_put_together b_put_together, m_law_found, k_law_found, b_law_found⟩ cS GP m_put_together k_put_together b_put_together
theorem walk {l : PySem.W.OpenLaw} {q : Program} {loose : List Str} {XP : (Str → Option Value) → Heap → Prop} {YP : World → Heap → Prop} {d : DefRec} {K : Params → PySem.W.Frag} (hn : l.most = some 63) (hdf : d.params.defaults = [])
    (hY : ∀ (w : World) (h : Heap), YP w h → (K w.params).In h)
    (F : ∀ (w : World) (mg : Str → Option Value) (fa : Addr) (h : Heap), (K w.params).In h → h.Ns mainGlobals mg → mg d.name = some (.ref fa) →
      ∃ fd : FuncData, (∀ (s : Shared) (u : Value), BindsTo s fd ⟨[u], []⟩ [("_law_script", u)]) ∧ ∀ base : Heap, (K w.params).In base → base.Ns mainGlobals mg → FnOk l.prog w (K w.params) mg base CX0 5 fa fd ["_law_script"] (spLaw (K w.params))) :
    PySem.W.WalkO q loose XP YP l.row.toRowW d [] (fun f vs => PySem.call f vs) :=
  L2.walk_of (n := 63) (k := 5) (x := "_law_script") (CX := fun _ => CX0) (sp := fun w => spLaw (K w.params)) hn (by decide) hdf ⟨rfl, by decide, by decide⟩ hY F (fun _ _ a ns hl _ hS => ⟨a, ns, rfl, hS, hl, fun _ => rfl⟩) fun _ _ _ _ _ z => z
end Wn

open PySem PySem.W PyProof.Rows in
set_option maxRecDepth 100000 in
set_option maxHeartbeats 0 in
theorem PySem.Challenge.cw_wrapnets_k24_whole_put_together_holds : PySem.Challenge.rw_wrapnets_k24_whole_put_together.Holds := by
  w_on; o_law; k_head; (case hw => w_witness2)
  k_fill
  refine Wn.walk (l := PySem.Challenge.rw_wrapnets_k24_whole_put_together) rfl rfl (fun w h Y => PySem.W.kIn_of Y) ?F
  case F =>
    intro w mg fa h KX G hmg
    refine' Wn.all_mk KX G hmg ?a_C_NetError ?sp_C_NetError ?rd_C_NetError ?v_C_NetError ?ex_C_NetError ?hd_C_NetError ?ty_C_NetError ?a_C_NoHead ?a_C_Broken ?a_C_Torn ?ex_C_Torn ?ty_C_Torn ?no_C_Torn_at ?xL_C_Torn ?sa_C_Torn ?kc_C_Torn ?a_Torn_init ?i_Torn_init ?l_Torn_init ?c_Torn_init ?k_Torn_init ?tf_C_Torn ?ga_C_Torn ?gg_C_Torn ?hd_C_Torn ?hc_C_Torn ?mo_C_Torn ?sn_C_Torn_b ?cg_all ?tk_all ?kit_1 ?kit_2 ?kit_3 ?a_put_together ?l_put_together ?c_put_together ?k_put_together ?a_law_mixed ?l_law_mixed ?c_law_mixed ?k_law_mixed ?a_law_deck ?l_law_deck ?c_law_deck ?k_law_deck ?a_law_next ?l_law_next ?c_law_next ?k_law_next ?a_law_same ?l_law_same ?c_law_same ?k_law_same ?a_law_sign ?l_law_sign ?c_law_sign ?k_law_sign ?a_law_text ?l_law_text ?c_law_text ?k_law_text ?a_law_pieces ?l_law_pieces ?c_law_pieces ?k_law_pieces ?a_law_turned ?l_law_turned ?c_law_turned ?k_law_turned ?a_law_due ?l_law_due ?c_law_due ?k_law_due ?a_law_found ?l_law_found ?c_law_found ?k_law_found ?a_law_bent ?l_law_bent ?c_law_bent ?k_law_bent ?a_law ?l_law ?c_law ?k_law ?z_len ?z_range ?z_min ?z_max ?z_isinstance ?z_tuple ?z_bool ?z_str ?z_int ?z_all ?z_enumerate ?z_ValueError
    (case a_C_NetError => k_is)
    (case sp_C_NetError => k_is)
    (case rd_C_NetError => k_is)
    (case v_C_NetError => k_is)
    (case ex_C_NetError => k_is)
    (case hd_C_NetError => k_is)
    (case ty_C_NetError => k_is)
    (case a_C_NoHead => k_is)
    (case a_C_Broken => k_is)
    (case a_C_Torn => k_is)
    (case ex_C_Torn => k_is)
    (case ty_C_Torn => k_is)
    (case no_C_Torn_at => k_is)
    (case xL_C_Torn => k_is)
    (case sa_C_Torn => k_is)
    (case kc_C_Torn => k_is)
    (case a_Torn_init => k_is)
    (case i_Torn_init => k_is)
    (case l_Torn_init => k_is)
    (case c_Torn_init => k_is)
    (case k_Torn_init => k_is)
    (case tf_C_Torn => k_is)
    (case ga_C_Torn => k_is)
    (case gg_C_Torn => k_is)
    (case hd_C_Torn => k_is)
    (case hc_C_Torn => k_is)
    (case mo_C_Torn => k_is)
    (case sn_C_Torn_b => k_is)
    (case cg_all => k_is)
    (case tk_all => k_is)
    (case kit_1 => kit_is)
    (case kit_2 => kit_is)
    (case kit_3 => kit_is)
    (case a_put_together => k_is)
    (case l_put_together => k_is)
    (case c_put_together => k_is)
    (case k_put_together => k_is)
    (case a_law_mixed => k_is)
    (case l_law_mixed => k_is)
    (case c_law_mixed => k_is)
    (case k_law_mixed => k_is)
    (case a_law_deck => k_is)
    (case l_law_deck => k_is)
    (case c_law_deck => k_is)
    (case k_law_deck => k_is)
    (case a_law_next => k_is)
    (case l_law_next => k_is)
    (case c_law_next => k_is)
    (case k_law_next => k_is)
    (case a_law_same => k_is)
    (case l_law_same => k_is)
    (case c_law_same => k_is)
    (case k_law_same => k_is)
    (case a_law_sign => k_is)
    (case l_law_sign => k_is)
    (case c_law_sign => k_is)
    (case k_law_sign => k_is)
    (case a_law_text => k_is)
    (case l_law_text => k_is)
    (case c_law_text => k_is)
    (case k_law_text => k_is)
    (case a_law_pieces => k_is)
    (case l_law_pieces => k_is)
    (case c_law_pieces => k_is)
    (case k_law_pieces => k_is)
    (case a_law_turned => k_is)
    (case l_law_turned => k_is)
    (case c_law_turned => k_is)
    (case k_law_turned => k_is)
    (case a_law_due => k_is)
    (case l_law_due => k_is)
    (case c_law_due => k_is)
    (case k_law_due => k_is)
    (case a_law_found => k_is)
    (case l_law_found => k_is)
    (case c_law_found => k_is)
    (case k_law_found => k_is)
    (case a_law_bent => k_is)
    (case l_law_bent => k_is)
    (case c_law_bent => k_is)
    (case k_law_bent => k_is)
    (case a_law => k_is)
    (case l_law => k_is)
    (case c_law => k_is)
    (case k_law => k_is)
    (case z_len => k_is)
    (case z_range => k_is)
    (case z_min => k_is)
    (case z_max => k_is)
    (case z_isinstance => k_is)
    (case z_tuple => k_is)
    (case z_bool => k_is)
    (case z_str => k_is)
    (case z_int => k_is)
    (case z_all => k_is)
    (case z_enumerate => k_is)
    (case z_ValueError => k_is)
