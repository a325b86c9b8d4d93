import PyProof.Rows.All
import Wide.All
import OpenK.AllK
import Wide.FinOn
import HandS.ForMost
import HandS.IsInst
import HandS.Flow
import HandS.SortInts
import HandS.More
import HandS.Text
import HandS.Walk
import HandS.Conv
import PySem.Challenge.RW_wrapnets_k18_whole_tables_in_any_order
set_option Elab.async false
set_option maxRecDepth 100000
set_option linter.all false
namespace Wn
open PySem L2

/-- what a caller knows of a def: that it keeps a promise, and where it stands -/
def Cd (P : Program) (w : World) (K : PySem.W.Frag) (mg : Str → Option Value) (base : Heap) (k : Nat) (name : Str) (ps : List Str) (sp : Sp) : Prop :=
  ∃ (f : Addr) (fd : FuncData), FnOk P w K mg base CX0 k f fd ps sp ∧ mg name = some (.ref f) ∧ PySem.W.keepIn K (.ref f) = true ∧ Binds K fd ps []
/-- what a caller knows of a method -/
def Md (P : Program) (w : World) (K : PySem.W.Frag) (mg : Str → Option Value) (base : Heap) (k : Nat) (C : Addr) (name : Str) (ps : List Str) (sp : Sp) : Prop :=
  ∃ (f : Addr) (fd : FuncData), FnOk P w K mg base CX0 k f fd ps sp ∧ Meth K C name f ∧ Binds K fd ps []

/-- all but some addresses stay -/
def Kp (M : List Addr) (H H' : Hp) : Prop := ∀ b o, b ∉ M → H b = some o → H' b = some o
theorem Kp.refl (M : List Addr) (H : Hp) : Kp M H H := fun _ _ _ h => h
theorem Kp.trans {M : List Addr} {H H1 H2 : Hp} (a : Kp M H H1) (b : Kp M H1 H2) : Kp M H H2 := fun c o hc h => b c o hc (a c o hc h)
theorem Kp.mono {M M' : List Addr} {H H1 : Hp} (a : Kp M H H1) (h : ∀ x ∈ M, x ∈ M') : Kp M' H H1 := fun c o hc q => a c o (fun z => hc (h c z)) q
theorem Kp.of {M : List Addr} {H H1 : Hp} (a : Same H H1) : Kp M H H1 := fun c o _ q => a c o q
theorem Kp.new {M : List Addr} {H H1 : Hp} {p : Addr} {o : HO} (a : Kp M H H1) (hp : H1 p = none) : Kp M H (upd H1 p o) := fun c u hc q => by
  rw [upd_ne (ne_of_none (a c u hc q) hp)]
  exact a c u hc q
theorem Kp.wr {M : List Addr} {H H1 : Hp} {p : Addr} {o : HO} (a : Kp M H H1) (hp : p ∈ M) : Kp M H (upd H1 p o) := fun c u hc q => by
  rw [upd_ne (show c ≠ p from fun z => hc (by rw [z]; exact hp))]
  exact a c u hc q
/-- a write to what wasn't there at first -/
theorem Kp.wrn {M : List Addr} {H H1 : Hp} {p : Addr} {o : HO} (a : Kp M H H1) (hp : H p = none) : Kp M H (upd H1 p o) := fun c u hc q => by
  rw [upd_ne (ne_of_none q hp)]
  exact a c u hc q
theorem _root_.L2.Same.new {H H1 : Hp} {p : Addr} {o : HO} (a : Same H H1) (hp : H1 p = none) : Same H (upd H1 p o) := fun c u q => by
  rw [upd_ne (ne_of_none (a c u q) hp)]
  exact a c u q
theorem _root_.L2.Same.wrn {H H1 : Hp} {p : Addr} {o : HO} (a : Same H H1) (hp : H p = none) : Same H (upd H1 p o) := fun c u q => by
  rw [upd_ne (ne_of_none q hp)]
  exact a c u q

/-- a while by a word and a measure -/
theorem while_m {c : TT} {tb : TS} {D : Ends} {σ : L2.St} {H : Hp} (Pv : L2.St → Hp → Prop) (μ : L2.St → Hp → Nat) (h0 : Pv σ H)
    (hs : ∀ m σ H, m = μ σ H → Pv σ H → c σ H fun b H1 => if b = true then ∃ N : L2.St → Hp → Prop, (∀ σ' H', N σ' H' → ∃ m', m' < m ∧ (m' = μ σ' H' ∧ Pv σ' H')) ∧ tb { D with nx := N, ct := N, bk := D.nx } σ H1 else D.nx σ H1) : tWhile c tb D σ H :=
  ⟨fun m σ H => m = μ σ H ∧ Pv σ H, ⟨_, rfl, h0⟩, fun m σ H ⟨e, p⟩ => hs m σ H e p⟩

/-! ### the deck -/
def spMixed : Sp := fun vs H Q _ => ∃ (c a : Int), vs = [.int c, .int a] ∧ -1 ≤ a ∧ a < 2 ^ 60 ∧ ∀ r : Int, Q (.int r) H
/-- a deck at d, of which n draws were taken at most -/
def Deck (H : Hp) (d f : Addr) (n : Int) : Prop :=
  ∃ (a wh : Int) (xs : List Int), H d = some (.lst [.int a, .int wh, .ref f]) ∧ H f = some (.lst (xs.map V.int)) ∧ 0 ≤ a ∧ a ≤ n ∧ xs.length ≤ 100000
def spNext : Sp := fun vs H Q _ => ∃ (d f : Addr) (m n : Int), vs = [.ref d, .int m] ∧ 0 < m ∧ n < 2 ^ 60 ∧ Deck H d f n ∧
  ∀ (r : Int) (H' : Hp), 0 ≤ r → r < m → Kp [d] H H' → Deck H' d f (n + 1) → Q (.int r) H'
def spDeck (K : PySem.W.Frag) : Sp := fun vs H Q _ => ∃ (a : Addr) (ns : List Int), vs = [.ref a] ∧ SqL K H a (ns.map V.int) ∧ ns.length ≤ 63 ∧
  ∀ (H' : Hp) (d f : Addr), H d = none → H f = none → Same H H' → Deck H' d f 0 → Q (.ref d) H'
end Wn

namespace Wn
open PySem L2
/-! ### tuples stay, whatever is called -/
def TK (H H' : Hp) : Prop := (∀ b xs, H b = some (.tup xs) → H' b = some (.tup xs)) ∧ (∀ b o u, H b = some (.frz o u) → H' b = some (.frz o u))
theorem TK.refl (H : Hp) : TK H H := ⟨fun _ _ h => h, fun _ _ _ h => h⟩
theorem TK.trans {H H1 H2 : Hp} (a : TK H H1) (b : TK H1 H2) : TK H H2 := ⟨fun c o h => b.1 c o (a.1 c o h), fun c o u h => b.2 c o u (a.2 c o u h)⟩
theorem TK.of {H H1 : Hp} (a : Same H H1) : TK H H1 := ⟨fun c o h => a _ _ h, fun c o u h => a _ _ h⟩
theorem TK.new {H H1 : Hp} {p : Addr} {o : HO} (a : TK H H1) (hp : H1 p = none) : TK H (upd H1 p o) :=
  ⟨fun c u q => by rw [upd_ne (ne_of_none (a.1 c u q) hp)]; exact a.1 c u q, fun c u z q => by rw [upd_ne (ne_of_none (a.2 c u z q) hp)]; exact a.2 c u z q⟩
/-- what is neither a tuple nor locked may be written -/
def Wrt : HO → Bool
  | .tup _ => false
  | .frz _ _ => false
  | _ => true
theorem TK.wr {H H1 : Hp} {p : Addr} {o u : HO} (a : TK H H1) (hp : H1 p = some u) (hu : Wrt u = true) : TK H (upd H1 p o) :=
  ⟨fun c v q => by
    have h1 := a.1 c v q
    rw [upd_ne (ne_of h1 hp (fun z => by rw [← z] at hu; cases hu))]
    exact h1, fun c v z q => by
    have h1 := a.2 c v z q
    rw [upd_ne (ne_of h1 hp (fun z => by rw [← z] at hu; cases hu))]
    exact h1⟩
theorem _root_.L2.FnOk.tk {P : Program} {w : World} {K : PySem.W.Frag} {mg : Str → Option Value} {base : Heap} {k : Nat} {f : Addr} {fd : FuncData} {ps : List Str} {sp : Sp} (F : FnOk P w K mg base CX0 k f fd ps sp) :
    FnOk P w K mg base CX0 k f fd ps (fun vs H Q E => sp vs H (fun v H' => TK H H' → Q v H') E) := by
  refine ⟨fun vs H Q E q => F.len vs H _ E q, fun A outer s H args us vs Q E hr he hb hv hs => ?_⟩
  refine codeAny_mono (F.run A outer s H args us vs _ E hr he hb hv hs) fun r s' h => ?_
  cases r with
  | ok fl =>
    cases fl with
    | ret u =>
      obtain ⟨v, H', e1, e2, e3, e4, e5, q⟩ := h
      exact ⟨v, H', e1, e2, e3, e4, e5, q ⟨e3.tups, e3.frzs⟩⟩
    | _ => exact h
  | error e => exact h
/-- a promise, tuples kept besides -/
def Tk (sp : Sp) : Sp := fun vs H Q E => sp vs H (fun v H' => TK H H' → Q v H') E
theorem Cd.tk {P : Program} {w : World} {K : PySem.W.Frag} {mg : Str → Option Value} {base : Heap} {k : Nat} {name : Str} {ps : List Str} {sp : Sp} (h : Cd P w K mg base k name ps sp) : Cd P w K mg base k name ps (Tk sp) := by
  obtain ⟨f, fd, G, a, b, c⟩ := h
  exact ⟨f, fd, G.tk, a, b, c⟩
theorem Md.tk {P : Program} {w : World} {K : PySem.W.Frag} {mg : Str → Option Value} {base : Heap} {k : Nat} {C : Addr} {name : Str} {ps : List Str} {sp : Sp} (h : Md P w K mg base k C name ps sp) : Md P w K mg base k C name ps (Tk sp) := by
  obtain ⟨f, fd, G, a, b⟩ := h
  exact ⟨f, fd, G.tk, a, b⟩

/-! ### data: None, truths, ints, texts, tuples of these -/
mutual
def Rp (K : PySem.W.Frag) (H : Hp) : PyData → V → Prop
  | .none, v => v = .non
  | .bool b, v => v = .bl b
  | .int i, v => v = .int i
  | .str s, v => v = .str s
  | .tuple ds, v => ∃ a xs, v = .ref a ∧ SqT K H a xs ∧ RpL K H ds xs
  | .list _, _ => False
  | .dict _, _ => False
def RpL (K : PySem.W.Frag) (H : Hp) : List PyData → List V → Prop
  | [], xs => xs = []
  | d :: ds, xs => ∃ v r, xs = v :: r ∧ Rp K H d v ∧ RpL K H ds r
end
mutual
def dep : PyData → Nat
  | .tuple xs => deps xs + 1
  | _ => 0
def deps : List PyData → Nat
  | [] => 0
  | x :: xs => max (dep x) (deps xs)
end
mutual
def sz : PyData → Nat
  | .tuple xs => szs xs + 1
  | _ => 1
def szs : List PyData → Nat
  | [] => 0
  | x :: xs => sz x + szs xs
end
theorem SqT.tk {K : PySem.W.Frag} {H H' : Hp} {a : Addr} {xs : List V} (h : SqT K H a xs) (e : TK H H') : SqT K H' a xs := by
  rcases h with (h | ⟨o, h⟩) | h
  · exact .inl (.inl (e.1 _ _ h))
  · exact .inl (.inr ⟨o, e.2 _ _ _ h⟩)
  · exact .inr h
mutual
theorem Rp.tk {K : PySem.W.Frag} {H H' : Hp} (e : TK H H') : ∀ (d : PyData) (v : V), Rp K H d v → Rp K H' d v
  | .none, _, h => h
  | .bool _, _, h => h
  | .int _, _, h => h
  | .str _, _, h => h
  | .tuple ds, v, h => by
    unfold Rp at h ⊢
    obtain ⟨a, xs, rfl, hs, hl⟩ := h
    exact ⟨a, xs, rfl, SqT.tk hs e, RpL.tk e ds xs hl⟩
  | .list _, _, h => h
  | .dict _, _, h => h
theorem RpL.tk {K : PySem.W.Frag} {H H' : Hp} (e : TK H H') : ∀ (ds : List PyData) (xs : List V), RpL K H ds xs → RpL K H' ds xs
  | [], _, h => h
  | d :: ds, xs, h => by
    unfold RpL at h ⊢
    obtain ⟨v, r, rfl, h1, h2⟩ := h
    exact ⟨v, r, rfl, Rp.tk e d v h1, RpL.tk e ds r h2⟩
end
theorem RpL.len {K : PySem.W.Frag} {H : Hp} : ∀ (ds : List PyData) (xs : List V), RpL K H ds xs → xs.length = ds.length
  | [], xs, h => by
    unfold RpL at h
    rw [h]
    rfl
  | d :: ds, xs, h => by
    unfold RpL at h
    obtain ⟨v, r, rfl, h1, h2⟩ := h
    rw [List.length_cons, List.length_cons, RpL.len ds r h2]
theorem RpL.get {K : PySem.W.Frag} {H : Hp} : ∀ (ds : List PyData) (xs : List V), RpL K H ds xs → ∀ (i : Nat) (d : PyData), ds[i]? = some d → ∃ v, xs[i]? = some v ∧ Rp K H d v
  | [], xs, h, i, d, e => by cases e
  | d :: ds, xs, h, i, d', e => by
    unfold RpL at h
    obtain ⟨v, r, rfl, h1, h2⟩ := h
    cases i with
    | zero =>
      simp only [List.getElem?_cons_zero, Option.some.injEq] at e
      exact ⟨v, rfl, e ▸ h1⟩
    | succ i =>
      simp only [List.getElem?_cons_succ] at e ⊢
      exact RpL.get ds r h2 i d' e
theorem RpL.of {K : PySem.W.Frag} {H : Hp} : ∀ (ds : List PyData) (xs : List V), xs.length = ds.length → (∀ (i : Nat) (d : PyData) (v : V), ds[i]? = some d → xs[i]? = some v → Rp K H d v) → RpL K H ds xs
  | [], xs, h, _ => by
    unfold RpL
    exact List.length_eq_zero_iff.mp h
  | d :: ds, [], h, _ => by cases h
  | d :: ds, v :: r, h, k => by
    unfold RpL
    refine ⟨v, r, rfl, k 0 d v rfl rfl, RpL.of ds r (by simpa using h) fun i d' v' h1 h2 => k (i + 1) d' v' ?_ ?_⟩
    · simpa using h1
    · simpa using h2
theorem RpL.snoc {K : PySem.W.Frag} {H : Hp} {d : PyData} {v : V} (h : Rp K H d v) : ∀ (ds : List PyData) (xs : List V), RpL K H ds xs → RpL K H (ds ++ [d]) (xs ++ [v])
  | [], xs, q => by
    unfold RpL at q
    subst q
    show RpL K H [d] [v]
    unfold RpL
    exact ⟨v, [], rfl, h, by unfold RpL; rfl⟩
  | d' :: ds, xs, q => by
    unfold RpL at q
    obtain ⟨v', r, rfl, h1, h2⟩ := q
    show RpL K H (d' :: (ds ++ [d])) (v' :: (r ++ [v]))
    unfold RpL
    exact ⟨_, _, rfl, h1, RpL.snoc h ds r h2⟩
theorem dep_get : ∀ (ds : List PyData) (i : Nat) (d : PyData), ds[i]? = some d → dep d ≤ deps ds
  | [], i, d, e => by cases e
  | x :: xs, 0, d, e => by
    simp only [List.getElem?_cons_zero, Option.some.injEq] at e
    unfold deps
    rw [e]
    exact Nat.le_max_left _ _
  | x :: xs, i + 1, d, e => by
    simp only [List.getElem?_cons_succ] at e
    unfold deps
    exact Nat.le_trans (dep_get xs i d e) (Nat.le_max_right _ _)
theorem sz_get : ∀ (ds : List PyData) (i : Nat) (d : PyData), ds[i]? = some d → sz d ≤ szs ds
  | [], i, d, e => by cases e
  | x :: xs, 0, d, e => by
    simp only [List.getElem?_cons_zero, Option.some.injEq] at e
    unfold szs
    rw [e]
    exact Nat.le_add_right _ _
  | x :: xs, i + 1, d, e => by
    simp only [List.getElem?_cons_succ] at e
    unfold szs
    exact Nat.le_trans (sz_get xs i d e) (Nat.le_add_left _ _)
theorem sz_pos : ∀ d : PyData, 1 ≤ sz d
  | .tuple xs => by unfold sz; omega
  | .none | .bool _ | .int _ | .str _ | .list _ | .dict _ => by unfold sz; exact Nat.le_refl _
theorem szs_len : ∀ ds : List PyData, ds.length ≤ szs ds
  | [] => Nat.zero_le _
  | x :: xs => by
    have := szs_len xs
    have := sz_pos x
    unfold szs
    rw [List.length_cons]
    omega
/-- the type of such a thing -/
theorem ty_tup {K : PySem.W.Frag} {H : Hp} {a : Addr} {xs : List V} (h : SqT K H a xs) : TyX K H (.ref a) (.type "tuple") := by
  rcases h with (h | ⟨o, h⟩) | ⟨o, its, n, h, c, _⟩
  · exact .base (.tup h)
  · exact .fTuple h
  · exact .kTuple h c
/-- the same data handed in twice, of depth below n: True -/
def spSame (K : PySem.W.Frag) (n : Nat) : Sp := fun vs H Q _ => ∃ (x y : V) (d : PyData), vs = [x, y] ∧ Rp K H d x ∧ Rp K H d y ∧ dep d < n ∧ sz d ≤ 1000000 ∧ ∀ H', Same H H' → Q (.bl true) H'
end Wn

namespace Wn
open PySem L2
theorem fld1 {f : Str} {v : V} : ([(f, v)] : List (Str × V)).lookup f = some v := by
  show (match f == f with | true => some v | false => _) = some v
  rw [beq_self_eq_true]
theorem fld1_ne {f g : Str} {v : V} (h : (g == f) = false) : ([(f, v)] : List (Str × V)).lookup g = none := by
  show (match g == f with | true => some v | false => _) = none
  rw [h]
  rfl
theorem putF1 {f : Str} {v u : V} : putF f u [(f, v)] = [(f, u)] := by
  show (if f = f then (f, u) :: [] else _) = _
  rw [if_pos rfl]
/-! ### dicts by whole numbers, their values data -/
section
variable {α : Type}
def lookA (m : List (Int × α)) (k : Int) : Option α := (m.find? fun p => decide (p.1 = k)).map (·.2)
def putA (m : List (Int × α)) (k : Int) (v : α) : List (Int × α) :=
  if (m.any fun kv => decide (kv.1 = k)) = true then m.map (fun kv => if kv.1 = k then (kv.1, v) else kv) else m ++ [(k, v)]
def dropA (m : List (Int × α)) (k : Int) : List (Int × α) := m.filter fun kv => decide (kv.1 ≠ k)
theorem putA_len (m : List (Int × α)) (k : Int) (v : α) : (putA m k v).length ≤ m.length + 1 := by
  unfold putA
  split
  · rw [List.length_map]
    omega
  · rw [List.length_append, List.length_singleton]
    exact Nat.le_refl _
theorem dropA_len (m : List (Int × α)) (k : Int) : (dropA m k).length ≤ m.length := List.length_filter_le _ _
def RpD (enc : α → PyData) (K : PySem.W.Frag) (H : Hp) : List (Int × α) → List (Key × V) → Prop
  | [], kvs => kvs = []
  | p :: m, kvs => ∃ v r, kvs = (Sum.inl p.1, v) :: r ∧ Rp K H (enc p.2) v ∧ RpD enc K H m r
variable {enc : α → PyData} {K : PySem.W.Frag} {H H' : Hp}
theorem RpD.tk (e : TK H H') : ∀ {m : List (Int × α)} {kvs : List (Key × V)}, RpD enc K H m kvs → RpD enc K H' m kvs
  | [], _, h => h
  | p :: m, kvs, h => by
    obtain ⟨v, r, rfl, h1, h2⟩ := h
    exact ⟨v, r, rfl, Rp.tk e _ _ h1, RpD.tk e h2⟩
theorem RpD.len : ∀ {m : List (Int × α)} {kvs : List (Key × V)}, RpD enc K H m kvs → kvs.length = m.length
  | [], kvs, h => by rw [show kvs = [] from h]; rfl
  | p :: m, kvs, h => by
    obtain ⟨v, r, rfl, h1, h2⟩ := h
    rw [List.length_cons, List.length_cons, RpD.len h2]
theorem RpD.keys : ∀ {m : List (Int × α)} {kvs : List (Key × V)}, RpD enc K H m kvs → (kvs.map fun kv => kV kv.1) = (m.map (·.1)).map V.int
  | [], kvs, h => by rw [show kvs = [] from h]; rfl
  | p :: m, kvs, h => by
    obtain ⟨v, r, rfl, h1, h2⟩ := h
    rw [List.map_cons, List.map_cons, List.map_cons, RpD.keys h2]
    rfl
theorem inl_iff {a b : Int} : ((Sum.inl a : Key) = Sum.inl b) ↔ a = b := ⟨fun h => by cases h; rfl, fun h => by rw [h]⟩
theorem RpD.val {k : Int} : ∀ {m : List (Int × α)} {kvs : List (Key × V)}, RpD enc K H m kvs → (lookA m k = none ∧ valV kvs (Sum.inl k) = none) ∨ ∃ x v, lookA m k = some x ∧ valV kvs (Sum.inl k) = some v ∧ Rp K H (enc x) v
  | [], kvs, h => by
    rw [show kvs = [] from h]
    exact .inl ⟨rfl, rfl⟩
  | p :: m, kvs, h => by
    obtain ⟨v, r, rfl, h1, h2⟩ := h
    by_cases e : p.1 = k
    · refine .inr ⟨p.2, v, ?_, valV_pos (by rw [e]), h1⟩
      simp [lookA, List.find?_cons, e]
    · have e1 : lookA (p :: m) k = lookA m k := by simp [lookA, List.find?_cons, e]
      rw [e1, valV_neg (p := (Sum.inl p.1, v)) (fun z => e (inl_iff.mp z))]
      exact RpD.val h2
theorem RpD.any {k : Int} : ∀ {m : List (Int × α)} {kvs : List (Key × V)}, RpD enc K H m kvs → (kvs.any fun kv => decide (kv.1 = Sum.inl k)) = (m.any fun kv => decide (kv.1 = k))
  | [], kvs, h => by rw [show kvs = [] from h]; rfl
  | p :: m, kvs, h => by
    obtain ⟨v, r, rfl, h1, h2⟩ := h
    rw [List.any_cons, List.any_cons, RpD.any h2]
    congr 1
    exact decide_eq_decide.mpr inl_iff
theorem RpD.snoc {k : Int} {x : α} {v : V} (hv : Rp K H (enc x) v) : ∀ {m : List (Int × α)} {kvs : List (Key × V)}, RpD enc K H m kvs → RpD enc K H (m ++ [(k, x)]) (kvs ++ [(Sum.inl k, v)])
  | [], kvs, h => by
    rw [show kvs = [] from h]
    exact ⟨v, [], rfl, hv, rfl⟩
  | p :: m, kvs, h => by
    obtain ⟨u, r, rfl, h1, h2⟩ := h
    exact ⟨u, _, rfl, h1, RpD.snoc hv h2⟩
theorem RpD.map {k : Int} {x : α} {v : V} (hv : Rp K H (enc x) v) : ∀ {m : List (Int × α)} {kvs : List (Key × V)}, RpD enc K H m kvs → RpD enc K H (m.map fun kv => if kv.1 = k then (kv.1, x) else kv) (kvs.map fun kv => if kv.1 = Sum.inl k then (kv.1, v) else kv)
  | [], kvs, h => by rw [show kvs = [] from h]; rfl
  | p :: m, kvs, h => by
    obtain ⟨u, r, rfl, h1, h2⟩ := h
    have h3 := RpD.map (k := k) hv h2
    rw [List.map_cons, List.map_cons]
    by_cases e : p.1 = k
    · rw [if_pos e, if_pos (inl_iff.mpr e)]
      exact ⟨v, _, rfl, hv, h3⟩
    · rw [if_neg e, if_neg (fun z => e (inl_iff.mp z))]
      exact ⟨u, _, rfl, h1, h3⟩
theorem RpD.put {k : Int} {x : α} {v : V} {m : List (Int × α)} {kvs : List (Key × V)} (h : RpD enc K H m kvs) (hv : Rp K H (enc x) v) : RpD enc K H (putA m k x) (putK kvs (Sum.inl k) v) := by
  unfold putA putK
  rw [h.any]
  split
  · exact h.map hv
  · exact h.snoc hv
theorem RpD.drop {k : Int} : ∀ {m : List (Int × α)} {kvs : List (Key × V)}, RpD enc K H m kvs → RpD enc K H (dropA m k) (dropK kvs (Sum.inl k))
  | [], kvs, h => by rw [show kvs = [] from h]; rfl
  | p :: m, kvs, h => by
    obtain ⟨u, r, rfl, h1, h2⟩ := h
    have h3 := RpD.drop (k := k) h2
    unfold dropA dropK at *
    by_cases e : p.1 = k
    · rw [List.filter_cons_of_neg (by simp [e]), List.filter_cons_of_neg (by simp [e])]
      exact h3
    · rw [List.filter_cons_of_pos (by simp [e]), List.filter_cons_of_pos (by simp [inl_iff, e])]
      exact ⟨u, _, rfl, h1, h3⟩
/-- a dict at q that stands for m -/
def DictAt (enc : α → PyData) (K : PySem.W.Frag) (H : Hp) (q : Addr) (m : List (Int × α)) : Prop := ∃ kvs, H q = some (.dK kvs) ∧ RpD enc K H m kvs
theorem DictAt.kp {M : List Addr} {q : Addr} {m : List (Int × α)} (h : DictAt enc K H q m) (k : Kp M H H') (t : TK H H') (n : q ∉ M) : DictAt enc K H' q m := by
  obtain ⟨kvs, a, b⟩ := h
  exact ⟨kvs, k _ _ n a, b.tk t⟩
def sortI (ns : List Int) : List Int := ns.mergeSort (fun a b => decide (a ≤ b))
theorem sortI_perm (ns : List Int) : (sortI ns).Perm ns := List.mergeSort_perm _ _
theorem sortI_sorted (ns : List Int) : (sortI ns).Pairwise (· ≤ ·) := by
  have h := List.pairwise_mergeSort (le := fun a b : Int => decide (a ≤ b)) (fun a b c h1 h2 => by simp only [decide_eq_true_eq] at *; omega) (fun a b => by simp only [Bool.or_eq_true, decide_eq_true_eq]; omega) ns
  exact h.imp fun h => of_decide_eq_true h
theorem sortI_eq {ns ms : List Int} (p : ms.Perm ns) (s : ms.Pairwise (· ≤ ·)) : ms = sortI ns :=
  PySem.W.ksm_same (p.trans (sortI_perm ns).symm) s (sortI_sorted ns)
/-- rows by hands: (hand,) and what stands there -/
def rowsD (encL : α → List PyData) (m : List (Int × α)) : PyData := .tuple ((sortI (m.map (·.1))).map fun k => .tuple (.int k :: ((lookA m k).map encL).getD []))
theorem lookA_mem {m : List (Int × α)} {k : Int} (h : k ∈ m.map (·.1)) : ∃ x, lookA m k = some x ∧ (k, x) ∈ m := by
  obtain ⟨p, hp, rfl⟩ := List.mem_map.mp h
  unfold lookA
  cases e : m.find? fun q => decide (q.1 = p.1) with
  | none =>
    have := List.find?_eq_none.mp e p hp
    simp at this
  | some q =>
    have h1 := List.find?_some e
    have h2 := List.mem_of_find?_eq_some e
    simp only [decide_eq_true_eq] at h1
    exact ⟨q.2, rfl, by rw [← h1]; exact h2⟩
theorem szs_map_le {β : Type} {f : β → PyData} {c : Nat} : ∀ (l : List β), (∀ x ∈ l, sz (f x) ≤ c) → szs (l.map f) ≤ c * l.length
  | [], _ => Nat.zero_le _
  | x :: l, h => by
    have h1 := szs_map_le l fun y hy => h y (List.mem_cons_of_mem _ hy)
    have h2 := h x List.mem_cons_self
    rw [List.map_cons, List.length_cons]
    unfold szs
    rw [Nat.mul_succ]
    omega
theorem deps_map_le {β : Type} {f : β → PyData} {c : Nat} : ∀ (l : List β), (∀ x ∈ l, dep (f x) ≤ c) → deps (l.map f) ≤ c
  | [], _ => Nat.zero_le _
  | x :: l, h => by
    have h1 := deps_map_le l fun y hy => h y (List.mem_cons_of_mem _ hy)
    have h2 := h x List.mem_cons_self
    rw [List.map_cons]
    unfold deps
    omega
theorem Rp.tup {ds : List PyData} {a : Addr} {xs : List V} (h : H a = some (.tup xs)) (r : RpL K H ds xs) : Rp K H (.tuple ds) (.ref a) := by
  unfold Rp
  exact ⟨a, xs, rfl, SqT.of h, r⟩
theorem Rp.tupS {ds : List PyData} {a : Addr} {xs : List V} (h : SqT K H a xs) (r : RpL K H ds xs) : Rp K H (.tuple ds) (.ref a) := by
  unfold Rp
  exact ⟨a, xs, rfl, h, r⟩
theorem RpL.cons {d : PyData} {ds : List PyData} {v : V} {xs : List V} (h : Rp K H d v) (r : RpL K H ds xs) : RpL K H (d :: ds) (v :: xs) := by
  unfold RpL
  exact ⟨v, xs, rfl, h, r⟩
theorem RpL.nil : RpL K H [] [] := by
  unfold RpL
  rfl
theorem Rp.int {i : Int} : Rp K H (.int i) (.int i) := by
  unfold Rp
  rfl
theorem Rp.none : Rp K H .none .non := by
  unfold Rp
  rfl
theorem Rp.str {z : Str} : Rp K H (.str z) (.str z) := by
  unfold Rp
  rfl
end
end Wn

namespace Wn
open PySem L2
theorem tYes_t {σ : L2.St} {H : Hp} {F : Bool → Hp → Prop} (h : F true H) : tYes σ H F := h
theorem rows_lc {α : Type} {encL : α → List PyData} {K : PySem.W.Frag} {td : TE} {i : Nat} {σ : L2.St} {H2 : Hp} {S D q : Addr} {ns : List Int} {m : List (Int × α)} {kvs : List (Key × V)} {Qd : Hp → Prop}
    (hS : H2 S = some (.lst (ns.map V.int))) (hq : H2 q = some (.dK kvs)) (hm : RpD (fun x => .tuple (encL x)) K H2 m kvs) (hns : ∀ k ∈ ns, k ∈ m.map (·.1)) (hz : ∀ x, (encL x).length ≤ 100) (hln : ns.length ≤ 1000000)
    (htd : ∀ (σ' : L2.St) (H' : Hp) (Q : VK), wipe σ' [i] = wipe σ [i] → Same H2 H' → Q (.ref q) H' → td σ' H' Q) (hD : H2 D = none) (hσ : i < σ.length)
    (hd : ∀ (H' : Hp) (xs : List V), Same H2 H' → H' D = some (.lst xs) → RpL K H' (ns.map fun k => .tuple (.int k :: ((lookA m k).map encL).getD [])) xs → Qd H') :
    ∃ W : Nat → Nat → Hp → Prop, (∃ m, W 0 m (upd H2 D (.lst []))) ∧ ∀ j m H, W j m H →
      ((Itl K S).stop j H ∧ Qd H) ∨ ((Itl K S).go j H ∧ ∃ Nx : Hp → Prop, (∀ H', Nx H' → ∃ m', m' < m ∧ W (j + 1) m' H') ∧ ∀ x H', (Itl K S).yld j H x H' → gName i x (wipe σ [i]) H' fun σ2 H2 => wipe σ2 [i] = wipe σ [i] ∧ tYes σ2 H2 fun b H3 =>
        if b = true then tOp (rCatT K) (tTup (tCons (tVar i) tNil)) (tDGet td (tVar i)) σ2 H3 fun y H4 => ∃ acc, H4 D = some (.lst acc) ∧ acc.length < sizeLine ∧ Nx (upd H4 D (.lst (acc ++ [y]))) else Nx H3) := by
  have nSD : S ≠ D := ne_of_none hS hD
  refine lc_list (K := K) (a := S) (xs := ns.map V.int) (fun j H => ∃ xs, Same H2 H ∧ H D = some (.lst xs) ∧ RpL K H ((ns.take j).map fun k => .tuple (.int k :: ((lookA m k).map encL).getD [])) xs)
    ⟨[], (L2.Same.refl H2).new hD, upd_same, RpL.nil⟩ (fun j H _ ⟨xs, s, _, _⟩ => SqL.of (s _ _ hS)) ?_ ?_
  · rintro j x H3 hx ⟨xs, s3, hD3, hr⟩
    have hj : j < ns.length := by
      have q := (List.getElem?_eq_some_iff.mp hx).1
      rw [List.length_map] at q
      exact q
    obtain rfl : x = V.int ns[j] := by
      rw [List.getElem?_map, List.getElem?_eq_getElem hj] at hx
      exact (Option.some.inj hx).symm
    have hmem : ns[j] ∈ m.map (·.1) := hns _ (List.getElem_mem hj)
    have eσ : (((wipe σ [i]).set i (some (V.int ns[j]))))[i]? = some (some (V.int ns[j])) := by
      rw [List.getElem?_set_self]
      rw [wipe_length]
      exact hσ
    have ew : wipe ((wipe σ [i]).set i (some (V.int ns[j]))) [i] = wipe σ [i] := by
      show ((σ.set i none).set i (some (V.int ns[j]))).set i none = σ.set i none
      rw [List.set_set, List.set_set]
    refine ⟨ew, ?_⟩
    refine tYes_t (iteT ?_)
    have hlx : xs.length < sizeLine := by
      have := RpL.len _ _ hr
      rw [List.length_map, List.length_take] at this
      exact Nat.lt_of_le_of_lt (show xs.length ≤ 1000000 by omega) (by decide)
    refine ⟨_, eσ, (by show 1 ≤ sizeLine; decide), fun t ht => ?_⟩
    have s4 := s3.new (o := .tup [V.int ns[j]]) ht
    have t4 := TK.of s4
    refine htd _ _ _ ew s4 ⟨_, eσ, ?_⟩
    rcases hm.val (k := ns[j]) with ⟨e1, e2⟩ | ⟨y, v, e1, e2, r⟩
    · obtain ⟨z, e3, _⟩ := lookA_mem hmem
      rw [e1] at e3
      cases e3
    · have r4 := Rp.tk t4 _ _ r
      unfold Rp at r4
      obtain ⟨b, ys, rfl, hb, hl⟩ := r4
      have hly := RpL.len _ _ hl
      refine ⟨q, .ref b, rfl, by rw [← e2]; exact DGet.k (k := Sum.inl ns[j]) (s4 _ _ hq), ?_⟩
      have hD4 : (upd H3 t (.tup [V.int ns[j]])) D = some (.lst xs) := by
        rw [upd_ne (ne_of_none hD3 ht)]
        exact hD3
      have etk : (ns.take (j + 1)).map (fun k => PyData.tuple (.int k :: ((lookA m k).map encL).getD [])) = (ns.take j).map (fun k => PyData.tuple (.int k :: ((lookA m k).map encL).getD [])) ++ [PyData.tuple (.int ns[j] :: encL y)] := by
        rw [List.take_succ_eq_append_getElem hj, List.map_append, List.map_singleton, e1]
        rfl
      have s34 : TK H3 (upd H3 t (.tup [V.int ns[j]])) := (TK.refl _).new ht
      refine ⟨t, b, _, ys, rfl, rfl, SqT.of upd_same, hb, List.cons_ne_nil _ _, ?_, fun ey => ?_, fun _ p hp => ?_⟩
      · have := hz y
        rw [hly, List.length_singleton]
        exact Nat.le_trans (show 1 + (encL y).length ≤ 1000 by omega) (by decide)
      · refine ⟨xs, hD4, hlx, _, s4.wrn hD, upd_same, ?_⟩
        rw [etk]
        have tE : TK (upd H3 t (.tup [V.int ns[j]])) (upd (upd H3 t (.tup [V.int ns[j]])) D (.lst (xs ++ [V.ref t]))) := (TK.refl _).wr hD4 rfl
        refine RpL.snoc (Rp.tk tE _ _ (Rp.tup upd_same ?_)) _ _ (RpL.tk (s34.trans tE) _ _ hr)
        have e0 : encL y = [] := List.length_eq_zero_iff.mp (by rw [← hly, ey]; rfl)
        rw [e0]
        exact RpL.cons Rp.int RpL.nil
      · have s5 := s4.new (o := .tup ([V.int ns[j]] ++ ys)) hp
        have hD5 : upd (upd H3 t (.tup [V.int ns[j]])) p (.tup ([V.int ns[j]] ++ ys)) D = some (.lst xs) := by
          rw [upd_ne (ne_of_none hD4 hp)]
          exact hD4
        have tE : TK (upd (upd H3 t (.tup [V.int ns[j]])) p (.tup ([V.int ns[j]] ++ ys))) (upd (upd (upd H3 t (.tup [V.int ns[j]])) p (.tup ([V.int ns[j]] ++ ys))) D (.lst (xs ++ [V.ref p]))) := (TK.refl _).wr hD5 rfl
        have s45 : TK (upd H3 t (.tup [V.int ns[j]])) (upd (upd H3 t (.tup [V.int ns[j]])) p (.tup ([V.int ns[j]] ++ ys))) := (TK.refl _).new hp
        refine ⟨xs, hD5, hlx, _, s5.wrn hD, upd_same, ?_⟩
        rw [etk]
        refine RpL.snoc (Rp.tk tE _ _ (Rp.tup upd_same ?_)) _ _ (RpL.tk ((s34.trans s45).trans tE) _ _ hr)
        exact RpL.cons Rp.int (RpL.tk s45 _ _ hl)
  · rintro H3 ⟨xs, s3, hD3, hr⟩
    rw [List.length_map, List.take_length] at hr
    exact hd H3 xs s3 hD3 hr
end Wn

namespace Wn
open PySem L2
section
variable {X : Cx} {K : PySem.W.Frag}
theorem ixL (hK : X.K = K) : IxR X (rIxL K) := hK ▸ ix_list
theorem ixT (hK : X.K = K) : IxR X (rIxT K) := hK ▸ ix_tup
theorem opCatT (hK : X.K = K) : OpR X (binaryOp .Add) (rCatT K) := hK ▸ op_catT
theorem slL (hK : X.K = K) : SlR X (rSlL K) := hK ▸ sl_list
theorem slT (hK : X.K = K) : SlR X (rSlT K) := hK ▸ sl_tup
theorem fldK {e : Expr} {ta : TE} {f : Str} {pos : Pos} (hK : X.K = K) (he : PE X e ta) (hb : attributeBase e f X.env (eval e X.env) = eval e X.env) : PE X (.Attribute e f pos) (tFld K ta f) := hK ▸ pe_fld he hb
theorem lenK (hK : X.K = K) : CallR X (.builtin "len") (fun xs H Q => ∃ x n, xs = [x] ∧ LenV K x H n ∧ Q (.int n) H) := hK ▸ call_len
theorem crMaxK (hK : X.K = K) (hc : X.calm = true) : CallR X (.builtin "max") (rMax K) := hK ▸ cr_max hc
theorem crMinK (hK : X.K = K) (hc : X.calm = true) : CallR X (.builtin "min") (rMin K) := hK ▸ cr_min hc
theorem crAllK (hK : X.K = K) (hc : X.calm = true) : CallR X (.builtin "all") (rAll K) := hK ▸ cr_all hc
theorem crAnyK (hK : X.K = K) (hc : X.calm = true) : CallR X (.builtin "any") (rAny K) := hK ▸ cr_any hc
theorem isiK (hK : X.K = K) : CallR X (.builtin "isinstance") (rIsi K) := hK ▸ call_isi
theorem tupOfK (hK : X.K = K) : CallR X (.type "tuple") (fun xs H Q => ∃ p ys, xs = [.ref p] ∧ ((SqL K H p ys ∧ ∀ l, H l = none → Q (.ref l) (upd H l (.tup ys))) ∨ (SqT K H p ys ∧ Q (.ref p) H))) := hK ▸ call_tuple_of
theorem lstOfK (hK : X.K = K) : CallR X (.type "list") (fun xs H Q => ∃ p ys, xs = [.ref p] ∧ (SqL K H p ys ∨ SqT K H p ys) ∧ ∀ l, H l = none → Q (.ref l) (upd H l (.lst ys))) := hK ▸ call_list_of
theorem sortIK (hK : X.K = K) : CallR X (.builtin "sorted") (rSortedI K) := hK ▸ cr_sortedI
theorem inSeqK (hK : X.K = K) : OpR X (compareOp .In) (rIn K false) := hK ▸ op_in_seq
theorem notInSeqK (hK : X.K = K) : OpR X (compareOp .NotIn) (rIn K true) := hK ▸ op_notIn_seq
theorem eqDK (hK : X.K = K) (hu : X.A.units + 64 < cLine) : OpR X (compareOp .Eq) (rEqD K) := hK ▸ op_eqD hu
theorem neDK (hK : X.K = K) (hu : X.A.units + 64 < cLine) : OpR X (compareOp .NotEq) (rNeD K) := hK ▸ op_neD hu
end
end Wn

namespace Wn
open PySem L2
theorem Deck.kp {M : List Addr} {H H' : Hp} {d f : Addr} {n : Int} (h : Deck H d f n) (k : Kp M H H') (n1 : d ∉ M) (n2 : f ∉ M) : Deck H' d f n := by
  obtain ⟨a, wh, xs, h1, h2, h3⟩ := h
  exact ⟨a, wh, xs, k _ _ n1 h1, k _ _ n2 h2, h3⟩
theorem Deck.mono {H : Hp} {d f : Addr} {n m : Int} (h : Deck H d f n) (hm : n ≤ m) : Deck H d f m := by
  obtain ⟨a, wh, xs, h1, h2, h3, h4, h5⟩ := h
  exact ⟨a, wh, xs, h1, h2, h3, by omega, h5⟩
theorem Deck.lst {H : Hp} {d f : Addr} {n : Int} (h : Deck H d f n) : ∃ zs, H d = some (.lst zs) := by
  obtain ⟨a, wh, xs, h1, h2, h3⟩ := h
  exact ⟨_, h1⟩
theorem Deck.lst2 {H : Hp} {d f : Addr} {n : Int} (h : Deck H d f n) : ∃ zs, H f = some (.lst zs) := by
  obtain ⟨a, wh, xs, h1, h2, h3⟩ := h
  exact ⟨_, h2⟩
theorem seq_have {t u : TS} {D : Ends} {σ : L2.St} {H : Hp} (Mid : L2.St → Hp → Prop) (h2 : ∀ σ' H', Mid σ' H' → u D σ' H') (h1 : (∀ σ' H', Mid σ' H' → u D σ' H') → t { D with nx := u D } σ H) : tSeq t u D σ H := h1 h2
theorem seq_if {c : TT} {t1 t2 u : TS} {D : Ends} {σ : L2.St} {H : Hp} (Mid : L2.St → Hp → Prop) (h2 : ∀ σ' H', Mid σ' H' → u D σ' H') (h1 : (∀ σ' H', Mid σ' H' → u D σ' H') → tIfS c t1 t2 { D with nx := u D } σ H) : tSeq (tIfS c t1 t2) u D σ H := h1 h2
theorem nin1 {a b : Addr} (h : a ≠ b) : a ∉ [b] := fun z => h (List.mem_singleton.mp z)
theorem nin2 {a b c : Addr} (h : a ≠ b) (h' : a ≠ c) : a ∉ [b, c] := fun z => by
  rcases List.mem_cons.mp z with z | z
  · exact h z
  · exact h' (List.mem_singleton.mp z)
section
variable {α : Type}
/-- an object at p whose dict by_hand stands at q -/
def HoldAt (enc : α → PyData) (K : PySem.W.Frag) (C : Addr) (H : Hp) (p q : Addr) (m : List (Int × α)) : Prop :=
  (∃ dx, H p = some (.ins C dx [("by_hand", .ref q)])) ∧ DictAt enc K H q m
variable {enc : α → PyData} {K : PySem.W.Frag} {C : Addr} {H H' : Hp}
theorem HoldAt.kp {M : List Addr} {p q : Addr} {m : List (Int × α)} (h : HoldAt enc K C H p q m) (k : Kp M H H') (t : TK H H') (n1 : p ∉ M) (n2 : q ∉ M) : HoldAt enc K C H' p q m := by
  obtain ⟨⟨dx, a⟩, b⟩ := h
  exact ⟨⟨dx, k _ _ n1 a⟩, b.kp k t n2⟩
/-- n objects and n dicts, in two lists -/
structure Rack (enc : α → PyData) (K : PySem.W.Frag) (C : Addr) (H : Hp) (L1 L2 : Addr) (n : Nat) (p q md : Nat → Addr) (m m' : Nat → List (Int × α)) : Prop where
  l1 : H L1 = some (.lst ((List.range n).map fun j => V.ref (p j)))
  l2 : H L2 = some (.lst ((List.range n).map fun j => V.ref (md j)))
  ok : ∀ j, j < n → HoldAt enc K C H (p j) (q j) (m j)
  mo : ∀ j, j < n → DictAt enc K H (md j) (m' j)
  dq : ∀ i j, i < n → j < n → i ≠ j → q i ≠ q j
  dm : ∀ i j, i < n → j < n → i ≠ j → md i ≠ md j
  dx : ∀ i j, i < n → j < n → q i ≠ md j
variable {L1 L2 : Addr} {n : Nat} {p q md : Nat → Addr} {m m' : Nat → List (Int × α)}
theorem Rack.kp {M : List Addr} (R : Rack enc K C H L1 L2 n p q md m m') (k : Kp M H H') (t : TK H H') (h : ∀ x ∈ M, x ≠ L1 ∧ x ≠ L2 ∧ ∀ j, j < n → x ≠ p j ∧ x ≠ q j ∧ x ≠ md j) : Rack enc K C H' L1 L2 n p q md m m' where
  l1 := k _ _ (fun z => (h _ z).1 rfl) R.l1
  l2 := k _ _ (fun z => (h _ z).2.1 rfl) R.l2
  ok := fun j hj => (R.ok j hj).kp k t (fun z => ((h _ z).2.2 j hj).1 rfl) (fun z => ((h _ z).2.2 j hj).2.1 rfl)
  mo := fun j hj => (R.mo j hj).kp k t (fun z => ((h _ z).2.2 j hj).2.2 rfl)
  dq := R.dq
  dm := R.dm
  dx := R.dx
/-- a list beside was written -/
theorem Rack.lst {d : Addr} {zs : List V} (R : Rack enc K C H L1 L2 n p q md m m') (k : Kp [d] H H') (t : TK H H') (hd : H d = some (.lst zs)) (n1 : d ≠ L1) (n2 : d ≠ L2) : Rack enc K C H' L1 L2 n p q md m m' :=
  R.kp k t fun x hx => by
    rw [List.mem_singleton] at hx
    subst hx
    refine ⟨n1, n2, fun j hj => ?_⟩
    obtain ⟨⟨dx, a⟩, kvs, b, _⟩ := R.ok j hj
    obtain ⟨kvs', c, _⟩ := R.mo j hj
    exact ⟨ne_of hd a (by intro z; cases z), ne_of hd b (by intro z; cases z), ne_of hd c (by intro z; cases z)⟩
theorem Rack.same (R : Rack enc K C H L1 L2 n p q md m m') (s : Same H H') : Rack enc K C H' L1 L2 n p q md m m' :=
  R.kp (M := []) (Kp.of s) (TK.of s) fun x hx => by cases hx
/-- the k-th object's dict is another one -/
theorem Rack.setq {i : Nat} {mn : List (Int × α)} (R : Rack enc K C H L1 L2 n p q md m m') (hi : i < n) (k : Kp [q i] H H') (t : TK H H') (h : HoldAt enc K C H' (p i) (q i) mn) :
    Rack enc K C H' L1 L2 n p q md (fun j => if j = i then mn else m j) m' := by
  obtain ⟨_, kvq, hq, _⟩ := R.ok i hi
  refine ⟨k _ _ (nin1 (ne_of R.l1 hq (by intro z; cases z))) R.l1, k _ _ (nin1 (ne_of R.l2 hq (by intro z; cases z))) R.l2, fun j hj => ?_, fun j hj => ?_, R.dq, R.dm, R.dx⟩
  · by_cases e : j = i
    · subst e
      simp only [if_true]
      exact h
    · simp only [if_neg e]
      obtain ⟨⟨dx, a⟩, _⟩ := R.ok j hj
      exact (R.ok j hj).kp k t (nin1 (ne_of a hq (by intro z; cases z))) (nin1 (R.dq j i hj hi e))
  · exact (R.mo j hj).kp k t (nin1 (fun z => R.dx i j hi hj z.symm))
theorem Rack.setm {i : Nat} {mn : List (Int × α)} (R : Rack enc K C H L1 L2 n p q md m m') (hi : i < n) (k : Kp [md i] H H') (t : TK H H') (h : DictAt enc K H' (md i) mn) :
    Rack enc K C H' L1 L2 n p q md m (fun j => if j = i then mn else m' j) := by
  obtain ⟨kvq, hq, _⟩ := R.mo i hi
  refine ⟨k _ _ (nin1 (ne_of R.l1 hq (by intro z; cases z))) R.l1, k _ _ (nin1 (ne_of R.l2 hq (by intro z; cases z))) R.l2, fun j hj => ?_, fun j hj => ?_, R.dq, R.dm, R.dx⟩
  · obtain ⟨⟨dx, a⟩, _⟩ := R.ok j hj
    exact (R.ok j hj).kp k t (nin1 (ne_of a hq (by intro z; cases z))) (nin1 (R.dx j i hj hi))
  · by_cases e : j = i
    · subst e
      simp only [if_true]
      exact h
    · simp only [if_neg e]
      exact (R.mo j hj).kp k t (nin1 (R.dm j i hj hi e))
/-- one more -/
theorem Rack.push {pn qn mdn : Addr} {mn : List (Int × α)} (R : Rack enc K C H L1 L2 n p q md m m') (k : Kp [L1, L2] H H') (t : TK H H') (h1 : H' L1 = some (.lst (((List.range n).map fun j => V.ref (p j)) ++ [V.ref pn]))) (h2 : H' L2 = some (.lst (((List.range n).map fun j => V.ref (md j)) ++ [V.ref mdn])))
    (hp : HoldAt enc K C H' pn qn mn) (hm : DictAt enc K H' mdn mn) (nq : H qn = none) (nm : H mdn = none) (nqm : qn ≠ mdn) :
    Rack enc K C H' L1 L2 (n + 1) (fun j => if j = n then pn else p j) (fun j => if j = n then qn else q j) (fun j => if j = n then mdn else md j) (fun j => if j = n then mn else m j) (fun j => if j = n then mn else m' j) := by
  have e1 : ∀ (f : Nat → Addr) (x : Addr), (List.range (n + 1)).map (fun j => V.ref (if j = n then x else f j)) = ((List.range n).map fun j => V.ref (f j)) ++ [V.ref x] := fun f x => by
    rw [List.range_succ, List.map_append, List.map_singleton, if_pos rfl]
    congr 1
    refine List.map_congr_left fun j hj => ?_
    rw [List.mem_range] at hj
    rw [if_neg (by omega)]
  have hq : ∀ j, j < n → q j ≠ qn ∧ q j ≠ mdn := fun j hj => by
    obtain ⟨_, kv, a, _⟩ := R.ok j hj
    exact ⟨ne_of_none a nq, ne_of_none a nm⟩
  have hmd : ∀ j, j < n → md j ≠ qn ∧ md j ≠ mdn := fun j hj => by
    obtain ⟨kv, a, _⟩ := R.mo j hj
    exact ⟨ne_of_none a nq, ne_of_none a nm⟩
  refine ⟨by rw [e1]; exact h1, by rw [e1]; exact h2, fun j hj => ?_, fun j hj => ?_, fun i j hi hj e => ?_, fun i j hi hj e => ?_, fun i j hi hj => ?_⟩
  · by_cases e : j = n
    · simp only [if_pos e]
      exact hp
    · simp only [if_neg e]
      obtain ⟨⟨dx, a⟩, kv, b, _⟩ := R.ok j (by omega)
      exact (R.ok j (by omega)).kp k t (nin2 (ne_of a R.l1 (by intro z; cases z)) (ne_of a R.l2 (by intro z; cases z))) (nin2 (ne_of b R.l1 (by intro z; cases z)) (ne_of b R.l2 (by intro z; cases z)))
  · by_cases e : j = n
    · simp only [if_pos e]
      exact hm
    · simp only [if_neg e]
      obtain ⟨kv, b, _⟩ := R.mo j (by omega)
      exact (R.mo j (by omega)).kp k t (nin2 (ne_of b R.l1 (by intro z; cases z)) (ne_of b R.l2 (by intro z; cases z)))
  · by_cases ei : i = n
    · have ej : ¬ j = n := by omega
      simp only [if_pos ei, if_neg ej]
      exact (hq j (by omega)).1.symm
    · by_cases ej : j = n
      · simp only [if_neg ei, if_pos ej]
        exact (hq i (by omega)).1
      · simp only [if_neg ei, if_neg ej]
        exact R.dq i j (by omega) (by omega) e
  · by_cases ei : i = n
    · have ej : ¬ j = n := by omega
      simp only [if_pos ei, if_neg ej]
      exact (hmd j (by omega)).2.symm
    · by_cases ej : j = n
      · simp only [if_neg ei, if_pos ej]
        exact (hmd i (by omega)).2
      · simp only [if_neg ei, if_neg ej]
        exact R.dm i j (by omega) (by omega) e
  · by_cases ei : i = n
    · by_cases ej : j = n
      · simp only [if_pos ei, if_pos ej]
        exact nqm
      · simp only [if_pos ei, if_neg ej]
        exact (hmd j (by omega)).1.symm
    · by_cases ej : j = n
      · simp only [if_neg ei, if_pos ej]
        exact (hq i (by omega)).2
      · simp only [if_neg ei, if_neg ej]
        exact R.dx i j (by omega) (by omega)
end
section
variable {α : Type} {enc : α → PyData} {K : PySem.W.Frag} {C : Addr} {H H' : Hp}
theorem HoldAt.lst {d p q : Addr} {zs : List V} {m : List (Int × α)} (h : HoldAt enc K C H p q m) (k : Kp [d] H H') (t : TK H H') (hd : H d = some (.lst zs)) : HoldAt enc K C H' p q m := by
  obtain ⟨⟨dx, a⟩, kv, b, _⟩ := id h
  exact h.kp k t (nin1 (ne_of a hd (by intro z; cases z))) (nin1 (ne_of b hd (by intro z; cases z)))
theorem HoldAt.same {p q : Addr} {m : List (Int × α)} (h : HoldAt enc K C H p q m) (s : Same H H') : HoldAt enc K C H' p q m :=
  h.kp (M := []) (Kp.of s) (TK.of s) (by simp) (by simp)
theorem DictAt.lst {d q : Addr} {zs : List V} {m : List (Int × α)} (h : DictAt enc K H q m) (k : Kp [d] H H') (t : TK H H') (hd : H d = some (.lst zs)) : DictAt enc K H' q m := by
  obtain ⟨kv, b, _⟩ := id h
  exact h.kp k t (nin1 (ne_of b hd (by intro z; cases z)))
theorem DictAt.same {q : Addr} {m : List (Int × α)} (h : DictAt enc K H q m) (s : Same H H') : DictAt enc K H' q m :=
  h.kp (M := []) (Kp.of s) (TK.of s) (by simp)
theorem Deck.same {d f : Addr} {n : Int} (h : Deck H d f n) (s : Same H H') : Deck H' d f n := h.kp (M := []) (Kp.of s) (by simp) (by simp)
/-- a dict beside was written -/
theorem Deck.dict {d f q : Addr} {n : Int} {m : List (Int × α)} (h : Deck H d f n) (k : Kp [q] H H') (hq : DictAt enc K H q m) : Deck H' d f n := by
  obtain ⟨kv, b, _⟩ := hq
  obtain ⟨zs, h1⟩ := h.lst
  obtain ⟨zf, h2⟩ := h.lst2
  exact h.kp k (nin1 (ne_of h1 b (by intro z; cases z))) (nin1 (ne_of h2 b (by intro z; cases z)))
variable {La Lb : Addr} {n : Nat} {p q md : Nat → Addr} {m m' : Nat → List (Int × α)}
/-- the k-th object's dict, the k-th dict and a list beside are others -/
theorem Rack.set2 {d : Addr} {zs : List V} {i : Nat} {mn mn' : List (Int × α)} (R : Rack enc K C H La Lb n p q md m m') (hi : i < n) (k : Kp [d, q i, md i] H H') (t : TK H H') (hd : H d = some (.lst zs)) (n1 : d ≠ La) (n2 : d ≠ Lb)
    (h : HoldAt enc K C H' (p i) (q i) mn) (h' : DictAt enc K H' (md i) mn') :
    Rack enc K C H' La Lb n p q md (fun j => if j = i then mn else m j) (fun j => if j = i then mn' else m' j) := by
  obtain ⟨_, kvq, hq, _⟩ := R.ok i hi
  obtain ⟨kvm, hm, _⟩ := R.mo i hi
  have nin : ∀ {x : Addr}, x ≠ d → x ≠ q i → x ≠ md i → x ∉ [d, q i, md i] := fun a b c z => by
    rcases List.mem_cons.mp z with z | z
    · exact a z
    · exact nin2 b c z
  refine ⟨k _ _ (nin n1.symm (ne_of R.l1 hq (by intro z; cases z)) (ne_of R.l1 hm (by intro z; cases z))) R.l1, k _ _ (nin n2.symm (ne_of R.l2 hq (by intro z; cases z)) (ne_of R.l2 hm (by intro z; cases z))) R.l2, fun j hj => ?_, fun j hj => ?_, R.dq, R.dm, R.dx⟩
  · by_cases e : j = i
    · subst e
      simp only [if_true]
      exact h
    · simp only [if_neg e]
      obtain ⟨⟨dx, a⟩, kv, b, _⟩ := R.ok j hj
      exact (R.ok j hj).kp k t (nin (ne_of a hd (by intro z; cases z)) (ne_of a hq (by intro z; cases z)) (ne_of a hm (by intro z; cases z))) (nin (ne_of b hd (by intro z; cases z)) (R.dq j i hj hi e) (R.dx j i hj hi))
  · by_cases e : j = i
    · subst e
      simp only [if_true]
      exact h'
    · simp only [if_neg e]
      obtain ⟨kv, b, _⟩ := R.mo j hj
      exact (R.mo j hj).kp k t (nin (ne_of b hd (by intro z; cases z)) (fun z => R.dx i j hi hj z.symm) (R.dm j i hj hi e))
end
theorem at3 {x y z : V} {r : Int} (h0 : 0 ≤ r) (h1 : r < 3) : ∃ v, atI [x, y, z] r = some v ∧ (v = x ∨ v = y ∨ v = z) := by
  have h : r = 0 ∨ r = 1 ∨ r = 2 := by omega
  rcases h with rfl | rfl | rfl
  · exact ⟨x, rfl, .inl rfl⟩
  · exact ⟨y, rfl, .inr (.inl rfl)⟩
  · exact ⟨z, rfl, .inr (.inr rfl)⟩
theorem at5 {a b c d e : Int} {r : Int} (h0 : 0 ≤ r) (h1 : r < 5) : ∃ v : Int, atI [V.int a, .int b, .int c, .int d, .int e] r = some (.int v) := by
  have h : r = 0 ∨ r = 1 ∨ r = 2 ∨ r = 3 ∨ r = 4 := by omega
  rcases h with rfl | rfl | rfl | rfl | rfl <;> exact ⟨_, rfl⟩
theorem atR {n : Nat} {f : Nat → Addr} {r : Int} (h0 : 0 ≤ r) (h1 : r < n) : atI ((List.range n).map fun j => V.ref (f j)) r = some (.ref (f r.toNat)) := by
  have e : ((r.toNat : Nat) : Int) = r := by omega
  have := atI_nat (xs := (List.range n).map fun j => V.ref (f j)) (j := r.toNat) (v := .ref (f r.toNat)) (by
    rw [List.getElem?_map, List.getElem?_range (by omega)]
    rfl)
  rw [e] at this
  exact this
def spLaw (K : PySem.W.Frag) : Sp := fun vs H Q _ => ∃ (a : Addr) (ns : List Int), vs = [.ref a] ∧ SqL K H a (ns.map V.int) ∧ ns.length ≤ 63 ∧ ∀ H', Q (.bl true) H'
/-! ### lists of data -/
def LstAt (K : PySem.W.Frag) (H : Hp) (a : Addr) (ds : List PyData) : Prop := ∃ xs, H a = some (.lst xs) ∧ RpL K H ds xs
section
variable {K : PySem.W.Frag} {H H' : Hp}
theorem LstAt.kp {M : List Addr} {a : Addr} {ds : List PyData} (h : LstAt K H a ds) (k : Kp M H H') (t : TK H H') (n : a ∉ M) : LstAt K H' a ds := by
  obtain ⟨xs, h1, h2⟩ := h
  exact ⟨xs, k _ _ n h1, RpL.tk t _ _ h2⟩
theorem LstAt.same {a : Addr} {ds : List PyData} (h : LstAt K H a ds) (s : Same H H') : LstAt K H' a ds := h.kp (M := []) (Kp.of s) (TK.of s) (by simp)
theorem LstAt.lst {a : Addr} {ds : List PyData} (h : LstAt K H a ds) : ∃ zs, H a = some (.lst zs) := ⟨_, h.choose_spec.1⟩
theorem RpL.app : ∀ {ds es : List PyData} {xs ys : List V}, RpL K H ds xs → RpL K H es ys → RpL K H (ds ++ es) (xs ++ ys)
  | [], es, xs, ys, h1, h2 => by
    unfold RpL at h1
    subst h1
    exact h2
  | d :: ds, es, xs, ys, h1, h2 => by
    unfold RpL at h1
    obtain ⟨v, r, rfl, a, b⟩ := h1
    show RpL K H (d :: (ds ++ es)) (v :: (r ++ ys))
    exact RpL.cons a (RpL.app b h2)
theorem RpL.take : ∀ (k : Nat) {ds : List PyData} {xs : List V}, RpL K H ds xs → RpL K H (ds.take k) (xs.take k)
  | 0, ds, xs, _ => by
    rw [List.take_zero, List.take_zero]
    exact RpL.nil
  | k + 1, [], xs, h => by
    unfold RpL at h
    subst h
    exact RpL.nil
  | k + 1, d :: ds, xs, h => by
    unfold RpL at h
    obtain ⟨v, r, rfl, a, b⟩ := h
    exact RpL.cons a (RpL.take k b)
theorem RpL.drop : ∀ (k : Nat) {ds : List PyData} {xs : List V}, RpL K H ds xs → RpL K H (ds.drop k) (xs.drop k)
  | 0, ds, xs, h => h
  | k + 1, [], xs, h => by
    unfold RpL at h
    subst h
    exact RpL.nil
  | k + 1, d :: ds, xs, h => by
    unfold RpL at h
    obtain ⟨v, r, rfl, a, b⟩ := h
    exact RpL.drop k b
theorem inV_int {k : Int} : ∀ ns : List Int, inV (.int k) (ns.map V.int) = decide (k ∈ ns)
  | [] => by simp [inV]
  | n :: ns => by
    have h := inV_int (k := k) ns
    unfold inV at h ⊢
    rw [List.map_cons, List.any_cons, h]
    show ((n == k) || _) = _
    by_cases e : n = k
    · simp [e]
    · have e2 : ¬ k = n := fun z => e z.symm
      simp [e, e2]
theorem flat_ints (ns : List Int) : (ns.map V.int).all flatV = true := by
  rw [List.all_eq_true]
  intro x hx
  obtain ⟨n, _, rfl⟩ := List.mem_map.mp hx
  rfl
theorem set_wipe {σ : L2.St} {i : Nat} {x : Option V} : (wipe σ [i]).set i x = σ.set i x := by
  show (σ.set i none).set i x = _
  rw [List.set_set]
theorem wipe_set {σ : L2.St} {i : Nat} {x : Option V} : wipe (σ.set i x) [i] = wipe σ [i] := by
  show (σ.set i x).set i none = σ.set i none
  rw [List.set_set]
/-- [x for x in xs if test] -/
theorem filt_lc {β : Type} {enc : β → PyData} {tt : TT} {i : Nat} {σ : L2.St} {H2 : Hp} {S D : Addr} {xs : List V} {L : List β} {Qd : Hp → Prop} (p : β → Bool) (hS : H2 S = some (.lst xs)) (hr : RpL K H2 (L.map enc) xs) (hD : H2 D = none) (hσ : i < σ.length) (hl : L.length ≤ 1000000)
    (htt : ∀ (b : β) (x : V) (H' : Hp) (Q : Bool → Hp → Prop), b ∈ L → Rp K H' (enc b) x → Same H2 H' → Q (p b) H' → tt (σ.set i (some x)) H' Q)
    (hd : ∀ (H' : Hp) (ys : List V), Same H2 H' → H' D = some (.lst ys) → RpL K H' ((L.filter p).map enc) ys → Qd H') :
    ∃ W : Nat → Nat → Hp → Prop, (∃ m, W 0 m (upd H2 D (.lst []))) ∧ ∀ j m H, W j m H →
      ((Itl K S).stop j H ∧ Qd H) ∨ ((Itl K S).go j H ∧ ∃ Nx : Hp → Prop, (∀ H', Nx H' → ∃ m', m' < m ∧ W (j + 1) m' H') ∧ ∀ x H', (Itl K S).yld j H x H' → gName i x (wipe σ [i]) H' fun σ2 H2 => wipe σ2 [i] = wipe σ [i] ∧ tt σ2 H2 fun b H3 =>
        if b = true then tVar i σ2 H3 fun y H4 => ∃ acc, H4 D = some (.lst acc) ∧ acc.length < sizeLine ∧ Nx (upd H4 D (.lst (acc ++ [y]))) else Nx H3) := by
  refine lc_list (K := K) (a := S) (xs := xs) (fun j H => ∃ ys, Same H2 H ∧ H D = some (.lst ys) ∧ RpL K H (((L.take j).filter p).map enc) ys)
    ⟨[], (L2.Same.refl H2).new hD, upd_same, RpL.nil⟩ (fun j H _ ⟨ys, s, _, _⟩ => SqL.of (s _ _ hS)) ?_ ?_
  · rintro j x H3 hx ⟨ys, s3, hD3, hr3⟩
    have hlen := RpL.len _ _ hr
    have hj : j < L.length := by
      have q := (List.getElem?_eq_some_iff.mp hx).1
      rw [hlen, List.length_map] at q
      exact q
    obtain ⟨v, ev, rv⟩ := RpL.get _ _ hr j (enc L[j]) (by rw [List.getElem?_map, List.getElem?_eq_getElem hj]; rfl)
    have ex : v = x := Option.some.inj (ev.symm.trans hx)
    rw [ex] at rv
    have rx := Rp.tk (TK.of s3) _ _ rv
    show wipe ((wipe σ [i]).set i (some x)) [i] = wipe σ [i] ∧ _
    rw [set_wipe]
    refine ⟨wipe_set, ?_⟩
    have hly : ys.length < sizeLine := by
      have := RpL.len _ _ hr3
      rw [List.length_map] at this
      have h2 := List.length_filter_le p (L.take j)
      rw [List.length_take] at h2
      exact Nat.lt_of_le_of_lt (show ys.length ≤ 1000000 by omega) (by decide)
    refine htt L[j] x H3 _ (List.getElem_mem hj) rx s3 ?_
    have et : L.take (j + 1) = L.take j ++ [L[j]] := List.take_succ_eq_append_getElem hj
    cases e : p L[j] with
    | false =>
      refine iteF ⟨ys, s3, hD3, ?_⟩
      rw [et, List.filter_append, List.filter_cons, e]
      simpa using hr3
    | true =>
      refine iteT ⟨x, ?_, ys, hD3, hly, ys ++ [x], s3.wrn hD, upd_same, ?_⟩
      · rw [List.getElem?_set_self hσ]
      · have tE : TK H3 (upd H3 D (.lst (ys ++ [x]))) := (TK.refl _).wr hD3 rfl
        rw [et, List.filter_append, List.filter_cons, e, List.map_append]
        exact RpL.app (RpL.tk tE _ _ hr3) (RpL.cons (Rp.tk tE _ _ rx) RpL.nil)
  · rintro H3 ⟨ys, s3, hD3, hr3⟩
    have hlen := RpL.len _ _ hr
    rw [hlen, List.length_map, List.take_length] at hr3
    exact hd H3 ys s3 hD3 hr3
/-- [number of x for x in xs] -/
theorem mapI_lc {β : Type} {enc : β → PyData} {te : TE} {i : Nat} {σ : L2.St} {H2 : Hp} {S D : Addr} {xs : List V} {L : List β} {Qd : Hp → Prop} (f : β → Int) (hS : H2 S = some (.lst xs)) (hr : RpL K H2 (L.map enc) xs) (hD : H2 D = none) (hl : L.length ≤ 1000000)
    (hte : ∀ (b : β) (x : V) (H' : Hp) (Q : VK), b ∈ L → Rp K H' (enc b) x → Same H2 H' → Q (.int (f b)) H' → te (σ.set i (some x)) H' Q)
    (hd : ∀ (H' : Hp), Same H2 H' → H' D = some (.lst ((L.map f).map V.int)) → Qd H') :
    ∃ W : Nat → Nat → Hp → Prop, (∃ m, W 0 m (upd H2 D (.lst []))) ∧ ∀ j m H, W j m H →
      ((Itl K S).stop j H ∧ Qd H) ∨ ((Itl K S).go j H ∧ ∃ Nx : Hp → Prop, (∀ H', Nx H' → ∃ m', m' < m ∧ W (j + 1) m' H') ∧ ∀ x H', (Itl K S).yld j H x H' → gName i x (wipe σ [i]) H' fun σ2 H2 => wipe σ2 [i] = wipe σ [i] ∧ tYes σ2 H2 fun b H3 =>
        if b = true then te σ2 H3 fun y H4 => ∃ acc, H4 D = some (.lst acc) ∧ acc.length < sizeLine ∧ Nx (upd H4 D (.lst (acc ++ [y]))) else Nx H3) := by
  refine lc_list (K := K) (a := S) (xs := xs) (fun j H => Same H2 H ∧ H D = some (.lst (((L.take j).map f).map V.int)))
    ⟨(L2.Same.refl H2).new hD, upd_same⟩ (fun j H _ ⟨s, _⟩ => SqL.of (s _ _ hS)) ?_ ?_
  · rintro j x H3 hx ⟨s3, hD3⟩
    have hlen := RpL.len _ _ hr
    have hj : j < L.length := by
      have q := (List.getElem?_eq_some_iff.mp hx).1
      rw [hlen, List.length_map] at q
      exact q
    obtain ⟨v, ev, rv⟩ := RpL.get _ _ hr j (enc L[j]) (by rw [List.getElem?_map, List.getElem?_eq_getElem hj]; rfl)
    have ex : v = x := Option.some.inj (ev.symm.trans hx)
    rw [ex] at rv
    have rx := Rp.tk (TK.of s3) _ _ rv
    show wipe ((wipe σ [i]).set i (some x)) [i] = wipe σ [i] ∧ _
    rw [set_wipe]
    refine ⟨wipe_set, tYes_t (iteT ?_)⟩
    refine hte L[j] x H3 _ (List.getElem_mem hj) rx s3 ⟨_, hD3, ?_, s3.wrn hD, ?_⟩
    · rw [List.length_map, List.length_map, List.length_take]
      exact Nat.lt_of_le_of_lt (show min j L.length ≤ 1000000 by omega) (by decide)
    · rw [upd_same, List.take_succ_eq_append_getElem hj, List.map_append, List.map_append]
      rfl
  · rintro H3 ⟨s3, hD3⟩
    have hlen := RpL.len _ _ hr
    rw [hlen, List.length_map, List.take_length] at hD3
    exact hd H3 s3 hD3
end
section
variable {K : PySem.W.Frag} {H H' : Hp}
/-- [e for x in xs], each e data -/
theorem mapD_it {J : It} {G : Hp → Prop} {β : Type} {enc : β → PyData} {te : TE} {i : Nat} {σ : L2.St} {H2 : Hp} {D : Addr} {xs : List V} {L : List β} {Qd : Hp → Prop} (w : Walk J xs.length G (YAt xs)) (hG : ∀ H', Same H2 H' → G H') (g : β → PyData) (hr : RpL K H2 (L.map enc) xs) (hD : H2 D = none) (hl : L.length ≤ 1000000)
    (hte : ∀ (b : β) (x : V) (H' : Hp) (Q : VK), b ∈ L → Rp K H' (enc b) x → Same H2 H' → (∀ (H'' : Hp) (y : V), Same H' H'' → Rp K H'' (g b) y → Q y H'') → te (σ.set i (some x)) H' Q)
    (hd : ∀ (H' : Hp) (ys : List V), Same H2 H' → H' D = some (.lst ys) → RpL K H' (L.map g) ys → Qd H') :
    ∃ W : Nat → Nat → Hp → Prop, (∃ m, W 0 m (upd H2 D (.lst []))) ∧ ∀ j m H, W j m H →
      (J.stop j H ∧ Qd H) ∨ (J.go j H ∧ ∃ Nx : Hp → Prop, (∀ H', Nx H' → ∃ m', m' < m ∧ W (j + 1) m' H') ∧ ∀ x H', J.yld j H x H' → gName i x (wipe σ [i]) H' fun σ2 H2 => wipe σ2 [i] = wipe σ [i] ∧ tYes σ2 H2 fun b H3 =>
        if b = true then te σ2 H3 fun y H4 => ∃ acc, H4 D = some (.lst acc) ∧ acc.length < sizeLine ∧ Nx (upd H4 D (.lst (acc ++ [y]))) else Nx H3) := by
  refine lc_it w (fun j H => ∃ ys, Same H2 H ∧ H D = some (.lst ys) ∧ RpL K H ((L.take j).map g) ys)
    ⟨[], (L2.Same.refl H2).new hD, upd_same, RpL.nil⟩ (fun j H _ ⟨ys, s, _⟩ => hG H s) ?_ ?_
  · rintro j x H3 H3' hj ⟨ys, s3, hD3, hr3⟩ ⟨rfl, hx⟩
    have hlen := RpL.len _ _ hr
    rw [List.length_map] at hlen
    have hj : j < L.length := by omega
    obtain ⟨v, ev, rv⟩ := RpL.get _ _ hr j (enc L[j]) (by rw [List.getElem?_map, List.getElem?_eq_getElem hj]; rfl)
    have ex : v = x := Option.some.inj (ev.symm.trans hx)
    rw [ex] at rv
    have rx := Rp.tk (TK.of s3) _ _ rv
    show wipe ((wipe σ [i]).set i (some x)) [i] = wipe σ [i] ∧ _
    rw [set_wipe]
    refine ⟨wipe_set, tYes_t (iteT ?_)⟩
    refine hte L[j] x H3' _ (List.getElem_mem hj) rx s3 fun H4 y s4 ry => ⟨ys, s4 _ _ hD3, ?_, ys ++ [y], (s3.trans s4).wrn hD, upd_same, ?_⟩
    · have := RpL.len _ _ hr3
      rw [List.length_map, List.length_take] at this
      exact Nat.lt_of_le_of_lt (show ys.length ≤ 1000000 by omega) (by decide)
    · have tE : TK H4 (upd H4 D (.lst (ys ++ [y]))) := (TK.refl _).wr (s4 _ _ hD3) rfl
      rw [List.take_succ_eq_append_getElem hj, List.map_append]
      exact RpL.app (RpL.tk ((TK.of s4).trans tE) _ _ hr3) (RpL.cons (Rp.tk tE _ _ ry) RpL.nil)
  · rintro H3 ⟨ys, s3, hD3, hr3⟩
    have hlen := RpL.len _ _ hr
    rw [hlen, List.length_map, List.take_length] at hr3
    exact hd H3 ys s3 hD3 hr3
theorem RpL.ints : ∀ {ns : List Int} {ys : List V}, RpL K H (ns.map PyData.int) ys → ys = ns.map V.int
  | [], ys, h => by
    unfold List.map RpL at h
    exact h
  | n :: ns, ys, h => by
    rw [List.map_cons] at h
    unfold RpL at h
    obtain ⟨v, r, rfl, h1, h2⟩ := h
    unfold Rp at h1
    rw [RpL.ints h2, h1]
    rfl
theorem dp_ints : ∀ (ns : List Int), DpAll K H (ns.map V.int) (ns.map PyData.int)
  | [] => .nil
  | n :: ns => .cons (.int n) (dp_ints ns)
theorem LstAt.dict {α : Type} {enc : α → PyData} {a q : Addr} {ds : List PyData} {m : List (Int × α)} (h : LstAt K H a ds) (k : Kp [q] H H') (t : TK H H') (hq : DictAt enc K H q m) : LstAt K H' a ds := by
  obtain ⟨xs, h1, _⟩ := id h
  obtain ⟨kv, h2, _⟩ := hq
  exact h.kp k t (nin1 (ne_of h1 h2 (by intro z; cases z)))
theorem dep_ints (ns : List Int) : dep (.tuple (ns.map PyData.int)) ≤ 1 := by
  unfold dep
  have := deps_map_le (c := 0) (f := PyData.int) ns fun x _ => Nat.le_refl _
  omega
end
end Wn

namespace Wn
open PySem L2
def top (i : Nat) : Stmt := PySem.Challenge.pw_wrapnets_k18_whole_tables_in_any_order.main.body.getD i (.Pass ⟨0, 0, 0, 0⟩)
abbrev sMixed : Stmt := top 4
abbrev sDeck : Stmt := top 5
abbrev sNext : Stmt := top 6
abbrev sSame : Stmt := top 7
section
variable {P : Program} {w : World} {K : PySem.W.Frag} {mg : Str → Option Value} {base : Heap}
theorem scMixed : FnScope ["_law_cell", "_law_at", "_law_one"] ["_law_cell", "_law_at"] (defScope sMixed) := ⟨rfl, rfl, rfl, by decide +kernel, rfl, by decide +kernel, by decide +kernel⟩
theorem ok_mixed {f : Addr} {fd : FuncData} (F : Fun K "_law_mixed" "_law_mixed" sMixed f fd) : FnOk P w K mg base CX0 1 f fd ["_law_cell", "_law_at"] spMixed := by
  refine F.ok scMixed (fun vs H Q E h => ?_) (fun cdv A outer s H vs Q E hr h => ?_)
  · obtain ⟨c, a, rfl, _⟩ := h
    rfl
  · obtain ⟨c, a, rfl, ha, hb, k⟩ := h
    refine ⟨_, pss_cons (ps_set (i := 2) scMixed.nd rfl (Or.inl rfl) (pe_op op_mod (pe_op op_add (pe_op op_add (pe_op op_mul (pe_op op_mod (pv 0) pe_int) pe_int)
      (pe_op op_mul (pe_op op_mul (pe_op op_add (pv 1) pe_int) (pe_op op_add (pv 1) pe_int)) pe_int)) pe_int) pe_int))
      (pss_one (ps_ret (pe_op op_fdiv (pe_op op_mod (pe_op op_mul (pv 2) (pv 2)) pe_int) pe_int))), ?_⟩
    refine ⟨_, rfl, _, _, rfl, rfl, (by show (0 : Int) < 2147483629; decide), _, _, rfl, rfl, .inr ⟨by decide, by decide⟩, _, rfl, _, _, rfl, rfl, _, rfl, _, _, rfl, rfl, _, _, rfl, rfl, .inl ⟨by omega, by omega⟩, _, _, rfl, rfl, .inr ⟨by decide, by decide⟩,
      _, _, rfl, rfl, _, _, rfl, rfl, _, _, rfl, rfl, (by show (0 : Int) < 2147483647; decide), ?_⟩
    refine ⟨_, rfl, _, rfl, _, _, rfl, rfl, .inl ⟨?_, ?_⟩, _, _, rfl, rfl, (by show (0 : Int) < 2147483629; decide), _, _, rfl, rfl, ⟨by decide, by decide⟩, k _⟩
    · have := Int.emod_nonneg (c % 2147483629 * 48271 + (a + 1) * (a + 1) * 7919 + 11) (show (2147483647 : Int) ≠ 0 by decide)
      omega
    · have := Int.emod_lt_of_pos (c % 2147483629 * 48271 + (a + 1) * (a + 1) * 7919 + 11) (show (0 : Int) < 2147483647 by decide)
      omega
theorem scNext : FnScope ["_law_deck_here", "_law_many", "_law_at"] ["_law_deck_here", "_law_many"] (defScope sNext) := ⟨rfl, rfl, rfl, by decide +kernel, rfl, by decide +kernel, by decide +kernel⟩
theorem ok_next {f : Addr} {fd : FuncData} (F : Fun K "_law_next" "_law_next" sNext f fd) (zL : mg "len" = none) (M : Cd P w K mg base 1 "_law_mixed" ["_law_cell", "_law_at"] spMixed) : FnOk P w K mg base CX0 2 f fd ["_law_deck_here", "_law_many"] spNext := by
  obtain ⟨fM, fdM, GM, mM, kM, bM⟩ := M
  refine F.ok scNext (fun vs H Q E h => ?_) (fun cdv A outer s H vs Q E hr h => ?_)
  · obtain ⟨d, f, m, n, rfl, _⟩ := h
    rfl
  · obtain ⟨d, f, m, n, rfl, hm, hn, ⟨a, wh, xs, hd, hf, a0, an, hx⟩, k⟩ := h
    have ndf : f ≠ d := fun z => by
      rw [z, hd] at hf
      have := congrArg (fun o => match o with | some (HO.lst (_ :: _ :: .ref _ :: _)) => true | _ => false) hf
      simp only at this
      cases xs with
      | nil => cases hf
      | cons x xs => cases xs with
        | nil => cases hf
        | cons y xs => cases xs with
          | nil => cases hf
          | cons z xs => cases hf
    refine ⟨_, pss_cons (ps_set (i := 2) scNext.nd rfl (Or.inl rfl) (pe_ix ix_list (pv 0) pe_int (fun _ _ => rfl)))
      (pss_cons (ps_asg (pe_op op_add (pv 2) pe_int) (pg_sub (pv 0) pe_int set_list))
      (pss_cons (ps_if (pt_cmpR op_lt (pv 2) (pe_callB call_len (by rfl) zL PySem.boot_len (pa_cons (pe_ix ix_list (pv 0) pe_int (fun _ _ => rfl)) pa_nil)) (nomark _))
        (pss_one (ps_ret (pe_op op_mod (pe_ix ix_list (pe_ix ix_list (pv 0) pe_int (fun _ _ => rfl)) (pv 2) (fun _ _ => rfl)) (pv 1)))) pss_nil)
      (pss_one (ps_ret (pe_op op_mod (pe_call GM hr rfl mM kM bM .nil pass0 (pa_cons (pe_ix ix_list (pv 0) pe_int (fun _ _ => rfl)) (pa_cons (pv 2) pa_nil))) (pv 1)))))), ?_⟩
    have hd2 : upd H d (.lst [.int (a + 1), .int wh, .ref f]) d = some (.lst [.int (a + 1), .int wh, .ref f]) := upd_same
    have hf2 : upd H d (.lst [.int (a + 1), .int wh, .ref f]) f = some (.lst (xs.map V.int)) := (upd_ne ndf).trans hf
    have hk : Kp [d] H (upd H d (.lst [.int (a + 1), .int wh, .ref f])) := (Kp.refl _ _).wr (List.mem_singleton.mpr rfl)
    have hD : Deck (upd H d (.lst [.int (a + 1), .int wh, .ref f])) d f (n + 1) := ⟨a + 1, wh, xs, hd2, hf2, by omega, by omega, hx⟩
    refine ⟨_, rfl, d, _, _, .int a, rfl, rfl, SqL.of hd, rfl, ?_⟩
    refine ⟨_, rfl, _, _, rfl, rfl, _, rfl, d, _, _, 0, rfl, rfl, hd, rfl, ?_⟩
    refine ⟨_, rfl, _, rfl, d, _, _, .ref f, rfl, rfl, SqL.of hd2, rfl, _, _, rfl, .inl ⟨_, SqL.of hf2, rfl⟩, _, _, rfl, rfl, _, rfl, ?_⟩
    refine ite2 (fun hl => ?_) (fun _ => ?_)
    · have hl := of_decide_eq_true hl
      rw [List.length_map] at hl
      have hj : a.toNat < xs.length := by omega
      have ha : ((a.toNat : Nat) : Int) = a := by omega
      refine ⟨_, rfl, d, _, _, .ref f, rfl, rfl, SqL.of hd2, rfl, _, rfl, f, _, _, .int (xs[a.toNat]), rfl, rfl, SqL.of hf2, ?_, _, rfl, _, _, rfl, rfl, hm, ?_⟩
      · have := atI_nat (xs := xs.map V.int) (j := a.toNat) (v := .int (xs[a.toNat])) (by simp [hj])
        rw [ha] at this
        exact this
      · exact k _ _ (Int.emod_nonneg _ (by omega)) (Int.emod_lt_of_pos _ hm) hk hD
    · refine ⟨_, rfl, d, _, _, .int wh, rfl, rfl, SqL.of hd2, rfl, _, rfl, wh, a, rfl, by omega, by omega, fun r => ?_⟩
      exact ⟨_, rfl, _, _, rfl, rfl, hm, k _ _ (Int.emod_nonneg _ (by omega)) (Int.emod_lt_of_pos _ hm) hk hD⟩
end
end Wn
namespace Wn
open PySem L2
section
variable {P : Program} {w : World} {K : PySem.W.Frag} {mg : Str → Option Value} {base : Heap}
theorem scDeck : FnScope ["_law_script", "_law_found", "_law_whole", "_law_k", "_law_rest", "_law_at"] ["_law_script"] (defScope sDeck) := ⟨rfl, rfl, rfl, by decide +kernel, rfl, by decide +kernel, by decide +kernel⟩
def restOf (σ : L2.St) (_ : Hp) : Nat := match σ[4]? with | some (some (V.int r)) => r.toNat | _ => 0
theorem ok_deck {f : Addr} {fd : FuncData} (F : Fun K "_law_deck" "_law_deck" sDeck f fd) (zL : mg "len" = none) (zR : mg "range" = none) (zM : mg "min" = none) (M : Cd P w K mg base 1 "_law_mixed" ["_law_cell", "_law_at"] spMixed) : FnOk P w K mg base CX0 2 f fd ["_law_script"] (spDeck K) := by
  obtain ⟨fM, fdM, GM, mM, kM, bM⟩ := M
  refine F.ok scDeck (fun vs H Q E h => ?_) (fun cdv A outer s H vs Q E hr h => ?_)
  · obtain ⟨a, ns, rfl, _⟩ := h
    rfl
  · obtain ⟨a, ns, rfl, hS, hlen, k⟩ := h
    refine ⟨_, pss_cons (ps_set (i := 1) scDeck.nd rfl (Or.inl rfl) (pe_lst pa_nil)) (pss_cons (ps_set (i := 2) scDeck.nd rfl (Or.inl rfl) (pe_callB call_len (by rfl) zL PySem.boot_len (pa_cons (pv 0) pa_nil)))
      (pss_cons (ps_for PassesOwn.never rfl (pi_range1 rfl zR (pa_cons (pe_callB (call_min2 rfl) (by rfl) zM (by decide +kernel) (pa_cons (pe_callB call_len (by rfl) zL PySem.boot_len (pa_cons (pv 0) pa_nil)) (pa_cons pe_int pa_nil))) pa_nil)) (pg_name (i := 3) scDeck.nd rfl (Or.inr rfl))
        (pss_cons (ps_set (i := 4) scDeck.nd rfl (Or.inr rfl) (pe_ix ix_list (pv 0) (pv 3) (fun _ _ => rfl)))
        (pss_cons (ps_if (pt_cmpR op_ge (pv 4) (pe_op op_pow pe_int pe_int) (nomark _))
          (pss_one (ps_while PassesOwn.never (PW.pt (pw_and (pt_cmpR op_gt (pv 4) pe_int (nomark _)) (pw_and1 (pt_cmpR op_lt (pe_callB call_len (by rfl) zL PySem.boot_len (pa_cons (pv 1) pa_nil)) pe_int (nomark _)))))
            (pss_cons (ps_expr (pe_bm PySem.F.plainAttrs_list PySem.F.slot_list_append PySem.F.type_list_append mt_append (pv 1) (pa_cons (pe_op op_mod (pv 4) pe_int) pa_nil)))
            (pss_one (ps_set (i := 4) scDeck.nd rfl (Or.inr rfl) (pe_op op_fdiv (pv 4) pe_int))))))
          (pss_one (ps_expr (pe_bm PySem.F.plainAttrs_list PySem.F.slot_list_extend PySem.F.type_list_extend mt_extend (pv 1) (pa_cons
            (pe_lc (own := [("_law_at", 5)]) (g := gName 5) (tt := tYes) rfl scDeck.nd (pi_range1 rfl zR (pa_cons pe_int pa_nil)) (blkOk_by (N := ["_law_script", "_law_found", "_law_whole", "_law_k", "_law_rest", "_law_at"]) (sc := defScope sDeck) (by decide +kernel))
              (fun _ _ _ _ _ => pg_name (i := 5) scDeck.nd rfl (Or.inl rfl)) (fun _ _ _ _ _ => pts_nil)
              (fun _ _ _ _ _ => pe_call GM hr rfl mM kM bM .nil pass0 (pa_cons (pv 4) (pa_cons (pe_op op_add (pe_op op_mul pe_int (pv 3)) (pv 5)) pa_nil)))) pa_nil)))))
        (pss_one (ps_set (i := 2) scDeck.nd rfl (Or.inl rfl) (pe_op op_mod (pe_op op_add (pe_op op_mul (pv 2) pe_int) (pe_ix ix_list (pv 0) (pv 3) (fun _ _ => rfl))) pe_int))))))
      (pss_one (ps_ret (pe_lst (pa_cons pe_int (pa_cons (pv 2) (pa_cons (pv 1) pa_nil)))))))), ?_⟩
    refine ⟨Nat.zero_le _, fun l hl => ?_⟩
    have s0 : Same H (upd H l (.lst [])) := (L2.Same.refl H).new hl
    have hS0 := s0.seq hS
    refine ⟨_, rfl, _, _, rfl, .inl ⟨_, hS0, rfl⟩, ?_⟩
    refine ⟨_, rfl, _, _, rfl, .inl ⟨_, hS0, rfl⟩, _, _, rfl, _, rfl, ?_⟩
    have hn63 : (ns.map V.int).length ≤ 63 := by rw [List.length_map]; exact hlen
    refine ⟨by split <;> omega, by split <;> omega, ?_⟩
    refine for_range (fun i σ H' => ∃ (wh : Int) (v3 v4 v5 : Option V) (xs : List Int), σ = [some (.ref a), some (.ref l), some (.int wh), v3, v4, v5] ∧ Same H H' ∧ H' l = some (.lst (xs.map V.int)) ∧ xs.length ≤ 3000 + 6 * i)
      ⟨_, _, _, _, [], rfl, s0, upd_same, Nat.zero_le _⟩ ?_ ?_
    · rintro i σ H1 hi ⟨wh, v3, v4, v5, xs, rfl, s1, hl1, hxs⟩
      have hi2 : i < ns.length ∧ i < 63 := by
        rw [List.length_map] at hi
        split at hi <;> omega
      have hat : atI (ns.map V.int) (0 + (i : Int)) = some (V.int ns[i]) := by
        rw [Int.zero_add]
        exact atI_nat (by simp [hi2.1])
      have hS1 := s1.seq hS
      -- what is left of a turn
      have fin : ∀ (H2 : Hp) (v4 v5 : Option V) (ys : List Int), Same H H2 → H2 l = some (.lst (ys.map V.int)) → ys.length ≤ 3000 + 6 * (i + 1) → ∃ (wh' : Int) (v3 v4' v5' : Option V) (xs : List Int),
          [some (V.ref a), some (.ref l), some (.int ((wh * 31 + ns[i]) % 2147483647)), some (.int (0 + (i : Int))), v4, v5] = [some (.ref a), some (.ref l), some (.int wh'), v3, v4', v5'] ∧ Same H H2 ∧ H2 l = some (.lst (xs.map V.int)) ∧ xs.length ≤ 3000 + 6 * (i + 1) :=
        fun H2 v4 v5 ys a b c => ⟨_, _, _, _, ys, rfl, a, b, c⟩
      refine ⟨_, rfl, _, rfl, a, _, _, _, rfl, rfl, hS1, hat, ?_⟩
      refine ⟨_, rfl, _, _, rfl, rfl, ⟨by decide, by decide, by decide⟩, _, _, rfl, rfl, _, rfl, ?_⟩
      refine ite2 (fun _ => ?_) (fun _ => ?_)
      · refine while_m (fun σ H' => ∃ (r : Int) (xs : List Int), σ = [some (.ref a), some (.ref l), some (.int wh), some (.int (0 + (i : Int))), some (.int r), v5] ∧ Same H H' ∧ H' l = some (.lst (xs.map V.int)) ∧ xs.length ≤ 3000 + 6 * (i + 1)) restOf
          ⟨_, xs, rfl, s1, hl1, by omega⟩ ?_
        rintro m σ H2 hm ⟨r, ys, rfl, s2, hl2, hys⟩
        have hm' : m = r.toNat := hm
        refine ⟨_, rfl, _, _, rfl, rfl, _, rfl, ?_⟩
        refine ite2 (fun hr0 => ?_) (fun _ => ?_)
        · have hr0 := of_decide_eq_true hr0
          refine ⟨_, rfl, _, _, rfl, .inl ⟨_, SqL.of hl2, rfl⟩, _, _, rfl, rfl, _, rfl, ?_⟩
          refine ite2 (fun hb => ?_) (fun _ => ?_)
          · have hb := of_decide_eq_true hb
            rw [List.length_map] at hb
            refine ⟨fun σ' H' => (∃ (r : Int) (xs : List Int), σ' = [some (.ref a), some (.ref l), some (.int wh), some (.int (0 + (i : Int))), some (.int r), v5] ∧ Same H H' ∧ H' l = some (.lst (xs.map V.int)) ∧ xs.length ≤ 3000 + 6 * (i + 1)) ∧ restOf σ' H' < m, fun σ' H' q => ⟨_, q.2, rfl, q.1⟩, ?_⟩
            refine ⟨_, rfl, .inl ⟨rfl, _, SqL.of hl2⟩, _, rfl, _, _, rfl, rfl, (by show (0 : Int) < 1000000; decide), l, _, _, rfl, rfl, hl2, (by rw [List.length_map]; exact Nat.lt_of_le_of_lt (show ys.length ≤ 3000 by omega) (by decide)), ?_⟩
            refine ⟨_, rfl, _, _, rfl, rfl, ⟨by decide, by decide⟩, ?_⟩
            refine ⟨⟨_, ys ++ [r % 1000000], rfl, s2.wrn hl, ?_, ?_⟩, ?_⟩
            · rw [upd_same, List.map_append]
              rfl
            · rw [List.length_append, List.length_singleton]
              omega
            · show (r / 1000000).toNat < m
              omega
          · exact ⟨_, rfl, _, _, rfl, rfl, .inr ⟨by decide, by decide⟩, _, rfl, _, rfl, a, _, _, _, rfl, rfl, s2.seq hS, hat, _, _, rfl, rfl, _, _, rfl, rfl, (by show (0 : Int) < 2147483647; decide), fin H2 _ _ ys s2 hl2 hys⟩
        · exact ⟨_, rfl, _, _, rfl, rfl, .inr ⟨by decide, by decide⟩, _, rfl, _, rfl, a, _, _, _, rfl, rfl, s2.seq hS, hat, _, _, rfl, rfl, _, _, rfl, rfl, (by show (0 : Int) < 2147483647; decide), fin H2 _ _ ys s2 hl2 hys⟩
      · refine ⟨_, rfl, .inl ⟨rfl, _, SqL.of hl1⟩, 6, rfl, by decide, by decide, fun D hD => ?_⟩
        have nDl : l ≠ D := ne_of_none hl1 hD
        refine lc_range (lo := 0) (n := 6) (fun j H' => ∃ ys : List Int, H' D = some (.lst (ys.map V.int)) ∧ ys.length = j ∧ Same H1 H' ) ⟨[], upd_same, rfl, (L2.Same.refl H1).new hD⟩ ?_ ?_
        · rintro j H2 hj ⟨ys, hD2, hys, s2⟩
          refine ⟨rfl, _, rfl, _, rfl, _, _, rfl, rfl, .inl ⟨by decide, by decide⟩, _, rfl, _, _, rfl, rfl, _, _, rfl, by omega, by omega, fun r => ?_⟩
          refine ⟨_, hD2, by rw [List.length_map, hys]; exact Nat.lt_trans hj (by decide), ys ++ [r], ?_, by rw [List.length_append, hys]; rfl, s2.wrn hD⟩
          rw [upd_same, List.map_append]
          rfl
        · rintro H2 ⟨ys, hD2, hys, s2⟩
          refine ⟨l, D, _, _, rfl, rfl, s2 _ _ hl1, hD2, ?_, ?_⟩
          · rw [List.length_map, List.length_map, hys]
            exact Nat.le_trans (show xs.length + 6 ≤ 6000 by omega) (by decide)
          · refine ⟨_, rfl, _, _, rfl, rfl, .inr ⟨by decide, by decide⟩, _, rfl, _, rfl, a, _, _, _, rfl, rfl, ((s1.trans s2).wrn hl).seq hS, hat, _, _, rfl, rfl, _, _, rfl, rfl, (by show (0 : Int) < 2147483647; decide), fin _ _ _ (xs ++ ys) ((s1.trans s2).wrn hl) ?_ ?_⟩
            · rw [upd_same, List.map_append]
            · rw [List.length_append, hys]
              omega
    · rintro σ H1 ⟨wh, v3, v4, v5, xs, rfl, s1, hl1, hxs⟩
      refine ⟨_, rfl, _, rfl, (by show 3 ≤ sizeLine; decide), fun d hd => ?_⟩
      have hn : ns.length ≤ 63 := hlen
      have hxs' : xs.length ≤ 100000 := by
        rw [List.length_map] at hxs
        split at hxs <;> omega
      refine k _ d l (s1.free hd) hl (s1.new hd) ⟨0, wh, xs, upd_same, ?_, Int.le_refl _, Int.le_refl _, hxs'⟩
      rw [upd_ne (ne_of_none hl1 hd)]
      exact hl1
end
end Wn
namespace Wn
open PySem L2
section
variable {P : Program} {w : World} {K : PySem.W.Frag} {mg : Str → Option Value} {base : Heap}
theorem scSame : FnScope ["_law_thing", "_law_due_here", "_law_k"] ["_law_thing", "_law_due_here"] (defScope sSame) := ⟨rfl, rfl, rfl, by decide +kernel, rfl, by decide +kernel, by decide +kernel⟩
/-- builtins that same asks -/
structure SameB (mg : Str → Option Value) : Prop where
  isi : mg "isinstance" = none
  tup : mg "tuple" = none
  bl : mg "bool" = none
  str : mg "str" = none
  int : mg "int" = none
  all : mg "all" = none
  len : mg "len" = none
  rng : mg "range" = none
theorem ok_same_step {n : Nat} {f : Addr} {fd : FuncData} (F : Fun K "_law_same" "_law_same" sSame f fd) (B : SameB mg) (mS : mg "_law_same" = some (.ref f)) (kS : PySem.W.keepIn K (.ref f) = true) (bS : Binds K fd ["_law_thing", "_law_due_here"] [])
    (G : FnOk P w K mg base CX0 n f fd ["_law_thing", "_law_due_here"] (spSame K n)) : FnOk P w K mg base CX0 (n + 1) f fd ["_law_thing", "_law_due_here"] (spSame K (n + 1)) := by
  refine F.ok scSame (fun vs H Q E h => ?_) (fun cdv A outer s H vs Q E hr h => ?_)
  · obtain ⟨x, y, d, rfl, _⟩ := h
    rfl
  · obtain ⟨x, y, d, rfl, hx, hy, hd, hz, k⟩ := h
    refine ⟨_, pss_cons (ps_if (pt_val (pe_callB call_isi (by rfl) B.isi (by decide +kernel) (pa_cons (pv 1) (pa_cons (pe_bltn (v := .ty "tuple") (by rfl) B.tup PyProof.Rows.boot_tuple rfl) pa_nil))))
        (pss_cons (ps_if (PW.pt (pw_or (pt_not (pt_val (pe_callB call_isi (by rfl) B.isi (by decide +kernel) (pa_cons (pv 0) (pa_cons (pe_bltn (v := .ty "tuple") (by rfl) B.tup PyProof.Rows.boot_tuple rfl) pa_nil)))))
            (pw_or1 (pt_cmpR op_ne (pe_callB call_len (by rfl) B.len PySem.boot_len (pa_cons (pv 0) pa_nil)) (pe_callB call_len (by rfl) B.len PySem.boot_len (pa_cons (pv 1) pa_nil)) (nomark _)))))
          (pss_one (ps_ret pe_bl)) pss_nil)
        (pss_one (ps_ret (pe_callB (cr_all rfl) (by rfl) B.all (by decide +kernel) (pa_cons
          (pe_lc (own := [("_law_k", 2)]) (g := gName 2) (tt := tYes) rfl scSame.nd (pi_range1 rfl B.rng (pa_cons (pe_callB call_len (by rfl) B.len PySem.boot_len (pa_cons (pv 1) pa_nil)) pa_nil)) (blkOk_by (N := ["_law_thing", "_law_due_here", "_law_k"]) (sc := defScope sSame) (by decide +kernel))
              (fun _ _ _ _ _ => pg_name (i := 2) scSame.nd rfl (Or.inl rfl)) (fun _ _ _ _ _ => pts_nil)
              (fun _ _ _ _ _ => pe_call G hr rfl mS kS bS .nil pass0 (pa_cons (pe_ix (show IxR _ (rIxT K) from ix_tup) (pv 0) (pv 2) (fun _ _ => rfl)) (pa_cons (pe_ix (show IxR _ (rIxT K) from ix_tup) (pv 1) (pv 2) (fun _ _ => rfl)) pa_nil)))) pa_nil))))) pss_nil)
      (pss_cons (ps_if (PW.pt (pw_or (pt_val (pe_callB call_isi (by rfl) B.isi (by decide +kernel) (pa_cons (pv 1) (pa_cons (pe_bltn (v := .ty "bool") (by rfl) B.bl PyProof.Rows.boot_bool rfl) pa_nil)))) (pw_or1 (pt_cmp (pc_isN (pv 1))))))
        (pss_one (ps_ret (pe_and (pe_cmpR op_eq (pe_callB call_isi (by rfl) B.isi (by decide +kernel) (pa_cons (pv 0) (pa_cons (pe_bltn (v := .ty "bool") (by rfl) B.bl PyProof.Rows.boot_bool rfl) pa_nil))) (pe_callB call_isi (by rfl) B.isi (by decide +kernel) (pa_cons (pv 1) (pa_cons (pe_bltn (v := .ty "bool") (by rfl) B.bl PyProof.Rows.boot_bool rfl) pa_nil))) (nomark _))
          (pe_and (pe_cmpR op_eq (pe_cmp (pc_isN (pv 0)) rfl) (pe_cmp (pc_isN (pv 1)) rfl) (nomark _)) (pe_one (pe_cmpR op_eq (pv 0) (pv 1) (nomark _))))))) pss_nil)
      (pss_cons (ps_if (pt_val (pe_callB call_isi (by rfl) B.isi (by decide +kernel) (pa_cons (pv 1) (pa_cons (pe_bltn (v := .ty "str") (by rfl) B.str PyProof.Rows.boot_str rfl) pa_nil))))
        (pss_one (ps_ret (pe_and (pe_callB call_isi (by rfl) B.isi (by decide +kernel) (pa_cons (pv 0) (pa_cons (pe_bltn (v := .ty "str") (by rfl) B.str PyProof.Rows.boot_str rfl) pa_nil))) (pe_one (pe_cmpR op_eq (pv 0) (pv 1) (nomark _)))))) pss_nil)
      (pss_one (ps_ret (pe_and (pe_callB call_isi (by rfl) B.isi (by decide +kernel) (pa_cons (pv 0) (pa_cons (pe_bltn (v := .ty "int") (by rfl) B.int PyProof.Rows.boot_int rfl) pa_nil)))
        (pe_and (pe_not (pe_callB call_isi (by rfl) B.isi (by decide +kernel) (pa_cons (pv 0) (pa_cons (pe_bltn (v := .ty "bool") (by rfl) B.bl PyProof.Rows.boot_bool rfl) pa_nil)))) (pe_one (pe_cmpR op_eq (pv 0) (pv 1) (nomark _))))))))), ?_⟩
    cases d with
    | none =>
      cases hx
      cases hy
      refine ⟨_, rfl, _, _, _, _, false, rfl, .ty _, .base .non, kit_ty (by decide +kernel), _, rfl, iteF ?_⟩
      refine ⟨_, rfl, _, _, _, _, false, rfl, .ty _, .base .non, kit_ty (by decide +kernel), _, rfl, iteF ?_⟩
      refine ⟨_, rfl, _, rfl, iteT ?_⟩
      refine ⟨_, rfl, _, _, _, _, false, rfl, .ty _, .base .non, kit_ty (by decide +kernel), _, rfl, _, _, _, _, false, rfl, .ty _, .base .non, kit_ty (by decide +kernel), rfl, _, rfl, iteT ?_⟩
      refine ⟨_, rfl, _, rfl, rfl, _, rfl, iteT ?_⟩
      exact ⟨_, rfl, _, rfl, rfl, k _ (L2.Same.refl _)⟩
    | bool b =>
      cases hx
      cases hy
      refine ⟨_, rfl, _, _, _, _, false, rfl, .ty _, .base (.bl _), kit_ty (by decide +kernel), _, rfl, iteF ?_⟩
      refine ⟨_, rfl, _, _, _, _, true, rfl, .ty _, .base (.bl _), kit_ty (by decide +kernel), _, rfl, iteT ?_⟩
      refine ⟨_, rfl, _, _, _, _, true, rfl, .ty _, .base (.bl _), kit_ty (by decide +kernel), _, rfl, _, _, _, _, true, rfl, .ty _, .base (.bl _), kit_ty (by decide +kernel), rfl, _, rfl, iteT ?_⟩
      refine ⟨_, rfl, _, rfl, rfl, _, rfl, iteT ?_⟩
      refine ⟨_, rfl, _, rfl, rfl, ?_⟩
      show Q (.bl (decide (V.bl b = V.bl b))) H
      rw [decide_eq_true rfl]
      exact k _ (L2.Same.refl _)
    | int i =>
      cases hx
      cases hy
      refine ⟨_, rfl, _, _, _, _, false, rfl, .ty _, .base (.int _), kit_ty (by decide +kernel), _, rfl, iteF ?_⟩
      refine ⟨_, rfl, _, _, _, _, false, rfl, .ty _, .base (.int _), kit_ty (by decide +kernel), _, rfl, iteF ?_⟩
      refine ⟨_, rfl, _, rfl, iteF ?_⟩
      refine ⟨_, rfl, _, _, _, _, false, rfl, .ty _, .base (.int _), kit_ty (by decide +kernel), _, rfl, iteF ?_⟩
      refine ⟨_, rfl, _, _, _, _, true, rfl, .ty _, .base (.int _), kit_ty (by decide +kernel), _, rfl, iteT ?_⟩
      refine ⟨_, rfl, _, _, _, _, false, rfl, .ty _, .base (.int _), kit_ty (by decide +kernel), _, rfl, _, rfl, iteT ?_⟩
      refine ⟨_, rfl, _, rfl, rfl, ?_⟩
      show Q (.bl (decide (V.int i = V.int i))) H
      rw [decide_eq_true rfl]
      exact k _ (L2.Same.refl _)
    | str z =>
      cases hx
      cases hy
      refine ⟨_, rfl, _, _, _, _, false, rfl, .ty _, .base (.str _), kit_ty (by decide +kernel), _, rfl, iteF ?_⟩
      refine ⟨_, rfl, _, _, _, _, false, rfl, .ty _, .base (.str _), kit_ty (by decide +kernel), _, rfl, iteF ?_⟩
      refine ⟨_, rfl, _, rfl, iteF ?_⟩
      refine ⟨_, rfl, _, _, _, _, true, rfl, .ty _, .base (.str _), kit_ty (by decide +kernel), _, rfl, iteT ?_⟩
      refine ⟨_, rfl, _, _, _, _, true, rfl, .ty _, .base (.str _), kit_ty (by decide +kernel), _, rfl, iteT ?_⟩
      refine ⟨_, rfl, _, rfl, rfl, ?_⟩
      show Q (.bl (decide (V.str z = V.str z))) H
      rw [decide_eq_true rfl]
      exact k _ (L2.Same.refl _)
    | tuple ds =>
      unfold Rp at hx hy
      obtain ⟨a, xs, rfl, sa, la⟩ := hx
      obtain ⟨b, ys, rfl, sb, lb⟩ := hy
      have lx := RpL.len _ _ la
      have ly := RpL.len _ _ lb
      have hl : ds.length ≤ 1000000 := by
        have := szs_len ds
        unfold sz at hz
        omega
      have hlc : ((ds.length : Nat) : Int) ≤ 1000000 := by omega
      refine ⟨_, rfl, _, _, _, _, true, rfl, .ty _, ty_tup sb, kit_ty (by decide +kernel), _, rfl, iteT ?_⟩
      refine ⟨_, rfl, _, _, _, _, true, rfl, .ty _, ty_tup sa, kit_ty (by decide +kernel), _, rfl, iteF ?_⟩
      refine ⟨_, rfl, _, ds.length, rfl, .inr ⟨_, sa, lx.symm⟩, _, rfl, _, ds.length, rfl, .inr ⟨_, sb, ly.symm⟩, rfl, _, rfl, ?_⟩
      refine iteNS rfl ?_
      refine ⟨_, rfl, _, ds.length, rfl, .inr ⟨_, sb, ly.symm⟩, ds.length, rfl, by omega, by omega, fun D hD => ?_⟩
      refine lc_range (lo := 0) (n := _) (fun i H' => H' D = some (.lst ((List.replicate i true).map V.bl)) ∧ Same H H') ⟨upd_same, (L2.Same.refl H).new hD⟩ ?_ ?_
      · rintro i H2 hi ⟨hD2, s2⟩
        have hi : i < ds.length := by simpa using hi
        have e1 : ds[i]? = some ds[i] := by simp [hi]
        obtain ⟨u, eu, ru⟩ := RpL.get _ _ la i _ e1
        obtain ⟨v, ev, rv⟩ := RpL.get _ _ lb i _ e1
        have t2 := TK.of s2
        refine ⟨rfl, _, rfl, _, rfl, a, xs, _, u, rfl, rfl, SqT.tk sa t2, ?_, _, rfl, _, rfl, b, ys, _, v, rfl, rfl, SqT.tk sb t2, ?_, ?_⟩
        · rw [Int.zero_add]
          exact atI_nat eu
        · rw [Int.zero_add]
          exact atI_nat ev
        · refine ⟨u, v, ds[i], rfl, Rp.tk t2 _ _ ru, Rp.tk t2 _ _ rv, ?_, ?_, fun H3 s3 => ?_⟩
          · have := dep_get ds i _ e1
            unfold dep at hd
            omega
          · have := sz_get ds i _ e1
            unfold sz at hz
            omega
          · refine ⟨_, s3 _ _ hD2, ?_, ?_, ?_⟩
            · rw [List.length_map, List.length_replicate]
              exact Nat.lt_of_lt_of_le (Nat.lt_of_lt_of_le hi hl) (by decide)
            · rw [upd_same, List.replicate_succ', List.map_append]
              rfl
            · exact (s2.trans s3).wrn hD
      · rintro H2 ⟨hD2, s2⟩
        refine ⟨D, _, rfl, SqL.of hD2, ?_⟩
        have e : (List.replicate ((ds.length : Nat) : Int).toNat true).all id = true := by simp
        rw [e]
        exact k _ s2
    | list _ => cases hx
    | dict _ => cases hx
theorem ok_same {f : Addr} {fd : FuncData} (F : Fun K "_law_same" "_law_same" sSame f fd) (B : SameB mg) (mS : mg "_law_same" = some (.ref f)) (kS : PySem.W.keepIn K (.ref f) = true) (bS : Binds K fd ["_law_thing", "_law_due_here"] []) :
    ∀ n, FnOk P w K mg base CX0 n f fd ["_law_thing", "_law_due_here"] (spSame K n)
  | 0 => ⟨fun vs H Q E ⟨x, y, d, _, _, _, h, _⟩ => absurd h (Nat.not_lt_zero _), fun A outer s H args us vs Q E hr he hb hv ⟨x, y, d, _, _, _, h, _⟩ => absurd h (Nat.not_lt_zero _)⟩
  | n + 1 => ok_same_step F B mS kS bS (ok_same F B mS kS bS n)
end
end Wn

namespace Wn
open PySem L2
section
variable {α : Type}
theorem lookA_cons {p : Int × α} {m : List (Int × α)} {k : Int} : lookA (p :: m) k = if p.1 = k then some p.2 else lookA m k := by
  unfold lookA
  rw [List.find?_cons]
  by_cases e : p.1 = k <;> simp [e]
theorem lookA_map (k j : Int) (x : α) : ∀ m : List (Int × α), lookA (m.map fun kv => if kv.1 = k then (kv.1, x) else kv) j = (lookA m j).map fun y => if j = k then x else y
  | [] => rfl
  | p :: m => by
    rw [List.map_cons, lookA_cons, lookA_cons, lookA_map k j x m]
    by_cases e : p.1 = k
    · by_cases f : p.1 = j
      · simp [e, f, show j = k by omega]
      · simp only [e, if_true]
        rw [if_neg (by omega), if_neg (by omega)]
    · by_cases f : p.1 = j
      · simp [e, f, show ¬ j = k by omega]
      · simp [e, f]
theorem lookA_snoc (k j : Int) (x : α) : ∀ m : List (Int × α), lookA (m ++ [(k, x)]) j = match lookA m j with | some y => some y | none => if k = j then some x else none
  | [] => by
    show lookA [(k, x)] j = _
    rw [lookA_cons]
    rfl
  | p :: m => by
    show lookA (p :: (m ++ [(k, x)])) j = _
    rw [lookA_cons, lookA_cons, lookA_snoc k j x m]
    by_cases e : p.1 = j <;> simp [e]
theorem any_lookA (k : Int) : ∀ m : List (Int × α), (m.any fun kv => decide (kv.1 = k)) = (lookA m k).isSome
  | [] => rfl
  | p :: m => by
    rw [List.any_cons, lookA_cons, any_lookA k m]
    by_cases e : p.1 = k <;> simp [e]
theorem lookA_put (m : List (Int × α)) (k j : Int) (x : α) : lookA (putA m k x) j = if j = k then some x else lookA m j := by
  unfold putA
  rw [any_lookA]
  cases e : lookA m k with
  | none =>
    rw [if_neg (by simp), lookA_snoc]
    by_cases f : j = k
    · subst f
      simp [e]
    · rw [if_neg f]
      cases lookA m j with
      | none => simp [show ¬ k = j by omega]
      | some y => rfl
  | some z =>
    rw [if_pos (by simp), lookA_map]
    by_cases f : j = k
    · subst f
      rw [e]
      simp
    · rw [if_neg f]
      cases lookA m j with
      | none => rfl
      | some y => simp [f]
theorem mem_keys {k : Int} {m : List (Int × α)} : k ∈ m.map (·.1) ↔ (lookA m k).isSome = true := by
  constructor
  · intro h
    obtain ⟨x, e, _⟩ := lookA_mem h
    rw [e]
    rfl
  · intro h
    rw [← any_lookA, List.any_eq_true] at h
    obtain ⟨p, hp, e⟩ := h
    rw [decide_eq_true_eq] at e
    exact List.mem_map.mpr ⟨p, hp, e⟩
theorem keys_put_in {m : List (Int × α)} {k : Int} {x : α} (h : (lookA m k).isSome = true) : (putA m k x).map (·.1) = m.map (·.1) := by
  unfold putA
  rw [any_lookA, if_pos h, List.map_map]
  refine List.map_congr_left fun p _ => ?_
  show (if p.1 = k then (p.1, x) else p).1 = p.1
  split <;> rfl
theorem keys_put_new {m : List (Int × α)} {k : Int} {x : α} (h : lookA m k = none) : (putA m k x).map (·.1) = m.map (·.1) ++ [k] := by
  unfold putA
  rw [any_lookA, if_neg (by rw [h]; simp), List.map_append]
  rfl
theorem nodup_put {m : List (Int × α)} {k : Int} {x : α} (h : (m.map (·.1)).Nodup) : ((putA m k x).map (·.1)).Nodup := by
  cases e : lookA m k with
  | none =>
    rw [keys_put_new e, List.nodup_append]
    refine ⟨h, by simp, fun a ha b hb => ?_⟩
    rw [List.mem_singleton] at hb
    subst hb
    intro z
    subst z
    rw [mem_keys, e] at ha
    cases ha
  | some y =>
    rw [keys_put_in (by rw [e]; rfl)]
    exact h
end
theorem eq_of_lt : ∀ (a b : List Int), a.Pairwise (· < ·) → b.Pairwise (· < ·) → (∀ x, x ∈ a ↔ x ∈ b) → a = b
  | [], [], _, _, _ => rfl
  | [], y :: b, _, _, h => by
    have := (h y).mpr List.mem_cons_self
    cases this
  | x :: a, [], _, _, h => by
    have := (h x).mp List.mem_cons_self
    cases this
  | x :: a, y :: b, ha, hb, h => by
    rw [List.pairwise_cons] at ha hb
    have e : x = y := by
      have h1 := (h x).mp List.mem_cons_self
      have h2 := (h y).mpr List.mem_cons_self
      rcases List.mem_cons.mp h1 with h1 | h1
      · exact h1
      · rcases List.mem_cons.mp h2 with h2 | h2
        · exact h2.symm
        · have := ha.1 _ h2
          have := hb.1 _ h1
          omega
    subst e
    congr 1
    refine eq_of_lt a b ha.2 hb.2 fun z => ?_
    constructor
    · intro hz
      have h1 := (h z).mp (List.mem_cons_of_mem _ hz)
      rcases List.mem_cons.mp h1 with h1 | h1
      · have := ha.1 _ hz
        omega
      · exact h1
    · intro hz
      have h1 := (h z).mpr (List.mem_cons_of_mem _ hz)
      rcases List.mem_cons.mp h1 with h1 | h1
      · have := hb.1 _ hz
        omega
      · exact h1
theorem lt_of_nodup : ∀ {a : List Int}, a.Pairwise (· ≤ ·) → a.Nodup → a.Pairwise (· < ·)
  | [], _, _ => List.Pairwise.nil
  | x :: a, h, n => by
    rw [List.pairwise_cons] at h
    rw [List.nodup_cons] at n
    rw [List.pairwise_cons]
    refine ⟨fun y hy => ?_, lt_of_nodup h.2 n.2⟩
    have h1 := h.1 y hy
    have h2 : x ≠ y := fun z => n.1 (z ▸ hy)
    omega
abbrev Rw := Int × Int × Int
abbrev R4 := Int × Rw
def learnA (m : List (Int × Rw)) (h : Int) (x : Rw) : List (Int × Rw) := match lookA m h with
  | none => putA m h x
  | some y => if y.2.1 ≤ x.2.1 then putA m h x else m
/-- what was learnt of the rows so far -/
structure Learnt (m : List (Int × Rw)) (pre : List R4) : Prop where
  nd : (m.map (·.1)).Nodup
  inn : ∀ h x, lookA m h = some x → (h, x) ∈ pre
  most : ∀ r ∈ pre, ∃ x, lookA m r.1 = some x ∧ r.2.2.1 ≤ x.2.1
theorem Learnt.nil : Learnt [] [] := ⟨List.nodup_nil, (fun h x e => by cases e), (fun r hr => by cases hr)⟩
theorem Learnt.step {m : List (Int × Rw)} {pre : List R4} (L : Learnt m pre) (r : R4) : Learnt (learnA m r.1 r.2) (pre ++ [r]) := by
  have put : (∀ y, lookA m r.1 = some y → y.2.1 ≤ r.2.2.1) → Learnt (putA m r.1 r.2) (pre ++ [r]) := fun hy => by
    refine ⟨nodup_put L.nd, fun h x e => ?_, fun q hq => ?_⟩
    · rw [lookA_put] at e
      split at e
      · rename_i e2
        cases e
        rw [e2]
        exact List.mem_append_right _ (List.mem_singleton.mpr rfl)
      · exact List.mem_append_left _ (L.inn h x e)
    · rw [lookA_put]
      rcases List.mem_append.mp hq with hq | hq
      · obtain ⟨x, e, le⟩ := L.most q hq
        split
        · rename_i e2
          rw [e2] at e
          exact ⟨_, rfl, Int.le_trans le (hy _ e)⟩
        · exact ⟨x, e, le⟩
      · rw [List.mem_singleton] at hq
        subst hq
        rw [if_pos rfl]
        exact ⟨_, rfl, Int.le_refl _⟩
  unfold learnA
  cases e : lookA m r.1 with
  | none => exact put fun y h => by rw [e] at h; cases h
  | some y =>
    show Learnt (if y.2.1 ≤ r.2.2.1 then _ else _) _
    split
    · rename_i le
      exact put fun z h => by rw [e] at h; cases h; exact le
    · rename_i le
      refine ⟨L.nd, fun h x e => List.mem_append_left _ (L.inn h x e), fun q hq => ?_⟩
      rcases List.mem_append.mp hq with hq | hq
      · exact L.most q hq
      · rw [List.mem_singleton] at hq
        subst hq
        exact ⟨y, e, by omega⟩
/-- of each hand unlike numbers -/
def Unlike (L : List R4) : Prop := L.Pairwise fun r q => ¬ (r.1 = q.1 ∧ r.2.2.1 = q.2.2.1)
def ownOf (L : List R4) (h : Int) : List R4 := L.filter fun r => decide (r.1 = h)
/-- m is the greatest of a list with -1 behind -/
def dueOf (L : List R4) (most : Int → Int) (k : Nat) : List R4 := (List.range k).flatMap fun (h : Nat) => (ownOf L (h : Int)).filter fun r => decide (r.2.2.1 = most (h : Int))
theorem unique_filter {L : List R4} (u : Unlike L) {h : Int} {x : Rw} (hx : (h, x) ∈ L) : (ownOf L h).filter (fun r => decide (r.2.2.1 = x.2.1)) = [(h, x)] := by
  unfold ownOf
  induction L with
  | nil => cases hx
  | cons r L ih =>
    unfold Unlike at u
    rw [List.pairwise_cons] at u
    rw [List.filter_cons]
    rcases List.mem_cons.mp hx with e | hx
    · subst e
      rw [if_pos (by simp), List.filter_cons, if_pos (by simp)]
      congr 1
      rw [List.filter_eq_nil_iff]
      intro q hq
      rw [List.mem_filter] at hq
      have h1 := u.1 q hq.1
      have h2 := of_decide_eq_true hq.2
      intro z
      have h3 := of_decide_eq_true z
      exact h1 ⟨h2.symm, h3.symm⟩
    · have := ih u.2 hx
      split
      · rename_i e
        have e := of_decide_eq_true e
        rw [List.filter_cons]
        split
        · rename_i e2
          have e2 := of_decide_eq_true e2
          exact absurd ⟨e, e2⟩ (u.1 _ hx)
        · exact this
      · exact this
theorem due_eq {L T : List R4} {m : List (Int × Rw)} {most : Int → Int} (u : Unlike L) (hT : ∀ r, r ∈ T ↔ r ∈ L) (le : Learnt m T) (hm : ∀ h, (∀ r ∈ ownOf L h, r.2.2.1 ≤ most h) ∧ ((∃ r ∈ ownOf L h, r.2.2.1 = most h) ∨ most h = -1)) (h0 : ∀ r ∈ L, 0 ≤ r.2.2.1) :
    ∀ k : Nat, dueOf L most k = ((List.range k).filter fun (h : Nat) => (lookA m (h : Int)).isSome).map fun (h : Nat) => ((h : Int), (lookA m (h : Int)).getD (0, 0, 0))
  | 0 => rfl
  | k + 1 => by
    have ih := due_eq u hT le hm h0 k
    unfold dueOf at ih ⊢
    rw [List.range_succ, List.flatMap_append, ih, List.filter_append, List.map_append, List.flatMap_singleton]
    congr 1
    cases e : lookA m (k : Int) with
    | none =>
      rw [List.filter_cons, if_neg (by rw [e]; simp)]
      show _ = []
      rw [List.filter_eq_nil_iff]
      intro q hq
      have hq' := hq
      unfold ownOf at hq
      rw [List.mem_filter] at hq
      have h2 := of_decide_eq_true hq.2
      obtain ⟨x, ex, _⟩ := le.most q ((hT q).mpr hq.1)
      rw [h2, e] at ex
      cases ex
    | some x =>
      rw [List.filter_cons, if_pos (by rw [e]; rfl)]
      show _ = [((k : Int), (lookA m (k : Int)).getD (0, 0, 0))]
      rw [e]
      have hx : ((k : Int), x) ∈ L := (hT _).mp (le.inn _ _ e)
      have own : ((k : Int), x) ∈ ownOf L (k : Int) := by
        unfold ownOf
        rw [List.mem_filter]
        exact ⟨hx, by simp⟩
      have em : most (k : Int) = x.2.1 := by
        have h1 := (hm k).1 _ own
        rcases (hm k).2 with ⟨r, hr, er⟩ | h2
        · unfold ownOf at hr
          rw [List.mem_filter] at hr
          have h3 := of_decide_eq_true hr.2
          obtain ⟨y, ey, ly⟩ := le.most r ((hT r).mpr hr.1)
          rw [h3, e] at ey
          cases ey
          have h1 : x.2.1 ≤ most k := h1
          omega
        · have := h0 _ hx
          have h1 : x.2.1 ≤ most k := h1
          have : 0 ≤ x.2.1 := this
          omega
      rw [em]
      exact unique_filter u hx
def r4D (r : R4) : PyData := .tuple [.int r.1, .int r.2.1, .int r.2.2.1, .int r.2.2.2]
def rwL (x : Rw) : List PyData := [.int x.1, .int x.2.1, .int x.2.2]
theorem keys_sorted {m : List (Int × Rw)} (nd : (m.map (·.1)).Nodup) (b : ∀ h ∈ m.map (·.1), 0 ≤ h ∧ h < 6) : sortI (m.map (·.1)) = ((List.range 6).filter fun h => (lookA m ((h : Nat) : Int)).isSome).map fun h => ((h : Nat) : Int) := by
  refine eq_of_lt _ _ (lt_of_nodup (sortI_sorted _) ((sortI_perm _).nodup_iff.mpr nd)) ?_ fun x => ?_
  · rw [List.pairwise_map]
    refine (List.Pairwise.filter _ (List.pairwise_lt_range (n := 6))).imp fun h => ?_
    omega
  · rw [(sortI_perm _).mem_iff, List.mem_map (l := List.filter _ _)]
    constructor
    · intro h
      have hb := b x h
      have e : ((x.toNat : Nat) : Int) = x := by omega
      refine ⟨x.toNat, ?_, e⟩
      rw [List.mem_filter, List.mem_range, e]
      exact ⟨by omega, mem_keys.mp h⟩
    · rintro ⟨h, h1, rfl⟩
      rw [List.mem_filter] at h1
      exact mem_keys.mpr h1.2
theorem rows_eq {m : List (Int × Rw)} (nd : (m.map (·.1)).Nodup) (b : ∀ h ∈ m.map (·.1), 0 ≤ h ∧ h < 6) :
    rowsD rwL m = .tuple ((((List.range 6).filter fun h => (lookA m ((h : Nat) : Int)).isSome).map fun h => (((h : Nat) : Int), (lookA m (h : Int)).getD (0, 0, 0))).map r4D) := by
  unfold rowsD
  rw [keys_sorted nd b, List.map_map, List.map_map]
  congr 1
  refine List.map_congr_left fun h hh => ?_
  rw [List.mem_filter] at hh
  show PyData.tuple (PyData.int (h : Int) :: (Option.map rwL (lookA m (h : Int))).getD []) = r4D ((h : Int), (lookA m (h : Int)).getD (0, 0, 0))
  cases e : lookA m (h : Int) with
  | none =>
    rw [e] at hh
    cases hh.2
  | some x => rfl
/-- later, with numbers no greater: keys and numbers stay -/
structure Later (m0 m : List (Int × Rw)) : Prop where
  keys : m.map (·.1) = m0.map (·.1)
  nums : ∀ h, (lookA m h).map (fun x => x.2.1) = (lookA m0 h).map (fun x => x.2.1)
theorem Later.refl (m : List (Int × Rw)) : Later m m := ⟨rfl, fun _ => rfl⟩
theorem Later.step {m0 m : List (Int × Rw)} (L : Later m0 m) {h : Int} {x y : Rw} (hy : lookA m0 h = some y) (le : x.2.1 ≤ y.2.1) : Later m0 (learnA m h x) := by
  have h1 := L.nums h
  rw [hy] at h1
  unfold learnA
  cases e : lookA m h with
  | none =>
    rw [e] at h1
    cases h1
  | some z =>
    rw [e] at h1
    have h2 : z.2.1 = y.2.1 := Option.some.inj h1
    show Later m0 (if z.2.1 ≤ x.2.1 then _ else _)
    split
    · rename_i le2
      refine ⟨by rw [keys_put_in (by rw [e]; rfl)]; exact L.keys, fun j => ?_⟩
      rw [lookA_put]
      split
      · rename_i ej
        subst ej
        rw [hy]
        show some x.2.1 = some y.2.1
        congr 1
        omega
      · exact L.nums j
    · exact L
end Wn

namespace Wn
open PySem L2
abbrev sInit : Stmt := inClass (top 2) 0
abbrev sLearn : Stmt := inClass (top 2) 1
abbrev sLook : Stmt := inClass (top 2) 2
abbrev sDrop : Stmt := inClass (top 2) 3
abbrev sRows : Stmt := inClass (top 2) 4
abbrev sCopy : Stmt := inClass (top 2) 5
def rwD (x : Rw) : PyData := .tuple (rwL x)
abbrev TabAt (K : PySem.W.Frag) (C : Addr) (H : Hp) (p q : Addr) (m : List (Int × Rw)) : Prop := HoldAt rwD K C H p q m
theorem rwD_inv {K : PySem.W.Frag} {H : Hp} {x : Rw} {u : V} (r : Rp K H (rwD x) u) : ∃ a, u = .ref a ∧ SqT K H a [.int x.1, .int x.2.1, .int x.2.2] := by
  unfold rwD rwL Rp at r
  obtain ⟨a, xs, rfl, ha, hl⟩ := r
  unfold RpL at hl
  obtain ⟨v0, r0, rfl, h0, hl⟩ := hl
  unfold RpL at hl
  obtain ⟨v1, r1, rfl, h1, hl⟩ := hl
  unfold RpL at hl
  obtain ⟨v2, r2, rfl, h2, hl⟩ := hl
  unfold RpL at hl
  subst hl
  unfold Rp at h0 h1 h2
  subst h0 h1 h2
  exact ⟨a, rfl, ha⟩
theorem learnA_len (m : List (Int × Rw)) (h : Int) (x : Rw) : (learnA m h x).length ≤ m.length + 1 := by
  unfold learnA
  split
  · exact putA_len _ _ _
  · split
    · exact putA_len _ _ _
    · omega
def spInit (K : PySem.W.Frag) (C : Addr) : Sp := fun vs H Q _ => ∃ (p dx : Addr), vs = [.ref p] ∧ H p = some (.ins C dx []) ∧
  ∀ (H' : Hp) (q : Addr), H q = none → Kp [p] H H' → TabAt K C H' p q [] → Q .non H'
def spLearn (K : PySem.W.Frag) (C : Addr) : Sp := fun vs H Q _ => ∃ (p q : Addr) (h pl n b : Int) (m : List (Int × Rw)), vs = [.ref p, .int h, .int pl, .int n, .int b] ∧ TabAt K C H p q m ∧ m.length ≤ 1000 ∧
  ∀ H' : Hp, Kp [q] H H' → TabAt K C H' p q (learnA m h (pl, n, b)) → Q .non H'
def spRows (K : PySem.W.Frag) (C : Addr) : Sp := fun vs H Q _ => ∃ (p q : Addr) (m : List (Int × Rw)), vs = [.ref p] ∧ TabAt K C H p q m ∧ m.length ≤ 1000 ∧
  ∀ (H' : Hp) (v : V), Same H H' → Rp K H' (rowsD rwL m) v → Q v H'
structure TN (K : PySem.W.Frag) (mg : Str → Option Value) (C : Addr) : Prop where
  cl : Cls K C
  nB : NoAttr K C "by_hand"
  mgC : mg "Table" = some (.ref C)
  tuple : mg "tuple" = none
  list : mg "list" = none
  dict : mg "dict" = none
  sorted : mg "sorted" = none

section
variable {P : Program} {w : World} {K : PySem.W.Frag} {mg : Str → Option Value} {base : Heap}
theorem scInit : FnScope ["self"] ["self"] (defScope sInit) := ⟨rfl, rfl, rfl, by decide +kernel, rfl, by decide +kernel, by decide +kernel⟩
theorem ok_init {f C : Addr} {fd : FuncData} (F : Fun K "__init__" "Table.__init__" sInit f fd) (T : TN K mg C) : FnOk P w K mg base CX0 1 f fd ["self"] (spInit K C) := by
  refine F.ok scInit (fun vs H Q E h => ?_) (fun cdv A outer s H vs Q E hr h => ?_)
  · obtain ⟨p, dx, rfl, _⟩ := h
    rfl
  · obtain ⟨p, dx, rfl, hp, k⟩ := h
    refine ⟨_, (pss_one (ps_fld (pv 0) pe_dnewK rfl)), ?_⟩
    intro q hq
    have npq : p ≠ q := ne_of_none hp hq
    refine ⟨_, rfl, p, C, dx, [], rfl, (by rw [upd_ne npq]; exact hp), T.cl, T.nB, (by show 0 < 1000; decide), ?_⟩
    exact k _ q hq (((Kp.refl _ _).new hq).wr (List.mem_singleton.mpr rfl)) ⟨⟨dx, upd_same⟩, [], by rw [upd_ne npq.symm, upd_same], rfl⟩
theorem scLearn : FnScope ["self", "hand", "place", "number", "beat"] ["self", "hand", "place", "number", "beat"] (defScope sLearn) := ⟨rfl, rfl, rfl, by decide +kernel, rfl, by decide +kernel, by decide +kernel⟩
theorem ok_learn {f C : Addr} {fd : FuncData} (F : Fun K "learn" "Table.learn" sLearn f fd) (T : TN K mg C) : FnOk P w K mg base CX0 1 f fd ["self", "hand", "place", "number", "beat"] (spLearn K C) := by
  refine F.ok scLearn (fun vs H Q E h => ?_) (fun cdv A outer s H vs Q E hr h => ?_)
  · obtain ⟨p, q, h, pl, n, b, m, rfl, _⟩ := h
    rfl
  · obtain ⟨p, q, h, pl, n, b, m, rfl, ⟨⟨dx, hp⟩, kvs, hq, hm⟩, hl, k⟩ := h
    have hu := hu_of hr
    refine ⟨_, (pss_one (ps_if (PW.pt (pw_or (pt_cmp (pc_dnotin hu (pv 1) (fldK (K := K) rfl (pv 0) rfl))) (pw_or1 (pt_cmpR op_le (pe_ix (ixT (K := K) rfl) (pe_dget hu (fldK (K := K) rfl (pv 0) rfl) (pv 1) (fun _ _ => rfl)) pe_int (fun _ _ => rfl)) (pv 3) (nomark _)))))
       (pss_one (ps_dput hu (fldK (K := K) rfl (pv 0) rfl) (pv 1) (pe_tup (pa_cons (pv 2) (pa_cons (pv 3) (pa_cons (pv 4) pa_nil)))) rfl))
       pss_nil)), ?_⟩
    have hne : p ≠ q := ne_of hp hq (by intro z; cases z)
    have put : ∀ (Q' : Hp → Prop), (∀ H', Kp [q] H H' → TabAt K C H' p q (putA m h (pl, n, b)) → Q' H') → ∀ t, H t = none → Q' (upd (upd H t (.tup [.int pl, .int n, .int b])) q (.dK (putK kvs (Sum.inl h) (.ref t)))) := fun Q' hQ t ht => by
      have s1 : Same H (upd H t (.tup [.int pl, .int n, .int b])) := (L2.Same.refl H).new ht
      have t1 := TK.of s1
      have t2 : TK (upd H t (.tup [.int pl, .int n, .int b])) (upd (upd H t (.tup [.int pl, .int n, .int b])) q (.dK (putK kvs (Sum.inl h) (.ref t)))) := (TK.refl _).wr (s1 _ _ hq) rfl
      have htt : Rp K (upd H t (.tup [.int pl, .int n, .int b])) (rwD (pl, n, b)) (.ref t) := Rp.tup upd_same (RpL.cons Rp.int (RpL.cons Rp.int (RpL.cons Rp.int RpL.nil)))
      exact hQ _ ((Kp.of s1).wr (List.mem_singleton.mpr rfl)) ⟨⟨dx, by rw [upd_ne hne]; exact s1 _ _ hp⟩, _, upd_same, ((hm.tk t1).put htt).tk t2⟩
    have sz : kvs.length < sizeLine := by rw [hm.len]; exact Nat.lt_of_le_of_lt hl (by decide)
    have g := DGet.k (k := Sum.inl h) hq
    refine ⟨_, rfl, _, rfl, p, C, dx, _, _, rfl, hp, T.cl, T.nB, fld1, q, _, rfl, g, _, rfl, ?_⟩
    rcases hm.val (k := h) with ⟨e1, e2⟩ | ⟨x, v, e1, e2, r⟩
    · rw [e2]
      refine iteT (iteT ?_)
      refine ⟨_, rfl, _, rfl, _, rfl, (by show 3 ≤ sizeLine; decide), fun t ht => ?_⟩
      have s1 : Same H (upd H t (.tup [.int pl, .int n, .int b])) := (L2.Same.refl H).new ht
      refine ⟨_, rfl, p, C, dx, _, _, rfl, s1 _ _ hp, T.cl, T.nB, fld1, _, rfl, q, _, rfl, DPut.k (k := Sum.inl h) (s1 _ _ hq) sz, ?_⟩
      unfold learnA at k
      rw [e1] at k
      exact put _ k t ht
    · rw [e2]
      rw [e2] at g
      obtain ⟨a, rfl, ha⟩ := rwD_inv r
      unfold learnA at k
      rw [e1] at k
      refine iteF ?_
      refine ⟨_, rfl, p, C, dx, _, _, rfl, hp, T.cl, T.nB, fld1, _, rfl, q, _, rfl, g, a, _, _, _, rfl, rfl, ha, rfl, _, rfl, _, _, rfl, rfl, _, rfl, ?_⟩
      refine ite2 (fun hc => ?_) (fun hc => ?_)
      · have hc := of_decide_eq_true hc
        simp only [if_pos hc] at k
        refine ⟨_, rfl, _, rfl, _, rfl, (by show 3 ≤ sizeLine; decide), fun t ht => ?_⟩
        have s1 : Same H (upd H t (.tup [.int pl, .int n, .int b])) := (L2.Same.refl H).new ht
        refine ⟨_, rfl, p, C, dx, _, _, rfl, s1 _ _ hp, T.cl, T.nB, fld1, _, rfl, q, _, rfl, DPut.k (k := Sum.inl h) (s1 _ _ hq) sz, ?_⟩
        exact put _ k t ht
      · have hc : ¬ x.2.1 ≤ n := fun z => hc (decide_eq_true z)
        simp only [if_neg hc] at k
        exact k _ (Kp.refl _ _) ⟨⟨dx, hp⟩, kvs, hq, hm⟩
theorem scRows : FnScope ["self", "hand"] ["self"] (defScope sRows) := ⟨rfl, rfl, rfl, by decide +kernel, rfl, by decide +kernel, by decide +kernel⟩
theorem ok_rows {f C : Addr} {fd : FuncData} (F : Fun K "rows" "Table.rows" sRows f fd) (T : TN K mg C) : FnOk P w K mg base CX0 1 f fd ["self"] (spRows K C) := by
  refine F.ok scRows (fun vs H Q E h => ?_) (fun cdv A outer s H vs Q E hr h => ?_)
  · obtain ⟨p, q, m, rfl, _⟩ := h
    rfl
  · obtain ⟨p, q, m, rfl, ⟨⟨dx, hp⟩, kvs, hq, hm⟩, hlen, k⟩ := h
    have hu := hu_of hr
    refine ⟨_, (pss_one (ps_ret (pe_callTy (tupOfK (K := K) rfl) (by rfl) T.tuple PyProof.Rows.boot_tuple (pa_cons (pe_lc (own := [("hand", 1)]) (g := (gName 1)) (tt := tYes) rfl scRows.nd (pi_list (pe_callB (sortIK (K := K) rfl) (by rfl) T.sorted (by decide +kernel) (pa_cons (pe_callTy (call_listD rfl) (by rfl) T.list (by decide +kernel) (pa_cons (fldK (K := K) rfl (pv 0) rfl) pa_nil)) pa_nil))) (blkOk_by (N := ["self", "hand"]) (sc := defScope sRows) (by decide +kernel))
       (fun _ _ _ _ _ => (pg_name (i := 1) scRows.nd rfl (Or.inl rfl))) (fun _ _ _ _ _ => pts_nil) (fun _ _ _ _ _ => (pe_op (opCatT (K := K) rfl) (pe_tup (pa_cons (pv 1) pa_nil)) (pe_dget hu (fldK (K := K) rfl (pv 0) rfl) (pv 1) (fun _ _ => rfl))))) pa_nil)))), ?_⟩
    refine ⟨_, rfl, p, C, dx, _, _, rfl, hp, T.cl, T.nB, fld1, q, kvs, rfl, .inl hq, fun l hl => ?_⟩
    have s1 : Same H (upd H l (.lst (kvs.map fun kv => kV kv.1))) := (L2.Same.refl H).new hl
    refine ⟨l, m.map (·.1), rfl, SqL.of (by rw [upd_same, hm.keys]), fun ns' S perm rising hS => ?_⟩
    have hns : ns' = sortI (m.map (·.1)) := sortI_eq perm rising
    have s2 := s1.new (o := .lst (ns'.map V.int)) hS
    refine ⟨S, rfl, ⟨_, SqL.of upd_same⟩, fun D hD => ?_⟩
    have hS2 : upd (upd H l (.lst (kvs.map fun kv => kV kv.1))) S (.lst (ns'.map V.int)) S = some (.lst (ns'.map V.int)) := upd_same
    refine rows_lc (encL := rwL) (q := q) (m := m) hS2 (s2 _ _ hq) (hm.tk (TK.of s2)) (fun k hk => (perm.mem_iff).mp hk) (fun _ => (by show 3 ≤ 100; decide)) (by have := perm.length_eq; rw [List.length_map] at this; omega) ?_ hD (by show 1 < 2; decide) ?_
    · intro σ' H' Q' ew s' hQ
      have e0 : σ'[0]? = some (some (V.ref p)) := by
        have h1 : (wipe σ' [1])[0]? = some (some (V.ref p)) := by
          rw [ew]
          rfl
        show σ'[0]? = _
        rw [show (wipe σ' [1])[0]? = (σ'.set 1 none)[0]? from rfl, List.getElem?_set_ne (by decide)] at h1
        exact h1
      exact ⟨_, e0, p, C, dx, _, _, rfl, s' _ _ (s2 _ _ hp), T.cl, T.nB, fld1, hQ⟩
    · intro H' xs s' hD' hr'
      refine ⟨D, xs, rfl, .inl ⟨SqL.of hD', fun t ht => ?_⟩⟩
      refine k _ _ ((s2.trans s').new ht) ?_
      rw [hns] at hr'
      exact Rp.tup upd_same (RpL.tk ((TK.refl _).new ht) _ _ hr')
end
end Wn

namespace Wn
open PySem L2
abbrev sRowsOf : Stmt := top 8
abbrev sTurned : Stmt := top 9
abbrev sDue : Stmt := top 10
abbrev sLearnt : Stmt := top 11
theorem r4D_inv {K : PySem.W.Frag} {H : Hp} {x : R4} {u : V} (r : Rp K H (r4D x) u) : ∃ a, u = .ref a ∧ SqT K H a [.int x.1, .int x.2.1, .int x.2.2.1, .int x.2.2.2] := by
  unfold r4D Rp at r
  obtain ⟨a, xs, rfl, ha, hl⟩ := r
  unfold RpL at hl
  obtain ⟨v0, r0, rfl, h0, hl⟩ := hl
  unfold RpL at hl
  obtain ⟨v1, r1, rfl, h1, hl⟩ := hl
  unfold RpL at hl
  obtain ⟨v2, r2, rfl, h2, hl⟩ := hl
  unfold RpL at hl
  obtain ⟨v3, r3, rfl, h3, hl⟩ := hl
  unfold RpL at hl
  subst hl
  unfold Rp at h0 h1 h2 h3
  subst h0 h1 h2 h3
  exact ⟨a, rfl, ha⟩
def Good (i : Int) (L : List R4) : Prop := Unlike L ∧ ∀ r ∈ L, 0 ≤ r.1 ∧ r.1 < i ∧ 0 ≤ r.2.2.1
def spRowsOf (K : PySem.W.Frag) : Sp := fun vs H Q _ => ∃ (d f hl : Addr) (n : Int) (h : Nat), vs = [.ref d, .ref hl] ∧ Deck H d f n ∧ n < 2 ^ 59 ∧ H hl = some (.lst ((List.range h).map fun (j : Nat) => V.int (j : Int))) ∧ hl ≠ d ∧ h ≤ 5 ∧
  ∀ (H' : Hp) (a : Addr) (L : List R4), H a = none → Kp [d] H H' → Deck H' d f (n + 100) → LstAt K H' a (L.map r4D) → Good 6 L → L.length ≤ 30 → Q (.ref a) H'
def spTurned (K : PySem.W.Frag) : Sp := fun vs H Q _ => ∃ (d f ra : Addr) (n : Int) (L : List R4), vs = [.ref d, .ref ra] ∧ Deck H d f n ∧ n < 2 ^ 59 ∧ LstAt K H ra (L.map r4D) ∧ ra ≠ d ∧ L.length ≤ 30 ∧
  ∀ (H' : Hp) (a : Addr) (T : List R4), H a = none → Kp [d] H H' → Deck H' d f (n + 100) → LstAt K H' a (T.map r4D) → (∀ r, r ∈ T ↔ r ∈ L) → T.length ≤ 60 → Q (.ref a) H'
def MostOf (L : List R4) (most : Int → Int) : Prop := ∀ h, (∀ r ∈ ownOf L h, r.2.2.1 ≤ most h) ∧ ((∃ r ∈ ownOf L h, r.2.2.1 = most h) ∨ most h = -1)
def spDueK (K : PySem.W.Frag) : Sp := fun vs H Q _ => ∃ (ra : Addr) (L : List R4), vs = [.ref ra] ∧ LstAt K H ra (L.map r4D) ∧ L.length ≤ 30 ∧
  ∀ (H' : Hp) (v : V) (most : Int → Int), Same H H' → (∀ h : Nat, h < 6 → (∀ r ∈ ownOf L h, r.2.2.1 ≤ most h) ∧ ((∃ r ∈ ownOf L h, r.2.2.1 = most h) ∨ most h = -1)) → Rp K H' (.tuple ((dueOf L most 6).map r4D)) v → Q v H'
def spLearnt (K : PySem.W.Frag) (C : Addr) : Sp := fun vs H Q _ => ∃ (ra : Addr) (T : List R4), vs = [.ref ra] ∧ LstAt K H ra (T.map r4D) ∧ T.length ≤ 60 ∧
  ∀ (H' : Hp) (p q : Addr) (m : List (Int × Rw)), H p = none → H q = none → Same H H' → TabAt K C H' p q m → Learnt m T → m.length ≤ 60 → Q (.ref p) H'

section
variable {P : Program} {w : World} {K : PySem.W.Frag} {mg : Str → Option Value} {base : Heap}
theorem scRowsOf : FnScope ["_law_deck_here", "_law_hands", "_law_found", "_law_hand", "_law_numbers", "_law_k", "_law_number"] ["_law_deck_here", "_law_hands"] (defScope sRowsOf) := ⟨rfl, rfl, rfl, by decide +kernel, rfl, by decide +kernel, by decide +kernel⟩
theorem ok_rowsof {f : Addr} {fd : FuncData} (F : Fun K "_law_rows_of" "_law_rows_of" sRowsOf f fd) (zR : mg "range" = none)
    (cN : Cd P w K mg base 2 "_law_next" ["_law_deck_here", "_law_many"] spNext) :
    FnOk P w K mg base CX0 3 f fd ["_law_deck_here", "_law_hands"] (spRowsOf K) := by
  obtain ⟨fN, fdN, GN, mN, kN, bN⟩ := cN.tk
  refine F.ok scRowsOf (fun vs H Q E h => ?_) (fun cdv A outer s H vs Q E hr h => ?_)
  · obtain ⟨d, f, hl, n, h, rfl, _⟩ := h
    rfl
  · obtain ⟨d, f, hl, n, h, rfl, D0, hn, hH, nhd, hh5, k⟩ := h
    have hr2 : Room 2 _ := hr
    refine ⟨_, (pss_cons (ps_set (i := 2) scRowsOf.nd rfl (Or.inl rfl) (pe_lst pa_nil))
       (pss_cons (ps_for PassesOwn.never rfl (pi_list (pv 1)) (pg_name (i := 3) scRowsOf.nd rfl (Or.inl rfl))
       (pss_cons (ps_set (i := 4) scRowsOf.nd rfl (Or.inl rfl) (pe_lst pa_nil))
       (pss_one (ps_for PassesOwn.never rfl (pi_range1 rfl zR (pa_cons (pe_call GN hr2 rfl mN kN bN .nil pass0 (pa_cons (pv 0) (pa_cons pe_int pa_nil))) pa_nil)) (pg_name (i := 5) scRowsOf.nd rfl (Or.inl rfl))
       (pss_cons (ps_set (i := 6) scRowsOf.nd rfl (Or.inl rfl) (pe_call GN hr2 rfl mN kN bN .nil pass0 (pa_cons (pv 0) (pa_cons pe_int pa_nil))))
       (pss_one (ps_if (pt_cmpR (notInSeqK (K := K) rfl) (pv 6) (pv 4) (by rfl))
       (pss_cons (ps_expr (pe_bm PySem.F.plainAttrs_list PySem.F.slot_list_append PySem.F.type_list_append mt_append (pv 4) (pa_cons (pv 6) pa_nil)))
       (pss_one (ps_expr (pe_bm PySem.F.plainAttrs_list PySem.F.slot_list_append PySem.F.type_list_append mt_append (pv 2) (pa_cons (pe_tup (pa_cons (pv 3) (pa_cons (pe_call GN hr2 rfl mN kN bN .nil pass0 (pa_cons (pv 0) (pa_cons pe_int pa_nil))) (pa_cons (pv 6) (pa_cons (pe_call GN hr2 rfl mN kN bN .nil pass0 (pa_cons (pv 0) (pa_cons pe_int pa_nil))) pa_nil))))) pa_nil)))))
       pss_nil)))))))
       (pss_one (ps_ret (pv 2))))), ?_⟩
    refine ⟨Nat.zero_le _, fun fa nfa => ?_⟩
    have s1 : Same H (upd H fa (.lst [])) := (L2.Same.refl H).new nfa
    have D1 := D0.same s1
    have hfa1 : LstAt K (upd H fa (.lst [])) fa (([] : List R4).map r4D) := ⟨[], upd_same, RpL.nil⟩
    have nfd : fa ≠ d := (ne_of_none D0.lst.choose_spec nfa).symm
    have k01 : Kp [d] H (upd H fa (.lst [])) := Kp.of s1
    generalize upd H fa (.lst []) = H1 at s1 D1 hfa1 k01
    refine ⟨_, rfl, hl, rfl, ⟨_, SqL.of (s1 _ _ hH)⟩, ?_⟩
    refine for_list (K := K) (a := hl) (xs := (List.range h).map fun (j : Nat) => V.int (j : Int)) (fun i σ H' => ∃ (L : List R4) (v3 v4 v5 v6 : Option V), σ = [some (.ref d), some (.ref hl), some (.ref fa), v3, v4, v5, v6] ∧ LstAt K H' fa (L.map r4D) ∧ Good i L ∧ L.length ≤ 5 * i ∧ Kp [d] H H' ∧ Deck H' d f (n + 20 * i))
      ⟨[], _, _, _, _, rfl, hfa1, ⟨List.Pairwise.nil, fun r hr => by cases hr⟩, Nat.le_refl _, k01, D1.mono (by omega)⟩ (fun i σ H' _ ⟨_, _, _, _, _, _, _, _, _, kp, _⟩ => SqL.of (kp _ _ (nin1 nhd) hH)) ?_ ?_
    · rintro i x σ H2 hx ⟨L, v3, v4, v5, v6, rfl, hfa2, gL, hL, kp2, D2⟩
      have hi : i < h := by
        have q := (List.getElem?_eq_some_iff.mp hx).1
        rw [List.length_map, List.length_range] at q
        exact q
      obtain rfl : x = V.int (i : Int) := by
        rw [List.getElem?_map, List.getElem?_range hi] at hx
        exact (Option.some.inj hx).symm
      refine ⟨Nat.zero_le _, fun nl nnl => ?_⟩
      have s3 : Same H2 (upd H2 nl (.lst [])) := (L2.Same.refl H2).new nnl
      have hnl3 : upd H2 nl (.lst []) nl = some (.lst (([] : List Int).map V.int)) := upd_same
      have nnf : nl ≠ fa := (ne_of_none hfa2.lst.choose_spec nnl).symm
      have nnd : nl ≠ d := (ne_of_none D2.lst.choose_spec nnl).symm
      have nnh : H nl = none := by
        cases e : H nl with
        | none => rfl
        | some o =>
          have := kp2 nl o (nin1 nnd) e
          rw [nnl] at this
          cases this
      have nf2 : f ≠ nl := ne_of_none D2.lst2.choose_spec nnl
      have D3 := D2.same s3
      have hfa3 := hfa2.same s3
      have kp3 := kp2.trans (Kp.of s3)
      generalize upd H2 nl (.lst []) = H3 at s3 hnl3 D3 hfa3 kp3
      refine ⟨_, rfl, d, f, 6, n + 20 * i, rfl, by decide, by omega, D3, fun many H4 m0 m1 k4 D4 t4 => ?_⟩
      have hfa4 := hfa3.kp k4 t4 (nin1 nfd)
      refine ⟨many, rfl, by omega, by omega, ?_⟩
      have nfaf : f ≠ fa := fun z => by
        obtain ⟨zs, hz⟩ := D0.lst2
        rw [z, nfa] at hz
        cases hz
      refine for_range (lo := 0) (fun j σ H' => ∃ (L : List R4) (ns : List Int) (v5 v6 : Option V), σ = [some (.ref d), some (.ref hl), some (.ref fa), some (.int (i : Int)), some (.ref nl), v5, v6] ∧ LstAt K H' fa (L.map r4D) ∧ H' nl = some (.lst (ns.map V.int)) ∧ Good ((i : Int) + 1) L ∧ (∀ r ∈ L, r.1 = (i : Int) → r.2.2.1 ∈ ns) ∧ L.length ≤ 5 * i + j ∧ ns.length ≤ j ∧ Kp [d] H H' ∧ Deck H' d f (n + 20 * i + 1 + 3 * j))
        ⟨L, [], _, _, rfl, hfa4, k4 _ _ (nin1 nnd) hnl3, ⟨gL.1, fun r hr => by have := gL.2 r hr; omega⟩, fun r hr e => by have := gL.2 r hr; omega, by omega, Nat.le_refl _, kp3.trans k4, D4.mono (by omega)⟩ ?_ ?_
      · rintro j σ H5 hj ⟨L, ns, v5, v6, rfl, hfa5, hnl5, gL, hns, hL5, hn5, kp5, D5⟩
        have hj : j < 6 := by omega
        refine ⟨_, rfl, d, f, 12, n + 20 * i + 1 + 3 * j, rfl, by decide, by omega, D5, fun num H6 u0 u1 k6 D6 t6 => ?_⟩
        have hfa6 := hfa5.kp k6 t6 (nin1 nfd)
        have hnl6 := k6 _ _ (nin1 nnd) hnl5
        have kp6 := kp5.trans k6
        refine ⟨_, rfl, _, rfl, nl, _, rfl, .inl (SqL.of hnl6), rfl, flat_ints ns, _, rfl, ?_⟩
        refine ite2 (fun hc => ?_) (fun _ => ?_)
        · have hc : ¬ num ∈ ns := fun z => by
            have : (!inV (.int num) (ns.map V.int)) = true := hc
            rw [inV_int, decide_eq_true z] at this
            cases this
          refine ⟨_, rfl, .inl ⟨rfl, _, SqL.of hnl6⟩, _, rfl, nl, _, _, rfl, rfl, hnl6, (by rw [List.length_map]; exact Nat.lt_of_le_of_lt (show ns.length ≤ 6 by omega) (by decide)), ?_⟩
          have hnl7 : upd H6 nl (.lst (ns.map V.int ++ [.int num])) nl = some (.lst ((ns ++ [num]).map V.int)) := by
            rw [upd_same, List.map_append]
            rfl
          have t7 : TK H6 (upd H6 nl (.lst (ns.map V.int ++ [.int num]))) := (TK.refl _).wr hnl6 rfl
          have k7 : Kp [nl] H6 (upd H6 nl (.lst (ns.map V.int ++ [.int num]))) := (Kp.refl _ _).wr (List.mem_singleton.mpr rfl)
          have kp7 : Kp [d] H (upd H6 nl (.lst (ns.map V.int ++ [.int num]))) := kp6.wrn nnh
          generalize upd H6 nl (.lst (ns.map V.int ++ [.int num])) = H7 at hnl7 t7 k7 kp7
          have hfa7 := hfa6.kp k7 t7 (nin1 nnf.symm)
          have D7 := D6.kp k7 (nin1 nnd.symm) (nin1 nf2)
          refine ⟨_, rfl, .inl ⟨rfl, _, SqL.of hfa7.choose_spec.1⟩, _, rfl, _, rfl, d, f, 8, n + 20 * i + 1 + 3 * j + 1, rfl, by decide, by omega, D7, fun pl H8 p0 p1 k8 D8 t8 => ?_⟩
          refine ⟨_, rfl, _, rfl, d, f, 20, n + 20 * i + 1 + 3 * j + 1 + 1, rfl, by decide, by omega, D8, fun bt H9 b0 b1 k9 D9 t9 => ?_⟩
          have hfa9 := (hfa7.kp k8 t8 (nin1 nfd)).kp k9 t9 (nin1 nfd)
          have hnl9 := k9 _ _ (nin1 nnd) (k8 _ _ (nin1 nnd) hnl7)
          have kp9 := (kp7.trans k8).trans k9
          refine ⟨(by show 4 ≤ sizeLine; decide), fun t nt => ?_⟩
          have s10 : Same H9 (upd H9 t (.tup [.int (i : Int), .int pl, .int num, .int bt])) := (L2.Same.refl H9).new nt
          have rt : Rp K (upd H9 t (.tup [.int (i : Int), .int pl, .int num, .int bt])) (r4D ((i : Int), pl, num, bt)) (.ref t) := Rp.tup upd_same (RpL.cons Rp.int (RpL.cons Rp.int (RpL.cons Rp.int (RpL.cons Rp.int RpL.nil))))
          generalize upd H9 t (.tup [.int (i : Int), .int pl, .int num, .int bt]) = H10 at s10 rt
          obtain ⟨xs, hx10, rx10⟩ := hfa9.same s10
          have hlx := RpL.len _ _ rx10
          rw [List.length_map] at hlx
          refine ⟨fa, _, _, rfl, rfl, hx10, Nat.lt_of_le_of_lt (show xs.length ≤ 1000 by omega) (by decide), ?_⟩
          have t11 : TK H10 (upd H10 fa (.lst (xs ++ [.ref t]))) := (TK.refl _).wr hx10 rfl
          have k11 : Kp [fa] H10 (upd H10 fa (.lst (xs ++ [.ref t]))) := (Kp.refl _ _).wr (List.mem_singleton.mpr rfl)
          refine ⟨L ++ [((i : Int), pl, num, bt)], ns ++ [num], _, _, rfl, ⟨xs ++ [.ref t], upd_same, ?_⟩, (upd_ne nnf).trans (s10 _ _ hnl9), ⟨?_, ?_⟩, ?_, ?_, ?_, (kp9.trans (Kp.of s10)).wrn nfa, (((D9.same s10).kp k11 (nin1 nfd.symm) (nin1 nfaf)).mono (by omega))⟩
          · rw [List.map_append]
            exact RpL.tk t11 _ _ (RpL.app rx10 (RpL.cons rt RpL.nil))
          · unfold Unlike
            rw [List.pairwise_append]
            refine ⟨gL.1, List.pairwise_singleton _ _, fun r hr q hq => ?_⟩
            rw [List.mem_singleton] at hq
            subst hq
            rintro ⟨e1, e2⟩
            have e2 : r.2.2.1 = num := e2
            exact hc (e2 ▸ hns r hr e1)
          · intro r hr
            rcases List.mem_append.mp hr with hr | hr
            · exact gL.2 r hr
            · rw [List.mem_singleton] at hr
              subst hr
              exact ⟨by show (0 : Int) ≤ i; omega, by show (i : Int) < i + 1; omega, u0⟩
          · intro r hr e
            rcases List.mem_append.mp hr with hr | hr
            · exact List.mem_append_left _ (hns r hr e)
            · rw [List.mem_singleton] at hr
              subst hr
              exact List.mem_append_right _ (List.mem_singleton.mpr rfl)
          · rw [List.length_append, List.length_singleton]
            omega
          · rw [List.length_append, List.length_singleton]
            omega
        · exact ⟨L, ns, _, _, rfl, hfa6, hnl6, gL, hns, by omega, by omega, kp6, D6.mono (by omega)⟩
      · rintro σ H5 ⟨L, ns, v5, v6, rfl, hfa5, hnl5, gL, hns, hL5, hn5, kp5, D5⟩
        refine ⟨L, _, _, _, _, rfl, hfa5, ?_, ?_, kp5, D5.mono (by omega)⟩
        · show Good ((i + 1 : Nat) : Int) L
          rw [show ((i + 1 : Nat) : Int) = (i : Int) + 1 by omega]
          exact gL
        · omega
    · rintro σ H2 ⟨L, v3, v4, v5, v6, rfl, hfa2, gL, hL, kp2, D2⟩
      rw [List.length_map, List.length_range] at gL hL D2
      exact ⟨_, rfl, k _ fa L nfa kp2 (D2.mono (by omega)) hfa2 ⟨gL.1, fun r hr => by have := gL.2 r hr; omega⟩ (by omega)⟩
end
end Wn

namespace Wn
open PySem L2

theorem mem_ins {α : Type} (T : List α) (k : Nat) (x r : α) : r ∈ T.take k ++ [x] ++ T.drop k ↔ r = x ∨ r ∈ T := by
  have e : r ∈ T ↔ r ∈ T.take k ∨ r ∈ T.drop k := by
    rw [← List.mem_append, List.take_append_drop]
  rw [List.mem_append, List.mem_append, List.mem_singleton, e]
  constructor
  · rintro ((h | h) | h)
    · exact .inr (.inl h)
    · exact .inl h
    · exact .inr (.inr h)
  · rintro (h | h | h)
    · exact .inl (.inr h)
    · exact .inl (.inl h)
    · exact .inr h
theorem len_ins {α : Type} (T : List α) (k : Nat) (x : α) : (T.take k ++ [x] ++ T.drop k).length = T.length + 1 := by
  rw [List.length_append, List.length_append, List.length_take, List.length_drop, List.length_singleton]
  omega
theorem dueOf_succ (L : List R4) (f : Int → Int) (k : Nat) : dueOf L f (k + 1) = dueOf L f k ++ (ownOf L (k : Int)).filter (fun r => decide (r.2.2.1 = f (k : Int))) := by
  unfold dueOf
  rw [List.range_succ, List.flatMap_append, List.flatMap_singleton]
theorem dueOf_congr {L : List R4} {f g : Int → Int} : ∀ k : Nat, (∀ h : Nat, h < k → f (h : Int) = g (h : Int)) → dueOf L f k = dueOf L g k
  | 0, _ => rfl
  | k + 1, h => by
    rw [dueOf_succ, dueOf_succ, dueOf_congr k fun j hj => h j (by omega), h k (by omega)]
section
variable {P : Program} {w : World} {K : PySem.W.Frag} {mg : Str → Option Value} {base : Heap}
theorem scTurned : FnScope ["_law_deck_here", "_law_rows", "_law_found", "_law_row"] ["_law_deck_here", "_law_rows"] (defScope sTurned) := ⟨rfl, rfl, rfl, by decide +kernel, rfl, by decide +kernel, by decide +kernel⟩
theorem ok_turned {f : Addr} {fd : FuncData} (F : Fun K "_law_turned" "_law_turned" sTurned f fd) (zL : mg "len" = none)
    (cN : Cd P w K mg base 2 "_law_next" ["_law_deck_here", "_law_many"] spNext) :
    FnOk P w K mg base CX0 3 f fd ["_law_deck_here", "_law_rows"] (spTurned K) := by
  obtain ⟨fN, fdN, GN, mN, kN, bN⟩ := cN.tk
  refine F.ok scTurned (fun vs H Q E h => ?_) (fun cdv A outer s H vs Q E hr h => ?_)
  · obtain ⟨d, f, ra, n, L, rfl, _⟩ := h
    rfl
  · obtain ⟨d, f, ra, n, L, rfl, D0, hn, ⟨xs, hra, rra⟩, nrd, hL, k⟩ := h
    have hr2 : Room 2 _ := hr
    refine ⟨_, (pss_cons (ps_set (i := 2) scTurned.nd rfl (Or.inl rfl) (pe_lst pa_nil))
       (pss_cons (ps_for PassesOwn.never rfl (pi_list (pv 1)) (pg_name (i := 3) scTurned.nd rfl (Or.inl rfl))
       (pss_cons (ps_expr (pe_bm PySem.F.plainAttrs_list PySem.F.slot_list_insert PySem.F.type_list_insert mt_insert (pv 2) (pa_cons (pe_call GN hr2 rfl mN kN bN .nil pass0 (pa_cons (pv 0) (pa_cons (pe_op op_add (pe_callB (lenK (K := K) rfl) (by rfl) zL PySem.boot_len (pa_cons (pv 2) pa_nil)) pe_int) pa_nil))) (pa_cons (pv 3) pa_nil))))
       (pss_one (ps_if (pt_cmpR op_eq (pe_call GN hr2 rfl mN kN bN .nil pass0 (pa_cons (pv 0) (pa_cons pe_int pa_nil))) pe_int (nomark _))
       (pss_one (ps_expr (pe_bm PySem.F.plainAttrs_list PySem.F.slot_list_insert PySem.F.type_list_insert mt_insert (pv 2) (pa_cons (pe_call GN hr2 rfl mN kN bN .nil pass0 (pa_cons (pv 0) (pa_cons (pe_op op_add (pe_callB (lenK (K := K) rfl) (by rfl) zL PySem.boot_len (pa_cons (pv 2) pa_nil)) pe_int) pa_nil))) (pa_cons (pv 3) pa_nil)))))
       pss_nil))))
       (pss_one (ps_ret (pv 2))))), ?_⟩
    refine ⟨Nat.zero_le _, fun fa nfa => ?_⟩
    have s1 : Same H (upd H fa (.lst [])) := (L2.Same.refl H).new nfa
    have D1 := D0.same s1
    have hfa1 : LstAt K (upd H fa (.lst [])) fa (([] : List R4).map r4D) := ⟨[], upd_same, RpL.nil⟩
    have nfd : fa ≠ d := (ne_of_none D0.lst.choose_spec nfa).symm
    have nfaf : f ≠ fa := ne_of_none D0.lst2.choose_spec nfa
    have k01 : Kp [d] H (upd H fa (.lst [])) := Kp.of s1
    have t01 := TK.of s1
    generalize upd H fa (.lst []) = H1 at s1 D1 hfa1 k01 t01
    refine ⟨_, rfl, ra, rfl, ⟨_, SqL.of (s1 _ _ hra)⟩, ?_⟩
    have lxs := RpL.len _ _ rra
    rw [List.length_map] at lxs
    refine for_list (K := K) (a := ra) (xs := xs) (fun i σ H' => ∃ (T : List R4) (v3 : Option V), σ = [some (.ref d), some (.ref ra), some (.ref fa), v3] ∧ LstAt K H' fa (T.map r4D) ∧ (∀ r, r ∈ T ↔ r ∈ L.take i) ∧ T.length ≤ 2 * i ∧ Kp [d] H H' ∧ TK H H' ∧ Deck H' d f (n + 3 * i))
      ⟨[], _, rfl, hfa1, fun r => by simp, Nat.le_refl _, k01, t01, D1.mono (by omega)⟩ (fun i σ H' _ ⟨_, _, _, _, _, _, kp, _⟩ => SqL.of (kp _ _ (nin1 nrd) hra)) ?_ ?_
    · rintro i x σ H2 hx ⟨T, v3, rfl, hfa2, hT, lT, kp2, t2, D2⟩
      have hi : i < L.length := by
        have q := (List.getElem?_eq_some_iff.mp hx).1
        omega
      obtain ⟨v, ev, rv⟩ := RpL.get _ _ rra i (r4D L[i]) (by rw [List.getElem?_map, List.getElem?_eq_getElem hi]; rfl)
      have ex : v = x := Option.some.inj (ev.symm.trans hx)
      rw [ex] at rv
      have et : L.take (i + 1) = L.take i ++ [L[i]] := List.take_succ_eq_append_getElem hi
      obtain ⟨ys, hy2, ry2⟩ := id hfa2
      have ly := RpL.len _ _ ry2
      rw [List.length_map] at ly
      refine ⟨_, rfl, .inl ⟨rfl, _, SqL.of hy2⟩, _, rfl, _, rfl, _, ys.length, rfl, .inl ⟨_, SqL.of hy2, rfl⟩, _, _, rfl, rfl, d, f, (ys.length : Int) + 1, n + 3 * i, rfl, by omega, by omega, D2, fun at1 H3 a0 a1 k3 D3 t3 => ?_⟩
      have hy3 := k3 _ _ (nin1 nfd) hy2
      refine ⟨_, rfl, fa, _, _, _, rfl, rfl, hy3, Nat.lt_of_le_of_lt (show ys.length ≤ 1000 by omega) (by decide), a0, by omega, ?_⟩
      have t4 : TK H3 (upd H3 fa (.lst (ys.take at1.toNat ++ [x] ++ ys.drop at1.toNat))) := (TK.refl _).wr hy3 rfl
      have hy4 : upd H3 fa (.lst (ys.take at1.toNat ++ [x] ++ ys.drop at1.toNat)) fa = some (.lst (ys.take at1.toNat ++ [x] ++ ys.drop at1.toNat)) := upd_same
      have k4 : Kp [fa] H3 (upd H3 fa (.lst (ys.take at1.toNat ++ [x] ++ ys.drop at1.toNat))) := (Kp.refl _ _).wr (List.mem_singleton.mpr rfl)
      have kp4 : Kp [d] H (upd H3 fa (.lst (ys.take at1.toNat ++ [x] ++ ys.drop at1.toNat))) := (kp2.trans k3).wrn nfa
      generalize upd H3 fa (.lst (ys.take at1.toNat ++ [x] ++ ys.drop at1.toNat)) = H4 at t4 hy4 k4 kp4
      have t04 := (t2.trans t3).trans t4
      have rx4 := Rp.tk t04 _ _ rv
      have ry4 : RpL K H4 ((T.take at1.toNat ++ [L[i]] ++ T.drop at1.toNat).map r4D) (ys.take at1.toNat ++ [x] ++ ys.drop at1.toNat) := by
        rw [List.map_append, List.map_append, List.map_take, List.map_drop]
        have r4 := RpL.tk (t3.trans t4) _ _ ry2
        exact RpL.app (RpL.app (RpL.take _ r4) (RpL.cons rx4 RpL.nil)) (RpL.drop _ r4)
      have D4 := D3.kp k4 (nin1 nfd.symm) (nin1 nfaf)
      have lT4 := len_ins T at1.toNat L[i]
      have hT4 : ∀ r, r ∈ T.take at1.toNat ++ [L[i]] ++ T.drop at1.toNat ↔ r ∈ L.take (i + 1) := fun r => by
        rw [mem_ins, hT, et, List.mem_append, List.mem_singleton]
        exact Or.comm
      have ly4 := RpL.len _ _ ry4
      rw [List.length_map] at ly4
      generalize T.take at1.toNat ++ [L[i]] ++ T.drop at1.toNat = T4 at ry4 lT4 hT4 ly4
      generalize ys.take at1.toNat ++ [x] ++ ys.drop at1.toNat = ys4 at ry4 hy4 ly4
      refine ⟨_, rfl, d, f, 4, n + 3 * i + 1, rfl, by decide, by omega, D4, fun c H5 c0 c1 k5 D5 t5 => ?_⟩
      have hy5 := k5 _ _ (nin1 nfd) hy4
      refine ⟨rfl, _, rfl, ?_⟩
      refine ite2 (fun _ => ?_) (fun _ => ?_)
      · refine ⟨_, rfl, .inl ⟨rfl, _, SqL.of hy5⟩, _, rfl, _, rfl, _, ys4.length, rfl, .inl ⟨_, SqL.of hy5, rfl⟩, _, _, rfl, rfl, d, f, (ys4.length : Int) + 1, n + 3 * i + 1 + 1, rfl, by omega, by omega, D5, fun at2 H6 b0 b1 k6 D6 t6 => ?_⟩
        have hy6 := k6 _ _ (nin1 nfd) hy5
        refine ⟨_, rfl, fa, _, _, _, rfl, rfl, hy6, Nat.lt_of_le_of_lt (show ys4.length ≤ 1000 by omega) (by decide), b0, by omega, ?_⟩
        have t7 : TK H6 (upd H6 fa (.lst (ys4.take at2.toNat ++ [x] ++ ys4.drop at2.toNat))) := (TK.refl _).wr hy6 rfl
        have k7 : Kp [fa] H6 (upd H6 fa (.lst (ys4.take at2.toNat ++ [x] ++ ys4.drop at2.toNat))) := (Kp.refl _ _).wr (List.mem_singleton.mpr rfl)
        have t47 := (t5.trans t6).trans t7
        refine ⟨T4.take at2.toNat ++ [L[i]] ++ T4.drop at2.toNat, _, rfl, ⟨_, upd_same, ?_⟩, fun r => ?_, ?_, ((kp4.trans k5).trans k6).wrn nfa, t04.trans t47, (D6.kp k7 (nin1 nfd.symm) (nin1 nfaf)).mono (by omega)⟩
        · rw [List.map_append, List.map_append, List.map_take, List.map_drop]
          have r4 := RpL.tk t47 _ _ ry4
          exact RpL.app (RpL.app (RpL.take _ r4) (RpL.cons (Rp.tk t47 _ _ rx4) RpL.nil)) (RpL.drop _ r4)
        · rw [mem_ins, hT4]
          constructor
          · rintro (h | h)
            · rw [h, et]
              exact List.mem_append_right _ (List.mem_singleton.mpr rfl)
            · exact h
          · exact .inr
        · rw [len_ins]
          omega
      · exact ⟨T4, _, rfl, ⟨ys4, hy5, RpL.tk t5 _ _ ry4⟩, hT4, by omega, kp4.trans k5, t04.trans t5, D5.mono (by omega)⟩
    · rintro σ H2 ⟨T, v3, rfl, hfa2, hT, lT, kp2, t2, D2⟩
      rw [lxs] at lT D2
      refine ⟨_, rfl, k _ fa T nfa kp2 (D2.mono (by omega)) hfa2 (fun r => ?_) (by omega)⟩
      rw [hT r, lxs, List.take_length]
theorem scDue : FnScope ["_law_rows", "_law_found", "_law_hand", "_law_own", "_law_most", "_law_row"] ["_law_rows"] (defScope sDue) := ⟨rfl, rfl, rfl, by decide +kernel, rfl, by decide +kernel, by decide +kernel⟩
theorem ok_due {f C : Addr} {fd : FuncData} (F : Fun K "_law_due" "_law_due" sDue f fd) (T : TN K mg C) (zR : mg "range" = none) (zM : mg "max" = none) :
    FnOk P w K mg base CX0 1 f fd ["_law_rows"] (spDueK K) := by
  refine F.ok scDue (fun vs H Q E h => ?_) (fun cdv A outer s H vs Q E hr h => ?_)
  · obtain ⟨ra, L, rfl, _⟩ := h
    rfl
  · obtain ⟨ra, L, rfl, ⟨xs, hra, rra⟩, hL, k⟩ := h
    refine ⟨_, (pss_cons (ps_set (i := 1) scDue.nd rfl (Or.inl rfl) (pe_lst pa_nil))
       (pss_cons (ps_for PassesOwn.never rfl (pi_range1 rfl zR (pa_cons pe_int pa_nil)) (pg_name (i := 2) scDue.nd rfl (Or.inr rfl))
       (pss_cons (ps_setLc (i := 3) (own := [("_law_row", 5)]) (g := (gName 5)) (tt := _) rfl scDue.nd rfl rfl (sw_true rfl rfl rfl (by decide +kernel)) (pi_list (pv 0)) (blkOk_by (N := ["_law_rows", "_law_found", "_law_hand", "_law_own", "_law_most", "_law_row"]) (sc := defScope sDue) (by decide +kernel))
       (fun _ _ _ _ _ => (pg_name (i := 5) scDue.nd rfl (Or.inl rfl))) (fun _ _ _ _ _ => (pts_one (pt_cmpR op_eq (pe_ix (ixT (K := K) rfl) (pv 5) pe_int (fun _ _ => rfl)) (pv 2) (nomark _)))) (fun _ _ _ _ _ => (pv 5)))
       (pss_cons (ps_set (i := 4) scDue.nd rfl (Or.inr rfl) (pe_callB (crMaxK (K := K) rfl rfl) (by rfl) zM (by decide +kernel) (pa_cons (pe_op op_cat (pe_lc (own := [("_law_row", 5)]) (g := (gName 5)) (tt := tYes) rfl scDue.nd (pi_list (pv 3)) (blkOk_by (N := ["_law_rows", "_law_found", "_law_hand", "_law_own", "_law_most", "_law_row"]) (sc := defScope sDue) (by decide +kernel))
       (fun _ _ _ _ _ => (pg_name (i := 5) scDue.nd rfl (Or.inl rfl))) (fun _ _ _ _ _ => pts_nil) (fun _ _ _ _ _ => (pe_ix (ixT (K := K) rfl) (pv 5) pe_int (fun _ _ => rfl)))) (pe_lst (pa_cons (pe_un un_neg pe_int) pa_nil))) pa_nil)))
       (pss_one (ps_set (i := 1) scDue.nd rfl (Or.inl rfl) (pe_op op_cat (pv 1) (pe_lc (own := [("_law_row", 5)]) (g := (gName 5)) (tt := _) rfl scDue.nd (pi_list (pv 3)) (blkOk_by (N := ["_law_rows", "_law_found", "_law_hand", "_law_own", "_law_most", "_law_row"]) (sc := defScope sDue) (by decide +kernel))
       (fun _ _ _ _ _ => (pg_name (i := 5) scDue.nd rfl (Or.inl rfl))) (fun _ _ _ _ _ => (pts_one (pt_cmpR op_eq (pe_ix (ixT (K := K) rfl) (pv 5) pe_int (fun _ _ => rfl)) (pv 4) (nomark _)))) (fun _ _ _ _ _ => (pv 5)))))))))
       (pss_one (ps_ret (pe_callTy (tupOfK (K := K) rfl) (by rfl) T.tuple PyProof.Rows.boot_tuple (pa_cons (pv 1) pa_nil)))))), ?_⟩
    refine ⟨Nat.zero_le _, fun fa nfa => ?_⟩
    have s1 : Same H (upd H fa (.lst [])) := (L2.Same.refl H).new nfa
    refine ⟨6, rfl, by decide, by decide, ?_⟩
    refine for_range (lo := 0) (fun i σ H' => ∃ (most : Int → Int) (fa : Addr) (v2 v3 v4 v5 : Option V), σ = [some (.ref ra), some (.ref fa), v2, v3, v4, v5] ∧ Same H H' ∧ LstAt K H' fa ((dueOf L most i).map r4D) ∧ (∀ h : Nat, h < i → (∀ r ∈ ownOf L h, r.2.2.1 ≤ most h) ∧ ((∃ r ∈ ownOf L h, r.2.2.1 = most h) ∨ most h = -1)) ∧ (dueOf L most i).length ≤ 30 * i)
      ⟨fun _ => 0, fa, _, _, _, _, rfl, s1, ⟨[], upd_same, RpL.nil⟩, fun h hh => absurd hh (Nat.not_lt_zero _), Nat.le_refl _⟩ ?_ ?_
    · rintro i σ H2 hi ⟨most, fb, v2, v3, v4, v5, rfl, s2, hfb2, hm2, lm2⟩
      have ei : (0 : Int) + (i : Int) = (i : Int) := by omega
      have hra2 := s2 _ _ hra
      have rra2 := RpL.tk (TK.of s2) _ _ rra
      refine ⟨_, rfl, ra, rfl, ⟨_, SqL.of hra2⟩, fun D hD => ?_⟩
      refine filt_lc (enc := r4D) (fun r => decide (r.1 = (i : Int))) hra2 rra2 hD (by show 5 < 6; decide) (by omega) ?_ ?_
      · intro b x H' Q' hb rb s' hQ
        obtain ⟨a, rfl, ha⟩ := r4D_inv rb
        refine ⟨_, rfl, a, _, _, _, rfl, rfl, ha, rfl, _, rfl, rfl, _, rfl, ?_⟩
        show Q' (decide (V.int b.1 = V.int (0 + (i : Int)))) H'
        rw [show decide (V.int b.1 = V.int (0 + (i : Int))) = decide (b.1 = (i : Int)) from decide_eq_decide.mpr (by rw [ei, V.int.injEq])]
        exact hQ
      intro H3 ys s3 hD3 rD3
      change RpL K H3 ((ownOf L (i : Int)).map r4D) ys at rD3
      have lown : (ownOf L (i : Int)).length ≤ 30 := Nat.le_trans (List.length_filter_le _ _) hL
      have s03 := s2.trans s3
      -- most
      refine ⟨_, rfl, D, rfl, ⟨_, SqL.of hD3⟩, fun E hE => ?_⟩
      refine mapI_lc (enc := r4D) (fun r => r.2.2.1) hD3 rD3 hE (by omega) ?_ ?_
      · intro b x H' Q' hb rb s' hQ
        obtain ⟨a, rfl, ha⟩ := r4D_inv rb
        exact ⟨_, rfl, a, _, _, _, rfl, rfl, ha, rfl, hQ⟩
      intro H4 s4 hE4
      refine ⟨_, rfl, (by show 1 ≤ sizeLine; decide), fun G nG => ?_⟩
      have s5 : Same H4 (upd H4 G (.lst [.int (-1)])) := (L2.Same.refl H4).new nG
      have hG5 : upd H4 G (.lst [.int (-1)]) G = some (.lst [.int (-1)]) := upd_same
      generalize upd H4 G (.lst [.int (-1)]) = H5 at s5 hG5
      refine ⟨E, G, _, _, rfl, rfl, s5 _ _ hE4, hG5, ?_, fun G2 nG2 => ?_⟩
      · rw [List.length_map, List.length_map, List.length_singleton]
        exact Nat.le_trans (show (ownOf L (i : Int)).length + 1 ≤ 100 by omega) (by decide)
      have s6 : Same H5 (upd H5 G2 (.lst (((ownOf L (i : Int)).map (fun r => r.2.2.1)).map V.int ++ [.int (-1)]))) := (L2.Same.refl H5).new nG2
      refine ⟨G2, (ownOf L (i : Int)).map (fun r => r.2.2.1) ++ [-1], rfl, SqL.of (by rw [upd_same, List.map_append]; rfl), (by rw [List.length_append]; exact Nat.lt_of_lt_of_le (by decide) (Nat.le_add_left 1 _)), fun mo hmo hle => ?_⟩
      generalize upd H5 G2 (.lst (((ownOf L (i : Int)).map (fun r => r.2.2.1)).map V.int ++ [.int (-1)])) = H6 at s6
      have s06 := (s03.trans s4).trans (s5.trans s6)
      have s36 := s4.trans (s5.trans s6)
      -- found + [..]
      have hD6 := s36 _ _ hD3
      have rD6 := RpL.tk (TK.of s36) _ _ rD3
      refine ⟨_, rfl, _, rfl, D, rfl, ⟨_, SqL.of hD6⟩, fun I hI => ?_⟩
      refine filt_lc (enc := r4D) (fun r => decide (r.2.2.1 = mo)) hD6 rD6 hI (by show 5 < 6; decide) (by omega) ?_ ?_
      · intro b x H' Q' hb rb s' hQ
        obtain ⟨a, rfl, ha⟩ := r4D_inv rb
        refine ⟨_, rfl, a, _, _, _, rfl, rfl, ha, rfl, _, rfl, rfl, _, rfl, ?_⟩
        show Q' (decide (V.int b.2.2.1 = V.int mo)) H'
        rw [show decide (V.int b.2.2.1 = V.int mo) = decide (b.2.2.1 = mo) from decide_eq_decide.mpr (by rw [V.int.injEq])]
        exact hQ
      intro H7 zs s7 hI7 rI7
      obtain ⟨fs, hfb7, rfb7⟩ := hfb2.same (s3.trans (s36.trans s7))
      have lzs := RpL.len _ _ rI7
      have lfs := RpL.len _ _ rfb7
      rw [List.length_map] at lzs lfs
      have lfil := List.length_filter_le (fun r : R4 => decide (r.2.2.1 = mo)) (ownOf L (i : Int))
      have hi6 : i < 6 := hi
      refine ⟨fb, I, _, _, rfl, rfl, hfb7, hI7, Nat.le_trans (show fs.length + zs.length ≤ 1000 by omega) (by decide), fun fc nfc => ?_⟩
      have s8 : Same H7 (upd H7 fc (.lst (fs ++ zs))) := (L2.Same.refl H7).new nfc
      have t8 := TK.of s8
      have hmost : ∀ h : Nat, h < i → (fun h : Int => if h = (i : Int) then mo else most h) (h : Int) = most h := fun h hh => if_neg (by omega)
      have edue : dueOf L (fun h => if h = (i : Int) then mo else most h) (i + 1) = dueOf L most i ++ (ownOf L (i : Int)).filter (fun r => decide (r.2.2.1 = mo)) := by
        rw [dueOf_succ, dueOf_congr i hmost]
        show _ ++ (ownOf L (i : Int)).filter (fun r => decide (r.2.2.1 = if (i : Int) = (i : Int) then mo else most i)) = _
        rw [if_pos rfl]
      refine ⟨fun h => if h = (i : Int) then mo else most h, fc, _, _, _, _, rfl, (s06.trans s7).trans s8, ⟨_, upd_same, ?_⟩, fun h hh => ?_, ?_⟩
      · rw [edue, List.map_append]
        exact RpL.tk t8 _ _ (RpL.app rfb7 rI7)
      · show (∀ r ∈ ownOf L h, r.2.2.1 ≤ if (h : Int) = (i : Int) then mo else most h) ∧ ((∃ r ∈ ownOf L h, r.2.2.1 = if (h : Int) = (i : Int) then mo else most h) ∨ (if (h : Int) = (i : Int) then mo else most h) = -1)
        by_cases e : h = i
        · subst e
          rw [if_pos rfl]
          refine ⟨fun r hr => hle _ (List.mem_append_left _ (List.mem_map.mpr ⟨r, hr, rfl⟩)), ?_⟩
          rcases List.mem_append.mp hmo with h1 | h1
          · obtain ⟨r, hr, er⟩ := List.mem_map.mp h1
            exact .inl ⟨r, hr, er⟩
          · exact .inr (List.mem_singleton.mp h1)
        · rw [if_neg (by omega)]
          exact hm2 h (by omega)
      · rw [edue, List.length_append]
        omega
    · rintro σ H2 ⟨most, fb, v2, v3, v4, v5, rfl, s2, hfb2, hm2, lm2⟩
      obtain ⟨fs, hfb, rfb⟩ := hfb2
      refine ⟨_, rfl, fb, fs, rfl, .inl ⟨SqL.of hfb, fun t nt => ?_⟩⟩
      have s3 := s2.new (o := .tup fs) nt
      exact k _ _ most s3 hm2 (Rp.tup upd_same (RpL.tk ((TK.refl _).new nt) _ _ rfb))
theorem scLearnt : FnScope ["_law_rows", "_law_table", "_law_hand", "_law_place", "_law_number", "_law_beat"] ["_law_rows"] (defScope sLearnt) := ⟨rfl, rfl, rfl, by decide +kernel, rfl, by decide +kernel, by decide +kernel⟩
theorem ok_learnt {f C fI : Addr} {fd fdI : FuncData} (F : Fun K "_law_learnt" "_law_learnt" sLearnt f fd) (T : TN K mg C) (M : Mk K C fI) (GI : FnOk P w K mg base CX0 1 fI fdI ["self"] (spInit K C)) (bI : Binds K fdI ["self"] [])
    (tL : Md P w K mg base 1 C "learn" ["self", "hand", "place", "number", "beat"] (spLearn K C)) :
    FnOk P w K mg base CX0 3 f fd ["_law_rows"] (spLearnt K C) := by
  obtain ⟨ftL, fdtL, GtL, mtL, btL⟩ := tL.tk
  have GI := GI.tk
  refine F.ok scLearnt (fun vs H Q E h => ?_) (fun cdv A outer s H vs Q E hr h => ?_)
  · obtain ⟨ra, TT, rfl, _⟩ := h
    rfl
  · obtain ⟨ra, TT, rfl, ⟨xs, hra, rra⟩, hL, k⟩ := h
    have hr2 : Room 2 _ := hr
    have hr1 : Room 1 _ := hr.mono (by decide)
    refine ⟨_, (pss_cons (ps_set (i := 1) scLearnt.nd rfl (Or.inl rfl) (pe_make0 M GI hr2 rfl T.mgC bI .nil pass0))
       (pss_cons (ps_for PassesOwn.never rfl (pi_list (pv 0)) (pg_tup rfl (pgs_cons (pg_name (i := 2) scLearnt.nd rfl (Or.inl rfl)) (pgs_cons (pg_name (i := 3) scLearnt.nd rfl (Or.inl rfl)) (pgs_cons (pg_name (i := 4) scLearnt.nd rfl (Or.inl rfl)) (pgs_cons (pg_name (i := 5) scLearnt.nd rfl (Or.inl rfl)) pgs_nil)))))
       (pss_one (ps_expr (pe_meth (pv 1) T.cl mtL GtL hr1 btL .nil pass0 (pa_cons (pv 2) (pa_cons (pv 3) (pa_cons (pv 4) (pa_cons (pv 5) pa_nil))))))))
       (pss_one (ps_ret (pv 1))))), ?_⟩
    intro x dx nx ndx nex
    have s2 : Same H (upd (upd H dx (.own x)) x (.ins C dx [])) := ((L2.Same.refl H).new ndx).new (by rw [upd_ne nex.symm]; exact nx)
    refine ⟨x, dx, rfl, upd_same, fun H2 q2 nq2 k2 hN2 t2 => ⟨rfl, ?_⟩⟩
    have s12 : Same H H2 := fun b o e => k2 b o (nin1 (ne_of_none e nx)) (s2 b o e)
    have nq : H q2 = none := s2.free nq2
    refine ⟨_, rfl, ra, rfl, ⟨_, SqL.of (s12 _ _ hra)⟩, ?_⟩
    have lxs := RpL.len _ _ rra
    rw [List.length_map] at lxs
    refine for_list (K := K) (a := ra) (xs := xs) (fun i σ H' => ∃ (m : List (Int × Rw)) (v2 v3 v4 v5 : Option V), σ = [some (.ref ra), some (.ref x), v2, v3, v4, v5] ∧ Same H H' ∧ TabAt K C H' x q2 m ∧ Learnt m (TT.take i) ∧ m.length ≤ i)
      ⟨[], _, _, _, _, rfl, s12, hN2, Learnt.nil, Nat.le_refl _⟩ (fun i σ H' _ ⟨_, _, _, _, _, _, s, _⟩ => SqL.of (s _ _ hra)) ?_ ?_
    · rintro i y σ H3 hy ⟨m, v2, v3, v4, v5, rfl, s3, hT3, le3, lm3⟩
      have hi : i < TT.length := by
        have q := (List.getElem?_eq_some_iff.mp hy).1
        omega
      obtain ⟨v, ev, rv⟩ := RpL.get _ _ rra i (r4D TT[i]) (by rw [List.getElem?_map, List.getElem?_eq_getElem hi]; rfl)
      have ex : v = y := Option.some.inj (ev.symm.trans hy)
      rw [ex] at rv
      obtain ⟨a, rfl, ha⟩ := r4D_inv (Rp.tk (TK.of s3) _ _ rv)
      obtain ⟨⟨dx3, hp3⟩, kv3, hq3, _⟩ := id hT3
      refine ⟨a, _, rfl, ha, rfl, _, _, rfl, _, _, rfl, _, _, rfl, _, _, rfl, rfl, ?_⟩
      refine ⟨_, rfl, x, dx3, _, rfl, hp3, fld1_ne (by decide +kernel), _, rfl, _, rfl, _, rfl, _, rfl, x, q2, TT[i].1, TT[i].2.1, TT[i].2.2.1, TT[i].2.2.2, m, rfl, hT3, by omega, fun H4 k4 hT4 t4 => ?_⟩
      have s4 : Same H H4 := fun b o e => k4 b o (nin1 (ne_of_none e nq)) (s3 b o e)
      refine ⟨_, _, _, _, _, rfl, s4, hT4, ?_, ?_⟩
      · rw [List.take_succ_eq_append_getElem hi]
        exact le3.step TT[i]
      · have := learnA_len m TT[i].1 (TT[i].2.1, TT[i].2.2.1, TT[i].2.2.2)
        omega
    · rintro σ H3 ⟨m, v2, v3, v4, v5, rfl, s3, hT3, le3, lm3⟩
      rw [lxs, List.take_length] at le3
      exact ⟨_, rfl, k _ x q2 m nx nq s3 hT3 le3 (by omega)⟩
end
end Wn

namespace Wn
open PySem L2
abbrev sLaw : Stmt := top 12
def tableR (m : List (Int × Rw)) : List R4 := ((List.range 6).filter fun (h : Nat) => (lookA m (h : Int)).isSome).map fun (h : Nat) => ((h : Int), (lookA m (h : Int)).getD (0, 0, 0))
theorem later_filter {m0 m : List (Int × Rw)} (L : Later m0 m) (h : Int) : (lookA m h).isSome = (lookA m0 h).isSome := by
  have := L.nums h
  cases e1 : lookA m h <;> cases e2 : lookA m0 h <;> simp [e1, e2] at this ⊢
theorem later_rows {m0 m : List (Int × Rw)} (L : Later m0 m) : (tableR m).map (·.1) = (tableR m0).map (·.1) ∧ (tableR m).map (fun r => r.2.2.1) = (tableR m0).map (fun r => r.2.2.1) := by
  unfold tableR
  have e : ((List.range 6).filter fun (h : Nat) => (lookA m (h : Int)).isSome) = ((List.range 6).filter fun (h : Nat) => (lookA m0 (h : Int)).isSome) := List.filter_congr fun h _ => later_filter L h
  rw [e, List.map_map, List.map_map, List.map_map, List.map_map]
  refine ⟨rfl, List.map_congr_left fun h hh => ?_⟩
  rw [List.mem_filter] at hh
  have h1 := L.nums (h : Int)
  show ((lookA m (h : Int)).getD (0, 0, 0)).2.1 = ((lookA m0 (h : Int)).getD (0, 0, 0)).2.1
  cases e2 : lookA m0 (h : Int) with
  | none =>
    rw [e2] at hh
    cases hh.2
  | some y =>
    rw [e2] at h1
    cases e3 : lookA m (h : Int) with
    | none =>
      rw [e3] at h1
      cases h1
    | some x =>
      rw [e3] at h1
      exact Option.some.inj h1
theorem canLay_ints : ∀ ns : List Int, PyData.canLayAll0 (ns.map PyData.int) = true
  | [] => rfl
  | n :: ns => by
    show (PyData.canLay0 (.int n) && PyData.canLayAll0 (ns.map PyData.int)) = true
    rw [canLay_ints ns]
    rfl
theorem shaped_ints (ns : List Int) : SeqAt.shaped (.list (ns.map PyData.int)) = true := by
  unfold SeqAt.shaped
  rw [Bool.and_eq_true]
  refine ⟨canLay_ints ns, decide_eq_true ?_⟩
  have h : ∀ ns : List Int, PyData.depthAll (ns.map PyData.int) ≤ 1 := fun ns => by
    induction ns with
    | nil => simp [PyData.depthAll]
    | cons n ns ih => simp [PyData.depthAll, PyData.depth] at ih ⊢; omega
  have := h ns
  simp [PyData.depth]
  omega
theorem tableR_len (m : List (Int × Rw)) : (tableR m).length ≤ 6 := by
  unfold tableR
  rw [List.length_map]
  have := List.length_filter_le (fun (h : Nat) => (lookA m (h : Int)).isSome) (List.range 6)
  rw [List.length_range] at this
  exact this
theorem dep_r4 (L : List R4) : dep (.tuple (L.map r4D)) < 3 := by
  unfold dep
  have := deps_map_le (c := 1) (f := r4D) L fun x _ => by simp [r4D, dep, deps]
  omega
theorem sz_r4 (L : List R4) (h : L.length ≤ 1000) : sz (.tuple (L.map r4D)) ≤ 1000000 := by
  unfold sz
  have := szs_map_le (c := 5) (f := r4D) L fun x _ => by simp [r4D, sz, szs]
  omega
def r3D (r : R4) : PyData := .tuple [.int r.1, .int r.2.1, .int r.2.2.1]
theorem r3D_inv {K : PySem.W.Frag} {H : Hp} {x : R4} {u : V} (r : Rp K H (r3D x) u) : ∃ a, u = .ref a ∧ SqT K H a [.int x.1, .int x.2.1, .int x.2.2.1] := by
  unfold r3D Rp at r
  obtain ⟨a, xs, rfl, ha, hl⟩ := r
  unfold RpL at hl
  obtain ⟨v0, r0, rfl, h0, hl⟩ := hl
  unfold RpL at hl
  obtain ⟨v1, r1, rfl, h1, hl⟩ := hl
  unfold RpL at hl
  obtain ⟨v2, r2, rfl, h2, hl⟩ := hl
  unfold RpL at hl
  subst hl
  unfold Rp at h0 h1 h2
  subst h0 h1 h2
  exact ⟨a, rfl, ha⟩

section
variable {P : Program} {w : World} {K : PySem.W.Frag} {mg : Str → Option Value} {base : Heap}
theorem scLaw : FnScope ["_law_script", "_law_deck_here", "_law_turn", "_law_rows", "_law_due_here", "_law_k", "_law_told", "_law_table", "_law_hand", "_law_place", "_law_number", "_law_beat", "_law_ends", "_law_at", "_law_row"] ["_law_script"] (defScope sLaw) := ⟨rfl, rfl, rfl, by decide +kernel, rfl, by decide +kernel, by decide +kernel⟩
theorem ok_law {f C : Addr} {fd : FuncData} (F : Fun K "law" "law" sLaw f fd) (T : TN K mg C) (zR : mg "range" = none) (zL : mg "len" = none) (zM : mg "max" = none)
    (cN : Cd P w K mg base 2 "_law_next" ["_law_deck_here", "_law_many"] spNext) (cD : Cd P w K mg base 2 "_law_deck" ["_law_script"] (spDeck K)) (cO : Cd P w K mg base 3 "_law_rows_of" ["_law_deck_here", "_law_hands"] (spRowsOf K)) (cU : Cd P w K mg base 1 "_law_due" ["_law_rows"] (spDueK K))
    (cT : Cd P w K mg base 3 "_law_turned" ["_law_deck_here", "_law_rows"] (spTurned K)) (cL : Cd P w K mg base 3 "_law_learnt" ["_law_rows"] (spLearnt K C)) (cS : Cd P w K mg base 3 "_law_same" ["_law_thing", "_law_due_here"] (spSame K 3))
    (tL : Md P w K mg base 1 C "learn" ["self", "hand", "place", "number", "beat"] (spLearn K C)) (tR : Md P w K mg base 1 C "rows" ["self"] (spRows K C)) :
    FnOk P w K mg base CX0 4 f fd ["_law_script"] (spLaw K) := by
  obtain ⟨fN, fdN, GN, mN, kN, bN⟩ := cN.tk
  obtain ⟨fD, fdD, GD, mD, kD, bD⟩ := cD.tk
  obtain ⟨fO, fdO, GO, mO, kO, bO⟩ := cO.tk
  obtain ⟨fU, fdU, GU, mU, kU, bU⟩ := cU
  obtain ⟨fT, fdT, GT, mT, kT, bT⟩ := cT.tk
  obtain ⟨fL, fdL, GL, mL, kL, bL⟩ := cL.tk
  obtain ⟨fS, fdS, GS, mS, kS, bS⟩ := cS
  obtain ⟨ftL, fdtL, GtL, mtL, btL⟩ := tL.tk
  obtain ⟨ftR, fdtR, GtR, mtR, btR⟩ := tR
  refine F.ok scLaw (fun vs H Q E h => ?_) (fun cdv A outer s H vs Q E hr h => ?_)
  · obtain ⟨a, ns, rfl, _⟩ := h
    rfl
  · obtain ⟨a, ns, rfl, hS, hlen, k⟩ := h
    have hr1 : Room 1 _ := hr.mono (by decide)
    have hr2 : Room 2 _ := hr.mono (by decide)
    have hr3 : Room 3 _ := hr
    refine ⟨_, (pss_cons (ps_set (i := 1) scLaw.nd rfl (Or.inl rfl) (pe_call GD hr2 rfl mD kD bD .nil pass0 (pa_cons (pv 0) pa_nil)))
       (pss_cons (ps_for PassesOwn.never rfl (pi_range1 rfl zR (pa_cons pe_int pa_nil)) (pg_name (i := 2) scLaw.nd rfl (Or.inl rfl))
       (pss_cons (ps_set (i := 3) scLaw.nd rfl (Or.inl rfl) (pe_call GO hr3 rfl mO kO bO .nil pass0 (pa_cons (pv 1) (pa_cons (pe_listRg rfl (by rfl) T.list (prg_1 (by rfl) zR (pe_op op_add pe_int (pe_call GN hr2 rfl mN kN bN .nil pass0 (pa_cons (pv 1) (pa_cons pe_int pa_nil)))))) pa_nil))))
       (pss_cons (ps_set (i := 4) scLaw.nd rfl (Or.inl rfl) (pe_call GU hr1 rfl mU kU bU .nil pass0 (pa_cons (pv 3) pa_nil)))
       (pss_one (ps_for PassesOwn.never rfl (pi_range1 rfl zR (pa_cons pe_int pa_nil)) (pg_name (i := 5) scLaw.nd rfl (Or.inl rfl))
       (pss_cons (ps_set (i := 6) scLaw.nd rfl (Or.inl rfl) (pe_call GT hr3 rfl mT kT bT .nil pass0 (pa_cons (pv 1) (pa_cons (pv 3) pa_nil))))
       (pss_cons (ps_set (i := 7) scLaw.nd rfl (Or.inl rfl) (pe_call GL hr3 rfl mL kL bL .nil pass0 (pa_cons (pv 6) pa_nil)))
       (pss_cons (ps_if (pt_not (pt_val (pe_call GS hr3 rfl mS kS bS .nil pass0 (pa_cons (pe_meth0 (pv 7) T.cl mtR GtR hr1 btR .nil pass0) (pa_cons (pv 4) pa_nil)))))
       (pss_one (ps_ret pe_bl))
       pss_nil)
       (pss_cons (ps_for PassesOwn.never rfl (pi_list (pv 6)) (pg_tup rfl (pgs_cons (pg_name (i := 8) scLaw.nd rfl (Or.inl rfl)) (pgs_cons (pg_name (i := 9) scLaw.nd rfl (Or.inl rfl)) (pgs_cons (pg_name (i := 10) scLaw.nd rfl (Or.inl rfl)) (pgs_cons (pg_name (i := 11) scLaw.nd rfl (Or.inl rfl)) pgs_nil)))))
       (pss_one (ps_expr (pe_meth (pv 7) T.cl mtL GtL hr1 btL .nil pass0 (pa_cons (pv 8) (pa_cons (pv 9) (pa_cons (pe_callB (call_max2 rfl) (by rfl) zM (by decide +kernel) (pa_cons pe_int (pa_cons (pe_op op_sub (pv 10) (pe_call GN hr2 rfl mN kN bN .nil pass0 (pa_cons (pv 1) (pa_cons pe_int pa_nil)))) pa_nil))) (pa_cons (pv 11) pa_nil))))))))
       (pss_cons (ps_setLc (i := 12) (own := [("_law_row", 14)]) (g := (gName 14)) (tt := tYes) rfl scLaw.nd rfl rfl (sw_true rfl rfl rfl (by decide +kernel)) (pi_tup (pe_meth0 (pv 7) T.cl mtR GtR hr1 btR .nil pass0)) (blkOk_by (N := ["_law_script", "_law_deck_here", "_law_turn", "_law_rows", "_law_due_here", "_law_k", "_law_told", "_law_table", "_law_hand", "_law_place", "_law_number", "_law_beat", "_law_ends", "_law_at", "_law_row"]) (sc := defScope sLaw) (by decide +kernel))
       (fun _ _ _ _ _ => (pg_name (i := 14) scLaw.nd rfl (Or.inl rfl))) (fun _ _ _ _ _ => pts_nil) (fun _ _ _ _ _ => (pe_tup (pa_cons (pe_ix (ixT (K := K) rfl) (pv 14) pe_int (fun _ _ => rfl)) (pa_cons (pe_ix (ixT (K := K) rfl) (pv 14) pe_int (fun _ _ => rfl)) (pa_cons (pe_ix (ixT (K := K) rfl) (pv 14) pe_int (fun _ _ => rfl)) pa_nil))))))
       (pss_cons (ps_if (pt_cmpR (neDK (K := K) rfl hr.units) (pe_lc (own := [("_law_row", 14)]) (g := (gName 14)) (tt := tYes) rfl scLaw.nd (pi_tup (pe_meth0 (pv 7) T.cl mtR GtR hr1 btR .nil pass0)) (blkOk_by (N := ["_law_script", "_law_deck_here", "_law_turn", "_law_rows", "_law_due_here", "_law_k", "_law_told", "_law_table", "_law_hand", "_law_place", "_law_number", "_law_beat", "_law_ends", "_law_at", "_law_row"]) (sc := defScope sLaw) (by decide +kernel))
       (fun _ _ _ _ _ => (pg_name (i := 14) scLaw.nd rfl (Or.inl rfl))) (fun _ _ _ _ _ => pts_nil) (fun _ _ _ _ _ => (pe_ix (ixT (K := K) rfl) (pv 14) pe_int (fun _ _ => rfl)))) (pe_lc (own := [("_law_row", 14)]) (g := (gName 14)) (tt := tYes) rfl scLaw.nd (pi_tup (pv 4)) (blkOk_by (N := ["_law_script", "_law_deck_here", "_law_turn", "_law_rows", "_law_due_here", "_law_k", "_law_told", "_law_table", "_law_hand", "_law_place", "_law_number", "_law_beat", "_law_ends", "_law_at", "_law_row"]) (sc := defScope sLaw) (by decide +kernel))
       (fun _ _ _ _ _ => (pg_name (i := 14) scLaw.nd rfl (Or.inl rfl))) (fun _ _ _ _ _ => pts_nil) (fun _ _ _ _ _ => (pe_ix (ixT (K := K) rfl) (pv 14) pe_int (fun _ _ => rfl)))) (nomark _))
       (pss_one (ps_ret pe_bl))
       pss_nil)
       (pss_one (ps_for PassesOwn.never rfl (pi_range1 rfl zR (pa_cons (pe_callB (lenK (K := K) rfl) (by rfl) zL PySem.boot_len (pa_cons (pv 4) pa_nil)) pa_nil)) (pg_name (i := 13) scLaw.nd rfl (Or.inl rfl))
       (pss_one (ps_if (pt_cmpR op_ne (pe_ix (ixT (K := K) rfl) (pe_ix (ixL (K := K) rfl) (pv 12) (pv 13) (fun _ _ => rfl)) pe_int (fun _ _ => rfl)) (pe_ix (ixT (K := K) rfl) (pe_ix (ixT (K := K) rfl) (pv 4) (pv 13) (fun _ _ => rfl)) pe_int (fun _ _ => rfl)) (nomark _))
       (pss_one (ps_ret pe_bl))
       pss_nil)))))))))))))))
       (pss_one (ps_ret pe_bl)))), ?_⟩
    refine ⟨_, rfl, a, ns, rfl, hS, hlen, fun H1 d f nd nf s1 D1 t1 => ?_⟩
    refine ⟨6, rfl, by decide, by decide, ?_⟩
    refine for_range (lo := 0) (fun i σ H' => ∃ v2 v3 v4 v5 v6 v7 v8 v9 v10 v11 v12 v13 v14, σ = [some (.ref a), some (.ref d), v2, v3, v4, v5, v6, v7, v8, v9, v10, v11, v12, v13, v14] ∧ Deck H' d f (2000 * i)) ⟨_, _, _, _, _, _, _, _, _, _, _, _, _, rfl, D1.mono (by omega)⟩ ?_ ?_
    · rintro i σ H2 hi ⟨v2, v3, v4, v5, v6, v7, v8, v9, v10, v11, v12, v13, v14, rfl, D2⟩
      have hi : i < 6 := hi
      refine ⟨_, rfl, _, rfl, d, f, 5, 2000 * i, rfl, by decide, by omega, D2, fun x1 H3 x10 x11 k3 D3 t3 => ?_⟩
      refine ⟨_, _, rfl, rfl, _, rfl, RgOk.of_le (by omega) (by omega) (by omega) (by omega), fun hl nhl => ?_⟩
      have s4 : Same H3 (upd H3 hl (.lst (rgV 0 (1 + x1)))) := (L2.Same.refl H3).new nhl
      have hl4 : upd H3 hl (.lst (rgV 0 (1 + x1))) hl = some (.lst ((List.range (1 + x1).toNat).map fun (j : Nat) => V.int (j : Int))) := by
        rw [upd_same]
        unfold rgV
        simp
      have nld : hl ≠ d := (ne_of_none D3.lst.choose_spec nhl).symm
      have D4 := D3.same s4
      generalize upd H3 hl (.lst (rgV 0 (1 + x1))) = H4 at s4 hl4 D4
      refine ⟨d, f, hl, 2000 * i + 1, _, rfl, D4, by omega, hl4, nld, by omega, fun H5 ra L nra k5 D5 hra5 gL lL t5 => ?_⟩
      have nrd : ra ≠ d := (ne_of_none D4.lst.choose_spec nra).symm
      refine ⟨_, rfl, ra, L, rfl, hra5, lL, fun H6 dv most s6 hm6 rdv => ?_⟩
      have hra6 := hra5.same s6
      have D6 := D5.same s6
      refine ⟨4, rfl, by decide, by decide, ?_⟩
      refine for_range (lo := 0) (fun j σ H' => ∃ v5 v6 v7 v8 v9 v10 v11 v12 v13 v14, σ = [some (.ref a), some (.ref d), some (.int (0 + (i : Int))), some (.ref ra), some dv, v5, v6, v7, v8, v9, v10, v11, v12, v13, v14] ∧ Deck H' d f (2000 * i + 101 + 300 * j) ∧ LstAt K H' ra (L.map r4D) ∧ Rp K H' (.tuple ((dueOf L most 6).map r4D)) dv)
        ⟨_, _, _, _, _, _, _, _, _, _, rfl, D6.mono (by omega), hra6, rdv⟩ ?_ ?_
      · rintro j σ H7 hj ⟨v5, v6, v7, v8, v9, v10, v11, v12, v13, v14, rfl, D7, hra7, rdv7⟩
        have hj : j < 4 := hj
        refine ⟨_, rfl, _, rfl, d, f, ra, 2000 * i + 101 + 300 * j, L, rfl, D7, by omega, hra7, nrd, lL, fun H8 ta TT nta k8 D8 hta8 hTT lTT t8 => ?_⟩
        have ntd : ta ≠ d := (ne_of_none D7.lst.choose_spec nta).symm
        have hra8 := hra7.kp k8 t8 (nin1 nrd)
        have rdv8 := Rp.tk t8 _ _ rdv7
        refine ⟨_, rfl, ta, TT, rfl, hta8, lTT, fun H9 p q m0 np nq s9 hT9 le9 lm9 t9 => ?_⟩
        have hra9 := hra8.same s9
        have hta9 := hta8.same s9
        have rdv9 := Rp.tk t9 _ _ rdv8
        have D9 := D8.same s9
        have kb : ∀ h ∈ m0.map (·.1), 0 ≤ h ∧ h < 6 := fun h hh => by
          obtain ⟨x, e, _⟩ := lookA_mem hh
          have := gL.2 _ ((hTT _).mp (le9.inn _ _ e))
          exact ⟨this.1, this.2.1⟩
        have edue : dueOf L most 6 = tableR m0 := by
          have e1 : dueOf L most 6 = dueOf L (fun h => if 0 ≤ h ∧ h < 6 then most h else if ∃ r ∈ ownOf L h, True then 0 else -1) 6 := dueOf_congr 6 fun h hh => (if_pos (by omega)).symm
          rw [e1]
          refine due_eq gL.1 hTT le9 (fun h => ?_) (fun r hr => (gL.2 r hr).2.2) 6
          by_cases e : 0 ≤ h ∧ h < 6
          · simp only [if_pos e]
            have := hm6 h.toNat (by omega)
            rw [show ((h.toNat : Nat) : Int) = h by omega] at this
            exact this
          · have e2 : ¬ ∃ r ∈ ownOf L h, True := by
              rintro ⟨r, hr, _⟩
              unfold ownOf at hr
              rw [List.mem_filter] at hr
              have h1 := gL.2 r hr.1
              have h2 := of_decide_eq_true hr.2
              omega
            simp only [if_neg e, if_neg e2]
            exact ⟨fun r hr => absurd ⟨r, hr, trivial⟩ e2, .inr trivial⟩
        obtain ⟨⟨dx9, hp9⟩, _⟩ := id hT9
        refine ⟨_, rfl, p, dx9, _, rfl, hp9, fld1_ne (by decide +kernel), p, q, m0, rfl, hT9, by omega, fun H10 rv s10 rr => ?_⟩
        rw [show rowsD rwL m0 = .tuple ((tableR m0).map r4D) from rows_eq le9.nd kb] at rr
        rw [edue] at rdv9
        refine ⟨_, rfl, rv, dv, _, rfl, rr, Rp.tk (TK.of s10) _ _ rdv9, dep_r4 _, sz_r4 _ (by have := tableR_len m0; omega), fun H11 s11 => ?_⟩
        refine ⟨_, rfl, iteF ?_⟩
        have s911 := s10.trans s11
        have D11 := D9.same s911
        have hT11 := HoldAt.same hT9 s911
        have hra11 := hra9.same s911
        obtain ⟨tx, hta11, rta11⟩ := hta9.same s911
        have rdv11 := Rp.tk (TK.of s911) _ _ rdv9
        have ltx := RpL.len _ _ rta11
        rw [List.length_map] at ltx
        refine ⟨_, rfl, ta, rfl, ⟨_, SqL.of hta11⟩, ?_⟩
        refine for_list (K := K) (a := ta) (xs := tx) (fun l σ H' => ∃ (m : List (Int × Rw)) (v8 v9 v10 v11 v12 v13 v14 : Option V), σ = [some (.ref a), some (.ref d), some (.int (0 + (i : Int))), some (.ref ra), some dv, some (.int (0 + (j : Int))), some (.ref ta), some (.ref p), v8, v9, v10, v11, v12, v13, v14] ∧ Deck H' d f (2000 * i + 101 + 300 * j + 100 + l) ∧ LstAt K H' ra (L.map r4D) ∧ Rp K H' (.tuple ((tableR m0).map r4D)) dv ∧ TabAt K C H' p q m ∧ Later m0 m ∧ H' ta = some (.lst tx) ∧ RpL K H' (TT.map r4D) tx)
          ⟨m0, _, _, _, _, _, _, _, rfl, D11.mono (by omega), hra11, rdv11, hT11, Later.refl _, hta11, rta11⟩ (fun l σ H' _ ⟨_, _, _, _, _, _, _, _, _, _, _, _, _, _, h, _⟩ => SqL.of h) ?_ ?_
        · rintro l y σ H12 hy ⟨m, v8, v9, v10, v11, v12, v13, v14, rfl, D12, hra12, rdv12, hT12, la12, hta12, rta12⟩
          have hl' : l < TT.length := by
            have q := (List.getElem?_eq_some_iff.mp hy).1
            omega
          obtain ⟨v, ev, rv⟩ := RpL.get _ _ rta12 l (r4D TT[l]) (by rw [List.getElem?_map, List.getElem?_eq_getElem hl']; rfl)
          have ex : v = y := Option.some.inj (ev.symm.trans hy)
          rw [ex] at rv
          obtain ⟨ya, rfl, ha⟩ := r4D_inv rv
          obtain ⟨⟨dx12, hp12⟩, kv12, hq12, rq12⟩ := id hT12
          refine ⟨ya, _, rfl, ha, rfl, _, _, rfl, _, _, rfl, _, _, rfl, _, _, rfl, rfl, ?_⟩
          refine ⟨_, rfl, p, dx12, _, rfl, hp12, fld1_ne (by decide +kernel), _, rfl, _, rfl, _, rfl, _, rfl, d, f, 2, 2000 * i + 101 + 300 * j + 100 + l, rfl, by decide, by omega, D12, fun r H13 r0 r1 k13 D13 t13 => ?_⟩
          have hT13 := hT12.lst k13 t13 D12.lst.choose_spec
          have lmm : m.length = m0.length := by
            have := congrArg List.length la12.keys
            rw [List.length_map, List.length_map] at this
            exact this
          refine ⟨_, _, rfl, rfl, _, _, rfl, _, rfl, p, q, _, _, _, _, m, rfl, hT13, by omega, fun H14 k14 hT14 t14 => ?_⟩
          have hdq : DictAt rwD K H13 q m := hT13.2
          have hra13 := hra12.kp k13 t13 (nin1 nrd)
          have hta13 : LstAt K H13 ta (TT.map r4D) := LstAt.kp ⟨tx, hta12, rta12⟩ k13 t13 (nin1 ntd)
          obtain ⟨yy, ey, ly⟩ := le9.most TT[l] (List.getElem_mem hl')
          have num0 := (gL.2 _ ((hTT _).mp (List.getElem_mem hl'))).2.2
          have la14 := la12.step (h := TT[l].1) (x := (TT[l].2.1, if TT[l].2.2.1 - r > 0 then TT[l].2.2.1 - r else 0, TT[l].2.2.2)) ey (by
            show (if TT[l].2.2.1 - r > 0 then TT[l].2.2.1 - r else 0) ≤ yy.2.1
            split <;> omega)
          refine ⟨_, _, _, _, _, _, _, _, rfl, (D13.dict k14 hdq).mono (by omega), hra13.dict k14 t14 hdq, Rp.tk (t13.trans t14) _ _ rdv12, hT14, la14, ?_, RpL.tk (t13.trans t14) _ _ rta12⟩
          refine k14 _ _ (nin1 ?_) (k13 _ _ (nin1 ntd) hta12)
          exact ne_of hta12 hq12 (by intro z; cases z)
        · rintro σ H12 ⟨m, v8, v9, v10, v11, v12, v13, v14, rfl, D12, hra12, rdv12, hT12, la12, hta12, rta12⟩
          have ndm : (m.map (·.1)).Nodup := by
            rw [la12.keys]
            exact le9.nd
          have kbm : ∀ h ∈ m.map (·.1), 0 ≤ h ∧ h < 6 := by
            rw [la12.keys]
            exact kb
          have lmm : m.length = m0.length := by
            have := congrArg List.length la12.keys
            rw [List.length_map, List.length_map] at this
            exact this
          have erows : rowsD rwL m = .tuple ((tableR m).map r4D) := rows_eq ndm kbm
          have lt6 := tableR_len m
          have lt60 := tableR_len m0
          obtain ⟨eh, en⟩ := later_rows la12
          obtain ⟨⟨dx12, hp12⟩, _⟩ := id hT12
          refine ⟨_, rfl, p, dx12, _, rfl, hp12, fld1_ne (by decide +kernel), p, q, m, rfl, hT12, by omega, fun H13 rv s13 rr => ?_⟩
          rw [erows] at rr
          unfold Rp at rr
          obtain ⟨a1, xs1, rfl, hs1, rl1⟩ := rr
          refine ⟨a1, rfl, ⟨_, hs1⟩, fun D hD => ?_⟩
          refine mapD_it (K := K) (walk_tup (K := K) (a := a1) (xs := xs1)) (fun H' s' => SqT.tk hs1 (TK.of s')) r3D rl1 hD (by omega) ?_ ?_
          · intro b x H' Q' hb rb s' hQ
            obtain ⟨a2, rfl, ha2⟩ := r4D_inv rb
            refine ⟨_, rfl, a2, _, _, _, rfl, rfl, ha2, rfl, _, rfl, a2, _, _, _, rfl, rfl, ha2, rfl, _, rfl, a2, _, _, _, rfl, rfl, ha2, rfl, (by show 3 ≤ sizeLine; decide), fun t nt => ?_⟩
            exact hQ _ _ ((L2.Same.refl _).new nt) (Rp.tup upd_same (RpL.cons Rp.int (RpL.cons Rp.int (RpL.cons Rp.int RpL.nil))))
          intro H14 ys s14 hD14 rD14
          have s1214 := s13.trans s14
          have hT14 := HoldAt.same hT12 s1214
          obtain ⟨⟨dx14, hp14⟩, _⟩ := id hT14
          refine ⟨_, rfl, p, dx14, _, rfl, hp14, fld1_ne (by decide +kernel), p, q, m, rfl, hT14, by omega, fun H15 rv2 s15 rr2 => ?_⟩
          rw [erows] at rr2
          unfold Rp at rr2
          obtain ⟨a3, xs3, rfl, hs3, rl3⟩ := rr2
          refine ⟨a3, rfl, ⟨_, hs3⟩, fun D2 hD2 => ?_⟩
          refine mapD_it (K := K) (walk_tup (K := K) (a := a3) (xs := xs3)) (fun H' s' => SqT.tk hs3 (TK.of s')) (fun r => .int r.1) rl3 hD2 (by omega) ?_ ?_
          · intro b x H' Q' hb rb s' hQ
            obtain ⟨a2, rfl, ha2⟩ := r4D_inv rb
            exact ⟨_, rfl, a2, _, _, _, rfl, rfl, ha2, rfl, hQ _ _ (L2.Same.refl _) Rp.int⟩
          intro H16 ys2 s16 hD16 rD16
          have s1216 := s1214.trans (s15.trans s16)
          have rdv16 := Rp.tk (TK.of s1216) _ _ rdv12
          unfold Rp at rdv16
          obtain ⟨av, xv, rfl, hsv, rlv⟩ := rdv16
          refine ⟨_, rfl, av, rfl, ⟨_, hsv⟩, fun D3 hD3 => ?_⟩
          refine mapD_it (K := K) (walk_tup (K := K) (a := av) (xs := xv)) (fun H' s' => SqT.tk hsv (TK.of s')) (fun r => .int r.1) rlv hD3 (by omega) ?_ ?_
          · intro b x H' Q' hb rb s' hQ
            obtain ⟨a2, rfl, ha2⟩ := r4D_inv rb
            exact ⟨_, rfl, a2, _, _, _, rfl, rfl, ha2, rfl, hQ _ _ (L2.Same.refl _) Rp.int⟩
          intro H17 ys3 s17 hD17 rD17
          have e2 : ys2 = ((tableR m0).map (·.1)).map V.int := by
            rw [show (tableR m).map (fun r => PyData.int r.1) = ((tableR m).map (·.1)).map PyData.int by rw [List.map_map]; rfl, eh] at rD16
            exact rD16.ints
          have e3 : ys3 = ((tableR m0).map (·.1)).map V.int := by
            rw [show (tableR m0).map (fun r => PyData.int r.1) = ((tableR m0).map (·.1)).map PyData.int by rw [List.map_map]; rfl] at rD17
            exact rD17.ints
          subst e2 e3
          refine ⟨_, _, .lst (SqL.of (s17 _ _ hD16)) (dp_ints _), .lst (SqL.of hD17) (dp_ints _), shaped_ints _, shaped_ints _, _, rfl, ?_⟩
          rw [SeqAt.eqv_refl (.list (((tableR m0).map (·.1)).map PyData.int)) (canLay_ints _)]
          refine iteF ?_
          have s1217 := s1216.trans s17
          have hsv17 := SqT.tk hsv (TK.of s17)
          have rlv17 := RpL.tk (TK.of s17) _ _ rlv
          have lxv := RpL.len _ _ rlv17
          rw [List.length_map] at lxv
          have hD17' := s17 _ _ (s16 _ _ (s15 _ _ hD14))
          have rD17' := RpL.tk (TK.of ((s15.trans s16).trans s17)) _ _ rD14
          have elen : (tableR m).length = (tableR m0).length := by
            have := congrArg List.length eh
            rw [List.length_map, List.length_map] at this
            exact this
          refine ⟨_, rfl, _, (tableR m0).length, rfl, .inr ⟨_, hsv17, lxv.symm⟩, (tableR m0).length, rfl, by omega, by omega, ?_⟩
          refine for_range (lo := 0) (fun l σ H' => ∃ v8 v9 v10 v11 v13 v14, σ = [some (.ref a), some (.ref d), some (.int (0 + (i : Int))), some (.ref ra), some (.ref av), some (.int (0 + (j : Int))), some (.ref ta), some (.ref p), v8, v9, v10, v11, some (.ref D), v13, v14] ∧ H' = H17) ⟨_, _, _, _, _, _, rfl, rfl⟩ ?_ ?_
          · rintro l σ H18 hl ⟨w8, w9, w10, w11, w13, w14, rfl, rfl⟩
            have hl : l < (tableR m0).length := by omega
            have e0 : (0 : Int) + (l : Int) = (l : Int) := by omega
            obtain ⟨u, eu, ru⟩ := RpL.get _ _ rD17' l (r3D (tableR m)[l]) (by rw [List.getElem?_map, List.getElem?_eq_getElem (by omega)]; rfl)
            obtain ⟨z, ez, rz⟩ := RpL.get _ _ rlv17 l (r4D (tableR m0)[l]) (by rw [List.getElem?_map, List.getElem?_eq_getElem hl]; rfl)
            obtain ⟨au, rfl, hau⟩ := r3D_inv ru
            obtain ⟨az, rfl, haz⟩ := r4D_inv rz
            have enl : (tableR m)[l].2.2.1 = (tableR m0)[l].2.2.1 := by
              have h1 : ((tableR m).map (fun r => r.2.2.1))[l]? = ((tableR m0).map (fun r => r.2.2.1))[l]? := by rw [en]
              rw [List.getElem?_map, List.getElem?_map, List.getElem?_eq_getElem (show l < (tableR m).length by omega), List.getElem?_eq_getElem hl] at h1
              exact Option.some.inj h1
            refine ⟨_, rfl, _, rfl, D, _, _, _, rfl, rfl, SqL.of hD17', (by rw [e0]; exact atI_nat eu), au, _, _, _, rfl, rfl, hau, rfl, _, rfl, _, rfl, av, _, _, _, rfl, rfl, hsv17, (by rw [e0]; exact atI_nat ez), az, _, _, _, rfl, rfl, haz, rfl, rfl, _, rfl, ?_⟩
            refine iteNS (by rw [enl]) ?_
            exact ⟨_, _, _, _, _, _, rfl, rfl⟩
          · rintro σ H18 ⟨w8, w9, w10, w11, w13, w14, rfl, rfl⟩
            refine ⟨_, _, _, _, _, _, _, _, _, _, rfl, (D12.same s1217).mono (by omega), hra12.same s1217, ?_⟩
            rw [edue]
            exact Rp.tupS hsv17 rlv17
      · rintro σ H7 ⟨v5, v6, v7, v8, v9, v10, v11, v12, v13, v14, rfl, D7, hra7, rdv7⟩
        exact ⟨_, _, _, _, _, _, _, _, _, _, _, _, _, rfl, D7.mono (by omega)⟩
    · rintro σ H2 ⟨v2, v3, v4, v5, v6, v7, v8, v9, v10, v11, v12, v13, v14, rfl, D2⟩
      exact k _
end
end Wn

namespace Wn
open PySem L2
theorem all_mk {l : PySem.W.OpenLaw} {w : World} {K : PySem.W.Frag} {h : Heap} {mg : Str → Option Value} {fa C_Table f_Table_init f_Table_learn f_Table_rows f_law_mixed f_law_deck f_law_next f_law_same f_law_rows_of f_law_turned f_law_due f_law_learnt f_law : Addr} (X : K.In h) (G : h.Ns mainGlobals mg) (hfa : mg "law" = some (.ref fa))
    {od_Table_init an_Table_init od_Table_learn an_Table_learn od_Table_rows an_Table_rows od_law_mixed an_law_mixed od_law_deck an_law_deck od_law_next an_law_next od_law_same an_law_same od_law_rows_of an_law_rows_of od_law_turned an_law_turned od_law_due an_law_due od_law_learnt an_law_learnt od_law an_law : Option Addr} {sl_Table_init sl_Table_learn sl_Table_rows sl_law_mixed sl_law_deck sl_law_next sl_law_same sl_law_rows_of sl_law_turned sl_law_due sl_law_learnt sl_law : Array (Option Value)} {oc_Table_init kV_Table_init dc_Table_init pm_Table_init cd_Table_init ct_Table_init oc_Table_learn kV_Table_learn dc_Table_learn pm_Table_learn cd_Table_learn ct_Table_learn oc_Table_rows kV_Table_rows dc_Table_rows pm_Table_rows cd_Table_rows ct_Table_rows oc_law_mixed kV_law_mixed dc_law_mixed pm_law_mixed cd_law_mixed ct_law_mixed oc_law_deck kV_law_deck dc_law_deck pm_law_deck cd_law_deck ct_law_deck oc_law_next kV_law_next dc_law_next pm_law_next cd_law_next ct_law_next oc_law_same kV_law_same dc_law_same pm_law_same cd_law_same ct_law_same oc_law_rows_of kV_law_rows_of dc_law_rows_of pm_law_rows_of cd_law_rows_of ct_law_rows_of oc_law_turned kV_law_turned dc_law_turned pm_law_turned cd_law_turned ct_law_turned oc_law_due kV_law_due dc_law_due pm_law_due cd_law_due ct_law_due oc_law_learnt kV_law_learnt dc_law_learnt pm_law_learnt cd_law_learnt ct_law_learnt oc_law kV_law dc_law pm_law cd_law ct_law : Value}
    (a_C_Table : PySem.W.nsIn K mainGlobals "Table" = some (some (.ref C_Table)))
    (pg_C_Table : PySem.W.plainGet K C_Table Str.empty = true)
    (hd_C_Table : PySem.W.hasDictIn K C_Table = true)
    (po_C_Table : PySem.W.plainOver K C_Table = true)
    (sa_C_Table : PySem.W.findIn K (.ref C_Table) "__setattr__" = some (some (.builtin "object.__setattr__")))
    (mk_C_Table : PySem.W.makesIn K C_Table = true)
    (kc_C_Table : PySem.W.keepIn K (.ref C_Table) = true)
    (n_C_Table_by_hand : PySem.W.findIn K (.ref C_Table) "by_hand" = some none)
    (a_Table_init : PySem.W.findIn K (.ref C_Table) "__init__" = some (some (.ref f_Table_init)))
    (i_Table_init : PySem.W.isFn K (.ref f_Table_init) = true)
    (l_Table_init : K.lookup f_Table_init = some ⟨oc_Table_init, od_Table_init, .func (PySem.W.fnOf "__init__" "Table.__init__" (defArgs sInit) (defBody sInit) (defScope sInit) .none kV_Table_init dc_Table_init pm_Table_init an_Table_init cd_Table_init ct_Table_init), sl_Table_init⟩)
    (c_Table_init : PySem.W.codeIn K cd_Table_init "Table.__init__" = true)
    (k_Table_init : PySem.W.keepIn K (.ref f_Table_init) = true)
    (a_Table_learn : PySem.W.findIn K (.ref C_Table) "learn" = some (some (.ref f_Table_learn)))
    (i_Table_learn : PySem.W.isFn K (.ref f_Table_learn) = true)
    (l_Table_learn : K.lookup f_Table_learn = some ⟨oc_Table_learn, od_Table_learn, .func (PySem.W.fnOf "learn" "Table.learn" (defArgs sLearn) (defBody sLearn) (defScope sLearn) .none kV_Table_learn dc_Table_learn pm_Table_learn an_Table_learn cd_Table_learn ct_Table_learn), sl_Table_learn⟩)
    (c_Table_learn : PySem.W.codeIn K cd_Table_learn "Table.learn" = true)
    (k_Table_learn : PySem.W.keepIn K (.ref f_Table_learn) = true)
    (a_Table_rows : PySem.W.findIn K (.ref C_Table) "rows" = some (some (.ref f_Table_rows)))
    (i_Table_rows : PySem.W.isFn K (.ref f_Table_rows) = true)
    (l_Table_rows : K.lookup f_Table_rows = some ⟨oc_Table_rows, od_Table_rows, .func (PySem.W.fnOf "rows" "Table.rows" (defArgs sRows) (defBody sRows) (defScope sRows) .none kV_Table_rows dc_Table_rows pm_Table_rows an_Table_rows cd_Table_rows ct_Table_rows), sl_Table_rows⟩)
    (c_Table_rows : PySem.W.codeIn K cd_Table_rows "Table.rows" = true)
    (k_Table_rows : PySem.W.keepIn K (.ref f_Table_rows) = true)
    (a_law_mixed : PySem.W.nsIn K mainGlobals "_law_mixed" = some (some (.ref f_law_mixed)))
    (l_law_mixed : K.lookup f_law_mixed = some ⟨oc_law_mixed, od_law_mixed, .func (PySem.W.fnOf "_law_mixed" "_law_mixed" (defArgs sMixed) (defBody sMixed) (defScope sMixed) .none kV_law_mixed dc_law_mixed pm_law_mixed an_law_mixed cd_law_mixed ct_law_mixed), sl_law_mixed⟩)
    (c_law_mixed : PySem.W.codeIn K cd_law_mixed "_law_mixed" = true)
    (k_law_mixed : PySem.W.keepIn K (.ref f_law_mixed) = true)
    (a_law_deck : PySem.W.nsIn K mainGlobals "_law_deck" = some (some (.ref f_law_deck)))
    (l_law_deck : K.lookup f_law_deck = some ⟨oc_law_deck, od_law_deck, .func (PySem.W.fnOf "_law_deck" "_law_deck" (defArgs sDeck) (defBody sDeck) (defScope sDeck) .none kV_law_deck dc_law_deck pm_law_deck an_law_deck cd_law_deck ct_law_deck), sl_law_deck⟩)
    (c_law_deck : PySem.W.codeIn K cd_law_deck "_law_deck" = true)
    (k_law_deck : PySem.W.keepIn K (.ref f_law_deck) = true)
    (a_law_next : PySem.W.nsIn K mainGlobals "_law_next" = some (some (.ref f_law_next)))
    (l_law_next : K.lookup f_law_next = some ⟨oc_law_next, od_law_next, .func (PySem.W.fnOf "_law_next" "_law_next" (defArgs sNext) (defBody sNext) (defScope sNext) .none kV_law_next dc_law_next pm_law_next an_law_next cd_law_next ct_law_next), sl_law_next⟩)
    (c_law_next : PySem.W.codeIn K cd_law_next "_law_next" = true)
    (k_law_next : PySem.W.keepIn K (.ref f_law_next) = true)
    (a_law_same : PySem.W.nsIn K mainGlobals "_law_same" = some (some (.ref f_law_same)))
    (l_law_same : K.lookup f_law_same = some ⟨oc_law_same, od_law_same, .func (PySem.W.fnOf "_law_same" "_law_same" (defArgs sSame) (defBody sSame) (defScope sSame) .none kV_law_same dc_law_same pm_law_same an_law_same cd_law_same ct_law_same), sl_law_same⟩)
    (c_law_same : PySem.W.codeIn K cd_law_same "_law_same" = true)
    (k_law_same : PySem.W.keepIn K (.ref f_law_same) = true)
    (a_law_rows_of : PySem.W.nsIn K mainGlobals "_law_rows_of" = some (some (.ref f_law_rows_of)))
    (l_law_rows_of : K.lookup f_law_rows_of = some ⟨oc_law_rows_of, od_law_rows_of, .func (PySem.W.fnOf "_law_rows_of" "_law_rows_of" (defArgs sRowsOf) (defBody sRowsOf) (defScope sRowsOf) .none kV_law_rows_of dc_law_rows_of pm_law_rows_of an_law_rows_of cd_law_rows_of ct_law_rows_of), sl_law_rows_of⟩)
    (c_law_rows_of : PySem.W.codeIn K cd_law_rows_of "_law_rows_of" = true)
    (k_law_rows_of : PySem.W.keepIn K (.ref f_law_rows_of) = true)
    (a_law_turned : PySem.W.nsIn K mainGlobals "_law_turned" = some (some (.ref f_law_turned)))
    (l_law_turned : K.lookup f_law_turned = some ⟨oc_law_turned, od_law_turned, .func (PySem.W.fnOf "_law_turned" "_law_turned" (defArgs sTurned) (defBody sTurned) (defScope sTurned) .none kV_law_turned dc_law_turned pm_law_turned an_law_turned cd_law_turned ct_law_turned), sl_law_turned⟩)
    (c_law_turned : PySem.W.codeIn K cd_law_turned "_law_turned" = true)
    (k_law_turned : PySem.W.keepIn K (.ref f_law_turned) = true)
    (a_law_due : PySem.W.nsIn K mainGlobals "_law_due" = some (some (.ref f_law_due)))
    (l_law_due : K.lookup f_law_due = some ⟨oc_law_due, od_law_due, .func (PySem.W.fnOf "_law_due" "_law_due" (defArgs sDue) (defBody sDue) (defScope sDue) .none kV_law_due dc_law_due pm_law_due an_law_due cd_law_due ct_law_due), sl_law_due⟩)
    (c_law_due : PySem.W.codeIn K cd_law_due "_law_due" = true)
    (k_law_due : PySem.W.keepIn K (.ref f_law_due) = true)
    (a_law_learnt : PySem.W.nsIn K mainGlobals "_law_learnt" = some (some (.ref f_law_learnt)))
    (l_law_learnt : K.lookup f_law_learnt = some ⟨oc_law_learnt, od_law_learnt, .func (PySem.W.fnOf "_law_learnt" "_law_learnt" (defArgs sLearnt) (defBody sLearnt) (defScope sLearnt) .none kV_law_learnt dc_law_learnt pm_law_learnt an_law_learnt cd_law_learnt ct_law_learnt), sl_law_learnt⟩)
    (c_law_learnt : PySem.W.codeIn K cd_law_learnt "_law_learnt" = true)
    (k_law_learnt : PySem.W.keepIn K (.ref f_law_learnt) = true)
    (a_law : PySem.W.nsIn K mainGlobals "law" = some (some (.ref f_law)))
    (l_law : K.lookup f_law = some ⟨oc_law, od_law, .func (PySem.W.fnOf "law" "law" (defArgs sLaw) (defBody sLaw) (defScope sLaw) .none kV_law dc_law pm_law an_law cd_law ct_law), sl_law⟩)
    (c_law : PySem.W.codeIn K cd_law "law" = true)
    (k_law : PySem.W.keepIn K (.ref f_law) = true)
    (z_len : PySem.W.nsIn K mainGlobals "len" = some none)
    (z_range : PySem.W.nsIn K mainGlobals "range" = some none)
    (z_min : PySem.W.nsIn K mainGlobals "min" = some none)
    (z_max : PySem.W.nsIn K mainGlobals "max" = some none)
    (z_isinstance : PySem.W.nsIn K mainGlobals "isinstance" = some none)
    (z_tuple : PySem.W.nsIn K mainGlobals "tuple" = some none)
    (z_bool : PySem.W.nsIn K mainGlobals "bool" = some none)
    (z_str : PySem.W.nsIn K mainGlobals "str" = some none)
    (z_int : PySem.W.nsIn K mainGlobals "int" = some none)
    (z_all : PySem.W.nsIn K mainGlobals "all" = some none)
    (z_list : PySem.W.nsIn K mainGlobals "list" = some none)
    (z_dict : PySem.W.nsIn K mainGlobals "dict" = some none)
    (z_sorted : PySem.W.nsIn K mainGlobals "sorted" = some none) :
    ∃ fd : FuncData, (∀ (s : Shared) (v : Value), BindsTo s fd ⟨[v], []⟩ [("_law_script", v)]) ∧ ∀ base : Heap, K.In base → base.Ns mainGlobals mg → FnOk l.prog w K mg base CX0 4 fa fd ["_law_script"] (spLaw K) := by
  have e := hfa.symm.trans (PySem.W.mg_of X G a_law)
  cases e
  have m_C_Table := PySem.W.mg_of X G a_C_Table
  have cl_C_Table : Cls K C_Table := ⟨pg_C_Table, hd_C_Table, po_C_Table, sa_C_Table⟩
  have F_Table_init := fun_mk (st := sInit) l_Table_init c_Table_init k_Table_init
  have b_Table_init := F_Table_init.binds (ps := ["self"]) fun _ _ _ _ _ _ us hl => match us, hl with | [_], _ => rfl
  have M_Table_init : Meth K C_Table "__init__" f_Table_init := ⟨a_Table_init, i_Table_init, k_Table_init⟩
  have F_Table_learn := fun_mk (st := sLearn) l_Table_learn c_Table_learn k_Table_learn
  have b_Table_learn := F_Table_learn.binds (ps := ["self", "hand", "place", "number", "beat"]) fun _ _ _ _ _ _ us hl => match us, hl with | [_, _, _, _, _], _ => rfl
  have M_Table_learn : Meth K C_Table "learn" f_Table_learn := ⟨a_Table_learn, i_Table_learn, k_Table_learn⟩
  have F_Table_rows := fun_mk (st := sRows) l_Table_rows c_Table_rows k_Table_rows
  have b_Table_rows := F_Table_rows.binds (ps := ["self"]) fun _ _ _ _ _ _ us hl => match us, hl with | [_], _ => rfl
  have M_Table_rows : Meth K C_Table "rows" f_Table_rows := ⟨a_Table_rows, i_Table_rows, k_Table_rows⟩
  have F_law_mixed := fun_mk (st := sMixed) l_law_mixed c_law_mixed k_law_mixed
  have b_law_mixed := F_law_mixed.binds (ps := ["_law_cell", "_law_at"]) fun _ _ _ _ _ _ us hl => match us, hl with | [_, _], _ => rfl
  have m_law_mixed := PySem.W.mg_of X G a_law_mixed
  have F_law_deck := fun_mk (st := sDeck) l_law_deck c_law_deck k_law_deck
  have b_law_deck := F_law_deck.binds (ps := ["_law_script"]) fun _ _ _ _ _ _ us hl => match us, hl with | [_], _ => rfl
  have m_law_deck := PySem.W.mg_of X G a_law_deck
  have F_law_next := fun_mk (st := sNext) l_law_next c_law_next k_law_next
  have b_law_next := F_law_next.binds (ps := ["_law_deck_here", "_law_many"]) fun _ _ _ _ _ _ us hl => match us, hl with | [_, _], _ => rfl
  have m_law_next := PySem.W.mg_of X G a_law_next
  have F_law_same := fun_mk (st := sSame) l_law_same c_law_same k_law_same
  have b_law_same := F_law_same.binds (ps := ["_law_thing", "_law_due_here"]) fun _ _ _ _ _ _ us hl => match us, hl with | [_, _], _ => rfl
  have m_law_same := PySem.W.mg_of X G a_law_same
  have F_law_rows_of := fun_mk (st := sRowsOf) l_law_rows_of c_law_rows_of k_law_rows_of
  have b_law_rows_of := F_law_rows_of.binds (ps := ["_law_deck_here", "_law_hands"]) fun _ _ _ _ _ _ us hl => match us, hl with | [_, _], _ => rfl
  have m_law_rows_of := PySem.W.mg_of X G a_law_rows_of
  have F_law_turned := fun_mk (st := sTurned) l_law_turned c_law_turned k_law_turned
  have b_law_turned := F_law_turned.binds (ps := ["_law_deck_here", "_law_rows"]) fun _ _ _ _ _ _ us hl => match us, hl with | [_, _], _ => rfl
  have m_law_turned := PySem.W.mg_of X G a_law_turned
  have F_law_due := fun_mk (st := sDue) l_law_due c_law_due k_law_due
  have b_law_due := F_law_due.binds (ps := ["_law_rows"]) fun _ _ _ _ _ _ us hl => match us, hl with | [_], _ => rfl
  have m_law_due := PySem.W.mg_of X G a_law_due
  have F_law_learnt := fun_mk (st := sLearnt) l_law_learnt c_law_learnt k_law_learnt
  have b_law_learnt := F_law_learnt.binds (ps := ["_law_rows"]) fun _ _ _ _ _ _ us hl => match us, hl with | [_], _ => rfl
  have m_law_learnt := PySem.W.mg_of X G a_law_learnt
  have F_law := fun_mk (st := sLaw) l_law c_law k_law
  have b_law := F_law.binds (ps := ["_law_script"]) fun _ _ _ _ _ _ us hl => match us, hl with | [_], _ => rfl
  have n_len := PySem.W.mg_none_of X G z_len
  have n_range := PySem.W.mg_none_of X G z_range
  have n_min := PySem.W.mg_none_of X G z_min
  have n_max := PySem.W.mg_none_of X G z_max
  have n_isinstance := PySem.W.mg_none_of X G z_isinstance
  have n_tuple := PySem.W.mg_none_of X G z_tuple
  have n_bool := PySem.W.mg_none_of X G z_bool
  have n_str := PySem.W.mg_none_of X G z_str
  have n_int := PySem.W.mg_none_of X G z_int
  have n_all := PySem.W.mg_none_of X G z_all
  have n_list := PySem.W.mg_none_of X G z_list
  have n_dict := PySem.W.mg_none_of X G z_dict
  have n_sorted := PySem.W.mg_none_of X G z_sorted
  refine ⟨PySem.W.fnOf "law" "law" (defArgs sLaw) (defBody sLaw) (defScope sLaw) .none kV_law dc_law pm_law an_law cd_law ct_law, fun s v => .of_eq rfl, fun base _ _ => ?_⟩
  have T : TN K mg C_Table := ⟨cl_C_Table, n_C_Table_by_hand, m_C_Table, n_tuple, n_list, n_dict, n_sorted⟩
  have B : SameB mg := ⟨n_isinstance, n_tuple, n_bool, n_str, n_int, n_all, n_len, n_range⟩
  have cM : Cd l.prog w K mg base 1 "_law_mixed" ["_law_cell", "_law_at"] spMixed := ⟨_, _, ok_mixed F_law_mixed, m_law_mixed, k_law_mixed, b_law_mixed⟩
  have cN : Cd l.prog w K mg base 2 "_law_next" ["_law_deck_here", "_law_many"] spNext := ⟨_, _, ok_next F_law_next n_len cM, m_law_next, k_law_next, b_law_next⟩
  have cD : Cd l.prog w K mg base 2 "_law_deck" ["_law_script"] (spDeck K) := ⟨_, _, ok_deck F_law_deck n_len n_range n_min cM, m_law_deck, k_law_deck, b_law_deck⟩
  have cS : Cd l.prog w K mg base 3 "_law_same" ["_law_thing", "_law_due_here"] (spSame K 3) := ⟨_, _, ok_same F_law_same B m_law_same k_law_same b_law_same 3, m_law_same, k_law_same, b_law_same⟩
  have GI := ok_init (P := l.prog) (w := w) (base := base) F_Table_init T
  have MK : Mk K C_Table f_Table_init := ⟨mk_C_Table, a_Table_init, i_Table_init, kc_C_Table⟩
  have tL : Md l.prog w K mg base 1 C_Table "learn" ["self", "hand", "place", "number", "beat"] (spLearn K C_Table) := ⟨_, _, ok_learn F_Table_learn T, M_Table_learn, b_Table_learn⟩
  have tR : Md l.prog w K mg base 1 C_Table "rows" ["self"] (spRows K C_Table) := ⟨_, _, ok_rows F_Table_rows T, M_Table_rows, b_Table_rows⟩
  exact ok_law F_law T n_range n_len n_max cN cD ⟨_, _, ok_rowsof F_law_rows_of n_range cN, m_law_rows_of, k_law_rows_of, b_law_rows_of⟩ ⟨_, _, ok_due F_law_due T n_range n_max, m_law_due, k_law_due, b_law_due⟩ ⟨_, _, ok_turned F_law_turned n_len cN, m_law_turned, k_law_turned, b_law_turned⟩ ⟨_, _, ok_learnt F_law_learnt T MK GI b_Table_init tL, m_law_learnt, k_law_learnt, b_law_learnt⟩ cS tL tR
theorem walk {l : PySem.W.OpenLaw} {q : Program} {loose : List Str} {XP : (Str → Option Value) → Heap → Prop} {YP : World → Heap → Prop} {d : DefRec} {K : Params → PySem.W.Frag} (hn : l.most = some 63) (hdf : d.params.defaults = [])
    (hY : ∀ (w : World) (h : Heap), YP w h → (K w.params).In h)
    (F : ∀ (w : World) (mg : Str → Option Value) (fa : Addr) (h : Heap), (K w.params).In h → h.Ns mainGlobals mg → mg d.name = some (.ref fa) →
      ∃ fd : FuncData, (∀ (s : Shared) (u : Value), BindsTo s fd ⟨[u], []⟩ [("_law_script", u)]) ∧ ∀ base : Heap, (K w.params).In base → base.Ns mainGlobals mg → FnOk l.prog w (K w.params) mg base CX0 4 fa fd ["_law_script"] (spLaw (K w.params))) :
    PySem.W.WalkO q loose XP YP l.row.toRowW d [] (fun f vs => PySem.call f vs) :=
  L2.walk_of (n := 63) (k := 4) (x := "_law_script") (CX := fun _ => CX0) (sp := fun w => spLaw (K w.params)) hn (by decide) hdf ⟨rfl, by decide, by decide⟩ hY F (fun _ _ a ns hl _ hS => ⟨a, ns, rfl, hS, hl, fun _ => rfl⟩) fun _ _ _ _ _ z => z
end Wn

open PySem PySem.W PyProof.Rows in
set_option maxRecDepth 100000 in
set_option maxHeartbeats 0 in
theorem PySem.Challenge.cw_wrapnets_k18_whole_tables_in_any_order_holds : PySem.Challenge.rw_wrapnets_k18_whole_tables_in_any_order.Holds := by
  w_on; o_law; k_head; (case hw => w_witness2)
  k_fill
  refine Wn.walk (l := PySem.Challenge.rw_wrapnets_k18_whole_tables_in_any_order) rfl rfl (fun w h Y => PySem.W.kIn_of Y) ?F
  case F =>
    intro w mg fa h KX G hmg
    refine' Wn.all_mk KX G hmg ?a_C_Table ?pg_C_Table ?hd_C_Table ?po_C_Table ?sa_C_Table ?mk_C_Table ?kc_C_Table ?n_C_Table_by_hand ?a_Table_init ?i_Table_init ?l_Table_init ?c_Table_init ?k_Table_init ?a_Table_learn ?i_Table_learn ?l_Table_learn ?c_Table_learn ?k_Table_learn ?a_Table_rows ?i_Table_rows ?l_Table_rows ?c_Table_rows ?k_Table_rows ?a_law_mixed ?l_law_mixed ?c_law_mixed ?k_law_mixed ?a_law_deck ?l_law_deck ?c_law_deck ?k_law_deck ?a_law_next ?l_law_next ?c_law_next ?k_law_next ?a_law_same ?l_law_same ?c_law_same ?k_law_same ?a_law_rows_of ?l_law_rows_of ?c_law_rows_of ?k_law_rows_of ?a_law_turned ?l_law_turned ?c_law_turned ?k_law_turned ?a_law_due ?l_law_due ?c_law_due ?k_law_due ?a_law_learnt ?l_law_learnt ?c_law_learnt ?k_law_learnt ?a_law ?l_law ?c_law ?k_law ?z_len ?z_range ?z_min ?z_max ?z_isinstance ?z_tuple ?z_bool ?z_str ?z_int ?z_all ?z_list ?z_dict ?z_sorted
    (case a_C_Table => k_is)
    (case pg_C_Table => k_is)
    (case hd_C_Table => k_is)
    (case po_C_Table => k_is)
    (case sa_C_Table => k_is)
    (case mk_C_Table => k_is)
    (case kc_C_Table => k_is)
    (case n_C_Table_by_hand => k_is)
    (case a_Table_init => k_is)
    (case i_Table_init => k_is)
    (case l_Table_init => k_is)
    (case c_Table_init => k_is)
    (case k_Table_init => k_is)
    (case a_Table_learn => k_is)
    (case i_Table_learn => k_is)
    (case l_Table_learn => k_is)
    (case c_Table_learn => k_is)
    (case k_Table_learn => k_is)
    (case a_Table_rows => k_is)
    (case i_Table_rows => k_is)
    (case l_Table_rows => k_is)
    (case c_Table_rows => k_is)
    (case k_Table_rows => k_is)
    (case a_law_mixed => k_is)
    (case l_law_mixed => k_is)
    (case c_law_mixed => k_is)
    (case k_law_mixed => k_is)
    (case a_law_deck => k_is)
    (case l_law_deck => k_is)
    (case c_law_deck => k_is)
    (case k_law_deck => k_is)
    (case a_law_next => k_is)
    (case l_law_next => k_is)
    (case c_law_next => k_is)
    (case k_law_next => k_is)
    (case a_law_same => k_is)
    (case l_law_same => k_is)
    (case c_law_same => k_is)
    (case k_law_same => k_is)
    (case a_law_rows_of => k_is)
    (case l_law_rows_of => k_is)
    (case c_law_rows_of => k_is)
    (case k_law_rows_of => k_is)
    (case a_law_turned => k_is)
    (case l_law_turned => k_is)
    (case c_law_turned => k_is)
    (case k_law_turned => k_is)
    (case a_law_due => k_is)
    (case l_law_due => k_is)
    (case c_law_due => k_is)
    (case k_law_due => k_is)
    (case a_law_learnt => k_is)
    (case l_law_learnt => k_is)
    (case c_law_learnt => k_is)
    (case k_law_learnt => k_is)
    (case a_law => k_is)
    (case l_law => k_is)
    (case c_law => k_is)
    (case k_law => k_is)
    (case z_len => k_is)
    (case z_range => k_is)
    (case z_min => k_is)
    (case z_max => k_is)
    (case z_isinstance => k_is)
    (case z_tuple => k_is)
    (case z_bool => k_is)
    (case z_str => k_is)
    (case z_int => k_is)
    (case z_all => k_is)
    (case z_list => k_is)
    (case z_dict => k_is)
    (case z_sorted => k_is)
